-- WRITTEN BY A PROGRAM OF THIS WORK (wip/tools/ppatch.py) for this claim.
import Derived.Test.YtnikefebkcminaaPFnExactPathOfFractionx0
import Derived.Test.YtnikefebkcminaaPFnExactPathOfFractionx1
import Derived.Test.YtnikefebkcminaaPFnExactPathOfFractionx2
namespace Go.Proofs.Ytnikefebkcminaa.PFnExactPathOfFraction
open Go.RowKit Go.Proofs.YtnikefebkcminaaW.PrintWords Go.Proofs.YtnikefebkcminaaW.PrintLast Go.Proofs.YtnikefebkcminaaW.PrintMore
attribute [local go_sem] max2_int min2_int max_two min_two max_three min_three max_four min_four   -- for this text's walks alone
set_option linter.unusedVariables false
set_option linter.unusedSimpArgs false

/-- The two variables in memory: the letters (block g4, of one's own) and whether they fit (block g5). -/
structure Pt (w0 : World) (g4 g5 : Nat) (w : World) (v : Value) (out : List Int) (fits : Bool) : Prop where
  bel : Below w0.heap.size w0 w
  ge4 : w0.heap.size ≤ g4
  ge5 : w0.heap.size ≤ g5
  b4 : w.heap[g4]? = some (.cells #[v] 76 (0, 0))
  b5 : w.heap[g5]? = some (.cells #[.bool fits] 4 (0, 0))
  row : Kd.R (Kd.int .u8) 5 w w0.heap.size (fun _ => True) v out
theorem Pt.below {w0 w w1 : World} {g4 g5 : Nat} {v : Value} {out : List Int} {fits : Bool} (h : Pt w0 g4 g5 w v out fits) (hb : Below w.heap.size w w1) : Pt w0 g4 g5 w1 v out fits :=
  ⟨below_step h.bel hb, h.ge4, h.ge5, (hb.block _ (blk_lt h.b4)).trans h.b4, (hb.block _ (blk_lt h.b5)).trans h.b5, Kd.R_below h.row hb⟩
/-- A variable of another type is stored into. -/
theorem Pt.set {w0 w : World} {g4 g5 g t : Nat} {v : Value} {out : List Int} {fits : Bool} {cur : Array Value} (h : Pt w0 g4 g5 w v out fits) (hb : w.heap[g]? = some (.cells cur t (0, 0))) (hg : w0.heap.size ≤ g) (ht : t ≠ 76 ∧ t ≠ 4 ∧ t ≠ 5) (j : Nat) (u : Value) : Pt w0 g4 g5 (w.setCell ⟨g, j, none⟩ u) v out fits := by
  have n4 : g4 ≠ g := fun e => by
    subst e
    have := hb.symm.trans h.b4
    injection this with this
    injection this with _ this
    exact ht.1 this
  have n5 : g5 ≠ g := fun e => by
    subst e
    have := hb.symm.trans h.b5
    injection this with this
    injection this with _ this
    exact ht.2.1 this
  exact ⟨h.bel.setCell (show w0.heap.size ≤ (⟨g, j, none⟩ : Addr).block from hg) u, h.ge4, h.ge5, blk_far h.b4 n4 _, blk_far h.b5 n5 _, Kd.R_set h.row hb (fun q hq => by rcases List.mem_cons.1 hq with e | e; exact fun e2 => ht.2.2 (e2.symm.trans e); cases e) j u⟩
theorem pt_ne {w0 w : World} {g4 g5 : Nat} {v : Value} {out : List Int} {fits : Bool} (h : Pt w0 g4 g5 w v out fits) : g4 ≠ g5 := fun e => by
  subst e
  have := h.b4.symm.trans h.b5
  injection this with this
  injection this with _ this
  exact absurd this (by decide)
/-- Whether they fit is stored anew. -/
theorem Pt.fit {w0 w : World} {g4 g5 : Nat} {v : Value} {out : List Int} {fits : Bool} (h : Pt w0 g4 g5 w v out fits) (f : Bool) : Pt w0 g4 g5 (w.setCell ⟨g5, 0, none⟩ (.bool f)) v out f :=
  ⟨h.bel.setCell (show w0.heap.size ≤ (⟨g5, 0, none⟩ : Addr).block from h.ge5) _, h.ge4, h.ge5, blk_far h.b4 (pt_ne h) _, blk_set h.b5 0 _, Kd.R_set h.row h.b5 (fun q hq => by rcases List.mem_cons.1 hq with e | e; exact e ▸ (by decide); cases e) 0 _⟩
theorem fit_keep {w0 w : World} {g4 g5 : Nat} {v : Value} {out : List Int} {fits : Bool} (h : Pt w0 g4 g5 w v out fits) (f : Bool) (b : Nat) (cur : Array Value) (hb : w.heap[b]? = some (.cells cur 43 (0, 0))) : (w.setCell ⟨g5, 0, none⟩ (.bool f)).heap[b]? = some (.cells cur 43 (0, 0)) := by
  have n5 : b ≠ g5 := fun e => by
    subst e
    have := hb.symm.trans h.b5
    injection this with this
    injection this with _ this
    exact absurd this (by decide)
  exact blk_far hb n5 _
/-- The longer row is stored anew. -/
theorem pt_put {w0 w w1 : World} {g4 g5 : Nat} {v v1 : Value} {out o2 : List Int} {fits : Bool} (h : Pt w0 g4 g5 w v out fits) (h1 : Kd.R (Kd.int .u8) 5 w1 w0.heap.size (fun _ => True) v1 o2) (hB : Below w0.heap.size w0 w1) (hg : w.grownBy w1 v.ownBlock) :
    w1.heap[g4]? = some (.cells #[v] 76 (0, 0)) ∧ Pt w0 g4 g5 (w1.setCell ⟨g4, 0, none⟩ v1) v1 o2 fits ∧ ∀ (b : Nat) (cur : Array Value), w.heap[b]? = some (.cells cur 43 (0, 0)) → (w1.setCell ⟨g4, 0, none⟩ v1).heap[b]? = some (.cells cur 43 (0, 0)) := by
  have b4 : w1.heap[g4]? = some (.cells #[v] 76 (0, 0)) := (hg.block g4 (blk_lt h.b4) (Kd.R_ne h.row h.b4 (by decide))).trans h.b4
  have b5 : w1.heap[g5]? = some (.cells #[.bool fits] 4 (0, 0)) := (hg.block g5 (blk_lt h.b5) (Kd.R_ne h.row h.b5 (by decide))).trans h.b5
  refine ⟨b4, ⟨hB.setCell (show w0.heap.size ≤ (⟨g4, 0, none⟩ : Addr).block from h.ge4) v1, h.ge4, h.ge5, blk_set b4 0 v1, blk_far b5 (pt_ne h).symm _, Kd.R_set h1 b4 (fun q hq => by rcases List.mem_cons.1 hq with e | e; exact e ▸ (by decide); cases e) 0 v1⟩, fun b cur hb => ?_⟩
  have n4 : b ≠ g4 := fun e => by
    subst e
    have := hb.symm.trans h.b4
    injection this with this
    injection this with _ this
    exact absurd this (by decide)
  exact blk_far ((hg.block b (blk_lt hb) (Kd.R_ne h.row hb (by decide))).trans hb) n4 _
theorem Pt.drew_ {w0 w : World} {g4 g5 : Nat} {v : Value} {out : List Int} {fits : Bool} (h : Pt w0 g4 g5 w v out fits) : Pt w0 g4 g5 w.drew v out fits := h.below (below_drew (Below.refl _ _))
theorem Pt.apart {w0 w : World} {g4 g5 g : Nat} {v : Value} {out : List Int} {fits : Bool} {cur : Array Value} (h : Pt w0 g4 g5 w v out fits) (hb : w.heap[g]? = some (.cells cur 43 (0, 0))) : g4 ≠ g ∧ g5 ≠ g ∧ some g ≠ v.ownBlock := by
  refine ⟨fun e => ?_, fun e => ?_, Kd.R_ne h.row hb (by decide)⟩
  · subst e
    have := hb.symm.trans h.b4
    injection this with this
    injection this with _ this
    exact absurd this (by decide)
  · subst e
    have := hb.symm.trans h.b5
    injection this with this
    injection this with _ this
    exact absurd this (by decide)
/-- A block apart from the two is stored into. -/
theorem Pt.far {w0 w : World} {g4 g5 g : Nat} {v : Value} {out : List Int} {fits : Bool} (h : Pt w0 g4 g5 w v out fits) (hg : w0.heap.size ≤ g) (n : g4 ≠ g ∧ g5 ≠ g ∧ some g ≠ v.ownBlock) (j : Nat) (u : Value) : Pt w0 g4 g5 (w.setCell ⟨g, j, none⟩ u) v out fits :=
  ⟨h.bel.setCell (show w0.heap.size ≤ (⟨g, j, none⟩ : Addr).block from hg) u, h.ge4, h.ge5, blk_far h.b4 n.1 _, blk_far h.b5 n.2.1 _, Kd.R_mono (Kd.R_far (p := ⟨g, j, none⟩) (Kd.R_tight rfl h.row) (fun k hk e => n.2.2 (by rw [← hk, show k = g from e])) u) (fun _ _ => trivial)⟩
/-- The first values of the two. -/
theorem pt_first {w0 w : World} {g4 g5 : Nat} {v v1 : Value} {out o2 : List Int} {fits : Bool} (h : Pt w0 g4 g5 w v out fits) (h1 : Kd.R (Kd.int .u8) 5 w w0.heap.size (fun _ => True) v1 o2) (f : Bool) :
    Pt w0 g4 g5 ((w.setCell ⟨g4, 0, none⟩ v1).setCell ⟨g5, 0, none⟩ (.bool f)) v1 o2 f ∧ ∀ (b : Nat) (cur : Array Value), w.heap[b]? = some (.cells cur 43 (0, 0)) → ((w.setCell ⟨g4, 0, none⟩ v1).setCell ⟨g5, 0, none⟩ (.bool f)).heap[b]? = some (.cells cur 43 (0, 0)) := by
  have b5 : (w.setCell ⟨g4, 0, none⟩ v1).heap[g5]? = some (.cells #[.bool fits] 4 (0, 0)) := blk_far h.b5 (pt_ne h).symm _
  have h2 : Pt w0 g4 g5 (w.setCell ⟨g4, 0, none⟩ v1) v1 o2 fits := ⟨h.bel.setCell (show w0.heap.size ≤ (⟨g4, 0, none⟩ : Addr).block from h.ge4) v1, h.ge4, h.ge5, blk_set h.b4 0 v1, b5, Kd.R_set h1 h.b4 (fun q hq => by rcases List.mem_cons.1 hq with e | e; exact e ▸ (by decide); cases e) 0 v1⟩
  exact ⟨h2.fit f, fun b cur hb => fit_keep h2 f b cur (blk_far hb (Pt.apart h hb).1.symm _)⟩
/-- What the literal makes of the letters. -/
def pgTell (L s : Int) (out : List Int) (fits : Bool) : Option (List Int × Bool) :=
  if fits = true then (if wrap64 ((out.length : Int) + s) ≤ 100 then (slices_Repeat_byte_byte.f [L] s).bind fun r => if out.length + r.length ≤ 100000 then some (out ++ r, true) else none else some (out, false)) else some (out, false)
def pathlit.T2 : Bool × List (List Nat × List Nat) := (true, [([], []), ([], []), ([1], [1]), ([], []), ([2, 3], [2, 3]), ([0, 4, 4], [0, 4]), ([5, 5, 0, 1, 2, 3, 4, 5], [5])])
def pathlit.B2 : List Nat := [0, 0, 2, 0, 14, 31, 63]
theorem pathlit.tab2 : rtab .any (opsOf Try.f60 2) = pathlit.T2 := by kernel_rfl
theorem pathlit.bits2 : waitsOk pathlit.T2.2 pathlit.B2 = true := by kernel_rfl
set_option maxHeartbeats 8000000 in
set_option maxRecDepth 100000 in
theorem tell_calls (L s : Int) (g4 g5 : Nat) (v : Value) (out o2 : List Int) (fits f2 : Bool) (w0 w : World) (hp : Pt w0 g4 g5 w v out fits) (h : pgTell L s out fits = some (o2, f2)) :
    Calls Try.prog 60 #[.int .u8 L, .int .i64 s, .pointer (some ⟨g5, 0, none⟩), .pointer (some ⟨g4, 0, none⟩)] w fun e w' => e = .returned (.tuple #[]) ∧ ∃ v', Pt w0 g4 g5 w' v' o2 f2 ∧ ∀ (b : Nat) (cur : Array Value), w.heap[b]? = some (.cells cur 43 (0, 0)) → w'.heap[b]? = some (.cells cur 43 (0, 0)) := by
  obtain ⟨A, c, rfl⟩ := Kd.R_slice hp.row
  have HP := Aside0.mk hp
  unfold pgTell at h
  cases fits with
  | false =>
    rw [if_neg (by simp)] at h
    injection h with h
    injection h with h1 h2
    subst h1 h2
    have h5 : w.cell? ⟨g5, 0, none⟩ = some (.bool false) := (blk_cell HP.out.b5 0).trans rfl
    have hf5 := blk_frozen HP.out.b5 0
    clear hp
    go_enter Try.func60, Try.ntmps60
    go_wp2
    first | go_end0 | ((try simp only [Exit.inBlock, Exit.then]); refine bodyPost_ret (results_none rfl _ _ _) rfl ?_)
    first | exact ⟨rfl, _, Pt.fit HP.out false, fit_keep HP.out false⟩ | exact ⟨rfl, ⟨_, Pt.fit HP.out false⟩, fit_keep HP.out false⟩
  | true =>
    rw [if_pos rfl] at h
    have h5 : w.cell? ⟨g5, 0, none⟩ = some (.bool true) := (blk_cell HP.out.b5 0).trans rfl
    have hf5 := blk_frozen HP.out.b5 0
    have h4 : w.cell? ⟨g4, 0, none⟩ = some (.slice A out.length c) := (blk_cell HP.out.b4 0).trans rfl
    have hf4 := blk_frozen HP.out.b4 0
    by_cases hle : wrap64 ((out.length : Int) + s) ≤ 100
    · rw [if_pos hle] at h
      obtain ⟨ys, hy, h⟩ := Option.bind_eq_some_iff.mp h
      by_cases hn : out.length + ys.length ≤ 100000
      case neg => rw [if_neg hn] at h; cases h
      rw [if_pos hn] at h
      injection h with h
      injection h with h1 h2
      subst h1 h2
      have HY := Aside0.mk hy
      have HN := Aside0.mk hn
      have hd : decide (wrap64 ((out.length : Int) + s) ≤ 100) = true := decide_eq_true hle
      clear hp hy hn
      go_enter Try.func60, Try.ntmps60
      go_wp2
      have HPW := Aside0.mk (Pt.below (Pt.fit HP.out true) (below_drew (Below.refl _ _)))
      have HF := Aside0.mk (fun (b : Nat) (cur : Array Value) (hb : w.heap[b]? = some (.cells cur 43 (0, 0))) => (below_drew (Below.refl _ _) : Below (w.setCell ⟨g5, 0, none⟩ (.bool true)).heap.size _ (w.setCell ⟨g5, 0, none⟩ (.bool true)).drew).block b (blk_lt (fit_keep HP.out true b cur hb)) |>.trans (fit_keep HP.out true b cur hb))
      clear HP h5 hf5 h4 hf4
      have HP := HPW
      have HX := Aside0.mk ((blk_cell HP.out.b4 0).trans rfl : (w.setCell ⟨g5, 0, none⟩ (.bool true)).drew.cell? ⟨g4, 0, none⟩ = some (.slice A out.length c))
      clear HPW
      refine start_ (n := 7) (S := fun w' => w'.cell? ⟨g4, 0, none⟩ = some (.slice A out.length c)) (ds := [6]) #[false, false, false, false, false, false, false] (by kernel_rfl) rfl rfl (HX.out) (fun hHeld => ?_)
      refine with_tabW pathlit.tab2 pathlit.bits2 (fun HT_ HW_ => ?_)
      generalize (w.setCell ⟨g5, 0, none⟩ (.bool true)).drew = wa at HP HX HF hHeld ⊢
      refine pure_ (i := 1) (N := some 16) (v := ?_) (a' := ?_) #[false, true, false, false, false, false, false] rfl rfl (any_of HT_.out (by kernel_rfl)) (fun _ _ _ h => h) (Or.inl ⟨by rfl, ?_⟩) ?_ ?_
      rotate_left
      · intro w'
        go_simp
        with_reducible rfl
      rotate_left
      · simp only [Act.put, List.setIfInBounds_toArray, List.set_cons_zero, List.set_cons_succ, i64_w, i32_w]
        rfl
      refine pure_ (i := 3) (N := some 18) (v := ?_) (a' := ?_) #[false, true, false, true, false, false, false] rfl rfl (any_of HT_.out (by kernel_rfl)) (fun _ _ _ h => h) (Or.inl ⟨by rfl, ?_⟩) ?_ ?_
      rotate_left
      · intro w'
        go_simp
        with_reducible rfl
      rotate_left
      · simp only [Act.put, List.setIfInBounds_toArray, List.set_cons_zero, List.set_cons_succ, i64_w, i32_w]
        rfl
      refine take_ (i := 0) (N := some 15) (v := ?_) (a' := ?_) #[true, true, false, true, false, false, false] rfl rfl (take_ofW HT_.out HW_.out (by kernel_rfl)) (fun _ _ _ h => h) (Or.inl ⟨by rfl, ?_⟩) hHeld ?_ ?_
      rotate_left
      · intro w' s0
        go_simp
        with_reducible rfl
      rotate_left
      · simp only [Act.put, List.setIfInBounds_toArray, List.set_cons_zero, List.set_cons_succ, i64_w, i32_w]
        rfl
      refine one_ (i := 2) (N := some 17) #[true, true, true, true, false, false, false] rfl rfl (one_of HT_.out (by kernel_rfl)) (by decide) (fun K hK => ?_)
      have HS2 := Aside0.mk hHeld
      refine Kd.R_lit_step (Kd.int .u8) (w0 := wa) wa.heap.size 5 ?hg (N := 17) ?hd (xs := ([L] : List Int)) (inner := [.int .u8 L]) (ok := fun _ => True) (okp := fun _ => True) ?hr ?hp (fun _ hk => hk) trivial (Below.refl _ _) (Nat.le_refl _) (by simp) ?_; (case hd => rfl); (case hg => rfl); (case hr => first | (go_simp; done) | (go_simp; rfl)); (case hp => exact (Reps.one (show Kd.M (Kd.int .u8) _ _ _ L [.int .u8 L] from rfl) (Reps.none _ _)))
      intro v17 w17 ho17 hb17 hg17_ hn17_
      clear hg17_ hn17_
      obtain ⟨A17, c17, rfl⟩ := Kd.R_slice ho17
      have HO17 := Aside0.mk ho17
      have HB17 := Aside0.mk hb17
      clear ho17 hb17
      have HX17 := Aside0.mk ((HB17.out.cell (World.block_lt_of_cell? _ _ HX.out)).trans HX.out)
      refine hK.out _ _ (HX17.out) (fun hHeld => ?_)
      clear hK K
      refine norm_ (a' := ?_) ?_ ?_
      rotate_left
      · show Act.put _ (some 17) _ = _
        simp only [Act.put, List.setIfInBounds_toArray, List.set_cons_zero, List.set_cons_succ, i64_w, i32_w]
        rfl
      refine one_ (i := 4) (N := some 19) #[true, true, true, true, true, false, false] rfl rfl (one_of HT_.out (by kernel_rfl)) (by decide) (fun K hK => ?_)
      refine goes_ Try.func61 (by kernel_rfl) rfl #[.slice A17 ([L] : List Int).length c17, .int .i64 s] (by rfl) rfl rfl (by (try simp only [List.map_toArray, List.map_cons, List.map_nil]); first | done | rfl) ?_
      with_reducible refine (slices_Repeat_byte_byte.calls A17 c17 [L] s ys _ (Kd.R_reads' HO17.out).2.2 (Kd.R_reads' HO17.out).2.1 HY.out).mono ?_
      rintro e w19 ⟨v19, rfl, ho19, hb19⟩
      refine ⟨_, rfl, ?_⟩
      obtain ⟨A19, c19, rfl⟩ := Kd.R_slice ho19
      have HC19 := Aside0.mk (Kd.R_reads' ho19).2.2
      have HB19 := Aside0.mk (HB17.out.trans (hb19.mono (below_size HB17.out)))
      clear ho19 hb19
      have HX19 := Aside0.mk ((HB19.out.cell (World.block_lt_of_cell? _ _ HX.out)).trans HX.out)
      have HP19 := Aside0.mk (Pt.below HP.out HB19.out)
      refine hK.out _ _ (HX19.out) (fun hHeld => ?_)
      clear hK K
      refine norm_ (a' := ?_) ?_ ?_
      rotate_left
      · show Act.put _ (some 19) _ = _
        simp only [Act.put, List.setIfInBounds_toArray, List.set_cons_zero, List.set_cons_succ, i64_w, i32_w]
        rfl
      refine one_ (i := 5) (N := some 20) #[true, true, true, true, true, true, false] rfl rfl (one_of HT_.out (by kernel_rfl)) (by decide) (fun K hK => ?_)
      refine Kd.R_append_rows_step (Kd.int .u8) (w0 := w0) w0.heap.size (by rfl) (.tmp 15) (.tmp 19) 76 5 (.int .u8 0) 1 rfl Try.underlying76 info5 rfl (by decide) (by omega) (.slice A out.length c) out ys _ _ _ (fun _ => True) (fun _ => False) rfl rfl ?aO ?aR (fun _ _ h => h) (fun _ h => h.elim) (fun _ _ => trivial) ?aB ?aS ?aL ?_
      (case aO => exact HP19.out.row)
      (case aR => exact HC19.out)
      (case aB => exact HP19.out.bel)
      (case aS => exact below_size HP19.out.bel)
      (case aL => have := HN.out; omega)
      intro v20 w20 ho20 hb20 hg20 hat20
      have hput := pt_put HP19.out ho20 hb20 hg20
      have hx20 := (blk_cell hput.1 0).trans rfl
      have hf20 := blk_frozen hput.1 0
      have HP20 := Aside0.mk hput.2.1
      have HK20 := Aside0.mk (fun (b : Nat) (cur : Array Value) (hb_ : wa.heap[b]? = some (.cells cur 43 (0, 0))) => hput.2.2 b cur ((HB19.out.block b (blk_lt hb_)).trans hb_))
      obtain ⟨A20, c20, rfl⟩ := Kd.R_slice ho20
      clear ho20 hb20 hg20 hat20 hput
      refine hK.out _ _ (hx20) (fun hHeld => ?_)
      clear hK K
      refine norm_ (a' := ?_) ?_ ?_
      rotate_left
      · show Act.put _ (some 20) _ = _
        simp only [Act.put, List.setIfInBounds_toArray, List.set_cons_zero, List.set_cons_succ, i64_w, i32_w]
        rfl
      refine last_ (i := 6) (N := none) #[true, true, true, true, true, true, true] rfl rfl (one_of HT_.out (by kernel_rfl)) (by decide) (fun K hK => ?_)
      refine skip_ (w1 := ?_) (by rfl) rfl ?_ ?_
      rotate_left
      · go_simp
        rfl
      refine hK.out _ _ ?_
      clear hK K
      refine done_ (done_of HT_.out (by kernel_rfl)) ?_
      try go_wp2
      first | go_end0 | ((try simp only [Exit.inBlock, Exit.then]); refine bodyPost_ret (results_none rfl _ _ _) rfl ?_)
      have hp := HP20.out
      have hk := fun b cur hb => HK20.out b cur (HF.out b cur hb)
      simp only [List.length_append] at hp hk
      first | exact ⟨rfl, _, hp, hk⟩ | exact ⟨rfl, ⟨_, hp⟩, hk⟩
    · rw [if_neg hle] at h
      injection h with h
      injection h with h1 h2
      subst h1 h2
      have hd : decide (wrap64 ((out.length : Int) + s) ≤ 100) = false := decide_eq_false hle
      clear hp
      go_enter Try.func60, Try.ntmps60
      go_wp2
      first | go_end0 | ((try simp only [Exit.inBlock, Exit.then]); refine bodyPost_ret (results_none rfl _ _ _) rfl ?_)
      first | exact ⟨rfl, _, Pt.fit HP.out false, fit_keep HP.out false⟩ | exact ⟨rfl, ⟨_, Pt.fit HP.out false⟩, fit_keep HP.out false⟩

-- TOLD FOR impl_descend_s0: impl.descend | impl.PathOfFraction$1
/-! ### impl_descend_s0: function 100000 -/
def impl_descend_s0.l0 : Nat → Bool → List Int → Int → Int → Int → Int → Int → Int → Option (Int × Int × Int × Int × List Int × Bool)
  | 0, _, _, _, _, _, _, _, _ => none
  | k + 1, x21000, x22000, x133000, x133001, x136000, x136001, x137000, x137001 => (impl_cross.f x136000 x136001 x133000 x133001).bind fun t137 => ((impl_cross.f x133000 x133001 x137000 x137001).bind fun t138 => (if t137 = t138 then (some (x136000, x136001, x137000, x137001, x22000, x21000)) else (if t137 > t138 then (if t138 = 0 then (none) else ((pgTell 114 (wrap64 (Int.tdiv (wrap64 (t137 - 1)) t138)) x22000 x21000).bind fun bt9 => (impl_descend_s0.l0 k bt9.2 bt9.1 x133000 x133001 (wrap64 (x136000 + (wrap64 ((wrap64 (Int.tdiv (wrap64 (t137 - 1)) t138)) * x137000)))) (wrap64 (x136001 + (wrap64 ((wrap64 (Int.tdiv (wrap64 (t137 - 1)) t138)) * x137001)))) x137000 x137001))) else (if t137 = 0 then (none) else ((pgTell 108 (wrap64 (Int.tdiv (wrap64 (t138 - 1)) t137)) x22000 x21000).bind fun bt9 => (impl_descend_s0.l0 k bt9.2 bt9.1 x133000 x133001 x136000 x136001 (wrap64 (x137000 + (wrap64 ((wrap64 (Int.tdiv (wrap64 (t138 - 1)) t137)) * x136000)))) (wrap64 (x137001 + (wrap64 ((wrap64 (Int.tdiv (wrap64 (t138 - 1)) t137)) * x136001))))))))))
def impl_descend_s0.f (k : Nat) (a0_0 : Int) (a0_1 : Int) (a1_0_0 : Bool) (l1_1_0 : List Int) : Option (Int × Int × Int × Int × List Int × Bool) := impl_descend_s0.l0 k a1_0_0 l1_1_0 a0_0 a0_1 0 1 1 0
theorem impl_descend_s0.mono_l : ∀ k, (∀ y0 y1 y2 y3 y4 y5 y6 y7, LeO (impl_descend_s0.l0 k y0 y1 y2 y3 y4 y5 y6 y7) (impl_descend_s0.l0 (k + 1) y0 y1 y2 y3 y4 y5 y6 y7))
  | 0 => fun _ _ _ _ _ _ _ _ r h => by simp [impl_descend_s0.l0] at h
  | k + 1 => by
    have ih0 := impl_descend_s0.mono_l k
    · intro y0 y1 y2 y3 y4 y5 y6 y7
      unfold impl_descend_s0.l0
      repeat' first
      | (with_reducible exact ih0 _ _ _ _ _ _ _ _)
      | (with_reducible exact LeO.refl _)
      | (with_reducible exact LeO.none _)
      | (with_reducible refine LeO.ite ?_ ?_)
      | (with_reducible refine LeO.bind ?_ (fun _ => ?_))
      | exact ih0 _ _ _ _ _ _ _ _
      | exact LeO.none _
      | refine LeO.ite ?_ ?_
      | refine LeO.bind ?_ (fun _ => ?_)
theorem impl_descend_s0.mono : ∀ a0 a1 a2 a3 k, LeO (impl_descend_s0.f k a0 a1 a2 a3) (impl_descend_s0.f (k + 1) a0 a1 a2 a3) := by
  intro a0 a1 a2 a3 k
  have ih0 := impl_descend_s0.mono_l k
  unfold impl_descend_s0.f
  repeat' first
      | (with_reducible exact ih0 _ _ _ _ _ _ _ _)
      | (with_reducible exact LeO.refl _)
      | (with_reducible exact LeO.none _)
      | (with_reducible refine LeO.ite ?_ ?_)
      | (with_reducible refine LeO.bind ?_ (fun _ => ?_))
      | exact ih0 _ _ _ _ _ _ _ _
      | exact LeO.none _
      | refine LeO.ite ?_ ?_
      | refine LeO.bind ?_ (fun _ => ?_)
def impl_descend_s0.T2 : Bool × List (List Nat × List Nat) := (true, [([], []), ([], []), ([0, 1], [0, 1]), ([], []), ([], []), ([3, 4, 2], [3, 4]), ([2, 5, 0, 1, 2], [2]), ([5, 6, 0, 1, 2, 3, 4, 5, 6], [5])])
def impl_descend_s0.B2 : List Nat := [0, 0, 3, 0, 0, 31, 63, 127]
theorem impl_descend_s0.tab2 : rtab .any (opsOf Try.f59 2) = impl_descend_s0.T2 := by kernel_rfl
theorem impl_descend_s0.bits2 : waitsOk impl_descend_s0.T2.2 impl_descend_s0.B2 = true := by kernel_rfl
set_option maxHeartbeats 8000000 in
set_option maxRecDepth 100000 in
theorem impl_descend_s0.calls (k : Nat) (a0_0 : Int) (a0_1 : Int) (gc1_0 : Nat) (a1_0_0 : Bool) (gc1_1 : Nat) (v0_ : Value) (l1_1_0 : List Int) (r1 : Int) (r2 : Int) (r3 : Int) (r4 : Int) (ro : List Int) (rf : Bool) (w0 w : World) (hP0 : Pt w0 gc1_1 gc1_0 w v0_ l1_1_0 a1_0_0) (h : impl_descend_s0.f k a0_0 a0_1 a1_0_0 l1_1_0 = some (r1, r2, r3, r4, ro, rf)) :
    Calls Try.prog 59 #[.agg #[.int .i64 a0_0, .int .i64 a0_1], .func (.func 60) #[] #[.pointer (some ⟨gc1_0, 0, none⟩), .pointer (some ⟨gc1_1, 0, none⟩)]] w fun e w' => e = .returned (.tuple #[.agg #[.int .i64 r1, .int .i64 r2], .agg #[.int .i64 r3, .int .i64 r4]]) ∧ ∃ v', Pt w0 gc1_1 gc1_0 w' v' ro rf := by
  have hu43 := Try.underlying43
  have HP := Aside0.mk hP0
  have GE20 := Aside0.mk hP0.ge5
  have GE21 := Aside0.mk hP0.ge4
  have BK20 := Aside0.mk hP0.b5
  have BK21 := Aside0.mk hP0.b4
  have HB := Aside0.mk hP0.bel
  clear hP0
  have H : (impl_descend_s0.l0 k a1_0_0 l1_1_0 a0_0 a0_1 0 1 1 0) = some (r1, r2, r3, r4, ro, rf) := h
  clear h
  have H' := Aside0.mk H
  clear H
  go_enter Try.func59, Try.ntmps59
  go_wp2_with (first | ((with_reducible refine gate_dst (N := 2) rfl ?_); refine box_event ?hg (N := 2) ?hd (cs := #[.int .i64 a0_0, .int .i64 a0_1]) (t := 43) ?hr ?_; (case hd => rfl); (case hg => rfl); (case hr => first | (go_simp; done) | (go_simp; rfl)); intro gb132 hg w3 hbox hb; have HP_ := Aside0.mk (Pt.below (by repeat (first | (with_reducible exact HP.out) | (with_reducible refine Pt.far ?_ GE135.out (Pt.apart HP.out BK135.out) _ _) | (with_reducible refine Pt.far ?_ GE136.out (Pt.apart HP.out BK136.out) _ _) | (with_reducible refine Pt.far ?_ GE133.out (Pt.apart HP.out BK133.out) _ _) | (with_reducible refine Pt.far ?_ GE134.out (Pt.apart HP.out BK134.out) _ _) | (with_reducible refine Pt.far ?_ GE132.out (Pt.apart HP.out BK132.out) _ _) | (with_reducible refine Pt.drew_ ?_))) hb); clear HP; have HP := HP_; clear HP_; have n0_ := Aside0.mk (blk_below (g := gc1_0) (o := .cells #[.bool a1_0_0] 4 (0, 0)) (by (with_reducible repeat (first | refine blk_drewN ?_ _ | refine blk_drew ?_ | refine blk_alloc ?_ _)); exact BK20.out) hb); have n1_ := Aside0.mk (blk_below (g := gc1_1) (o := .cells #[v0_] 76 (0, 0)) (by (with_reducible repeat (first | refine blk_drewN ?_ _ | refine blk_drew ?_ | refine blk_alloc ?_ _)); exact BK21.out) hb); have n2_ := Aside0.mk (below_step (by repeat (first | (with_reducible first | exact HB.out | apply below_alloc | apply pw_below_drewN | apply below_drew1 | refine below_set ?_ GE20.out | refine below_set ?_ GE21.out) | exact HB.out)) hb); have n3_ := Aside0.mk (hbox); have n4_ := Aside0.mk ((by rw [hg]; exact (below_size (by repeat (first | (with_reducible first | exact HB.out | apply below_alloc | apply pw_below_drewN | apply below_drew1 | refine below_set ?_ GE20.out | refine below_set ?_ GE21.out) | exact HB.out))) : w0.heap.size ≤ gb132)); have n5_ := Aside0.mk ((by rw [hg]; exact (below_size (by repeat (first | (with_reducible first | exact HB.out | apply below_alloc | apply pw_below_drewN | apply below_drew1 | refine below_set ?_ GE20.out | refine below_set ?_ GE21.out) | exact HB.out))) : w0.heap.size ≤ gb132)); have n6_ := Aside0.mk ((by rw [hg]; exact Nat.ne_of_lt (blk_lt (g := gc1_0) (o := .cells #[.bool a1_0_0] 4 (0, 0)) (by (with_reducible repeat (first | refine blk_drewN ?_ _ | refine blk_drew ?_ | refine blk_alloc ?_ _)); exact BK20.out)) : gc1_0 ≠ gb132)); have n7_ := Aside0.mk ((by rw [hg]; exact Nat.ne_of_gt (blk_lt (g := gc1_0) (o := .cells #[.bool a1_0_0] 4 (0, 0)) (by (with_reducible repeat (first | refine blk_drewN ?_ _ | refine blk_drew ?_ | refine blk_alloc ?_ _)); exact BK20.out)) : gb132 ≠ gc1_0)); have n8_ := Aside0.mk ((by rw [hg]; exact Nat.ne_of_lt (blk_lt (g := gc1_1) (o := .cells #[v0_] 76 (0, 0)) (by (with_reducible repeat (first | refine blk_drewN ?_ _ | refine blk_drew ?_ | refine blk_alloc ?_ _)); exact BK21.out)) : gc1_1 ≠ gb132)); have n9_ := Aside0.mk ((by rw [hg]; exact Nat.ne_of_gt (blk_lt (g := gc1_1) (o := .cells #[v0_] 76 (0, 0)) (by (with_reducible repeat (first | refine blk_drewN ?_ _ | refine blk_drew ?_ | refine blk_alloc ?_ _)); exact BK21.out)) : gb132 ≠ gc1_1)); clear BK20; clear BK21; clear HB; have BK20 := n0_; have BK21 := n1_; have HB := n2_; have BK132 := n3_; have GW132 := n4_; have GE132 := n5_; have NB20_132 := n6_; have NB132_20 := n7_; have NB21_132 := n8_; have NB132_21 := n9_; clear n0_ n1_ n2_ n3_ n4_ n5_ n6_ n7_ n8_ n9_; clear hb hbox hg) | ((with_reducible refine gate_dst (N := 4) rfl ?_); refine box_event ?hg (N := 4) ?hd (cs := #[.int .i64 0, .int .i64 0]) (t := 43) ?hr ?_; (case hd => rfl); (case hg => rfl); (case hr => first | (go_simp; done) | (go_simp; rfl)); intro gb133 hg w4 hbox hb; have HP_ := Aside0.mk (Pt.below (by repeat (first | (with_reducible exact HP.out) | (with_reducible refine Pt.far ?_ GE135.out (Pt.apart HP.out BK135.out) _ _) | (with_reducible refine Pt.far ?_ GE136.out (Pt.apart HP.out BK136.out) _ _) | (with_reducible refine Pt.far ?_ GE133.out (Pt.apart HP.out BK133.out) _ _) | (with_reducible refine Pt.far ?_ GE134.out (Pt.apart HP.out BK134.out) _ _) | (with_reducible refine Pt.far ?_ GE132.out (Pt.apart HP.out BK132.out) _ _) | (with_reducible refine Pt.drew_ ?_))) hb); clear HP; have HP := HP_; clear HP_; have n0_ := Aside0.mk (blk_below (g := gc1_0) (o := .cells #[.bool a1_0_0] 4 (0, 0)) (by (with_reducible repeat (first | refine blk_drewN ?_ _ | refine blk_drew ?_ | refine blk_alloc ?_ _)); exact BK20.out) hb); have n1_ := Aside0.mk (blk_below (g := gc1_1) (o := .cells #[v0_] 76 (0, 0)) (by (with_reducible repeat (first | refine blk_drewN ?_ _ | refine blk_drew ?_ | refine blk_alloc ?_ _)); exact BK21.out) hb); have n2_ := Aside0.mk (blk_below (g := gb132) (o := .cells #[.int .i64 a0_0, .int .i64 a0_1] 43 (0, 0)) (by (with_reducible repeat (first | refine blk_drewN ?_ _ | refine blk_drew ?_ | refine blk_alloc ?_ _)); exact BK132.out) hb); have n3_ := Aside0.mk (below_step (by repeat (first | (with_reducible first | exact HB.out | apply below_alloc | apply pw_below_drewN | apply below_drew1 | refine below_set ?_ GE20.out | refine below_set ?_ GE21.out | refine below_set ?_ GE132.out) | exact HB.out)) hb); have n4_ := Aside0.mk (hbox); have n5_ := Aside0.mk ((by rw [hg]; exact (below_size (by repeat (first | (with_reducible first | exact HB.out | apply below_alloc | apply pw_below_drewN | apply below_drew1 | refine below_set ?_ GE20.out | refine below_set ?_ GE21.out | refine below_set ?_ GE132.out) | exact HB.out))) : w0.heap.size ≤ gb133)); have n6_ := Aside0.mk ((by rw [hg]; exact (below_size (by repeat (first | (with_reducible first | exact HB.out | apply below_alloc | apply pw_below_drewN | apply below_drew1 | refine below_set ?_ GE20.out | refine below_set ?_ GE21.out | refine below_set ?_ GE132.out) | exact HB.out))) : w0.heap.size ≤ gb133)); have n7_ := Aside0.mk ((by rw [hg]; exact Nat.ne_of_lt (blk_lt (g := gc1_0) (o := .cells #[.bool a1_0_0] 4 (0, 0)) (by (with_reducible repeat (first | refine blk_drewN ?_ _ | refine blk_drew ?_ | refine blk_alloc ?_ _)); exact BK20.out)) : gc1_0 ≠ gb133)); have n8_ := Aside0.mk ((by rw [hg]; exact Nat.ne_of_gt (blk_lt (g := gc1_0) (o := .cells #[.bool a1_0_0] 4 (0, 0)) (by (with_reducible repeat (first | refine blk_drewN ?_ _ | refine blk_drew ?_ | refine blk_alloc ?_ _)); exact BK20.out)) : gb133 ≠ gc1_0)); have n9_ := Aside0.mk ((by rw [hg]; exact Nat.ne_of_lt (blk_lt (g := gc1_1) (o := .cells #[v0_] 76 (0, 0)) (by (with_reducible repeat (first | refine blk_drewN ?_ _ | refine blk_drew ?_ | refine blk_alloc ?_ _)); exact BK21.out)) : gc1_1 ≠ gb133)); have n10_ := Aside0.mk ((by rw [hg]; exact Nat.ne_of_gt (blk_lt (g := gc1_1) (o := .cells #[v0_] 76 (0, 0)) (by (with_reducible repeat (first | refine blk_drewN ?_ _ | refine blk_drew ?_ | refine blk_alloc ?_ _)); exact BK21.out)) : gb133 ≠ gc1_1)); have n11_ := Aside0.mk ((by rw [hg]; exact Nat.ne_of_lt (blk_lt (g := gb132) (o := .cells #[.int .i64 a0_0, .int .i64 a0_1] 43 (0, 0)) (by (with_reducible repeat (first | refine blk_drewN ?_ _ | refine blk_drew ?_ | refine blk_alloc ?_ _)); exact BK132.out)) : gb132 ≠ gb133)); have n12_ := Aside0.mk ((by rw [hg]; exact Nat.ne_of_gt (blk_lt (g := gb132) (o := .cells #[.int .i64 a0_0, .int .i64 a0_1] 43 (0, 0)) (by (with_reducible repeat (first | refine blk_drewN ?_ _ | refine blk_drew ?_ | refine blk_alloc ?_ _)); exact BK132.out)) : gb133 ≠ gb132)); clear BK20; clear BK21; clear BK132; clear HB; have BK20 := n0_; have BK21 := n1_; have BK132 := n2_; have HB := n3_; have BK133 := n4_; have GW133 := n5_; have GE133 := n6_; have NB20_133 := n7_; have NB133_20 := n8_; have NB21_133 := n9_; have NB133_21 := n10_; have NB132_133 := n11_; have NB133_132 := n12_; clear n0_ n1_ n2_ n3_ n4_ n5_ n6_ n7_ n8_ n9_ n10_ n11_ n12_; clear hb hbox hg) | ((with_reducible refine gate_dst (N := 5) rfl ?_); refine box_event ?hg (N := 5) ?hd (cs := #[.int .i64 0, .int .i64 0]) (t := 43) ?hr ?_; (case hd => rfl); (case hg => rfl); (case hr => first | (go_simp; done) | (go_simp; rfl)); intro gb134 hg w5 hbox hb; have HP_ := Aside0.mk (Pt.below (by repeat (first | (with_reducible exact HP.out) | (with_reducible refine Pt.far ?_ GE135.out (Pt.apart HP.out BK135.out) _ _) | (with_reducible refine Pt.far ?_ GE136.out (Pt.apart HP.out BK136.out) _ _) | (with_reducible refine Pt.far ?_ GE133.out (Pt.apart HP.out BK133.out) _ _) | (with_reducible refine Pt.far ?_ GE134.out (Pt.apart HP.out BK134.out) _ _) | (with_reducible refine Pt.far ?_ GE132.out (Pt.apart HP.out BK132.out) _ _) | (with_reducible refine Pt.drew_ ?_))) hb); clear HP; have HP := HP_; clear HP_; have n0_ := Aside0.mk (blk_below (g := gc1_0) (o := .cells #[.bool a1_0_0] 4 (0, 0)) (by (with_reducible repeat (first | refine blk_drewN ?_ _ | refine blk_drew ?_ | refine blk_alloc ?_ _)); exact BK20.out) hb); have n1_ := Aside0.mk (blk_below (g := gc1_1) (o := .cells #[v0_] 76 (0, 0)) (by (with_reducible repeat (first | refine blk_drewN ?_ _ | refine blk_drew ?_ | refine blk_alloc ?_ _)); exact BK21.out) hb); have n2_ := Aside0.mk (blk_below (g := gb132) (o := .cells #[.int .i64 a0_0, .int .i64 a0_1] 43 (0, 0)) (by (with_reducible repeat (first | refine blk_drewN ?_ _ | refine blk_drew ?_ | refine blk_alloc ?_ _)); exact BK132.out) hb); have n3_ := Aside0.mk (blk_below (g := gb133) (o := .cells #[.int .i64 0, .int .i64 0] 43 (0, 0)) (by (with_reducible repeat (first | refine blk_drewN ?_ _ | refine blk_drew ?_ | refine blk_alloc ?_ _)); exact BK133.out) hb); have n4_ := Aside0.mk (below_step (by repeat (first | (with_reducible first | exact HB.out | apply below_alloc | apply pw_below_drewN | apply below_drew1 | refine below_set ?_ GE20.out | refine below_set ?_ GE21.out | refine below_set ?_ GE132.out | refine below_set ?_ GE133.out) | exact HB.out)) hb); have n5_ := Aside0.mk (hbox); have n6_ := Aside0.mk ((by rw [hg]; exact (below_size (by repeat (first | (with_reducible first | exact HB.out | apply below_alloc | apply pw_below_drewN | apply below_drew1 | refine below_set ?_ GE20.out | refine below_set ?_ GE21.out | refine below_set ?_ GE132.out | refine below_set ?_ GE133.out) | exact HB.out))) : w0.heap.size ≤ gb134)); have n7_ := Aside0.mk ((by rw [hg]; exact (below_size (by repeat (first | (with_reducible first | exact HB.out | apply below_alloc | apply pw_below_drewN | apply below_drew1 | refine below_set ?_ GE20.out | refine below_set ?_ GE21.out | refine below_set ?_ GE132.out | refine below_set ?_ GE133.out) | exact HB.out))) : w0.heap.size ≤ gb134)); have n8_ := Aside0.mk ((by rw [hg]; exact Nat.ne_of_lt (blk_lt (g := gc1_0) (o := .cells #[.bool a1_0_0] 4 (0, 0)) (by (with_reducible repeat (first | refine blk_drewN ?_ _ | refine blk_drew ?_ | refine blk_alloc ?_ _)); exact BK20.out)) : gc1_0 ≠ gb134)); have n9_ := Aside0.mk ((by rw [hg]; exact Nat.ne_of_gt (blk_lt (g := gc1_0) (o := .cells #[.bool a1_0_0] 4 (0, 0)) (by (with_reducible repeat (first | refine blk_drewN ?_ _ | refine blk_drew ?_ | refine blk_alloc ?_ _)); exact BK20.out)) : gb134 ≠ gc1_0)); have n10_ := Aside0.mk ((by rw [hg]; exact Nat.ne_of_lt (blk_lt (g := gc1_1) (o := .cells #[v0_] 76 (0, 0)) (by (with_reducible repeat (first | refine blk_drewN ?_ _ | refine blk_drew ?_ | refine blk_alloc ?_ _)); exact BK21.out)) : gc1_1 ≠ gb134)); have n11_ := Aside0.mk ((by rw [hg]; exact Nat.ne_of_gt (blk_lt (g := gc1_1) (o := .cells #[v0_] 76 (0, 0)) (by (with_reducible repeat (first | refine blk_drewN ?_ _ | refine blk_drew ?_ | refine blk_alloc ?_ _)); exact BK21.out)) : gb134 ≠ gc1_1)); have n12_ := Aside0.mk ((by rw [hg]; exact Nat.ne_of_lt (blk_lt (g := gb132) (o := .cells #[.int .i64 a0_0, .int .i64 a0_1] 43 (0, 0)) (by (with_reducible repeat (first | refine blk_drewN ?_ _ | refine blk_drew ?_ | refine blk_alloc ?_ _)); exact BK132.out)) : gb132 ≠ gb134)); have n13_ := Aside0.mk ((by rw [hg]; exact Nat.ne_of_gt (blk_lt (g := gb132) (o := .cells #[.int .i64 a0_0, .int .i64 a0_1] 43 (0, 0)) (by (with_reducible repeat (first | refine blk_drewN ?_ _ | refine blk_drew ?_ | refine blk_alloc ?_ _)); exact BK132.out)) : gb134 ≠ gb132)); have n14_ := Aside0.mk ((by rw [hg]; exact Nat.ne_of_lt (blk_lt (g := gb133) (o := .cells #[.int .i64 0, .int .i64 0] 43 (0, 0)) (by (with_reducible repeat (first | refine blk_drewN ?_ _ | refine blk_drew ?_ | refine blk_alloc ?_ _)); exact BK133.out)) : gb133 ≠ gb134)); have n15_ := Aside0.mk ((by rw [hg]; exact Nat.ne_of_gt (blk_lt (g := gb133) (o := .cells #[.int .i64 0, .int .i64 0] 43 (0, 0)) (by (with_reducible repeat (first | refine blk_drewN ?_ _ | refine blk_drew ?_ | refine blk_alloc ?_ _)); exact BK133.out)) : gb134 ≠ gb133)); clear BK20; clear BK21; clear BK132; clear BK133; clear HB; have BK20 := n0_; have BK21 := n1_; have BK132 := n2_; have BK133 := n3_; have HB := n4_; have BK134 := n5_; have GW134 := n6_; have GE134 := n7_; have NB20_134 := n8_; have NB134_20 := n9_; have NB21_134 := n10_; have NB134_21 := n11_; have NB132_134 := n12_; have NB134_132 := n13_; have NB133_134 := n14_; have NB134_133 := n15_; clear n0_ n1_ n2_ n3_ n4_ n5_ n6_ n7_ n8_ n9_ n10_ n11_ n12_ n13_ n14_ n15_; clear hb hbox hg) | ((with_reducible refine gate_dst (N := 6) rfl ?_); refine box_event ?hg (N := 6) ?hd (cs := #[.int .i64 0, .int .i64 0]) (t := 43) ?hr ?_; (case hd => rfl); (case hg => rfl); (case hr => first | (go_simp; done) | (go_simp; rfl)); intro gb135 hg w6 hbox hb; have HP_ := Aside0.mk (Pt.below (by repeat (first | (with_reducible exact HP.out) | (with_reducible refine Pt.far ?_ GE135.out (Pt.apart HP.out BK135.out) _ _) | (with_reducible refine Pt.far ?_ GE136.out (Pt.apart HP.out BK136.out) _ _) | (with_reducible refine Pt.far ?_ GE133.out (Pt.apart HP.out BK133.out) _ _) | (with_reducible refine Pt.far ?_ GE134.out (Pt.apart HP.out BK134.out) _ _) | (with_reducible refine Pt.far ?_ GE132.out (Pt.apart HP.out BK132.out) _ _) | (with_reducible refine Pt.drew_ ?_))) hb); clear HP; have HP := HP_; clear HP_; have n0_ := Aside0.mk (blk_below (g := gc1_0) (o := .cells #[.bool a1_0_0] 4 (0, 0)) (by (with_reducible repeat (first | refine blk_drewN ?_ _ | refine blk_drew ?_ | refine blk_alloc ?_ _)); exact BK20.out) hb); have n1_ := Aside0.mk (blk_below (g := gc1_1) (o := .cells #[v0_] 76 (0, 0)) (by (with_reducible repeat (first | refine blk_drewN ?_ _ | refine blk_drew ?_ | refine blk_alloc ?_ _)); exact BK21.out) hb); have n2_ := Aside0.mk (blk_below (g := gb132) (o := .cells #[.int .i64 a0_0, .int .i64 a0_1] 43 (0, 0)) (by (with_reducible repeat (first | refine blk_drewN ?_ _ | refine blk_drew ?_ | refine blk_alloc ?_ _)); exact BK132.out) hb); have n3_ := Aside0.mk (blk_below (g := gb133) (o := .cells #[.int .i64 0, .int .i64 0] 43 (0, 0)) (by (with_reducible repeat (first | refine blk_drewN ?_ _ | refine blk_drew ?_ | refine blk_alloc ?_ _)); exact BK133.out) hb); have n4_ := Aside0.mk (blk_below (g := gb134) (o := .cells #[.int .i64 0, .int .i64 0] 43 (0, 0)) (by (with_reducible repeat (first | refine blk_drewN ?_ _ | refine blk_drew ?_ | refine blk_alloc ?_ _)); exact BK134.out) hb); have n5_ := Aside0.mk (below_step (by repeat (first | (with_reducible first | exact HB.out | apply below_alloc | apply pw_below_drewN | apply below_drew1 | refine below_set ?_ GE20.out | refine below_set ?_ GE21.out | refine below_set ?_ GE132.out | refine below_set ?_ GE133.out | refine below_set ?_ GE134.out) | exact HB.out)) hb); have n6_ := Aside0.mk (hbox); have n7_ := Aside0.mk ((by rw [hg]; exact (below_size (by repeat (first | (with_reducible first | exact HB.out | apply below_alloc | apply pw_below_drewN | apply below_drew1 | refine below_set ?_ GE20.out | refine below_set ?_ GE21.out | refine below_set ?_ GE132.out | refine below_set ?_ GE133.out | refine below_set ?_ GE134.out) | exact HB.out))) : w0.heap.size ≤ gb135)); have n8_ := Aside0.mk ((by rw [hg]; exact (below_size (by repeat (first | (with_reducible first | exact HB.out | apply below_alloc | apply pw_below_drewN | apply below_drew1 | refine below_set ?_ GE20.out | refine below_set ?_ GE21.out | refine below_set ?_ GE132.out | refine below_set ?_ GE133.out | refine below_set ?_ GE134.out) | exact HB.out))) : w0.heap.size ≤ gb135)); have n9_ := Aside0.mk ((by rw [hg]; exact Nat.ne_of_lt (blk_lt (g := gc1_0) (o := .cells #[.bool a1_0_0] 4 (0, 0)) (by (with_reducible repeat (first | refine blk_drewN ?_ _ | refine blk_drew ?_ | refine blk_alloc ?_ _)); exact BK20.out)) : gc1_0 ≠ gb135)); have n10_ := Aside0.mk ((by rw [hg]; exact Nat.ne_of_gt (blk_lt (g := gc1_0) (o := .cells #[.bool a1_0_0] 4 (0, 0)) (by (with_reducible repeat (first | refine blk_drewN ?_ _ | refine blk_drew ?_ | refine blk_alloc ?_ _)); exact BK20.out)) : gb135 ≠ gc1_0)); have n11_ := Aside0.mk ((by rw [hg]; exact Nat.ne_of_lt (blk_lt (g := gc1_1) (o := .cells #[v0_] 76 (0, 0)) (by (with_reducible repeat (first | refine blk_drewN ?_ _ | refine blk_drew ?_ | refine blk_alloc ?_ _)); exact BK21.out)) : gc1_1 ≠ gb135)); have n12_ := Aside0.mk ((by rw [hg]; exact Nat.ne_of_gt (blk_lt (g := gc1_1) (o := .cells #[v0_] 76 (0, 0)) (by (with_reducible repeat (first | refine blk_drewN ?_ _ | refine blk_drew ?_ | refine blk_alloc ?_ _)); exact BK21.out)) : gb135 ≠ gc1_1)); have n13_ := Aside0.mk ((by rw [hg]; exact Nat.ne_of_lt (blk_lt (g := gb132) (o := .cells #[.int .i64 a0_0, .int .i64 a0_1] 43 (0, 0)) (by (with_reducible repeat (first | refine blk_drewN ?_ _ | refine blk_drew ?_ | refine blk_alloc ?_ _)); exact BK132.out)) : gb132 ≠ gb135)); have n14_ := Aside0.mk ((by rw [hg]; exact Nat.ne_of_gt (blk_lt (g := gb132) (o := .cells #[.int .i64 a0_0, .int .i64 a0_1] 43 (0, 0)) (by (with_reducible repeat (first | refine blk_drewN ?_ _ | refine blk_drew ?_ | refine blk_alloc ?_ _)); exact BK132.out)) : gb135 ≠ gb132)); have n15_ := Aside0.mk ((by rw [hg]; exact Nat.ne_of_lt (blk_lt (g := gb133) (o := .cells #[.int .i64 0, .int .i64 0] 43 (0, 0)) (by (with_reducible repeat (first | refine blk_drewN ?_ _ | refine blk_drew ?_ | refine blk_alloc ?_ _)); exact BK133.out)) : gb133 ≠ gb135)); have n16_ := Aside0.mk ((by rw [hg]; exact Nat.ne_of_gt (blk_lt (g := gb133) (o := .cells #[.int .i64 0, .int .i64 0] 43 (0, 0)) (by (with_reducible repeat (first | refine blk_drewN ?_ _ | refine blk_drew ?_ | refine blk_alloc ?_ _)); exact BK133.out)) : gb135 ≠ gb133)); have n17_ := Aside0.mk ((by rw [hg]; exact Nat.ne_of_lt (blk_lt (g := gb134) (o := .cells #[.int .i64 0, .int .i64 0] 43 (0, 0)) (by (with_reducible repeat (first | refine blk_drewN ?_ _ | refine blk_drew ?_ | refine blk_alloc ?_ _)); exact BK134.out)) : gb134 ≠ gb135)); have n18_ := Aside0.mk ((by rw [hg]; exact Nat.ne_of_gt (blk_lt (g := gb134) (o := .cells #[.int .i64 0, .int .i64 0] 43 (0, 0)) (by (with_reducible repeat (first | refine blk_drewN ?_ _ | refine blk_drew ?_ | refine blk_alloc ?_ _)); exact BK134.out)) : gb135 ≠ gb134)); clear BK20; clear BK21; clear BK132; clear BK133; clear BK134; clear HB; have BK20 := n0_; have BK21 := n1_; have BK132 := n2_; have BK133 := n3_; have BK134 := n4_; have HB := n5_; have BK135 := n6_; have GW135 := n7_; have GE135 := n8_; have NB20_135 := n9_; have NB135_20 := n10_; have NB21_135 := n11_; have NB135_21 := n12_; have NB132_135 := n13_; have NB135_132 := n14_; have NB133_135 := n15_; have NB135_133 := n16_; have NB134_135 := n17_; have NB135_134 := n18_; clear n0_ n1_ n2_ n3_ n4_ n5_ n6_ n7_ n8_ n9_ n10_ n11_ n12_ n13_ n14_ n15_ n16_ n17_ n18_; clear hb hbox hg) | ((with_reducible refine gate_dst (N := 7) rfl ?_); refine box_event ?hg (N := 7) ?hd (cs := #[.int .i64 0, .int .i64 0]) (t := 43) ?hr ?_; (case hd => rfl); (case hg => rfl); (case hr => first | (go_simp; done) | (go_simp; rfl)); intro gb136 hg w7 hbox hb; have HP_ := Aside0.mk (Pt.below (by repeat (first | (with_reducible exact HP.out) | (with_reducible refine Pt.far ?_ GE135.out (Pt.apart HP.out BK135.out) _ _) | (with_reducible refine Pt.far ?_ GE136.out (Pt.apart HP.out BK136.out) _ _) | (with_reducible refine Pt.far ?_ GE133.out (Pt.apart HP.out BK133.out) _ _) | (with_reducible refine Pt.far ?_ GE134.out (Pt.apart HP.out BK134.out) _ _) | (with_reducible refine Pt.far ?_ GE132.out (Pt.apart HP.out BK132.out) _ _) | (with_reducible refine Pt.drew_ ?_))) hb); clear HP; have HP := HP_; clear HP_; have n0_ := Aside0.mk (blk_below (g := gc1_0) (o := .cells #[.bool a1_0_0] 4 (0, 0)) (by (with_reducible repeat (first | refine blk_drewN ?_ _ | refine blk_drew ?_ | refine blk_alloc ?_ _)); exact BK20.out) hb); have n1_ := Aside0.mk (blk_below (g := gc1_1) (o := .cells #[v0_] 76 (0, 0)) (by (with_reducible repeat (first | refine blk_drewN ?_ _ | refine blk_drew ?_ | refine blk_alloc ?_ _)); exact BK21.out) hb); have n2_ := Aside0.mk (blk_below (g := gb132) (o := .cells #[.int .i64 a0_0, .int .i64 a0_1] 43 (0, 0)) (by (with_reducible repeat (first | refine blk_drewN ?_ _ | refine blk_drew ?_ | refine blk_alloc ?_ _)); exact BK132.out) hb); have n3_ := Aside0.mk (blk_below (g := gb133) (o := .cells #[.int .i64 0, .int .i64 0] 43 (0, 0)) (by (with_reducible repeat (first | refine blk_drewN ?_ _ | refine blk_drew ?_ | refine blk_alloc ?_ _)); exact BK133.out) hb); have n4_ := Aside0.mk (blk_below (g := gb134) (o := .cells #[.int .i64 0, .int .i64 0] 43 (0, 0)) (by (with_reducible repeat (first | refine blk_drewN ?_ _ | refine blk_drew ?_ | refine blk_alloc ?_ _)); exact BK134.out) hb); have n5_ := Aside0.mk (blk_below (g := gb135) (o := .cells #[.int .i64 0, .int .i64 0] 43 (0, 0)) (by (with_reducible repeat (first | refine blk_drewN ?_ _ | refine blk_drew ?_ | refine blk_alloc ?_ _)); exact BK135.out) hb); have n6_ := Aside0.mk (below_step (by repeat (first | (with_reducible first | exact HB.out | apply below_alloc | apply pw_below_drewN | apply below_drew1 | refine below_set ?_ GE20.out | refine below_set ?_ GE21.out | refine below_set ?_ GE132.out | refine below_set ?_ GE133.out | refine below_set ?_ GE134.out | refine below_set ?_ GE135.out) | exact HB.out)) hb); have n7_ := Aside0.mk (hbox); have n8_ := Aside0.mk ((by rw [hg]; exact (below_size (by repeat (first | (with_reducible first | exact HB.out | apply below_alloc | apply pw_below_drewN | apply below_drew1 | refine below_set ?_ GE20.out | refine below_set ?_ GE21.out | refine below_set ?_ GE132.out | refine below_set ?_ GE133.out | refine below_set ?_ GE134.out | refine below_set ?_ GE135.out) | exact HB.out))) : w0.heap.size ≤ gb136)); have n9_ := Aside0.mk ((by rw [hg]; exact (below_size (by repeat (first | (with_reducible first | exact HB.out | apply below_alloc | apply pw_below_drewN | apply below_drew1 | refine below_set ?_ GE20.out | refine below_set ?_ GE21.out | refine below_set ?_ GE132.out | refine below_set ?_ GE133.out | refine below_set ?_ GE134.out | refine below_set ?_ GE135.out) | exact HB.out))) : w0.heap.size ≤ gb136)); have n10_ := Aside0.mk ((by rw [hg]; exact Nat.ne_of_lt (blk_lt (g := gc1_0) (o := .cells #[.bool a1_0_0] 4 (0, 0)) (by (with_reducible repeat (first | refine blk_drewN ?_ _ | refine blk_drew ?_ | refine blk_alloc ?_ _)); exact BK20.out)) : gc1_0 ≠ gb136)); have n11_ := Aside0.mk ((by rw [hg]; exact Nat.ne_of_gt (blk_lt (g := gc1_0) (o := .cells #[.bool a1_0_0] 4 (0, 0)) (by (with_reducible repeat (first | refine blk_drewN ?_ _ | refine blk_drew ?_ | refine blk_alloc ?_ _)); exact BK20.out)) : gb136 ≠ gc1_0)); have n12_ := Aside0.mk ((by rw [hg]; exact Nat.ne_of_lt (blk_lt (g := gc1_1) (o := .cells #[v0_] 76 (0, 0)) (by (with_reducible repeat (first | refine blk_drewN ?_ _ | refine blk_drew ?_ | refine blk_alloc ?_ _)); exact BK21.out)) : gc1_1 ≠ gb136)); have n13_ := Aside0.mk ((by rw [hg]; exact Nat.ne_of_gt (blk_lt (g := gc1_1) (o := .cells #[v0_] 76 (0, 0)) (by (with_reducible repeat (first | refine blk_drewN ?_ _ | refine blk_drew ?_ | refine blk_alloc ?_ _)); exact BK21.out)) : gb136 ≠ gc1_1)); have n14_ := Aside0.mk ((by rw [hg]; exact Nat.ne_of_lt (blk_lt (g := gb132) (o := .cells #[.int .i64 a0_0, .int .i64 a0_1] 43 (0, 0)) (by (with_reducible repeat (first | refine blk_drewN ?_ _ | refine blk_drew ?_ | refine blk_alloc ?_ _)); exact BK132.out)) : gb132 ≠ gb136)); have n15_ := Aside0.mk ((by rw [hg]; exact Nat.ne_of_gt (blk_lt (g := gb132) (o := .cells #[.int .i64 a0_0, .int .i64 a0_1] 43 (0, 0)) (by (with_reducible repeat (first | refine blk_drewN ?_ _ | refine blk_drew ?_ | refine blk_alloc ?_ _)); exact BK132.out)) : gb136 ≠ gb132)); have n16_ := Aside0.mk ((by rw [hg]; exact Nat.ne_of_lt (blk_lt (g := gb133) (o := .cells #[.int .i64 0, .int .i64 0] 43 (0, 0)) (by (with_reducible repeat (first | refine blk_drewN ?_ _ | refine blk_drew ?_ | refine blk_alloc ?_ _)); exact BK133.out)) : gb133 ≠ gb136)); have n17_ := Aside0.mk ((by rw [hg]; exact Nat.ne_of_gt (blk_lt (g := gb133) (o := .cells #[.int .i64 0, .int .i64 0] 43 (0, 0)) (by (with_reducible repeat (first | refine blk_drewN ?_ _ | refine blk_drew ?_ | refine blk_alloc ?_ _)); exact BK133.out)) : gb136 ≠ gb133)); have n18_ := Aside0.mk ((by rw [hg]; exact Nat.ne_of_lt (blk_lt (g := gb134) (o := .cells #[.int .i64 0, .int .i64 0] 43 (0, 0)) (by (with_reducible repeat (first | refine blk_drewN ?_ _ | refine blk_drew ?_ | refine blk_alloc ?_ _)); exact BK134.out)) : gb134 ≠ gb136)); have n19_ := Aside0.mk ((by rw [hg]; exact Nat.ne_of_gt (blk_lt (g := gb134) (o := .cells #[.int .i64 0, .int .i64 0] 43 (0, 0)) (by (with_reducible repeat (first | refine blk_drewN ?_ _ | refine blk_drew ?_ | refine blk_alloc ?_ _)); exact BK134.out)) : gb136 ≠ gb134)); have n20_ := Aside0.mk ((by rw [hg]; exact Nat.ne_of_lt (blk_lt (g := gb135) (o := .cells #[.int .i64 0, .int .i64 0] 43 (0, 0)) (by (with_reducible repeat (first | refine blk_drewN ?_ _ | refine blk_drew ?_ | refine blk_alloc ?_ _)); exact BK135.out)) : gb135 ≠ gb136)); have n21_ := Aside0.mk ((by rw [hg]; exact Nat.ne_of_gt (blk_lt (g := gb135) (o := .cells #[.int .i64 0, .int .i64 0] 43 (0, 0)) (by (with_reducible repeat (first | refine blk_drewN ?_ _ | refine blk_drew ?_ | refine blk_alloc ?_ _)); exact BK135.out)) : gb136 ≠ gb135)); clear BK20; clear BK21; clear BK132; clear BK133; clear BK134; clear BK135; clear HB; have BK20 := n0_; have BK21 := n1_; have BK132 := n2_; have BK133 := n3_; have BK134 := n4_; have BK135 := n5_; have HB := n6_; have BK136 := n7_; have GW136 := n8_; have GE136 := n9_; have NB20_136 := n10_; have NB136_20 := n11_; have NB21_136 := n12_; have NB136_21 := n13_; have NB132_136 := n14_; have NB136_132 := n15_; have NB133_136 := n16_; have NB136_133 := n17_; have NB134_136 := n18_; have NB136_134 := n19_; have NB135_136 := n20_; have NB136_135 := n21_; clear n0_ n1_ n2_ n3_ n4_ n5_ n6_ n7_ n8_ n9_ n10_ n11_ n12_ n13_ n14_ n15_ n16_ n17_ n18_ n19_ n20_ n21_; clear hb hbox hg; have hnb8 := NB135_20.out; have hnc8 := NB20_135.out; have hnb9 := NB135_21.out; have hnc9 := NB21_135.out; have hnb10 := NB135_132.out; have hnc10 := NB132_135.out; have hnb11 := NB135_133.out; have hnc11 := NB133_135.out; have hnb12 := NB135_134.out; have hnc12 := NB134_135.out; have hnb13 := NB135_136.out; have hnc13 := NB136_135.out; have hcz14_0 : w7.cell? ⟨gb135, 0, none⟩ = some (.int .i64 0) := (blk_cell BK135.out 0).trans rfl; have hcz14_1 : w7.cell? ⟨gb135, 1, none⟩ = some (.int .i64 0) := (blk_cell BK135.out 1).trans rfl; have hfz14_0 := blk_frozen BK135.out 0; have hfz14_1 := blk_frozen BK135.out 1; have hnb15 := NB136_20.out; have hnc15 := NB20_136.out; have hnb16 := NB136_21.out; have hnc16 := NB21_136.out; have hnb17 := NB136_132.out; have hnc17 := NB132_136.out; have hnb18 := NB136_133.out; have hnc18 := NB133_136.out; have hnb19 := NB136_134.out; have hnc19 := NB134_136.out; have hcz20_0 : w7.cell? ⟨gb136, 0, none⟩ = some (.int .i64 0) := (blk_cell BK136.out 0).trans rfl; have hcz20_1 : w7.cell? ⟨gb136, 1, none⟩ = some (.int .i64 0) := (blk_cell BK136.out 1).trans rfl; have hfz20_0 := blk_frozen BK136.out 0; have hfz20_1 := blk_frozen BK136.out 1))
  go_loopg [] k (fun kq w' => ∃ (ft_1 : Bool) (ot_1 : List Int) (vt_1 : Value) (x134000_1 : Int) (x134001_1 : Int) (x135000_1 : Int) (x135001_1 : Int) (x136000_1 : Int) (x136001_1 : Int) (x137000_1 : Int) (x137001_1 : Int), Aside0 (impl_descend_s0.l0 kq ft_1 ot_1 a0_0 a0_1 x136000_1 x136001_1 x137000_1 x137001_1 = some (r1, r2, r3, r4, ro, rf)) ∧ Aside0 (kq ≤ k) ∧ Aside0 (w'.heap[gc1_0]? = some (.cells #[.bool ft_1] 4 (0, 0))) ∧ Aside0 (w'.heap[gc1_1]? = some (.cells #[vt_1] 76 (0, 0))) ∧ Aside0 (w'.heap[gb132]? = some (.cells #[.int .i64 a0_0, .int .i64 a0_1] 43 (0, 0))) ∧ Aside0 (w'.heap[gb133]? = some (.cells #[.int .i64 x134000_1, .int .i64 x134001_1] 43 (0, 0))) ∧ Aside0 (w'.heap[gb134]? = some (.cells #[.int .i64 x135000_1, .int .i64 x135001_1] 43 (0, 0))) ∧ Aside0 (w'.heap[gb135]? = some (.cells #[.int .i64 x136000_1, .int .i64 x136001_1] 43 (0, 0))) ∧ Aside0 (w'.heap[gb136]? = some (.cells #[.int .i64 x137000_1, .int .i64 x137001_1] 43 (0, 0))) ∧ Aside0 (Below w0.heap.size w0 w') ∧ Aside0 (Pt w0 gc1_1 gc1_0 w' vt_1 ot_1 ft_1))
  case atStart => exact ⟨a1_0_0, l1_1_0, v0_, (0), (0), (0), (0), (0), (1), (1), (0), H', ⟨Nat.le_refl _⟩, ⟨by (with_reducible repeat (first | refine blk_drewN ?_ _ | refine blk_drew ?_ | refine blk_alloc ?_ _)); refine blk_far ?_ NB20_136.out _; (with_reducible repeat (first | refine blk_drewN ?_ _ | refine blk_drew ?_ | refine blk_alloc ?_ _)); refine blk_far ?_ NB20_136.out _; (with_reducible repeat (first | refine blk_drewN ?_ _ | refine blk_drew ?_ | refine blk_alloc ?_ _)); refine blk_far ?_ NB20_135.out _; (with_reducible repeat (first | refine blk_drewN ?_ _ | refine blk_drew ?_ | refine blk_alloc ?_ _)); refine blk_far ?_ NB20_135.out _; (with_reducible repeat (first | refine blk_drewN ?_ _ | refine blk_drew ?_ | refine blk_alloc ?_ _)); exact BK20.out⟩, ⟨by (with_reducible repeat (first | refine blk_drewN ?_ _ | refine blk_drew ?_ | refine blk_alloc ?_ _)); refine blk_far ?_ NB21_136.out _; (with_reducible repeat (first | refine blk_drewN ?_ _ | refine blk_drew ?_ | refine blk_alloc ?_ _)); refine blk_far ?_ NB21_136.out _; (with_reducible repeat (first | refine blk_drewN ?_ _ | refine blk_drew ?_ | refine blk_alloc ?_ _)); refine blk_far ?_ NB21_135.out _; (with_reducible repeat (first | refine blk_drewN ?_ _ | refine blk_drew ?_ | refine blk_alloc ?_ _)); refine blk_far ?_ NB21_135.out _; (with_reducible repeat (first | refine blk_drewN ?_ _ | refine blk_drew ?_ | refine blk_alloc ?_ _)); exact BK21.out⟩, ⟨by (with_reducible repeat (first | refine blk_drewN ?_ _ | refine blk_drew ?_ | refine blk_alloc ?_ _)); refine blk_far ?_ NB132_136.out _; (with_reducible repeat (first | refine blk_drewN ?_ _ | refine blk_drew ?_ | refine blk_alloc ?_ _)); refine blk_far ?_ NB132_136.out _; (with_reducible repeat (first | refine blk_drewN ?_ _ | refine blk_drew ?_ | refine blk_alloc ?_ _)); refine blk_far ?_ NB132_135.out _; (with_reducible repeat (first | refine blk_drewN ?_ _ | refine blk_drew ?_ | refine blk_alloc ?_ _)); refine blk_far ?_ NB132_135.out _; (with_reducible repeat (first | refine blk_drewN ?_ _ | refine blk_drew ?_ | refine blk_alloc ?_ _)); exact BK132.out⟩, ⟨by (with_reducible repeat (first | refine blk_drewN ?_ _ | refine blk_drew ?_ | refine blk_alloc ?_ _)); refine blk_far ?_ NB133_136.out _; (with_reducible repeat (first | refine blk_drewN ?_ _ | refine blk_drew ?_ | refine blk_alloc ?_ _)); refine blk_far ?_ NB133_136.out _; (with_reducible repeat (first | refine blk_drewN ?_ _ | refine blk_drew ?_ | refine blk_alloc ?_ _)); refine blk_far ?_ NB133_135.out _; (with_reducible repeat (first | refine blk_drewN ?_ _ | refine blk_drew ?_ | refine blk_alloc ?_ _)); refine blk_far ?_ NB133_135.out _; (with_reducible repeat (first | refine blk_drewN ?_ _ | refine blk_drew ?_ | refine blk_alloc ?_ _)); exact BK133.out⟩, ⟨by (with_reducible repeat (first | refine blk_drewN ?_ _ | refine blk_drew ?_ | refine blk_alloc ?_ _)); refine blk_far ?_ NB134_136.out _; (with_reducible repeat (first | refine blk_drewN ?_ _ | refine blk_drew ?_ | refine blk_alloc ?_ _)); refine blk_far ?_ NB134_136.out _; (with_reducible repeat (first | refine blk_drewN ?_ _ | refine blk_drew ?_ | refine blk_alloc ?_ _)); refine blk_far ?_ NB134_135.out _; (with_reducible repeat (first | refine blk_drewN ?_ _ | refine blk_drew ?_ | refine blk_alloc ?_ _)); refine blk_far ?_ NB134_135.out _; (with_reducible repeat (first | refine blk_drewN ?_ _ | refine blk_drew ?_ | refine blk_alloc ?_ _)); exact BK134.out⟩, ⟨by (with_reducible repeat (first | refine blk_drewN ?_ _ | refine blk_drew ?_ | refine blk_alloc ?_ _)); refine blk_far ?_ NB135_136.out _; (with_reducible repeat (first | refine blk_drewN ?_ _ | refine blk_drew ?_ | refine blk_alloc ?_ _)); refine blk_far ?_ NB135_136.out _; (with_reducible repeat (first | refine blk_drewN ?_ _ | refine blk_drew ?_ | refine blk_alloc ?_ _)); refine blk_put (cs := #[.int .i64 0, .int .i64 0]) ?_ 1 _ rfl; (with_reducible repeat (first | refine blk_drewN ?_ _ | refine blk_drew ?_ | refine blk_alloc ?_ _)); refine blk_put (cs := #[.int .i64 0, .int .i64 0]) ?_ 0 _ rfl; (with_reducible repeat (first | refine blk_drewN ?_ _ | refine blk_drew ?_ | refine blk_alloc ?_ _)); exact BK135.out⟩, ⟨by (with_reducible repeat (first | refine blk_drewN ?_ _ | refine blk_drew ?_ | refine blk_alloc ?_ _)); refine blk_put (cs := #[.int .i64 1, .int .i64 0]) ?_ 1 _ rfl; (with_reducible repeat (first | refine blk_drewN ?_ _ | refine blk_drew ?_ | refine blk_alloc ?_ _)); refine blk_put (cs := #[.int .i64 0, .int .i64 0]) ?_ 0 _ rfl; (with_reducible repeat (first | refine blk_drewN ?_ _ | refine blk_drew ?_ | refine blk_alloc ?_ _)); refine blk_far ?_ NB136_135.out _; (with_reducible repeat (first | refine blk_drewN ?_ _ | refine blk_drew ?_ | refine blk_alloc ?_ _)); refine blk_far ?_ NB136_135.out _; (with_reducible repeat (first | refine blk_drewN ?_ _ | refine blk_drew ?_ | refine blk_alloc ?_ _)); exact BK136.out⟩, ⟨by repeat (first | (with_reducible first | exact HB.out | apply below_alloc | apply pw_below_drewN | apply below_drew1 | refine below_set ?_ GE20.out | refine below_set ?_ GE21.out | refine below_set ?_ GE132.out | refine below_set ?_ GE133.out | refine below_set ?_ GE134.out | refine below_set ?_ GE135.out | refine below_set ?_ GE136.out) | exact HB.out)⟩, ⟨(by repeat (first | (with_reducible exact HP.out) | (with_reducible refine Pt.far ?_ GE135.out (Pt.apart HP.out BK135.out) _ _) | (with_reducible refine Pt.far ?_ GE136.out (Pt.apart HP.out BK136.out) _ _) | (with_reducible refine Pt.far ?_ GE133.out (Pt.apart HP.out BK133.out) _ _) | (with_reducible refine Pt.far ?_ GE134.out (Pt.apart HP.out BK134.out) _ _) | (with_reducible refine Pt.far ?_ GE132.out (Pt.apart HP.out BK132.out) _ _) | (with_reducible refine Pt.drew_ ?_)))⟩⟩
  case round =>
    clear H'
    try clear c1
    try clear p2
    try clear c5
    try clear c8
    try clear c9
    try clear c10
    try clear c11
    try clear c12
    try clear c13
    try clear c15
    try clear c16
    try clear c17
    try clear c18
    try clear c19
    try clear hcz14_0
    try clear hcz14_1
    try clear hcz20_0
    try clear hcz20_1
    try clear hfz14_0
    try clear hfz14_1
    try clear hfz20_0
    try clear hfz20_1
    obtain ⟨ft_1, ot_1, vt_1, x134000_1, x134001_1, x135000_1, x135001_1, x136000_1, x136001_1, x137000_1, x137001_1, HA, HK1, BK20, BK21, BK132, BK133, BK134, BK135, BK136, HB, HP⟩ := hrel
    cases gk with
    | zero => exact absurd HA.out (by simp [impl_descend_s0.l0])
    | succ k1 =>
      have H := HA.out
      clear HA
      simp only [impl_descend_s0.l0] at H
      replace H := Option.bind_eq_some_iff.mp H
      obtain ⟨t137, A210, H⟩ := H
      replace H : ((impl_cross.f a0_0 a0_1 x137000_1 x137001_1).bind fun t138 => (if t137 = t138 then (some (x136000_1, x136001_1, x137000_1, x137001_1, ot_1, ft_1)) else (if t137 > t138 then (if t138 = 0 then (none) else ((pgTell 114 (wrap64 (Int.tdiv (wrap64 (t137 - 1)) t138)) ot_1 ft_1).bind fun bt9 => (impl_descend_s0.l0 k1 bt9.2 bt9.1 a0_0 a0_1 (wrap64 (x136000_1 + (wrap64 ((wrap64 (Int.tdiv (wrap64 (t137 - 1)) t138)) * x137000_1)))) (wrap64 (x136001_1 + (wrap64 ((wrap64 (Int.tdiv (wrap64 (t137 - 1)) t138)) * x137001_1)))) x137000_1 x137001_1))) else (if t137 = 0 then (none) else ((pgTell 108 (wrap64 (Int.tdiv (wrap64 (t138 - 1)) t137)) ot_1 ft_1).bind fun bt9 => (impl_descend_s0.l0 k1 bt9.2 bt9.1 a0_0 a0_1 x136000_1 x136001_1 (wrap64 (x137000_1 + (wrap64 ((wrap64 (Int.tdiv (wrap64 (t138 - 1)) t137)) * x136000_1)))) (wrap64 (x137001_1 + (wrap64 ((wrap64 (Int.tdiv (wrap64 (t138 - 1)) t137)) * x136001_1)))))))))) = some (r1, r2, r3, r4, ro, rf) := H
      have A21 := Aside0.mk A210
      clear A210
      replace H := Option.bind_eq_some_iff.mp H
      obtain ⟨t138, A220, H⟩ := H
      replace H : (if t137 = t138 then (some (x136000_1, x136001_1, x137000_1, x137001_1, ot_1, ft_1)) else (if t137 > t138 then (if t138 = 0 then (none) else ((pgTell 114 (wrap64 (Int.tdiv (wrap64 (t137 - 1)) t138)) ot_1 ft_1).bind fun bt9 => (impl_descend_s0.l0 k1 bt9.2 bt9.1 a0_0 a0_1 (wrap64 (x136000_1 + (wrap64 ((wrap64 (Int.tdiv (wrap64 (t137 - 1)) t138)) * x137000_1)))) (wrap64 (x136001_1 + (wrap64 ((wrap64 (Int.tdiv (wrap64 (t137 - 1)) t138)) * x137001_1)))) x137000_1 x137001_1))) else (if t137 = 0 then (none) else ((pgTell 108 (wrap64 (Int.tdiv (wrap64 (t138 - 1)) t137)) ot_1 ft_1).bind fun bt9 => (impl_descend_s0.l0 k1 bt9.2 bt9.1 a0_0 a0_1 x136000_1 x136001_1 (wrap64 (x137000_1 + (wrap64 ((wrap64 (Int.tdiv (wrap64 (t138 - 1)) t137)) * x136000_1)))) (wrap64 (x137001_1 + (wrap64 ((wrap64 (Int.tdiv (wrap64 (t138 - 1)) t137)) * x136001_1))))))))) = some (r1, r2, r3, r4, ro, rf) := H
      have A22 := Aside0.mk A220
      clear A220
      by_cases c23 : t137 = t138
      · rw [if_pos c23] at H
        have c23b0 : (t137 == t138) = true := beq_iff_eq.mpr c23
        have c23b1 : (t137 != t138) = false := bne_eq_false_iff_eq.mpr c23
        clear c23
        simp only [Option.some.injEq, Prod.mk.injEq] at H
        obtain ⟨rfl, rfl, rfl, rfl, rfl, rfl⟩ := H
        try go_wp2
        have HP_ := Aside0.mk (Pt.drew_ HP.out)
        clear HP
        have HP := HP_
        clear HP_
        have n0_ := Aside0.mk (blk_drew BK20.out)
        have n1_ := Aside0.mk (blk_drew BK21.out)
        have n2_ := Aside0.mk (blk_drew BK132.out)
        have n3_ := Aside0.mk (blk_drew BK133.out)
        have n4_ := Aside0.mk (blk_drew BK134.out)
        have n5_ := Aside0.mk (blk_drew BK135.out)
        have n6_ := Aside0.mk (blk_drew BK136.out)
        have n7_ := Aside0.mk (below_drew1 HB.out)
        clear BK20
        clear BK21
        clear BK132
        clear BK133
        clear BK134
        clear BK135
        clear BK136
        clear HB
        have BK20 := n0_
        have BK21 := n1_
        have BK132 := n2_
        have BK133 := n3_
        have BK134 := n4_
        have BK135 := n5_
        have BK136 := n6_
        have HB := n7_
        clear n0_ n1_ n2_ n3_ n4_ n5_ n6_ n7_
        refine start_ (n := 8) (S := fun w' => w'.cell? ⟨gb135, 0, none⟩ = some (.int .i64 x136000_1) ∧ w'.cell? ⟨gb135, 1, none⟩ = some (.int .i64 x136001_1) ∧ w'.cell? ⟨gb132, 0, none⟩ = some (.int .i64 a0_0) ∧ w'.cell? ⟨gb132, 1, none⟩ = some (.int .i64 a0_1) ∧ w'.cell? ⟨gb136, 0, none⟩ = some (.int .i64 x137000_1) ∧ w'.cell? ⟨gb136, 1, none⟩ = some (.int .i64 x137001_1)) (ds := []) #[false, false, false, false, false, false, false, false] (by kernel_rfl) rfl rfl ⟨(blk_cell BK135.out 0).trans rfl, (blk_cell BK135.out 1).trans rfl, (blk_cell BK132.out 0).trans rfl, (blk_cell BK132.out 1).trans rfl, (blk_cell BK136.out 0).trans rfl, (blk_cell BK136.out 1).trans rfl⟩ (fun hHeld => ?_); refine with_tabW impl_descend_s0.tab2 impl_descend_s0.bits2 (fun HT_ HW_ => ?_)
        generalize wr.drew = w24 at BK20 BK21 BK132 BK133 BK134 BK135 BK136 HB HP hHeld ⊢
        refine take_ (i := 0) (N := some 14) (v := ?_) (a' := ?_) #[true, false, false, false, false, false, false, false] rfl rfl (take_ofW HT_.out HW_.out (by kernel_rfl)) (fun _ _ _ h => h) (Or.inl ⟨by rfl, ?_⟩) hHeld ?_ ?_
        rotate_left
        · rintro w' ⟨s0, s1, s2, s3, s4, s5⟩
          go_simp
          with_reducible rfl
        rotate_left
        · simp only [Act.put, List.setIfInBounds_toArray, List.set_cons_zero, List.set_cons_succ, i64_w, i32_w]
          rfl
        refine take_ (i := 1) (N := some 15) (v := ?_) (a' := ?_) #[true, true, false, false, false, false, false, false] rfl rfl (take_ofW HT_.out HW_.out (by kernel_rfl)) (fun _ _ _ h => h) (Or.inl ⟨by rfl, ?_⟩) hHeld ?_ ?_
        rotate_left
        · rintro w' ⟨s0, s1, s2, s3, s4, s5⟩
          go_simp
          with_reducible rfl
        rotate_left
        · simp only [Act.put, List.setIfInBounds_toArray, List.set_cons_zero, List.set_cons_succ, i64_w, i32_w]
          rfl
        refine take_ (i := 3) (N := some 17) (v := ?_) (a' := ?_) #[true, true, false, true, false, false, false, false] rfl rfl (take_ofW HT_.out HW_.out (by kernel_rfl)) (fun _ _ _ h => h) (Or.inl ⟨by rfl, ?_⟩) hHeld ?_ ?_
        rotate_left
        · rintro w' ⟨s0, s1, s2, s3, s4, s5⟩
          go_simp
          with_reducible rfl
        rotate_left
        · simp only [Act.put, List.setIfInBounds_toArray, List.set_cons_zero, List.set_cons_succ, i64_w, i32_w]
          rfl
        refine take_ (i := 4) (N := some 18) (v := ?_) (a' := ?_) #[true, true, false, true, true, false, false, false] rfl rfl (take_ofW HT_.out HW_.out (by kernel_rfl)) (fun _ _ _ h => h) (Or.inl ⟨by rfl, ?_⟩) hHeld ?_ ?_
        rotate_left
        · rintro w' ⟨s0, s1, s2, s3, s4, s5⟩
          go_simp
          with_reducible rfl
        rotate_left
        · simp only [Act.put, List.setIfInBounds_toArray, List.set_cons_zero, List.set_cons_succ, i64_w, i32_w]
          rfl
        refine one_ (i := 2) (N := some 16) #[true, true, true, true, true, false, false, false] rfl rfl (one_of HT_.out (by kernel_rfl)) (by decide) (fun K hK => ?_)
        refine goes_ Try.func49 (by kernel_rfl) rfl #[.agg #[.int .i64 x136000_1, .int .i64 x136001_1], .agg #[.int .i64 a0_0, .int .i64 a0_1]] (by rfl) rfl rfl (by (try simp only [List.map_toArray, List.map_cons, List.map_nil]); first | done | rfl | (simp only [List.length_drop, List.length_take]; rfl)) ?_
        with_reducible refine (impl_cross.calls x136000_1 x136001_1 a0_0 a0_1 t137 _ A21.out).mono ?_
        rintro e w25 ⟨rfl, hb⟩
        refine ⟨_, rfl, ?_⟩
        have HP_ := Aside0.mk (Pt.below (by repeat (first | (with_reducible exact HP.out) | (with_reducible refine Pt.far ?_ GE135.out (Pt.apart HP.out BK135.out) _ _) | (with_reducible refine Pt.far ?_ GE136.out (Pt.apart HP.out BK136.out) _ _) | (with_reducible refine Pt.far ?_ GE133.out (Pt.apart HP.out BK133.out) _ _) | (with_reducible refine Pt.far ?_ GE134.out (Pt.apart HP.out BK134.out) _ _) | (with_reducible refine Pt.far ?_ GE132.out (Pt.apart HP.out BK132.out) _ _) | (with_reducible refine Pt.drew_ ?_))) hb)
        clear HP
        have HP := HP_
        clear HP_
        have n0_ := Aside0.mk (blk_below (g := gc1_0) (o := .cells #[.bool ft_1] 4 (0, 0)) (by (with_reducible repeat (first | refine blk_drewN ?_ _ | refine blk_drew ?_ | refine blk_alloc ?_ _)); exact BK20.out) hb)
        have n1_ := Aside0.mk (blk_below (g := gc1_1) (o := .cells #[vt_1] 76 (0, 0)) (by (with_reducible repeat (first | refine blk_drewN ?_ _ | refine blk_drew ?_ | refine blk_alloc ?_ _)); exact BK21.out) hb)
        have n2_ := Aside0.mk (blk_below (g := gb132) (o := .cells #[.int .i64 a0_0, .int .i64 a0_1] 43 (0, 0)) (by (with_reducible repeat (first | refine blk_drewN ?_ _ | refine blk_drew ?_ | refine blk_alloc ?_ _)); exact BK132.out) hb)
        have n3_ := Aside0.mk (blk_below (g := gb133) (o := .cells #[.int .i64 x134000_1, .int .i64 x134001_1] 43 (0, 0)) (by (with_reducible repeat (first | refine blk_drewN ?_ _ | refine blk_drew ?_ | refine blk_alloc ?_ _)); exact BK133.out) hb)
        have n4_ := Aside0.mk (blk_below (g := gb134) (o := .cells #[.int .i64 x135000_1, .int .i64 x135001_1] 43 (0, 0)) (by (with_reducible repeat (first | refine blk_drewN ?_ _ | refine blk_drew ?_ | refine blk_alloc ?_ _)); exact BK134.out) hb)
        have n5_ := Aside0.mk (blk_below (g := gb135) (o := .cells #[.int .i64 x136000_1, .int .i64 x136001_1] 43 (0, 0)) (by (with_reducible repeat (first | refine blk_drewN ?_ _ | refine blk_drew ?_ | refine blk_alloc ?_ _)); exact BK135.out) hb)
        have n6_ := Aside0.mk (blk_below (g := gb136) (o := .cells #[.int .i64 x137000_1, .int .i64 x137001_1] 43 (0, 0)) (by (with_reducible repeat (first | refine blk_drewN ?_ _ | refine blk_drew ?_ | refine blk_alloc ?_ _)); exact BK136.out) hb)
        have n7_ := Aside0.mk (below_step (by repeat (first | (with_reducible first | exact HB.out | apply below_alloc | apply pw_below_drewN | apply below_drew1 | refine below_set ?_ GE20.out | refine below_set ?_ GE21.out | refine below_set ?_ GE132.out | refine below_set ?_ GE133.out | refine below_set ?_ GE134.out | refine below_set ?_ GE135.out | refine below_set ?_ GE136.out) | exact HB.out)) hb)
        clear BK20
        clear BK21
        clear BK132
        clear BK133
        clear BK134
        clear BK135
        clear BK136
        clear HB
        have BK20 := n0_
        have BK21 := n1_
        have BK132 := n2_
        have BK133 := n3_
        have BK134 := n4_
        have BK135 := n5_
        have BK136 := n6_
        have HB := n7_
        clear n0_ n1_ n2_ n3_ n4_ n5_ n6_ n7_
        (try clear hb)
        (try clear hb2)
        (try clear hk)
        (try clear hi)
        refine hK.out _ _ ⟨(blk_cell BK135.out 0).trans rfl, (blk_cell BK135.out 1).trans rfl, (blk_cell BK132.out 0).trans rfl, (blk_cell BK132.out 1).trans rfl, (blk_cell BK136.out 0).trans rfl, (blk_cell BK136.out 1).trans rfl⟩ (fun hHeld => ?_)
        clear hK K
        refine norm_ (a' := ?_) ?_ ?_
        rotate_left
        · show Act.put _ (some 16) _ = _
          simp only [Act.put, List.setIfInBounds_toArray, List.set_cons_zero, List.set_cons_succ, i64_w, i32_w]
          rfl
        refine one_ (i := 5) (N := some 19) #[true, true, true, true, true, true, false, false] rfl rfl (one_of HT_.out (by kernel_rfl)) (by decide) (fun K hK => ?_)
        refine goes_ Try.func49 (by kernel_rfl) rfl #[.agg #[.int .i64 a0_0, .int .i64 a0_1], .agg #[.int .i64 x137000_1, .int .i64 x137001_1]] (by rfl) rfl rfl (by (try simp only [List.map_toArray, List.map_cons, List.map_nil]); first | done | rfl | (simp only [List.length_drop, List.length_take]; rfl)) ?_
        with_reducible refine (impl_cross.calls a0_0 a0_1 x137000_1 x137001_1 t138 _ A22.out).mono ?_
        rintro e w26 ⟨rfl, hb⟩
        refine ⟨_, rfl, ?_⟩
        have HP_ := Aside0.mk (Pt.below (by repeat (first | (with_reducible exact HP.out) | (with_reducible refine Pt.far ?_ GE135.out (Pt.apart HP.out BK135.out) _ _) | (with_reducible refine Pt.far ?_ GE136.out (Pt.apart HP.out BK136.out) _ _) | (with_reducible refine Pt.far ?_ GE133.out (Pt.apart HP.out BK133.out) _ _) | (with_reducible refine Pt.far ?_ GE134.out (Pt.apart HP.out BK134.out) _ _) | (with_reducible refine Pt.far ?_ GE132.out (Pt.apart HP.out BK132.out) _ _) | (with_reducible refine Pt.drew_ ?_))) hb)
        clear HP
        have HP := HP_
        clear HP_
        have n0_ := Aside0.mk (blk_below (g := gc1_0) (o := .cells #[.bool ft_1] 4 (0, 0)) (by (with_reducible repeat (first | refine blk_drewN ?_ _ | refine blk_drew ?_ | refine blk_alloc ?_ _)); exact BK20.out) hb)
        have n1_ := Aside0.mk (blk_below (g := gc1_1) (o := .cells #[vt_1] 76 (0, 0)) (by (with_reducible repeat (first | refine blk_drewN ?_ _ | refine blk_drew ?_ | refine blk_alloc ?_ _)); exact BK21.out) hb)
        have n2_ := Aside0.mk (blk_below (g := gb132) (o := .cells #[.int .i64 a0_0, .int .i64 a0_1] 43 (0, 0)) (by (with_reducible repeat (first | refine blk_drewN ?_ _ | refine blk_drew ?_ | refine blk_alloc ?_ _)); exact BK132.out) hb)
        have n3_ := Aside0.mk (blk_below (g := gb133) (o := .cells #[.int .i64 x134000_1, .int .i64 x134001_1] 43 (0, 0)) (by (with_reducible repeat (first | refine blk_drewN ?_ _ | refine blk_drew ?_ | refine blk_alloc ?_ _)); exact BK133.out) hb)
        have n4_ := Aside0.mk (blk_below (g := gb134) (o := .cells #[.int .i64 x135000_1, .int .i64 x135001_1] 43 (0, 0)) (by (with_reducible repeat (first | refine blk_drewN ?_ _ | refine blk_drew ?_ | refine blk_alloc ?_ _)); exact BK134.out) hb)
        have n5_ := Aside0.mk (blk_below (g := gb135) (o := .cells #[.int .i64 x136000_1, .int .i64 x136001_1] 43 (0, 0)) (by (with_reducible repeat (first | refine blk_drewN ?_ _ | refine blk_drew ?_ | refine blk_alloc ?_ _)); exact BK135.out) hb)
        have n6_ := Aside0.mk (blk_below (g := gb136) (o := .cells #[.int .i64 x137000_1, .int .i64 x137001_1] 43 (0, 0)) (by (with_reducible repeat (first | refine blk_drewN ?_ _ | refine blk_drew ?_ | refine blk_alloc ?_ _)); exact BK136.out) hb)
        have n7_ := Aside0.mk (below_step (by repeat (first | (with_reducible first | exact HB.out | apply below_alloc | apply pw_below_drewN | apply below_drew1 | refine below_set ?_ GE20.out | refine below_set ?_ GE21.out | refine below_set ?_ GE132.out | refine below_set ?_ GE133.out | refine below_set ?_ GE134.out | refine below_set ?_ GE135.out | refine below_set ?_ GE136.out) | exact HB.out)) hb)
        clear BK20
        clear BK21
        clear BK132
        clear BK133
        clear BK134
        clear BK135
        clear BK136
        clear HB
        have BK20 := n0_
        have BK21 := n1_
        have BK132 := n2_
        have BK133 := n3_
        have BK134 := n4_
        have BK135 := n5_
        have BK136 := n6_
        have HB := n7_
        clear n0_ n1_ n2_ n3_ n4_ n5_ n6_ n7_
        (try clear hb)
        (try clear hb2)
        (try clear hk)
        (try clear hi)
        refine hK.out _ _ ⟨(blk_cell BK135.out 0).trans rfl, (blk_cell BK135.out 1).trans rfl, (blk_cell BK132.out 0).trans rfl, (blk_cell BK132.out 1).trans rfl, (blk_cell BK136.out 0).trans rfl, (blk_cell BK136.out 1).trans rfl⟩ (fun hHeld => ?_)
        clear hK K
        refine norm_ (a' := ?_) ?_ ?_
        rotate_left
        · show Act.put _ (some 19) _ = _
          simp only [Act.put, List.setIfInBounds_toArray, List.set_cons_zero, List.set_cons_succ, i64_w, i32_w]
          rfl
        refine pure_ (i := 6) (N := some 8) (v := ?_) (a' := ?_) #[true, true, true, true, true, true, true, false] rfl rfl (any_of HT_.out (by kernel_rfl)) (fun _ _ _ h => h) (Or.inl ⟨by rfl, ?_⟩) ?_ ?_
        rotate_left
        · intro w'
          go_simp
          with_reducible rfl
        rotate_left
        · simp only [Act.put, List.setIfInBounds_toArray, List.set_cons_zero, List.set_cons_succ, i64_w, i32_w]
          rfl
        refine pure_ (i := 7) (N := some 9) (v := ?_) (a' := ?_) #[true, true, true, true, true, true, true, true] rfl rfl (any_of HT_.out (by kernel_rfl)) (fun _ _ _ h => h) (Or.inl ⟨by rfl, ?_⟩) ?_ ?_
        rotate_left
        · intro w'
          go_simp
          with_reducible rfl
        rotate_left
        · simp only [Act.put, List.setIfInBounds_toArray, List.set_cons_zero, List.set_cons_succ, i64_w, i32_w]
          rfl
        refine done_ (done_of HT_.out (by kernel_rfl)) ?_
        try go_wp2
        have HP_ := Aside0.mk (Pt.drew_ HP.out)
        clear HP
        have HP := HP_
        clear HP_
        have n0_ := Aside0.mk (blk_drew BK20.out)
        have n1_ := Aside0.mk (blk_drew BK21.out)
        have n2_ := Aside0.mk (blk_drew BK132.out)
        have n3_ := Aside0.mk (blk_drew BK133.out)
        have n4_ := Aside0.mk (blk_drew BK134.out)
        have n5_ := Aside0.mk (blk_drew BK135.out)
        have n6_ := Aside0.mk (blk_drew BK136.out)
        have n7_ := Aside0.mk (below_drew1 HB.out)
        clear BK20
        clear BK21
        clear BK132
        clear BK133
        clear BK134
        clear BK135
        clear BK136
        clear HB
        have BK20 := n0_
        have BK21 := n1_
        have BK132 := n2_
        have BK133 := n3_
        have BK134 := n4_
        have BK135 := n5_
        have BK136 := n6_
        have HB := n7_
        clear n0_ n1_ n2_ n3_ n4_ n5_ n6_ n7_
        refine start_ (n := 4) (S := fun w' => w'.cell? ⟨gb135, 0, none⟩ = some (.int .i64 x136000_1) ∧ w'.cell? ⟨gb135, 1, none⟩ = some (.int .i64 x136001_1) ∧ w'.cell? ⟨gb136, 0, none⟩ = some (.int .i64 x137000_1) ∧ w'.cell? ⟨gb136, 1, none⟩ = some (.int .i64 x137001_1)) (ds := []) #[false, false, false, false] (by kernel_rfl) rfl rfl ⟨(blk_cell BK135.out 0).trans rfl, (blk_cell BK135.out 1).trans rfl, (blk_cell BK136.out 0).trans rfl, (blk_cell BK136.out 1).trans rfl⟩ (fun hHeld => ?_)
        generalize w26.drew = w27 at BK20 BK21 BK132 BK133 BK134 BK135 BK136 HB HP hHeld ⊢
        refine take_ (i := 0) (N := some 46) (v := ?_) (a' := ?_) #[true, false, false, false] rfl rfl (by kernel_rfl) (fun _ _ _ h => h) (Or.inl ⟨by rfl, ?_⟩) hHeld ?_ ?_
        rotate_left
        · rintro w' ⟨s0, s1, s2, s3⟩
          go_simp
          with_reducible rfl
        rotate_left
        · simp only [Act.put, List.setIfInBounds_toArray, List.set_cons_zero, List.set_cons_succ, i64_w, i32_w]
          rfl
        refine take_ (i := 1) (N := some 47) (v := ?_) (a' := ?_) #[true, true, false, false] rfl rfl (by kernel_rfl) (fun _ _ _ h => h) (Or.inl ⟨by rfl, ?_⟩) hHeld ?_ ?_
        rotate_left
        · rintro w' ⟨s0, s1, s2, s3⟩
          go_simp
          with_reducible rfl
        rotate_left
        · simp only [Act.put, List.setIfInBounds_toArray, List.set_cons_zero, List.set_cons_succ, i64_w, i32_w]
          rfl
        refine one_ (i := 2) (N := none) #[true, true, true, false] rfl rfl (by kernel_rfl) (by decide) (fun K hK => ?_)
        have hs28 : w27.cell? ⟨gb133, 0, none⟩ = some (.int .i64 x134000_1) := (blk_cell BK133.out 0).trans rfl
        have hfs28 := blk_frozen BK133.out 0
        have hns28_0 := NB20_133.out
        have hns28_1 := NB21_133.out
        have hns28_2 := NB132_133.out
        have hns28_4 := NB134_133.out
        have hns28_5 := NB135_133.out
        have hns28_6 := NB136_133.out
        have hms28_0 := NB133_20.out
        have hms28_1 := NB133_21.out
        have hms28_2 := NB133_132.out
        have hms28_4 := NB133_134.out
        have hms28_5 := NB133_135.out
        have hms28_6 := NB133_136.out
        have hs29 : w27.cell? ⟨gb133, 1, none⟩ = some (.int .i64 x134001_1) := (blk_cell BK133.out 1).trans rfl
        have hfs29 := blk_frozen BK133.out 1
        have hns29_0 := NB20_133.out
        have hns29_1 := NB21_133.out
        have hns29_2 := NB132_133.out
        have hns29_4 := NB134_133.out
        have hns29_5 := NB135_133.out
        have hns29_6 := NB136_133.out
        have hms29_0 := NB133_20.out
        have hms29_1 := NB133_21.out
        have hms29_2 := NB133_132.out
        have hms29_4 := NB133_134.out
        have hms29_5 := NB133_135.out
        have hms29_6 := NB133_136.out
        refine skip_ (w1 := ?_) (by rfl) rfl ?_ ?_
        rotate_left
        · go_simp
          rfl
        refine hK.out _ _ ⟨((cell_far (p := ⟨gb133, _, none⟩) NB135_133.out _).trans (((cell_far (p := ⟨gb133, _, none⟩) NB135_133.out _).trans (hHeld.1)))), ((cell_far (p := ⟨gb133, _, none⟩) NB135_133.out _).trans (((cell_far (p := ⟨gb133, _, none⟩) NB135_133.out _).trans (hHeld.2.1)))), ((cell_far (p := ⟨gb133, _, none⟩) NB136_133.out _).trans (((cell_far (p := ⟨gb133, _, none⟩) NB136_133.out _).trans (hHeld.2.2.1)))), ((cell_far (p := ⟨gb133, _, none⟩) NB136_133.out _).trans (((cell_far (p := ⟨gb133, _, none⟩) NB136_133.out _).trans (hHeld.2.2.2))))⟩ (fun hHeld => ?_)
        clear hK K
        refine one_ (i := 3) (N := none) #[true, true, true, true] rfl rfl (by kernel_rfl) (by decide) (fun K hK => ?_)
        have hs30 : w27.cell? ⟨gb134, 0, none⟩ = some (.int .i64 x135000_1) := (blk_cell BK134.out 0).trans rfl
        have hfs30 := blk_frozen BK134.out 0
        have hns30_0 := NB20_134.out
        have hns30_1 := NB21_134.out
        have hns30_2 := NB132_134.out
        have hns30_3 := NB133_134.out
        have hns30_5 := NB135_134.out
        have hns30_6 := NB136_134.out
        have hms30_0 := NB134_20.out
        have hms30_1 := NB134_21.out
        have hms30_2 := NB134_132.out
        have hms30_3 := NB134_133.out
        have hms30_5 := NB134_135.out
        have hms30_6 := NB134_136.out
        have hs31 : w27.cell? ⟨gb134, 1, none⟩ = some (.int .i64 x135001_1) := (blk_cell BK134.out 1).trans rfl
        have hfs31 := blk_frozen BK134.out 1
        have hns31_0 := NB20_134.out
        have hns31_1 := NB21_134.out
        have hns31_2 := NB132_134.out
        have hns31_3 := NB133_134.out
        have hns31_5 := NB135_134.out
        have hns31_6 := NB136_134.out
        have hms31_0 := NB134_20.out
        have hms31_1 := NB134_21.out
        have hms31_2 := NB134_132.out
        have hms31_3 := NB134_133.out
        have hms31_5 := NB134_135.out
        have hms31_6 := NB134_136.out
        refine skip_ (w1 := ?_) (by rfl) rfl ?_ ?_
        rotate_left
        · go_simp
          rfl
        refine hK.out _ _ ⟨((cell_far (p := ⟨gb134, _, none⟩) NB135_134.out _).trans (((cell_far (p := ⟨gb134, _, none⟩) NB135_134.out _).trans (hHeld.1)))), ((cell_far (p := ⟨gb134, _, none⟩) NB135_134.out _).trans (((cell_far (p := ⟨gb134, _, none⟩) NB135_134.out _).trans (hHeld.2.1)))), ((cell_far (p := ⟨gb134, _, none⟩) NB136_134.out _).trans (((cell_far (p := ⟨gb134, _, none⟩) NB136_134.out _).trans (hHeld.2.2.1)))), ((cell_far (p := ⟨gb134, _, none⟩) NB136_134.out _).trans (((cell_far (p := ⟨gb134, _, none⟩) NB136_134.out _).trans (hHeld.2.2.2))))⟩ (fun hHeld => ?_)
        clear hK K
        refine done_ (by kernel_rfl) ?_
        try go_wp2
        refine bodyPost_ret (results_cc rfl _ _ gb133 gb134 43 43 #[.int .i64 x136000_1, .int .i64 x136001_1] #[.int .i64 x137000_1, .int .i64 x137001_1] (0, 0) (0, 0) _ _ rfl (by (with_reducible repeat (first | refine blk_drewN ?_ _ | refine blk_drew ?_ | refine blk_alloc ?_ _)); refine blk_far ?_ NB133_134.out _; (with_reducible repeat (first | refine blk_drewN ?_ _ | refine blk_drew ?_ | refine blk_alloc ?_ _)); refine blk_far ?_ NB133_134.out _; (with_reducible repeat (first | refine blk_drewN ?_ _ | refine blk_drew ?_ | refine blk_alloc ?_ _)); refine blk_put (cs := #[.int .i64 x136000_1, .int .i64 x134001_1]) ?_ 1 _ rfl; (with_reducible repeat (first | refine blk_drewN ?_ _ | refine blk_drew ?_ | refine blk_alloc ?_ _)); refine blk_put (cs := #[.int .i64 x134000_1, .int .i64 x134001_1]) ?_ 0 _ rfl; (with_reducible repeat (first | refine blk_drewN ?_ _ | refine blk_drew ?_ | refine blk_alloc ?_ _)); exact BK133.out) Try.underlying43 rfl (by kernel_rfl) rfl (by (with_reducible repeat (first | refine blk_drewN ?_ _ | refine blk_drew ?_ | refine blk_alloc ?_ _)); refine blk_put (cs := #[.int .i64 x137000_1, .int .i64 x135001_1]) ?_ 1 _ rfl; (with_reducible repeat (first | refine blk_drewN ?_ _ | refine blk_drew ?_ | refine blk_alloc ?_ _)); refine blk_put (cs := #[.int .i64 x135000_1, .int .i64 x135001_1]) ?_ 0 _ rfl; (with_reducible repeat (first | refine blk_drewN ?_ _ | refine blk_drew ?_ | refine blk_alloc ?_ _)); refine blk_far ?_ NB134_133.out _; (with_reducible repeat (first | refine blk_drewN ?_ _ | refine blk_drew ?_ | refine blk_alloc ?_ _)); refine blk_far ?_ NB134_133.out _; (with_reducible repeat (first | refine blk_drewN ?_ _ | refine blk_drew ?_ | refine blk_alloc ?_ _)); exact BK134.out) Try.underlying43 rfl (by kernel_rfl)) rfl ?_
        exact ⟨by first | rfl | (simp [errW_none, errW_some] <;> rfl) | (simp [*, errW_none, errW_some] <;> rfl), vt_1, (by repeat (first | (with_reducible exact HP.out) | (with_reducible refine Pt.far ?_ GE135.out (Pt.apart HP.out BK135.out) _ _) | (with_reducible refine Pt.far ?_ GE136.out (Pt.apart HP.out BK136.out) _ _) | (with_reducible refine Pt.far ?_ GE133.out (Pt.apart HP.out BK133.out) _ _) | (with_reducible refine Pt.far ?_ GE134.out (Pt.apart HP.out BK134.out) _ _) | (with_reducible refine Pt.far ?_ GE132.out (Pt.apart HP.out BK132.out) _ _) | (with_reducible refine Pt.drew_ ?_)))⟩
      · rw [if_neg c23] at H
        have c23b0 : (t137 == t138) = false := beq_eq_false_iff_ne.mpr c23
        have c23b1 : (t137 != t138) = true := bne_iff_ne.mpr c23
        by_cases c32 : t137 > t138
        · rw [if_pos c32] at H
          have c32b0 : decide (t138 < t137) = true := decide_eq_true c32
          clear c32
          by_cases c33 : t138 = 0
          · rw [if_pos c33] at H
            exact absurd H (by simp)
          · rw [if_neg c33] at H
            have c33b0 : (t138 == 0) = false := beq_eq_false_iff_ne.mpr c33
            have c33b1 : (t138 != 0) = true := bne_iff_ne.mpr c33
            replace H := Option.bind_eq_some_iff.mp H
            obtain ⟨⟨o9_, f9_⟩, A340, H⟩ := H
            replace H : (impl_descend_s0.l0 k1 f9_ o9_ a0_0 a0_1 (wrap64 (x136000_1 + (wrap64 ((wrap64 (Int.tdiv (wrap64 (t137 - 1)) t138)) * x137000_1)))) (wrap64 (x136001_1 + (wrap64 ((wrap64 (Int.tdiv (wrap64 (t137 - 1)) t138)) * x137001_1)))) x137000_1 x137001_1) = some (r1, r2, r3, r4, ro, rf) := H
            have A34 := Aside0.mk A340
            clear A340
            have H' := Aside0.mk H
            clear H
            try go_wp2
            have HP_ := Aside0.mk (Pt.drew_ HP.out)
            clear HP
            have HP := HP_
            clear HP_
            have n0_ := Aside0.mk (blk_drew BK20.out)
            have n1_ := Aside0.mk (blk_drew BK21.out)
            have n2_ := Aside0.mk (blk_drew BK132.out)
            have n3_ := Aside0.mk (blk_drew BK133.out)
            have n4_ := Aside0.mk (blk_drew BK134.out)
            have n5_ := Aside0.mk (blk_drew BK135.out)
            have n6_ := Aside0.mk (blk_drew BK136.out)
            have n7_ := Aside0.mk (below_drew1 HB.out)
            clear BK20
            clear BK21
            clear BK132
            clear BK133
            clear BK134
            clear BK135
            clear BK136
            clear HB
            have BK20 := n0_
            have BK21 := n1_
            have BK132 := n2_
            have BK133 := n3_
            have BK134 := n4_
            have BK135 := n5_
            have BK136 := n6_
            have HB := n7_
            clear n0_ n1_ n2_ n3_ n4_ n5_ n6_ n7_
            refine start_ (n := 8) (S := fun w' => w'.cell? ⟨gb135, 0, none⟩ = some (.int .i64 x136000_1) ∧ w'.cell? ⟨gb135, 1, none⟩ = some (.int .i64 x136001_1) ∧ w'.cell? ⟨gb132, 0, none⟩ = some (.int .i64 a0_0) ∧ w'.cell? ⟨gb132, 1, none⟩ = some (.int .i64 a0_1) ∧ w'.cell? ⟨gb136, 0, none⟩ = some (.int .i64 x137000_1) ∧ w'.cell? ⟨gb136, 1, none⟩ = some (.int .i64 x137001_1)) (ds := []) #[false, false, false, false, false, false, false, false] (by kernel_rfl) rfl rfl ⟨(blk_cell BK135.out 0).trans rfl, (blk_cell BK135.out 1).trans rfl, (blk_cell BK132.out 0).trans rfl, (blk_cell BK132.out 1).trans rfl, (blk_cell BK136.out 0).trans rfl, (blk_cell BK136.out 1).trans rfl⟩ (fun hHeld => ?_); refine with_tabW impl_descend_s0.tab2 impl_descend_s0.bits2 (fun HT_ HW_ => ?_)
            generalize wr.drew = w35 at BK20 BK21 BK132 BK133 BK134 BK135 BK136 HB HP hHeld ⊢
            refine take_ (i := 0) (N := some 14) (v := ?_) (a' := ?_) #[true, false, false, false, false, false, false, false] rfl rfl (take_ofW HT_.out HW_.out (by kernel_rfl)) (fun _ _ _ h => h) (Or.inl ⟨by rfl, ?_⟩) hHeld ?_ ?_
            rotate_left
            · rintro w' ⟨s0, s1, s2, s3, s4, s5⟩
              go_simp
              with_reducible rfl
            rotate_left
            · simp only [Act.put, List.setIfInBounds_toArray, List.set_cons_zero, List.set_cons_succ, i64_w, i32_w]
              rfl
            refine take_ (i := 1) (N := some 15) (v := ?_) (a' := ?_) #[true, true, false, false, false, false, false, false] rfl rfl (take_ofW HT_.out HW_.out (by kernel_rfl)) (fun _ _ _ h => h) (Or.inl ⟨by rfl, ?_⟩) hHeld ?_ ?_
            rotate_left
            · rintro w' ⟨s0, s1, s2, s3, s4, s5⟩
              go_simp
              with_reducible rfl
            rotate_left
            · simp only [Act.put, List.setIfInBounds_toArray, List.set_cons_zero, List.set_cons_succ, i64_w, i32_w]
              rfl
            refine take_ (i := 3) (N := some 17) (v := ?_) (a' := ?_) #[true, true, false, true, false, false, false, false] rfl rfl (take_ofW HT_.out HW_.out (by kernel_rfl)) (fun _ _ _ h => h) (Or.inl ⟨by rfl, ?_⟩) hHeld ?_ ?_
            rotate_left
            · rintro w' ⟨s0, s1, s2, s3, s4, s5⟩
              go_simp
              with_reducible rfl
            rotate_left
            · simp only [Act.put, List.setIfInBounds_toArray, List.set_cons_zero, List.set_cons_succ, i64_w, i32_w]
              rfl
            refine take_ (i := 4) (N := some 18) (v := ?_) (a' := ?_) #[true, true, false, true, true, false, false, false] rfl rfl (take_ofW HT_.out HW_.out (by kernel_rfl)) (fun _ _ _ h => h) (Or.inl ⟨by rfl, ?_⟩) hHeld ?_ ?_
            rotate_left
            · rintro w' ⟨s0, s1, s2, s3, s4, s5⟩
              go_simp
              with_reducible rfl
            rotate_left
            · simp only [Act.put, List.setIfInBounds_toArray, List.set_cons_zero, List.set_cons_succ, i64_w, i32_w]
              rfl
            refine one_ (i := 2) (N := some 16) #[true, true, true, true, true, false, false, false] rfl rfl (one_of HT_.out (by kernel_rfl)) (by decide) (fun K hK => ?_)
            refine goes_ Try.func49 (by kernel_rfl) rfl #[.agg #[.int .i64 x136000_1, .int .i64 x136001_1], .agg #[.int .i64 a0_0, .int .i64 a0_1]] (by rfl) rfl rfl (by (try simp only [List.map_toArray, List.map_cons, List.map_nil]); first | done | rfl | (simp only [List.length_drop, List.length_take]; rfl)) ?_
            with_reducible refine (impl_cross.calls x136000_1 x136001_1 a0_0 a0_1 t137 _ A21.out).mono ?_
            rintro e w36 ⟨rfl, hb⟩
            refine ⟨_, rfl, ?_⟩
            have HP_ := Aside0.mk (Pt.below (by repeat (first | (with_reducible exact HP.out) | (with_reducible refine Pt.far ?_ GE135.out (Pt.apart HP.out BK135.out) _ _) | (with_reducible refine Pt.far ?_ GE136.out (Pt.apart HP.out BK136.out) _ _) | (with_reducible refine Pt.far ?_ GE133.out (Pt.apart HP.out BK133.out) _ _) | (with_reducible refine Pt.far ?_ GE134.out (Pt.apart HP.out BK134.out) _ _) | (with_reducible refine Pt.far ?_ GE132.out (Pt.apart HP.out BK132.out) _ _) | (with_reducible refine Pt.drew_ ?_))) hb)
            clear HP
            have HP := HP_
            clear HP_
            have n0_ := Aside0.mk (blk_below (g := gc1_0) (o := .cells #[.bool ft_1] 4 (0, 0)) (by (with_reducible repeat (first | refine blk_drewN ?_ _ | refine blk_drew ?_ | refine blk_alloc ?_ _)); exact BK20.out) hb)
            have n1_ := Aside0.mk (blk_below (g := gc1_1) (o := .cells #[vt_1] 76 (0, 0)) (by (with_reducible repeat (first | refine blk_drewN ?_ _ | refine blk_drew ?_ | refine blk_alloc ?_ _)); exact BK21.out) hb)
            have n2_ := Aside0.mk (blk_below (g := gb132) (o := .cells #[.int .i64 a0_0, .int .i64 a0_1] 43 (0, 0)) (by (with_reducible repeat (first | refine blk_drewN ?_ _ | refine blk_drew ?_ | refine blk_alloc ?_ _)); exact BK132.out) hb)
            have n3_ := Aside0.mk (blk_below (g := gb133) (o := .cells #[.int .i64 x134000_1, .int .i64 x134001_1] 43 (0, 0)) (by (with_reducible repeat (first | refine blk_drewN ?_ _ | refine blk_drew ?_ | refine blk_alloc ?_ _)); exact BK133.out) hb)
            have n4_ := Aside0.mk (blk_below (g := gb134) (o := .cells #[.int .i64 x135000_1, .int .i64 x135001_1] 43 (0, 0)) (by (with_reducible repeat (first | refine blk_drewN ?_ _ | refine blk_drew ?_ | refine blk_alloc ?_ _)); exact BK134.out) hb)
            have n5_ := Aside0.mk (blk_below (g := gb135) (o := .cells #[.int .i64 x136000_1, .int .i64 x136001_1] 43 (0, 0)) (by (with_reducible repeat (first | refine blk_drewN ?_ _ | refine blk_drew ?_ | refine blk_alloc ?_ _)); exact BK135.out) hb)
            have n6_ := Aside0.mk (blk_below (g := gb136) (o := .cells #[.int .i64 x137000_1, .int .i64 x137001_1] 43 (0, 0)) (by (with_reducible repeat (first | refine blk_drewN ?_ _ | refine blk_drew ?_ | refine blk_alloc ?_ _)); exact BK136.out) hb)
            have n7_ := Aside0.mk (below_step (by repeat (first | (with_reducible first | exact HB.out | apply below_alloc | apply pw_below_drewN | apply below_drew1 | refine below_set ?_ GE20.out | refine below_set ?_ GE21.out | refine below_set ?_ GE132.out | refine below_set ?_ GE133.out | refine below_set ?_ GE134.out | refine below_set ?_ GE135.out | refine below_set ?_ GE136.out) | exact HB.out)) hb)
            clear BK20
            clear BK21
            clear BK132
            clear BK133
            clear BK134
            clear BK135
            clear BK136
            clear HB
            have BK20 := n0_
            have BK21 := n1_
            have BK132 := n2_
            have BK133 := n3_
            have BK134 := n4_
            have BK135 := n5_
            have BK136 := n6_
            have HB := n7_
            clear n0_ n1_ n2_ n3_ n4_ n5_ n6_ n7_
            (try clear hb)
            (try clear hb2)
            (try clear hk)
            (try clear hi)
            refine hK.out _ _ ⟨(blk_cell BK135.out 0).trans rfl, (blk_cell BK135.out 1).trans rfl, (blk_cell BK132.out 0).trans rfl, (blk_cell BK132.out 1).trans rfl, (blk_cell BK136.out 0).trans rfl, (blk_cell BK136.out 1).trans rfl⟩ (fun hHeld => ?_)
            clear hK K
            refine norm_ (a' := ?_) ?_ ?_
            rotate_left
            · show Act.put _ (some 16) _ = _
              simp only [Act.put, List.setIfInBounds_toArray, List.set_cons_zero, List.set_cons_succ, i64_w, i32_w]
              rfl
            refine one_ (i := 5) (N := some 19) #[true, true, true, true, true, true, false, false] rfl rfl (one_of HT_.out (by kernel_rfl)) (by decide) (fun K hK => ?_)
            refine goes_ Try.func49 (by kernel_rfl) rfl #[.agg #[.int .i64 a0_0, .int .i64 a0_1], .agg #[.int .i64 x137000_1, .int .i64 x137001_1]] (by rfl) rfl rfl (by (try simp only [List.map_toArray, List.map_cons, List.map_nil]); first | done | rfl | (simp only [List.length_drop, List.length_take]; rfl)) ?_
            with_reducible refine (impl_cross.calls a0_0 a0_1 x137000_1 x137001_1 t138 _ A22.out).mono ?_
            rintro e w37 ⟨rfl, hb⟩
            refine ⟨_, rfl, ?_⟩
            have HP_ := Aside0.mk (Pt.below (by repeat (first | (with_reducible exact HP.out) | (with_reducible refine Pt.far ?_ GE135.out (Pt.apart HP.out BK135.out) _ _) | (with_reducible refine Pt.far ?_ GE136.out (Pt.apart HP.out BK136.out) _ _) | (with_reducible refine Pt.far ?_ GE133.out (Pt.apart HP.out BK133.out) _ _) | (with_reducible refine Pt.far ?_ GE134.out (Pt.apart HP.out BK134.out) _ _) | (with_reducible refine Pt.far ?_ GE132.out (Pt.apart HP.out BK132.out) _ _) | (with_reducible refine Pt.drew_ ?_))) hb)
            clear HP
            have HP := HP_
            clear HP_
            have n0_ := Aside0.mk (blk_below (g := gc1_0) (o := .cells #[.bool ft_1] 4 (0, 0)) (by (with_reducible repeat (first | refine blk_drewN ?_ _ | refine blk_drew ?_ | refine blk_alloc ?_ _)); exact BK20.out) hb)
            have n1_ := Aside0.mk (blk_below (g := gc1_1) (o := .cells #[vt_1] 76 (0, 0)) (by (with_reducible repeat (first | refine blk_drewN ?_ _ | refine blk_drew ?_ | refine blk_alloc ?_ _)); exact BK21.out) hb)
            have n2_ := Aside0.mk (blk_below (g := gb132) (o := .cells #[.int .i64 a0_0, .int .i64 a0_1] 43 (0, 0)) (by (with_reducible repeat (first | refine blk_drewN ?_ _ | refine blk_drew ?_ | refine blk_alloc ?_ _)); exact BK132.out) hb)
            have n3_ := Aside0.mk (blk_below (g := gb133) (o := .cells #[.int .i64 x134000_1, .int .i64 x134001_1] 43 (0, 0)) (by (with_reducible repeat (first | refine blk_drewN ?_ _ | refine blk_drew ?_ | refine blk_alloc ?_ _)); exact BK133.out) hb)
            have n4_ := Aside0.mk (blk_below (g := gb134) (o := .cells #[.int .i64 x135000_1, .int .i64 x135001_1] 43 (0, 0)) (by (with_reducible repeat (first | refine blk_drewN ?_ _ | refine blk_drew ?_ | refine blk_alloc ?_ _)); exact BK134.out) hb)
            have n5_ := Aside0.mk (blk_below (g := gb135) (o := .cells #[.int .i64 x136000_1, .int .i64 x136001_1] 43 (0, 0)) (by (with_reducible repeat (first | refine blk_drewN ?_ _ | refine blk_drew ?_ | refine blk_alloc ?_ _)); exact BK135.out) hb)
            have n6_ := Aside0.mk (blk_below (g := gb136) (o := .cells #[.int .i64 x137000_1, .int .i64 x137001_1] 43 (0, 0)) (by (with_reducible repeat (first | refine blk_drewN ?_ _ | refine blk_drew ?_ | refine blk_alloc ?_ _)); exact BK136.out) hb)
            have n7_ := Aside0.mk (below_step (by repeat (first | (with_reducible first | exact HB.out | apply below_alloc | apply pw_below_drewN | apply below_drew1 | refine below_set ?_ GE20.out | refine below_set ?_ GE21.out | refine below_set ?_ GE132.out | refine below_set ?_ GE133.out | refine below_set ?_ GE134.out | refine below_set ?_ GE135.out | refine below_set ?_ GE136.out) | exact HB.out)) hb)
            clear BK20
            clear BK21
            clear BK132
            clear BK133
            clear BK134
            clear BK135
            clear BK136
            clear HB
            have BK20 := n0_
            have BK21 := n1_
            have BK132 := n2_
            have BK133 := n3_
            have BK134 := n4_
            have BK135 := n5_
            have BK136 := n6_
            have HB := n7_
            clear n0_ n1_ n2_ n3_ n4_ n5_ n6_ n7_
            (try clear hb)
            (try clear hb2)
            (try clear hk)
            (try clear hi)
            refine hK.out _ _ ⟨(blk_cell BK135.out 0).trans rfl, (blk_cell BK135.out 1).trans rfl, (blk_cell BK132.out 0).trans rfl, (blk_cell BK132.out 1).trans rfl, (blk_cell BK136.out 0).trans rfl, (blk_cell BK136.out 1).trans rfl⟩ (fun hHeld => ?_)
            clear hK K
            refine norm_ (a' := ?_) ?_ ?_
            rotate_left
            · show Act.put _ (some 19) _ = _
              simp only [Act.put, List.setIfInBounds_toArray, List.set_cons_zero, List.set_cons_succ, i64_w, i32_w]
              rfl
            refine pure_ (i := 6) (N := some 8) (v := ?_) (a' := ?_) #[true, true, true, true, true, true, true, false] rfl rfl (any_of HT_.out (by kernel_rfl)) (fun _ _ _ h => h) (Or.inl ⟨by rfl, ?_⟩) ?_ ?_
            rotate_left
            · intro w'
              go_simp
              with_reducible rfl
            rotate_left
            · simp only [Act.put, List.setIfInBounds_toArray, List.set_cons_zero, List.set_cons_succ, i64_w, i32_w]
              rfl
            refine pure_ (i := 7) (N := some 9) (v := ?_) (a' := ?_) #[true, true, true, true, true, true, true, true] rfl rfl (any_of HT_.out (by kernel_rfl)) (fun _ _ _ h => h) (Or.inl ⟨by rfl, ?_⟩) ?_ ?_
            rotate_left
            · intro w'
              go_simp
              with_reducible rfl
            rotate_left
            · simp only [Act.put, List.setIfInBounds_toArray, List.set_cons_zero, List.set_cons_succ, i64_w, i32_w]
              rfl
            refine done_ (done_of HT_.out (by kernel_rfl)) ?_
            have hnb38 := NB135_20.out
            have hnc38 := NB20_135.out
            have hnb39 := NB135_21.out
            have hnc39 := NB21_135.out
            have hnb40 := NB135_132.out
            have hnc40 := NB132_135.out
            have hnb41 := NB135_133.out
            have hnc41 := NB133_135.out
            have hnb42 := NB135_134.out
            have hnc42 := NB134_135.out
            have hnb43 := NB135_136.out
            have hnc43 := NB136_135.out
            have hcz44_0 : w37.cell? ⟨gb135, 0, none⟩ = some (.int .i64 x136000_1) := (blk_cell BK135.out 0).trans rfl
            have hcz44_1 : w37.cell? ⟨gb135, 1, none⟩ = some (.int .i64 x136001_1) := (blk_cell BK135.out 1).trans rfl
            have hfz44_0 := blk_frozen BK135.out 0
            have hfz44_1 := blk_frozen BK135.out 1
            have hnb45 := NB136_20.out
            have hnc45 := NB20_136.out
            have hnb46 := NB136_21.out
            have hnc46 := NB21_136.out
            have hnb47 := NB136_132.out
            have hnc47 := NB132_136.out
            have hnb48 := NB136_133.out
            have hnc48 := NB133_136.out
            have hnb49 := NB136_134.out
            have hnc49 := NB134_136.out
            have hcz50_0 : w37.cell? ⟨gb136, 0, none⟩ = some (.int .i64 x137000_1) := (blk_cell BK136.out 0).trans rfl
            have hcz50_1 : w37.cell? ⟨gb136, 1, none⟩ = some (.int .i64 x137001_1) := (blk_cell BK136.out 1).trans rfl
            have hfz50_0 := blk_frozen BK136.out 0
            have hfz50_1 := blk_frozen BK136.out 1
            go_wp2_with (first | (go_at_call 60; (with_reducible refine (tell_calls 114 (wrap64 (Int.tdiv (wrap64 (t137 - 1)) t138)) gc1_1 gc1_0 vt_1 ot_1 o9_ ft_1 f9_ w0 _ ?side1 A34.out).mono ?_); (case side1 => exact (by repeat (first | (with_reducible exact HP.out) | (with_reducible refine Pt.far ?_ GE135.out (Pt.apart HP.out BK135.out) _ _) | (with_reducible refine Pt.far ?_ GE136.out (Pt.apart HP.out BK136.out) _ _) | (with_reducible refine Pt.far ?_ GE133.out (Pt.apart HP.out BK133.out) _ _) | (with_reducible refine Pt.far ?_ GE134.out (Pt.apart HP.out BK134.out) _ _) | (with_reducible refine Pt.far ?_ GE132.out (Pt.apart HP.out BK132.out) _ _) | (with_reducible refine Pt.drew_ ?_)))); rintro e w51 ⟨rfl, v9_, hp9, hk9⟩; have n0_ := Aside0.mk hp9.b5; have n1_ := Aside0.mk hp9.b4; have n2_ := Aside0.mk (hk9 gb132 (#[.int .i64 a0_0, .int .i64 a0_1]) (by (with_reducible repeat (first | refine blk_drewN ?_ _ | refine blk_drew ?_ | refine blk_alloc ?_ _)); refine blk_far ?_ NB132_135.out _; (with_reducible repeat (first | refine blk_drewN ?_ _ | refine blk_drew ?_ | refine blk_alloc ?_ _)); refine blk_far ?_ NB132_135.out _; (with_reducible repeat (first | refine blk_drewN ?_ _ | refine blk_drew ?_ | refine blk_alloc ?_ _)); exact BK132.out)); have n3_ := Aside0.mk (hk9 gb133 (#[.int .i64 x134000_1, .int .i64 x134001_1]) (by (with_reducible repeat (first | refine blk_drewN ?_ _ | refine blk_drew ?_ | refine blk_alloc ?_ _)); refine blk_far ?_ NB133_135.out _; (with_reducible repeat (first | refine blk_drewN ?_ _ | refine blk_drew ?_ | refine blk_alloc ?_ _)); refine blk_far ?_ NB133_135.out _; (with_reducible repeat (first | refine blk_drewN ?_ _ | refine blk_drew ?_ | refine blk_alloc ?_ _)); exact BK133.out)); have n4_ := Aside0.mk (hk9 gb134 (#[.int .i64 x135000_1, .int .i64 x135001_1]) (by (with_reducible repeat (first | refine blk_drewN ?_ _ | refine blk_drew ?_ | refine blk_alloc ?_ _)); refine blk_far ?_ NB134_135.out _; (with_reducible repeat (first | refine blk_drewN ?_ _ | refine blk_drew ?_ | refine blk_alloc ?_ _)); refine blk_far ?_ NB134_135.out _; (with_reducible repeat (first | refine blk_drewN ?_ _ | refine blk_drew ?_ | refine blk_alloc ?_ _)); exact BK134.out)); have n5_ := Aside0.mk (hk9 gb135 (#[.int .i64 (wrap64 (x136000_1 + (wrap64 ((wrap64 (Int.tdiv (wrap64 (t137 - 1)) t138)) * x137000_1)))), .int .i64 (wrap64 (x136001_1 + (wrap64 ((wrap64 (Int.tdiv (wrap64 (t137 - 1)) t138)) * x137001_1))))]) (by (with_reducible repeat (first | refine blk_drewN ?_ _ | refine blk_drew ?_ | refine blk_alloc ?_ _)); refine blk_put (cs := #[.int .i64 (wrap64 (x136000_1 + (wrap64 ((wrap64 (Int.tdiv (wrap64 (t137 - 1)) t138)) * x137000_1)))), .int .i64 x136001_1]) ?_ 1 _ rfl; (with_reducible repeat (first | refine blk_drewN ?_ _ | refine blk_drew ?_ | refine blk_alloc ?_ _)); refine blk_put (cs := #[.int .i64 x136000_1, .int .i64 x136001_1]) ?_ 0 _ rfl; (with_reducible repeat (first | refine blk_drewN ?_ _ | refine blk_drew ?_ | refine blk_alloc ?_ _)); exact BK135.out)); have n6_ := Aside0.mk (hk9 gb136 (#[.int .i64 x137000_1, .int .i64 x137001_1]) (by (with_reducible repeat (first | refine blk_drewN ?_ _ | refine blk_drew ?_ | refine blk_alloc ?_ _)); refine blk_far ?_ NB136_135.out _; (with_reducible repeat (first | refine blk_drewN ?_ _ | refine blk_drew ?_ | refine blk_alloc ?_ _)); refine blk_far ?_ NB136_135.out _; (with_reducible repeat (first | refine blk_drewN ?_ _ | refine blk_drew ?_ | refine blk_alloc ?_ _)); exact BK136.out)); have n7_ := Aside0.mk hp9.bel; have HP_ := Aside0.mk hp9; clear HP; have HP := HP_; clear HP_; clear hp9 hk9; clear BK20; clear BK21; clear BK132; clear BK133; clear BK134; clear BK135; clear BK136; clear HB; have BK20 := n0_; have BK21 := n1_; have BK132 := n2_; have BK133 := n3_; have BK134 := n4_; have BK135 := n5_; have BK136 := n6_; have HB := n7_; clear n0_ n1_ n2_ n3_ n4_ n5_ n6_ n7_; (try clear hb); (try clear hb2); (try clear hk); (try clear hi)))
            go_roundg k1
            case measure => have := HK1.out; omega
            case rel => exact ⟨f9_, o9_, v9_, (x134000_1), (x134001_1), (x135000_1), (x135001_1), (wrap64 (x136000_1 + (wrap64 ((wrap64 (Int.tdiv (wrap64 (t137 - 1)) t138)) * x137000_1)))), (wrap64 (x136001_1 + (wrap64 ((wrap64 (Int.tdiv (wrap64 (t137 - 1)) t138)) * x137001_1)))), (x137000_1), (x137001_1), H', ⟨by have := HK1.out; omega⟩, ⟨by (with_reducible repeat (first | refine blk_drewN ?_ _ | refine blk_drew ?_ | refine blk_alloc ?_ _)); exact BK20.out⟩, ⟨by (with_reducible repeat (first | refine blk_drewN ?_ _ | refine blk_drew ?_ | refine blk_alloc ?_ _)); exact BK21.out⟩, ⟨by (with_reducible repeat (first | refine blk_drewN ?_ _ | refine blk_drew ?_ | refine blk_alloc ?_ _)); exact BK132.out⟩, ⟨by (with_reducible repeat (first | refine blk_drewN ?_ _ | refine blk_drew ?_ | refine blk_alloc ?_ _)); exact BK133.out⟩, ⟨by (with_reducible repeat (first | refine blk_drewN ?_ _ | refine blk_drew ?_ | refine blk_alloc ?_ _)); exact BK134.out⟩, ⟨by (with_reducible repeat (first | refine blk_drewN ?_ _ | refine blk_drew ?_ | refine blk_alloc ?_ _)); exact BK135.out⟩, ⟨by (with_reducible repeat (first | refine blk_drewN ?_ _ | refine blk_drew ?_ | refine blk_alloc ?_ _)); exact BK136.out⟩, ⟨by repeat (first | (with_reducible first | exact HB.out | apply below_alloc | apply pw_below_drewN | apply below_drew1 | refine below_set ?_ GE20.out | refine below_set ?_ GE21.out | refine below_set ?_ GE132.out | refine below_set ?_ GE133.out | refine below_set ?_ GE134.out | refine below_set ?_ GE135.out | refine below_set ?_ GE136.out) | exact HB.out)⟩, ⟨(by repeat (first | (with_reducible exact HP.out) | (with_reducible refine Pt.far ?_ GE135.out (Pt.apart HP.out BK135.out) _ _) | (with_reducible refine Pt.far ?_ GE136.out (Pt.apart HP.out BK136.out) _ _) | (with_reducible refine Pt.far ?_ GE133.out (Pt.apart HP.out BK133.out) _ _) | (with_reducible refine Pt.far ?_ GE134.out (Pt.apart HP.out BK134.out) _ _) | (with_reducible refine Pt.far ?_ GE132.out (Pt.apart HP.out BK132.out) _ _) | (with_reducible refine Pt.drew_ ?_)))⟩⟩
        · rw [if_neg c32] at H
          have c32b0 : decide (t138 < t137) = false := decide_eq_false c32
          clear c32
          by_cases c52 : t137 = 0
          · rw [if_pos c52] at H
            exact absurd H (by simp)
          · rw [if_neg c52] at H
            have c52b0 : (t137 == 0) = false := beq_eq_false_iff_ne.mpr c52
            have c52b1 : (t137 != 0) = true := bne_iff_ne.mpr c52
            replace H := Option.bind_eq_some_iff.mp H
            obtain ⟨⟨o9_, f9_⟩, A530, H⟩ := H
            replace H : (impl_descend_s0.l0 k1 f9_ o9_ a0_0 a0_1 x136000_1 x136001_1 (wrap64 (x137000_1 + (wrap64 ((wrap64 (Int.tdiv (wrap64 (t138 - 1)) t137)) * x136000_1)))) (wrap64 (x137001_1 + (wrap64 ((wrap64 (Int.tdiv (wrap64 (t138 - 1)) t137)) * x136001_1))))) = some (r1, r2, r3, r4, ro, rf) := H
            have A53 := Aside0.mk A530
            clear A530
            have H' := Aside0.mk H
            clear H
            try go_wp2
            have HP_ := Aside0.mk (Pt.drew_ HP.out)
            clear HP
            have HP := HP_
            clear HP_
            have n0_ := Aside0.mk (blk_drew BK20.out)
            have n1_ := Aside0.mk (blk_drew BK21.out)
            have n2_ := Aside0.mk (blk_drew BK132.out)
            have n3_ := Aside0.mk (blk_drew BK133.out)
            have n4_ := Aside0.mk (blk_drew BK134.out)
            have n5_ := Aside0.mk (blk_drew BK135.out)
            have n6_ := Aside0.mk (blk_drew BK136.out)
            have n7_ := Aside0.mk (below_drew1 HB.out)
            clear BK20
            clear BK21
            clear BK132
            clear BK133
            clear BK134
            clear BK135
            clear BK136
            clear HB
            have BK20 := n0_
            have BK21 := n1_
            have BK132 := n2_
            have BK133 := n3_
            have BK134 := n4_
            have BK135 := n5_
            have BK136 := n6_
            have HB := n7_
            clear n0_ n1_ n2_ n3_ n4_ n5_ n6_ n7_
            refine start_ (n := 8) (S := fun w' => w'.cell? ⟨gb135, 0, none⟩ = some (.int .i64 x136000_1) ∧ w'.cell? ⟨gb135, 1, none⟩ = some (.int .i64 x136001_1) ∧ w'.cell? ⟨gb132, 0, none⟩ = some (.int .i64 a0_0) ∧ w'.cell? ⟨gb132, 1, none⟩ = some (.int .i64 a0_1) ∧ w'.cell? ⟨gb136, 0, none⟩ = some (.int .i64 x137000_1) ∧ w'.cell? ⟨gb136, 1, none⟩ = some (.int .i64 x137001_1)) (ds := []) #[false, false, false, false, false, false, false, false] (by kernel_rfl) rfl rfl ⟨(blk_cell BK135.out 0).trans rfl, (blk_cell BK135.out 1).trans rfl, (blk_cell BK132.out 0).trans rfl, (blk_cell BK132.out 1).trans rfl, (blk_cell BK136.out 0).trans rfl, (blk_cell BK136.out 1).trans rfl⟩ (fun hHeld => ?_); refine with_tabW impl_descend_s0.tab2 impl_descend_s0.bits2 (fun HT_ HW_ => ?_)
            generalize wr.drew = w54 at BK20 BK21 BK132 BK133 BK134 BK135 BK136 HB HP hHeld ⊢
            refine take_ (i := 0) (N := some 14) (v := ?_) (a' := ?_) #[true, false, false, false, false, false, false, false] rfl rfl (take_ofW HT_.out HW_.out (by kernel_rfl)) (fun _ _ _ h => h) (Or.inl ⟨by rfl, ?_⟩) hHeld ?_ ?_
            rotate_left
            · rintro w' ⟨s0, s1, s2, s3, s4, s5⟩
              go_simp
              with_reducible rfl
            rotate_left
            · simp only [Act.put, List.setIfInBounds_toArray, List.set_cons_zero, List.set_cons_succ, i64_w, i32_w]
              rfl
            refine take_ (i := 1) (N := some 15) (v := ?_) (a' := ?_) #[true, true, false, false, false, false, false, false] rfl rfl (take_ofW HT_.out HW_.out (by kernel_rfl)) (fun _ _ _ h => h) (Or.inl ⟨by rfl, ?_⟩) hHeld ?_ ?_
            rotate_left
            · rintro w' ⟨s0, s1, s2, s3, s4, s5⟩
              go_simp
              with_reducible rfl
            rotate_left
            · simp only [Act.put, List.setIfInBounds_toArray, List.set_cons_zero, List.set_cons_succ, i64_w, i32_w]
              rfl
            refine take_ (i := 3) (N := some 17) (v := ?_) (a' := ?_) #[true, true, false, true, false, false, false, false] rfl rfl (take_ofW HT_.out HW_.out (by kernel_rfl)) (fun _ _ _ h => h) (Or.inl ⟨by rfl, ?_⟩) hHeld ?_ ?_
            rotate_left
            · rintro w' ⟨s0, s1, s2, s3, s4, s5⟩
              go_simp
              with_reducible rfl
            rotate_left
            · simp only [Act.put, List.setIfInBounds_toArray, List.set_cons_zero, List.set_cons_succ, i64_w, i32_w]
              rfl
            refine take_ (i := 4) (N := some 18) (v := ?_) (a' := ?_) #[true, true, false, true, true, false, false, false] rfl rfl (take_ofW HT_.out HW_.out (by kernel_rfl)) (fun _ _ _ h => h) (Or.inl ⟨by rfl, ?_⟩) hHeld ?_ ?_
            rotate_left
            · rintro w' ⟨s0, s1, s2, s3, s4, s5⟩
              go_simp
              with_reducible rfl
            rotate_left
            · simp only [Act.put, List.setIfInBounds_toArray, List.set_cons_zero, List.set_cons_succ, i64_w, i32_w]
              rfl
            refine one_ (i := 2) (N := some 16) #[true, true, true, true, true, false, false, false] rfl rfl (one_of HT_.out (by kernel_rfl)) (by decide) (fun K hK => ?_)
            refine goes_ Try.func49 (by kernel_rfl) rfl #[.agg #[.int .i64 x136000_1, .int .i64 x136001_1], .agg #[.int .i64 a0_0, .int .i64 a0_1]] (by rfl) rfl rfl (by (try simp only [List.map_toArray, List.map_cons, List.map_nil]); first | done | rfl | (simp only [List.length_drop, List.length_take]; rfl)) ?_
            with_reducible refine (impl_cross.calls x136000_1 x136001_1 a0_0 a0_1 t137 _ A21.out).mono ?_
            rintro e w55 ⟨rfl, hb⟩
            refine ⟨_, rfl, ?_⟩
            have HP_ := Aside0.mk (Pt.below (by repeat (first | (with_reducible exact HP.out) | (with_reducible refine Pt.far ?_ GE135.out (Pt.apart HP.out BK135.out) _ _) | (with_reducible refine Pt.far ?_ GE136.out (Pt.apart HP.out BK136.out) _ _) | (with_reducible refine Pt.far ?_ GE133.out (Pt.apart HP.out BK133.out) _ _) | (with_reducible refine Pt.far ?_ GE134.out (Pt.apart HP.out BK134.out) _ _) | (with_reducible refine Pt.far ?_ GE132.out (Pt.apart HP.out BK132.out) _ _) | (with_reducible refine Pt.drew_ ?_))) hb)
            clear HP
            have HP := HP_
            clear HP_
            have n0_ := Aside0.mk (blk_below (g := gc1_0) (o := .cells #[.bool ft_1] 4 (0, 0)) (by (with_reducible repeat (first | refine blk_drewN ?_ _ | refine blk_drew ?_ | refine blk_alloc ?_ _)); exact BK20.out) hb)
            have n1_ := Aside0.mk (blk_below (g := gc1_1) (o := .cells #[vt_1] 76 (0, 0)) (by (with_reducible repeat (first | refine blk_drewN ?_ _ | refine blk_drew ?_ | refine blk_alloc ?_ _)); exact BK21.out) hb)
            have n2_ := Aside0.mk (blk_below (g := gb132) (o := .cells #[.int .i64 a0_0, .int .i64 a0_1] 43 (0, 0)) (by (with_reducible repeat (first | refine blk_drewN ?_ _ | refine blk_drew ?_ | refine blk_alloc ?_ _)); exact BK132.out) hb)
            have n3_ := Aside0.mk (blk_below (g := gb133) (o := .cells #[.int .i64 x134000_1, .int .i64 x134001_1] 43 (0, 0)) (by (with_reducible repeat (first | refine blk_drewN ?_ _ | refine blk_drew ?_ | refine blk_alloc ?_ _)); exact BK133.out) hb)
            have n4_ := Aside0.mk (blk_below (g := gb134) (o := .cells #[.int .i64 x135000_1, .int .i64 x135001_1] 43 (0, 0)) (by (with_reducible repeat (first | refine blk_drewN ?_ _ | refine blk_drew ?_ | refine blk_alloc ?_ _)); exact BK134.out) hb)
            have n5_ := Aside0.mk (blk_below (g := gb135) (o := .cells #[.int .i64 x136000_1, .int .i64 x136001_1] 43 (0, 0)) (by (with_reducible repeat (first | refine blk_drewN ?_ _ | refine blk_drew ?_ | refine blk_alloc ?_ _)); exact BK135.out) hb)
            have n6_ := Aside0.mk (blk_below (g := gb136) (o := .cells #[.int .i64 x137000_1, .int .i64 x137001_1] 43 (0, 0)) (by (with_reducible repeat (first | refine blk_drewN ?_ _ | refine blk_drew ?_ | refine blk_alloc ?_ _)); exact BK136.out) hb)
            have n7_ := Aside0.mk (below_step (by repeat (first | (with_reducible first | exact HB.out | apply below_alloc | apply pw_below_drewN | apply below_drew1 | refine below_set ?_ GE20.out | refine below_set ?_ GE21.out | refine below_set ?_ GE132.out | refine below_set ?_ GE133.out | refine below_set ?_ GE134.out | refine below_set ?_ GE135.out | refine below_set ?_ GE136.out) | exact HB.out)) hb)
            clear BK20
            clear BK21
            clear BK132
            clear BK133
            clear BK134
            clear BK135
            clear BK136
            clear HB
            have BK20 := n0_
            have BK21 := n1_
            have BK132 := n2_
            have BK133 := n3_
            have BK134 := n4_
            have BK135 := n5_
            have BK136 := n6_
            have HB := n7_
            clear n0_ n1_ n2_ n3_ n4_ n5_ n6_ n7_
            (try clear hb)
            (try clear hb2)
            (try clear hk)
            (try clear hi)
            refine hK.out _ _ ⟨(blk_cell BK135.out 0).trans rfl, (blk_cell BK135.out 1).trans rfl, (blk_cell BK132.out 0).trans rfl, (blk_cell BK132.out 1).trans rfl, (blk_cell BK136.out 0).trans rfl, (blk_cell BK136.out 1).trans rfl⟩ (fun hHeld => ?_)
            clear hK K
            refine norm_ (a' := ?_) ?_ ?_
            rotate_left
            · show Act.put _ (some 16) _ = _
              simp only [Act.put, List.setIfInBounds_toArray, List.set_cons_zero, List.set_cons_succ, i64_w, i32_w]
              rfl
            refine one_ (i := 5) (N := some 19) #[true, true, true, true, true, true, false, false] rfl rfl (one_of HT_.out (by kernel_rfl)) (by decide) (fun K hK => ?_)
            refine goes_ Try.func49 (by kernel_rfl) rfl #[.agg #[.int .i64 a0_0, .int .i64 a0_1], .agg #[.int .i64 x137000_1, .int .i64 x137001_1]] (by rfl) rfl rfl (by (try simp only [List.map_toArray, List.map_cons, List.map_nil]); first | done | rfl | (simp only [List.length_drop, List.length_take]; rfl)) ?_
            with_reducible refine (impl_cross.calls a0_0 a0_1 x137000_1 x137001_1 t138 _ A22.out).mono ?_
            rintro e w56 ⟨rfl, hb⟩
            refine ⟨_, rfl, ?_⟩
            have HP_ := Aside0.mk (Pt.below (by repeat (first | (with_reducible exact HP.out) | (with_reducible refine Pt.far ?_ GE135.out (Pt.apart HP.out BK135.out) _ _) | (with_reducible refine Pt.far ?_ GE136.out (Pt.apart HP.out BK136.out) _ _) | (with_reducible refine Pt.far ?_ GE133.out (Pt.apart HP.out BK133.out) _ _) | (with_reducible refine Pt.far ?_ GE134.out (Pt.apart HP.out BK134.out) _ _) | (with_reducible refine Pt.far ?_ GE132.out (Pt.apart HP.out BK132.out) _ _) | (with_reducible refine Pt.drew_ ?_))) hb)
            clear HP
            have HP := HP_
            clear HP_
            have n0_ := Aside0.mk (blk_below (g := gc1_0) (o := .cells #[.bool ft_1] 4 (0, 0)) (by (with_reducible repeat (first | refine blk_drewN ?_ _ | refine blk_drew ?_ | refine blk_alloc ?_ _)); exact BK20.out) hb)
            have n1_ := Aside0.mk (blk_below (g := gc1_1) (o := .cells #[vt_1] 76 (0, 0)) (by (with_reducible repeat (first | refine blk_drewN ?_ _ | refine blk_drew ?_ | refine blk_alloc ?_ _)); exact BK21.out) hb)
            have n2_ := Aside0.mk (blk_below (g := gb132) (o := .cells #[.int .i64 a0_0, .int .i64 a0_1] 43 (0, 0)) (by (with_reducible repeat (first | refine blk_drewN ?_ _ | refine blk_drew ?_ | refine blk_alloc ?_ _)); exact BK132.out) hb)
            have n3_ := Aside0.mk (blk_below (g := gb133) (o := .cells #[.int .i64 x134000_1, .int .i64 x134001_1] 43 (0, 0)) (by (with_reducible repeat (first | refine blk_drewN ?_ _ | refine blk_drew ?_ | refine blk_alloc ?_ _)); exact BK133.out) hb)
            have n4_ := Aside0.mk (blk_below (g := gb134) (o := .cells #[.int .i64 x135000_1, .int .i64 x135001_1] 43 (0, 0)) (by (with_reducible repeat (first | refine blk_drewN ?_ _ | refine blk_drew ?_ | refine blk_alloc ?_ _)); exact BK134.out) hb)
            have n5_ := Aside0.mk (blk_below (g := gb135) (o := .cells #[.int .i64 x136000_1, .int .i64 x136001_1] 43 (0, 0)) (by (with_reducible repeat (first | refine blk_drewN ?_ _ | refine blk_drew ?_ | refine blk_alloc ?_ _)); exact BK135.out) hb)
            have n6_ := Aside0.mk (blk_below (g := gb136) (o := .cells #[.int .i64 x137000_1, .int .i64 x137001_1] 43 (0, 0)) (by (with_reducible repeat (first | refine blk_drewN ?_ _ | refine blk_drew ?_ | refine blk_alloc ?_ _)); exact BK136.out) hb)
            have n7_ := Aside0.mk (below_step (by repeat (first | (with_reducible first | exact HB.out | apply below_alloc | apply pw_below_drewN | apply below_drew1 | refine below_set ?_ GE20.out | refine below_set ?_ GE21.out | refine below_set ?_ GE132.out | refine below_set ?_ GE133.out | refine below_set ?_ GE134.out | refine below_set ?_ GE135.out | refine below_set ?_ GE136.out) | exact HB.out)) hb)
            clear BK20
            clear BK21
            clear BK132
            clear BK133
            clear BK134
            clear BK135
            clear BK136
            clear HB
            have BK20 := n0_
            have BK21 := n1_
            have BK132 := n2_
            have BK133 := n3_
            have BK134 := n4_
            have BK135 := n5_
            have BK136 := n6_
            have HB := n7_
            clear n0_ n1_ n2_ n3_ n4_ n5_ n6_ n7_
            (try clear hb)
            (try clear hb2)
            (try clear hk)
            (try clear hi)
            refine hK.out _ _ ⟨(blk_cell BK135.out 0).trans rfl, (blk_cell BK135.out 1).trans rfl, (blk_cell BK132.out 0).trans rfl, (blk_cell BK132.out 1).trans rfl, (blk_cell BK136.out 0).trans rfl, (blk_cell BK136.out 1).trans rfl⟩ (fun hHeld => ?_)
            clear hK K
            refine norm_ (a' := ?_) ?_ ?_
            rotate_left
            · show Act.put _ (some 19) _ = _
              simp only [Act.put, List.setIfInBounds_toArray, List.set_cons_zero, List.set_cons_succ, i64_w, i32_w]
              rfl
            refine pure_ (i := 6) (N := some 8) (v := ?_) (a' := ?_) #[true, true, true, true, true, true, true, false] rfl rfl (any_of HT_.out (by kernel_rfl)) (fun _ _ _ h => h) (Or.inl ⟨by rfl, ?_⟩) ?_ ?_
            rotate_left
            · intro w'
              go_simp
              with_reducible rfl
            rotate_left
            · simp only [Act.put, List.setIfInBounds_toArray, List.set_cons_zero, List.set_cons_succ, i64_w, i32_w]
              rfl
            refine pure_ (i := 7) (N := some 9) (v := ?_) (a' := ?_) #[true, true, true, true, true, true, true, true] rfl rfl (any_of HT_.out (by kernel_rfl)) (fun _ _ _ h => h) (Or.inl ⟨by rfl, ?_⟩) ?_ ?_
            rotate_left
            · intro w'
              go_simp
              with_reducible rfl
            rotate_left
            · simp only [Act.put, List.setIfInBounds_toArray, List.set_cons_zero, List.set_cons_succ, i64_w, i32_w]
              rfl
            refine done_ (done_of HT_.out (by kernel_rfl)) ?_
            have hnb57 := NB136_20.out
            have hnc57 := NB20_136.out
            have hnb58 := NB136_21.out
            have hnc58 := NB21_136.out
            have hnb59 := NB136_132.out
            have hnc59 := NB132_136.out
            have hnb60 := NB136_133.out
            have hnc60 := NB133_136.out
            have hnb61 := NB136_134.out
            have hnc61 := NB134_136.out
            have hnb62 := NB136_135.out
            have hnc62 := NB135_136.out
            have hcz63_0 : w56.cell? ⟨gb136, 0, none⟩ = some (.int .i64 x137000_1) := (blk_cell BK136.out 0).trans rfl
            have hcz63_1 : w56.cell? ⟨gb136, 1, none⟩ = some (.int .i64 x137001_1) := (blk_cell BK136.out 1).trans rfl
            have hfz63_0 := blk_frozen BK136.out 0
            have hfz63_1 := blk_frozen BK136.out 1
            have hnb64 := NB135_20.out
            have hnc64 := NB20_135.out
            have hnb65 := NB135_21.out
            have hnc65 := NB21_135.out
            have hnb66 := NB135_132.out
            have hnc66 := NB132_135.out
            have hnb67 := NB135_133.out
            have hnc67 := NB133_135.out
            have hnb68 := NB135_134.out
            have hnc68 := NB134_135.out
            have hcz69_0 : w56.cell? ⟨gb135, 0, none⟩ = some (.int .i64 x136000_1) := (blk_cell BK135.out 0).trans rfl
            have hcz69_1 : w56.cell? ⟨gb135, 1, none⟩ = some (.int .i64 x136001_1) := (blk_cell BK135.out 1).trans rfl
            have hfz69_0 := blk_frozen BK135.out 0
            have hfz69_1 := blk_frozen BK135.out 1
            go_wp2_with (first | (go_at_call 60; (with_reducible refine (tell_calls 108 (wrap64 (Int.tdiv (wrap64 (t138 - 1)) t137)) gc1_1 gc1_0 vt_1 ot_1 o9_ ft_1 f9_ w0 _ ?side1 A53.out).mono ?_); (case side1 => exact (by repeat (first | (with_reducible exact HP.out) | (with_reducible refine Pt.far ?_ GE135.out (Pt.apart HP.out BK135.out) _ _) | (with_reducible refine Pt.far ?_ GE136.out (Pt.apart HP.out BK136.out) _ _) | (with_reducible refine Pt.far ?_ GE133.out (Pt.apart HP.out BK133.out) _ _) | (with_reducible refine Pt.far ?_ GE134.out (Pt.apart HP.out BK134.out) _ _) | (with_reducible refine Pt.far ?_ GE132.out (Pt.apart HP.out BK132.out) _ _) | (with_reducible refine Pt.drew_ ?_)))); rintro e w70 ⟨rfl, v9_, hp9, hk9⟩; have n0_ := Aside0.mk hp9.b5; have n1_ := Aside0.mk hp9.b4; have n2_ := Aside0.mk (hk9 gb132 (#[.int .i64 a0_0, .int .i64 a0_1]) (by (with_reducible repeat (first | refine blk_drewN ?_ _ | refine blk_drew ?_ | refine blk_alloc ?_ _)); refine blk_far ?_ NB132_136.out _; (with_reducible repeat (first | refine blk_drewN ?_ _ | refine blk_drew ?_ | refine blk_alloc ?_ _)); refine blk_far ?_ NB132_136.out _; (with_reducible repeat (first | refine blk_drewN ?_ _ | refine blk_drew ?_ | refine blk_alloc ?_ _)); exact BK132.out)); have n3_ := Aside0.mk (hk9 gb133 (#[.int .i64 x134000_1, .int .i64 x134001_1]) (by (with_reducible repeat (first | refine blk_drewN ?_ _ | refine blk_drew ?_ | refine blk_alloc ?_ _)); refine blk_far ?_ NB133_136.out _; (with_reducible repeat (first | refine blk_drewN ?_ _ | refine blk_drew ?_ | refine blk_alloc ?_ _)); refine blk_far ?_ NB133_136.out _; (with_reducible repeat (first | refine blk_drewN ?_ _ | refine blk_drew ?_ | refine blk_alloc ?_ _)); exact BK133.out)); have n4_ := Aside0.mk (hk9 gb134 (#[.int .i64 x135000_1, .int .i64 x135001_1]) (by (with_reducible repeat (first | refine blk_drewN ?_ _ | refine blk_drew ?_ | refine blk_alloc ?_ _)); refine blk_far ?_ NB134_136.out _; (with_reducible repeat (first | refine blk_drewN ?_ _ | refine blk_drew ?_ | refine blk_alloc ?_ _)); refine blk_far ?_ NB134_136.out _; (with_reducible repeat (first | refine blk_drewN ?_ _ | refine blk_drew ?_ | refine blk_alloc ?_ _)); exact BK134.out)); have n5_ := Aside0.mk (hk9 gb135 (#[.int .i64 x136000_1, .int .i64 x136001_1]) (by (with_reducible repeat (first | refine blk_drewN ?_ _ | refine blk_drew ?_ | refine blk_alloc ?_ _)); refine blk_far ?_ NB135_136.out _; (with_reducible repeat (first | refine blk_drewN ?_ _ | refine blk_drew ?_ | refine blk_alloc ?_ _)); refine blk_far ?_ NB135_136.out _; (with_reducible repeat (first | refine blk_drewN ?_ _ | refine blk_drew ?_ | refine blk_alloc ?_ _)); exact BK135.out)); have n6_ := Aside0.mk (hk9 gb136 (#[.int .i64 (wrap64 (x137000_1 + (wrap64 ((wrap64 (Int.tdiv (wrap64 (t138 - 1)) t137)) * x136000_1)))), .int .i64 (wrap64 (x137001_1 + (wrap64 ((wrap64 (Int.tdiv (wrap64 (t138 - 1)) t137)) * x136001_1))))]) (by (with_reducible repeat (first | refine blk_drewN ?_ _ | refine blk_drew ?_ | refine blk_alloc ?_ _)); refine blk_put (cs := #[.int .i64 (wrap64 (x137000_1 + (wrap64 ((wrap64 (Int.tdiv (wrap64 (t138 - 1)) t137)) * x136000_1)))), .int .i64 x137001_1]) ?_ 1 _ rfl; (with_reducible repeat (first | refine blk_drewN ?_ _ | refine blk_drew ?_ | refine blk_alloc ?_ _)); refine blk_put (cs := #[.int .i64 x137000_1, .int .i64 x137001_1]) ?_ 0 _ rfl; (with_reducible repeat (first | refine blk_drewN ?_ _ | refine blk_drew ?_ | refine blk_alloc ?_ _)); exact BK136.out)); have n7_ := Aside0.mk hp9.bel; have HP_ := Aside0.mk hp9; clear HP; have HP := HP_; clear HP_; clear hp9 hk9; clear BK20; clear BK21; clear BK132; clear BK133; clear BK134; clear BK135; clear BK136; clear HB; have BK20 := n0_; have BK21 := n1_; have BK132 := n2_; have BK133 := n3_; have BK134 := n4_; have BK135 := n5_; have BK136 := n6_; have HB := n7_; clear n0_ n1_ n2_ n3_ n4_ n5_ n6_ n7_; (try clear hb); (try clear hb2); (try clear hk); (try clear hi)))
            go_roundg k1
            case measure => have := HK1.out; omega
            case rel => exact ⟨f9_, o9_, v9_, (x134000_1), (x134001_1), (x135000_1), (x135001_1), (x136000_1), (x136001_1), (wrap64 (x137000_1 + (wrap64 ((wrap64 (Int.tdiv (wrap64 (t138 - 1)) t137)) * x136000_1)))), (wrap64 (x137001_1 + (wrap64 ((wrap64 (Int.tdiv (wrap64 (t138 - 1)) t137)) * x136001_1)))), H', ⟨by have := HK1.out; omega⟩, ⟨by (with_reducible repeat (first | refine blk_drewN ?_ _ | refine blk_drew ?_ | refine blk_alloc ?_ _)); exact BK20.out⟩, ⟨by (with_reducible repeat (first | refine blk_drewN ?_ _ | refine blk_drew ?_ | refine blk_alloc ?_ _)); exact BK21.out⟩, ⟨by (with_reducible repeat (first | refine blk_drewN ?_ _ | refine blk_drew ?_ | refine blk_alloc ?_ _)); exact BK132.out⟩, ⟨by (with_reducible repeat (first | refine blk_drewN ?_ _ | refine blk_drew ?_ | refine blk_alloc ?_ _)); exact BK133.out⟩, ⟨by (with_reducible repeat (first | refine blk_drewN ?_ _ | refine blk_drew ?_ | refine blk_alloc ?_ _)); exact BK134.out⟩, ⟨by (with_reducible repeat (first | refine blk_drewN ?_ _ | refine blk_drew ?_ | refine blk_alloc ?_ _)); exact BK135.out⟩, ⟨by (with_reducible repeat (first | refine blk_drewN ?_ _ | refine blk_drew ?_ | refine blk_alloc ?_ _)); exact BK136.out⟩, ⟨by repeat (first | (with_reducible first | exact HB.out | apply below_alloc | apply pw_below_drewN | apply below_drew1 | refine below_set ?_ GE20.out | refine below_set ?_ GE21.out | refine below_set ?_ GE132.out | refine below_set ?_ GE133.out | refine below_set ?_ GE134.out | refine below_set ?_ GE135.out | refine below_set ?_ GE136.out) | exact HB.out)⟩, ⟨(by repeat (first | (with_reducible exact HP.out) | (with_reducible refine Pt.far ?_ GE135.out (Pt.apart HP.out BK135.out) _ _) | (with_reducible refine Pt.far ?_ GE136.out (Pt.apart HP.out BK136.out) _ _) | (with_reducible refine Pt.far ?_ GE133.out (Pt.apart HP.out BK133.out) _ _) | (with_reducible refine Pt.far ?_ GE134.out (Pt.apart HP.out BK134.out) _ _) | (with_reducible refine Pt.far ?_ GE132.out (Pt.apart HP.out BK132.out) _ _) | (with_reducible refine Pt.drew_ ?_)))⟩⟩

/-! ### impl_PathOfFraction: function 27 -/
def impl_PathOfFraction.f (k : Nat) (a0_0 : Int) (a0_1 : Int) : Option (ByteArray × Bool) := (impl_isChild.f k a0_0 a0_1).bind fun t140 => (if t140 = true then ((impl_descend_s0.f k a0_0 a0_1 true []).bind fun bt => (if bt.2.2.2.2.2 = true then (some (strOfNums bt.2.2.2.2.1, true)) else (some ((⟨#[]⟩ : ByteArray), false)))) else (some ((⟨#[]⟩ : ByteArray), false)))
theorem impl_PathOfFraction.mono : ∀ a0 a1 k, LeO (impl_PathOfFraction.f k a0 a1) (impl_PathOfFraction.f (k + 1) a0 a1) := by
  intro a0 a1 k
  unfold impl_PathOfFraction.f
  exact LeO.bind (impl_isChild.mono _ _ _) (fun t => LeO.ite (LeO.bind (impl_descend_s0.mono _ _ _ _ _) (fun b => LeO.refl _)) (LeO.refl _))
set_option maxHeartbeats 8000000 in
set_option maxRecDepth 100000 in
theorem impl_PathOfFraction.calls (k : Nat) (a0_0 : Int) (a0_1 : Int) (r1 : ByteArray) (r2 : Bool) (w : World) (h : impl_PathOfFraction.f k a0_0 a0_1 = some (r1, r2)) :
    Calls Try.prog 27 #[.agg #[.int .i64 a0_0, .int .i64 a0_1]] w fun e w' => e = .returned (.tuple #[.string r1, .bool r2]) ∧ Below w.heap.size w w' := by
  have hu43 := Try.underlying43
  have H := h
  clear h
  unfold impl_PathOfFraction.f at H
  obtain ⟨t140, hA2, H⟩ := Option.bind_eq_some_iff.mp H
  have A2 := Aside0.mk hA2
  clear hA2
  cases t140 with
  | false =>
    rw [if_neg (by simp)] at H
    simp only [Option.some.injEq, Prod.mk.injEq] at H
    obtain ⟨rfl, rfl⟩ := H
    go_enter Try.func27, Try.ntmps27
    go_wp2_with (first
      | ((with_reducible refine gate_dst (N := 1) rfl ?_); refine box_event ?hg (N := 1) ?hd (cs := #[.int .i64 a0_0, .int .i64 a0_1]) (t := 43) ?hr ?_; (case hd => rfl); (case hg => rfl); (case hr => first | (go_simp; done) | (go_simp; rfl)); intro gb139 hg w5 hbox hb; have HB := Aside0.mk hb; have BK139 := Aside0.mk hbox; clear hb hbox hg; have hcz6_0 : w5.cell? ⟨gb139, 0, none⟩ = some (.int .i64 a0_0) := (blk_cell BK139.out 0).trans rfl; have hcz6_1 : w5.cell? ⟨gb139, 1, none⟩ = some (.int .i64 a0_1) := (blk_cell BK139.out 1).trans rfl; have hfz6_0 := blk_frozen BK139.out 0; have hfz6_1 := blk_frozen BK139.out 1)
      | ((with_reducible refine gate_callee (f := 58) rfl ?_); refine goesL_ (some 7) rfl rfl Try.func58 (by kernel_rfl) rfl #[.agg #[.int .i64 a0_0, .int .i64 a0_1]] rfl (by (try simp only [List.map_toArray, List.map_cons, List.map_nil]); first | done | rfl) ?_; (with_reducible refine (impl_isChild.calls k a0_0 a0_1 false _ A2.out).mono ?_); rintro e w7 ⟨rfl, hb⟩; refine ⟨_, rfl, ?_⟩; have HB7 := Aside0.mk (below_step HB.out hb); clear hb HB; have HB := HB7; clear HB7))
    go_ret2
    exact ⟨by first | rfl | (simp [*] <;> rfl), HB.out⟩
  | true =>
    rw [if_pos rfl] at H
    obtain ⟨⟨t146, t147, t148, t149, to_, tf_⟩, hA4, H⟩ := Option.bind_eq_some_iff.mp H
    replace H : (if tf_ = true then (some (strOfNums to_, true)) else (some ((⟨#[]⟩ : ByteArray), false))) = some (r1, r2) := H
    have A4 := Aside0.mk hA4
    clear hA4
    have HR := Aside0.mk H
    clear H
    go_enter Try.func27, Try.ntmps27
    go_wp2_with (first
      | ((with_reducible refine gate_dst (N := 1) rfl ?_); refine box_event ?hg (N := 1) ?hd (cs := #[.int .i64 a0_0, .int .i64 a0_1]) (t := 43) ?hr ?_; (case hd => rfl); (case hg => rfl); (case hr => first | (go_simp; done) | (go_simp; rfl)); intro gb139 hg w5 hbox hb; have HB := Aside0.mk hb; have BK139 := Aside0.mk hbox; clear hb hbox hg; have hcz6_0 : w5.cell? ⟨gb139, 0, none⟩ = some (.int .i64 a0_0) := (blk_cell BK139.out 0).trans rfl; have hcz6_1 : w5.cell? ⟨gb139, 1, none⟩ = some (.int .i64 a0_1) := (blk_cell BK139.out 1).trans rfl; have hfz6_0 := blk_frozen BK139.out 0; have hfz6_1 := blk_frozen BK139.out 1)
      | ((with_reducible refine gate_callee (f := 58) rfl ?_); refine goesL_ (some 7) rfl rfl Try.func58 (by kernel_rfl) rfl #[.agg #[.int .i64 a0_0, .int .i64 a0_1]] rfl (by (try simp only [List.map_toArray, List.map_cons, List.map_nil]); first | done | rfl) ?_; (with_reducible refine (impl_isChild.calls k a0_0 a0_1 true _ A2.out).mono ?_); rintro e w7 ⟨rfl, hb⟩; refine ⟨_, rfl, ?_⟩; have HB7 := Aside0.mk (below_step HB.out hb); have BK7 := Aside0.mk ((hb.block _ (blk_lt BK139.out)).trans BK139.out); clear hb HB BK139; have HB := HB7; have BK139 := BK7; clear HB7 BK7)
      | ((with_reducible refine gate_dst (N := 9) rfl ?_); refine Kd.R_lit (Kd.int .u8) _ 5 ?hg (N := 9) ?hd (xs := ([] : List Int)) (inner := []) (ok := fun _ => True) (okp := fun _ => True) ?hr ?hp (fun _ hk => hk) trivial (Below.refl _ _) (Nat.le_refl _) (by simp) ?_; (case hd => rfl); (case hg => rfl); (case hr => first | (go_simp; done) | (go_simp; rfl)); (case hp => exact (Reps.none _ _)); intro v142 w8 ho9 hb hg_ hnew_; clear hg_ hnew_; have HO8 := Aside0.mk (Kd.R_lower ho9 (below_size HB.out)); have HB8 := Aside0.mk (below_step HB.out hb); have BK8 := Aside0.mk ((hb.block _ (blk_lt BK139.out)).trans BK139.out); clear hb ho9 HB BK139; have HB := HB8; have BK139 := BK8; clear HB8 BK8)
      | ((with_reducible refine gate_dst (N := 4) rfl ?_); refine box_event ?hg (N := 4) ?hd (cs := #[.slice none 0 0]) (t := 76) ?hr ?_; (case hd => rfl); (case hg => rfl); (case hr => first | (go_simp; done) | (go_simp; rfl)); intro g4 hg w10 hbox hb; have GE4 := Aside0.mk ((by rw [hg]; exact below_size HB.out) : w.heap.size ≤ g4); have HO10 := Aside0.mk (Kd.R_below HO8.out hb); have HB10 := Aside0.mk (below_step HB.out hb); have B4 := Aside0.mk hbox; have BK10 := Aside0.mk ((hb.block _ (blk_lt BK139.out)).trans BK139.out); clear hb hbox hg HB BK139; have HB := HB10; have BK139 := BK10; clear HB10 BK10)
      | ((with_reducible refine gate_dst (N := 5) rfl ?_); refine box_event ?hg (N := 5) ?hd (cs := #[.bool false]) (t := 4) ?hr ?_; (case hd => rfl); (case hg => rfl); (case hr => first | (go_simp; done) | (go_simp; rfl)); intro g5 hg w11 hbox hb; have GE5 := Aside0.mk ((by rw [hg]; exact below_size HB.out) : w.heap.size ≤ g5); have HO11 := Aside0.mk (Kd.R_below HO10.out hb); have HB11 := Aside0.mk (below_step HB.out hb); have B4_ := Aside0.mk ((hb.block _ (blk_lt B4.out)).trans B4.out); have BK11 := Aside0.mk ((hb.block _ (blk_lt BK139.out)).trans BK139.out); have HP0 := Aside0.mk (show Pt w g4 g5 w11 (.slice none 0 0) [] false from ⟨HB11.out, GE4.out, GE5.out, B4_.out, hbox, Kd.R_nil _ _ _ _ _⟩); have hpt := pt_first HP0.out HO11.out true; have HP1 := Aside0.mk hpt.1; have BKX := Aside0.mk (hpt.2 gb139 _ BK11.out); obtain ⟨Ao12, co12, rfl⟩ := Kd.R_slice HO11.out; have n45 := pt_ne HP0.out; have n54 := (pt_ne HP0.out).symm; have a4 := Pt.apart HP0.out BK11.out; have m4 := a4.1; have m5 := a4.2.1; have m4s := a4.1.symm; have m5s := a4.2.1.symm; have hcz4 : w11.cell? ⟨g4, 0, none⟩ = some (.slice none 0 0) := (blk_cell B4_.out 0).trans rfl; have hfz4 := blk_frozen B4_.out 0; have hcz5 : w11.cell? ⟨g5, 0, none⟩ = some (.bool false) := (blk_cell hbox 0).trans rfl; have hfz5 := blk_frozen hbox 0; have hcz18_0 : w11.cell? ⟨gb139, 0, none⟩ = some (.int .i64 a0_0) := (blk_cell BK11.out 0).trans rfl; have hcz18_1 : w11.cell? ⟨gb139, 1, none⟩ = some (.int .i64 a0_1) := (blk_cell BK11.out 1).trans rfl; have hfz18_0 := blk_frozen BK11.out 0; have hfz18_1 := blk_frozen BK11.out 1; clear hb hbox hg hpt a4))
    refine Calls.mono (impl_descend_s0.calls k a0_0 a0_1 g5 true g4 _ [] t146 t147 t148 t149 to_ tf_ w _ HP1.out A4.out) ?_
    rintro e w19 ⟨rfl, v19, hp19⟩
    have HP19 := Aside0.mk hp19
    have hcz20 : w19.cell? ⟨g5, 0, none⟩ = some (.bool tf_) := (blk_cell hp19.b5 0).trans rfl
    have hcz21 : w19.cell? ⟨g4, 0, none⟩ = some v19 := (blk_cell hp19.b4 0).trans rfl
    have hcv22 := own_string (P := Try.prog) Try.underlying76 Try.underlying5 Try.underlying9 (Kd.own_of_R hp19.row)
    clear hp19 hcz4 hfz4 hcz5 hfz5 hcz18_0 hcz18_1 hfz18_0 hfz18_1 hcz6_0 hcz6_1 hfz6_0 hfz6_1
    cases tf_ with
    | false =>
      have h := HR.out
      rw [if_neg (by simp)] at h
      simp only [Option.some.injEq, Prod.mk.injEq] at h
      obtain ⟨rfl, rfl⟩ := h
      clear HR
      go_wp2
      go_ret2
      exact ⟨by first | rfl | (simp [*] <;> rfl), HP19.out.bel⟩
    | true =>
      have h := HR.out
      rw [if_pos rfl] at h
      simp only [Option.some.injEq, Prod.mk.injEq] at h
      obtain ⟨rfl, rfl⟩ := h
      clear HR
      go_wp2
      go_ret2
      exact ⟨by first | rfl | (simp [*] <;> rfl), HP19.out.bel⟩

end Go.Proofs.Ytnikefebkcminaa.PFnExactPathOfFraction
