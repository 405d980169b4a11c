import Derived.Test.YtgblginphicacaaGreatDoorRows
import Derived.Test.YtgblginphicacaaGreatDoorCards
import Derived.Test.YtgblginphicacaaGreatDoorTie
import Derived.SevenTiedAt
import Derived.Test.YtgblginphicacaaGreatDoorPureFnExactCountByFlips
import Derived.WalkKit
import Derived.ProofKit
import Derived.OpenShut
import Derived.ShutString
import Derived.ChangeOld
import Derived.Below
import Derived.SizedLaws
import Derived.Handed
import Derived.LaidHandle
import Derived.Lib.LaidTab
import Derived.Deep.DeepLaidRun
import Derived.Lib.SmallJoins
import Derived.Deep.SlicePairs
namespace Go.Proofs.YtgblginphicacaaGreatDoor.fnExactCountByFlips
open Go.ChangeShapes Go.WideShapes Go.ChangeAt Go.RowKit Go.Joins Go.Deep
open Go.ChangeMaps (open_string shut_string)
open Go.Proofs.YtgblginphicacaaGreatDoor.PFnExactCountByFlips Go.Proofs.YtgblginphicacaaGreatDoorW.PrintWords
set_option linter.unusedVariables false
theorem own : ownKnob Tryz.prog.godebug = none := by kernel_rfl
theorem laidOut : laidOutB Tryz.prog = true := by kernel_rfl
theorem cells40 : Tryz.prog.cellsOf 40 = 2 := by kernel_rfl
/-- A slice of pairs of ints that came in, read as a list. -/
theorem pairs22 {H : Type} {enc : TypeId × Value → H} {w : World} {fuel : Nat} {a : Option Addr} {len cap : Nat} {x : DataW H × List MemPlace}
    (h : DataW.trod enc Tryz.prog w 0 (fun _ => true) true fuel 22 [.slice a len cap] = some x) :
    ∃ l : List S40, len = l.length ∧ Kd.C k40 w a l.length l ∧ l.length ≤ maxLen ∧ l.length ≤ cap ∧ ∀ y ∈ l, (Lit.int .i64 y.f0).wf = true ∧ (Lit.int .i64 y.f1).wf = true := by
  rcases open_slice_pairs Tryz.underlying22 Tryz.underlying40 cells40 rfl rfl (by kernel_rfl) (by kernel_rfl) h with ⟨h1, _⟩ | ⟨ad, l0, c0, m, nn, V0, V1, D0, D1, P0, P1, hcs, _, hlc, hcm, hm, _, hx⟩
  · simp only [List.cons.injEq, Value.slice.injEq, and_true] at h1
    obtain ⟨rfl, rfl, rfl⟩ := h1
    exact ⟨[], rfl, ⟨rfl, Nat.zero_le _, fun h => absurd h (Nat.lt_irrefl 0)⟩, Nat.zero_le _, Nat.zero_le _, fun y hy => by cases hy⟩
  · simp only [List.cons.injEq, Value.slice.injEq, and_true] at hcs
    obtain ⟨rfl, rfl, rfl⟩ := hcs
    have hmc : len ≤ m := by
      rw [hm]
      simp only [if_true]
      exact hlc
    have each : ∀ i, i < len → ∃ y : Int × Int, V0 i = .int .i64 y.1 ∧ V1 i = .int .i64 y.2 ∧ (Lit.int .i64 y.1).wf = true ∧ (Lit.int .i64 y.2).wf = true := fun i hi => by
      obtain ⟨_, _, t0, t1⟩ := hx i (Nat.lt_of_lt_of_le hi hmc)
      obtain ⟨n0, e0, _, w0⟩ := DataW.trod_int Tryz.underlying3 t0
      obtain ⟨n1, e1, _, w1⟩ := DataW.trod_int Tryz.underlying3 t1
      exact ⟨(n0, n1), by simpa using e0, by simpa using e1, w0, w1⟩
    obtain ⟨f, hf⟩ := choose_lt each
    have hlen : ((List.range len).map fun i => (⟨(f i).1, (f i).2⟩ : S40)).length = len := by simp
    refine ⟨(List.range len).map fun i => ⟨(f i).1, (f i).2⟩, hlen.symm, ?_, by rw [hlen]; exact Nat.le_trans hlc hcm, by rw [hlen]; exact hlc, fun y hy => ?_⟩
    · rw [hlen]
      refine ⟨hlen, Nat.le_trans hlc (Nat.le_trans hcm (by unfold maxLen; omega)), fun _ => ⟨ad, rfl, fun j p hj => ?_⟩⟩
      have hjl : j < len := by have := (List.getElem?_eq_some_iff.1 hj).1; rwa [hlen] at this
      have hp : p = (⟨(f j).1, (f j).2⟩ : S40) := by
        have h2 := (List.getElem?_eq_some_iff.1 hj).2
        rw [← h2]; simp
      obtain ⟨e0, e1, _, _⟩ := hf j hjl
      obtain ⟨q0, q1, _, _⟩ := hx j (Nat.lt_of_lt_of_le hjl hmc)
      refine ⟨[.int .i64 p.f0, .int .i64 p.f1], rfl, k40_mk w p, fun i u hu => ?_⟩
      subst hp
      match i, hu with
      | 0, hu =>
        simp only [List.getElem?_cons_zero, Option.some.injEq] at hu
        rw [← hu, ← e0]; exact q0
      | 1, hu =>
        simp only [List.getElem?_cons_succ, List.getElem?_cons_zero, Option.some.injEq] at hu
        rw [← hu, ← e1]; exact q1
      | i + 2, hu => simp at hu
    · obtain ⟨i, hi, rfl⟩ := List.mem_map.1 hy
      have := hf i (List.mem_range.1 hi)
      exact ⟨this.2.2.1, this.2.2.2⟩
set_option maxRecDepth 100000
def cells1 : DataW Unit → List Value
  | .lit (.int k n) => [.int k n]
  | _ => []
def cells2 : DataW Unit → List Value
  | .agg l => l.flatMap cells1
  | x => cells1 x
def cells3 : DataW Unit → List Value
  | .agg l => l.flatMap cells2
  | x => cells1 x
/-- A world that holds the variables that are laid. -/
noncomputable def layOne (P : Program) (w : World) (x : String × DataW Unit) : World :=
  match P.globalNamed x.1 with
  | some g => { w with heap := w.heap.modify g fun
      | .cells _ t frozen => .cells (cells3 x.2).toArray t frozen
      | o => o }
  | none => w
noncomputable def doorWorld (os : Os) : World := Rows.fnExactCountByFlipsRow.laid.foldl (layOne Tryz.prog) (World.holding Tryz.prog os ⟨#[], #[.int .i64 0, .slice none 0 0], []⟩)
theorem door_heap {w w' : World} (hh : w.heap = w'.heap) (h : laidMetH Tryz.prog Rows.fnExactCountByFlipsRow.laid w) : laidMetH Tryz.prog Rows.fnExactCountByFlipsRow.laid w' := by
  have h1 : laidMet Tryz.prog Rows.fnExactCountByFlipsRow.laid w := h
  exact (show laidMet Tryz.prog Rows.fnExactCountByFlipsRow.laid w' from h1.of_heap hh)
theorem door_met (os : Os) : laidMetH Tryz.prog Rows.fnExactCountByFlipsRow.laid ((doorWorld os).forCall (fun _ _ => 0) ⟨#[], #[.int .i64 0, .slice none 0 0], []⟩).memory :=
  (show laidMet Tryz.prog Rows.fnExactCountByFlipsRow.laid _ from laidMet_of_run3 8 (by kernel_rfl) (by kernel_rfl) (by kernel_rfl))
theorem laidVars_at {P : Program} {w : World} : ∀ {l : List (String × DataW Unit)} {ps : List MemPlace}, DataW.LaidVars P w l ps → ∀ n d, (n, d) ∈ l → ∃ g t cs fuel p, P.globalNamed n = some g ∧ (P.globals[g]?).map (·.type) = some t ∧ w.var? P n = some cs ∧ DataW.trod (fun _ => ()) P w 0 (fun _ => true) false fuel t cs.toList = some (d, p)
  | [], _, _, _, _, hm => by cases hm
  | (_, _) :: _, _, h, n, d, hm => by
    obtain ⟨g, t, cs, fuel, p, q, h1, h2, h3, h4, h5, _⟩ := h
    rcases List.mem_cons.1 hm with e | hm
    · injection e with e1 e2
      subst e1; subst e2
      exact ⟨g, t, cs, fuel, p, h1, h2, h3, h4⟩
    · exact laidVars_at h5 n d hm
theorem tab_ok {w : World} (h : laidMetH Tryz.prog Rows.fnExactCountByFlipsRow.laid w) : TabOk w := by
  have h1 : laidMet Tryz.prog Rows.fnExactCountByFlipsRow.laid w := h
  obtain ⟨ps, h2, _⟩ := h1
  obtain ⟨g, t, cs, fuel, p, hg, ht, hv, hd⟩ := laidVars_at h2 "internal/strconv.uint64pow10" (Lib.tabData .u64 Lib.pow10Tab) (by
    show _ ∈ Rows.fnExactCountByFlipsRow.laid
    have e : (Lib.tabData .u64 Lib.pow10Tab : DataW Unit) = Rows.laid_internal_strconv_uint64pow10 := by kernel_rfl
    rw [e]
    simp [Rows.fnExactCountByFlipsRow])
  obtain rfl := Option.some.inj ((show Tryz.prog.globalNamed "internal/strconv.uint64pow10" = some 0 by kernel_rfl).symm.trans hg)
  obtain rfl := Option.some.inj ((show (Tryz.prog.globals[0]?).map (·.type) = some 118 by kernel_rfl).symm.trans ht)
  unfold TabOk Lib.TabIs
  rw [hv, ← Lib.cells_of_tab (n := 20) (e := 101) Tryz.underlying118 Tryz.underlying101 (by kernel_rfl) (by kernel_rfl) hd]
set_option maxRecDepth 100000 in
theorem lifted (os : Os) (started : os.Started) (H : Type) (enc : TypeId × Value → H) :
    ReturnsInHanded {} Tryz.checked os 3 .any (fun w args => (Rows.fnExactCountByFlipsSpec.pre enc Tryz.prog Tryz.f3 Rows.fnExactCountByFlipsRow.domain false w args ∧ laidMetH Tryz.prog Rows.fnExactCountByFlipsRow.laid w) ∧ sizedMet enc Tryz.prog Tryz.f3 (OpenSpec.ofChange Rows.fnExactCountByFlipsSpec) false w args) (Rows.fnExactCountByFlipsSpec.post enc Tryz.prog Tryz.f3 false true false false) := by
  refine returnsInHanded_of_change_and (C := Tryz.checked) (X := fun w _ => laidMetH Tryz.prog Rows.fnExactCountByFlipsRow.laid w) (fun _ _ _ hh h => door_heap hh h) own started (by kernel_rfl) Tryz.func3
    (ChangeSpec.witness_at (enc := enc) (C := Tryz.checked) (os := os) (X := fun w _ => laidMetH Tryz.prog Rows.fnExactCountByFlipsRow.laid w) false (doorWorld os) #[.int .i64 0, .slice none 0 0] 8 rfl (by kernel_rfl) (by kernel_rfl) (by kernel_rfl) (by kernel_rfl) (by kernel_rfl) (door_met os)) ?_
  intro W base args ds gs before hval0 hW hcnd hsz0 hlaid _
  have hsz : (DataW.weightsEach Tryz.prog (Tryz.f3.params.toList ++ Rows.fnExactCountByFlipsSpec.plain.varTypes Tryz.prog) (ds ++ gs)).all (· ≤ reachBytes) = true := hsz0
  have hval : ∀ (j : Nat) t v, Tryz.f3.params[j]? = some t → args[j]? = some v → Value.okWide Tryz.prog W .any base t v := hval0
  have hW' := hW
  obtain ⟨p, q, hA0, hV, rfl, hfz, hnd⟩ := hW
  have hA : DataW.TrodAll enc Tryz.prog W 0 (fun _ => true) true Tryz.f3.params.toList args.toList ds p := hA0
  rw [Tryz.params3] at hA hval hsz
  obtain ⟨v0, vs0, d0, ds0, p0, q0, hargs, rfl, rfl, h0, r0⟩ := trodAll_cons hA
  obtain ⟨v1, vs1, d1, ds1, p1, q1, rfl, rfl, rfl, h1, r1⟩ := trodAll_cons r0
  obtain ⟨rfl, rfl, rfl⟩ := trodAll_nil r1
  obtain rfl : args = #[v0, v1] := by cases args; simp_all
  obtain ⟨rfl, rfl⟩ := trodVars_none hV
  obtain ⟨a0, rfl, rfl, rfl, w0⟩ := open_int Tryz.underlying3 (hval 0 3 v0 rfl rfl) h0
  obtain ⟨b1, len1, cap1, rfl⟩ := okWide_slice Tryz.underlying22 (hval 1 22 v1 rfl rfl)
  have k1 := h1
  have lt1 : ∀ x ∈ p1, x.block < W.heap.size := by obtain ⟨m, hm⟩ := k1; exact DataW.trod_lt m _ _ _ hm
  obtain ⟨l1, el1, hr1, hm1, hc1, hw1⟩ : ∃ l : List S40, len1 = l.length ∧ Kd.C k40 W b1 l.length l ∧ l.length ≤ maxLen ∧ l.length ≤ cap1 ∧ ∀ y ∈ l, (Lit.int .i64 y.f0).wf = true ∧ (Lit.int .i64 y.f1).wf = true := by
    obtain ⟨fuel, hf⟩ := h1
    exact pairs22 hf
  subst el1
  clear hA0 hval0 hsz0 hsz
  obtain ⟨k, hk⟩ := PureFnExactCountByFlips.FnExactCountByFlips a0 l1 w0 hm1 hw1
  refine (laws_FnExactCountByFlips.calls k a0 b1 cap1 l1 true W hr1 hc1 hk (tab_ok hlaid)).mono fun e W' ⟨he, bel⟩ => ?_
  subst he
  exact ⟨_, rfl, _, _, _, [], _, [], hW', trodAll_mk1 (shut_bool Tryz.underlying4 _), (trodAll_cons_mk (shut_int Tryz.underlying3 w0) (trodAll_cons_mk (Below.trod laidOut (by kernel_rfl) (of_decide_eq_true (by kernel_rfl)) k1 bel lt1) trodAll_mk0)), rfl, bel.frame _, fun h => by cases h⟩
theorem over : Rows.fnExactCountByFlipsRow.holds Tryz.pinned (OpenSpec.ofChange Rows.fnExactCountByFlipsSpec) :=
  OpenClaim.holds_of_wide 3 Tryz.f3 rfl rfl rfl rfl rfl rfl rfl ⟨rfl, rfl, rfl, rfl, rfl⟩ rfl rfl rfl rfl rfl (by kernel_rfl) Tryz.func3 (by kernel_rfl)
    (of_decide_eq_true (by kernel_rfl)) (by unfold Func.isWrapper; first | (rw [if_pos (by decide +kernel)]; kernel_rfl) | (rw [if_neg (by decide +kernel)]; exact ⟨rfl, rfl⟩))
    (fun os started H enc _ => lifted os started H enc)
theorem proved : Rows.FnExactCountByFlipsSaid := over
end Go.Proofs.YtgblginphicacaaGreatDoor.fnExactCountByFlips
namespace Go.Proofs.YtgblginphicacaaGreatDoor
/-- The row, under a short name, for the claim. -/
theorem fnExactCountByFlips_holds : Rows.FnExactCountByFlipsSaid := fnExactCountByFlips.proved
open Go in
/-- The tied card. -/
theorem fnExactCountByFlipsCard_holds : Rows.FnExactCountByFlipsCardSaid :=
  Claim7.holds_tied_plain_at .later [] [.data, .data, .data] true (true, "32bc5c6cf0ae8f7a63597cbc4fcd491f67134a3b38c044573c2c4c62c3cce627") false
    fnExactCountByFlips_holds (fun _ h => by cases h) (by kernel_rfl) (fun _ h => by cases h) fnExactCountByFlips_row_tie rfl ⟨rfl, rfl⟩ (by kernel_rfl) rfl
    (fun f fn hf hfn => by
      obtain rfl : f = 3 := Option.some.inj ((show Tryz.prog.funcNamed "loop.example/g01236/laws.FnExactCountByFlips" = some 3 by kernel_rfl).symm.trans hf) |>.symm
      obtain rfl : fn = Tryz.f3 := (Option.some.inj (Tryz.func3.symm.trans hfn)).symm
      exact ⟨by kernel_rfl, fun j t ht => by
        rw [Tryz.params3] at ht
        have hm : t ∈ [3, 22] := by simpa using Array.mem_of_getElem? ht
        have hall : ([3, 22].all fun u => !Tryz.prog.wantsStandIn u) = true := by kernel_rfl
        exact (show Tryz.prog.wantsStandIn t = false by simpa using List.all_eq_true.1 hall t hm)⟩)
    (by kernel_rfl)
#print axioms fnExactCountByFlipsCard_holds
end Go.Proofs.YtgblginphicacaaGreatDoor
