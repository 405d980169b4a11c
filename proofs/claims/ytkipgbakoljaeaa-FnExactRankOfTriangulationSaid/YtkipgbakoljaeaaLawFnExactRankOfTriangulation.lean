import Derived.Test.YtkipgbakoljaeaaRows
import Derived.Test.YtkipgbakoljaeaaPureFnExactRankOfTriangulation
import Derived.WalkKit
import Derived.ProofKit
import Derived.OpenShut
import Derived.ShutString
import Derived.ChangeOld
import Derived.Below
import Derived.SizedLaws
import Derived.Lib.SmallJoins
import Derived.Deep.SlicePairs
namespace Go.Proofs.Ytkipgbakoljaeaa.fnExactRankOfTriangulation
open Go.ChangeShapes Go.WideShapes Go.ChangeAt Go.RowKit Go.Joins Go.Deep
open Go.ChangeMaps (open_string shut_string)
open Go.Proofs.Ytkipgbakoljaeaa.PFnExactRankOfTriangulation Go.Proofs.YtkipgbakoljaeaaW.PrintWords
set_option linter.unusedVariables false
theorem own : ownKnob Try.prog.godebug = none := by kernel_rfl
theorem laidOut : laidOutB Try.prog = true := by kernel_rfl
theorem cells35 : Try.prog.cellsOf 35 = 2 := by kernel_rfl
/-- A slice of pairs of ints that came in, read as a list. -/
theorem pairs28 {H : Type} {enc : TypeId × Value → H} {w : World} {fuel : Nat} {a : Option Addr} {len cap : Nat} {x : DataW H × List MemPlace}
    (h : DataW.trod enc Try.prog w 0 (fun _ => true) true fuel 28 [.slice a len cap] = some x) :
    ∃ l : List S35, len = l.length ∧ Kd.C k35 w a l.length l ∧ l.length ≤ maxLen ∧ l.length ≤ cap ∧ ∀ y ∈ l, (Lit.int .i64 y.f0).wf = true ∧ (Lit.int .i64 y.f1).wf = true := by
  rcases open_slice_pairs Try.underlying28 Try.underlying35 cells35 rfl rfl (by kernel_rfl) (by kernel_rfl) h with ⟨h1, _⟩ | ⟨ad, l0, c0, m, nn, V0, V1, D0, D1, P0, P1, hcs, _, hlc, hcm, hm, _, hx⟩
  · simp only [List.cons.injEq, Value.slice.injEq, and_true] at h1
    obtain ⟨rfl, rfl, rfl⟩ := h1
    exact ⟨[], rfl, ⟨rfl, Nat.zero_le _, fun h => absurd h (Nat.lt_irrefl 0)⟩, Nat.zero_le _, Nat.zero_le _, fun y hy => by cases hy⟩
  · simp only [List.cons.injEq, Value.slice.injEq, and_true] at hcs
    obtain ⟨rfl, rfl, rfl⟩ := hcs
    have hmc : len ≤ m := by
      rw [hm]
      simp only [if_true]
      exact hlc
    have each : ∀ i, i < len → ∃ y : Int × Int, V0 i = .int .i64 y.1 ∧ V1 i = .int .i64 y.2 ∧ (Lit.int .i64 y.1).wf = true ∧ (Lit.int .i64 y.2).wf = true := fun i hi => by
      obtain ⟨_, _, t0, t1⟩ := hx i (Nat.lt_of_lt_of_le hi hmc)
      obtain ⟨n0, e0, _, w0⟩ := DataW.trod_int Try.underlying3 t0
      obtain ⟨n1, e1, _, w1⟩ := DataW.trod_int Try.underlying3 t1
      exact ⟨(n0, n1), by simpa using e0, by simpa using e1, w0, w1⟩
    obtain ⟨f, hf⟩ := choose_lt each
    have hlen : ((List.range len).map fun i => (⟨(f i).1, (f i).2⟩ : S35)).length = len := by simp
    refine ⟨(List.range len).map fun i => ⟨(f i).1, (f i).2⟩, hlen.symm, ?_, by rw [hlen]; exact Nat.le_trans hlc hcm, by rw [hlen]; exact hlc, fun y hy => ?_⟩
    · rw [hlen]
      refine ⟨hlen, Nat.le_trans hlc (Nat.le_trans hcm (by unfold maxLen; omega)), fun _ => ⟨ad, rfl, fun j p hj => ?_⟩⟩
      have hjl : j < len := by have := (List.getElem?_eq_some_iff.1 hj).1; rwa [hlen] at this
      have hp : p = (⟨(f j).1, (f j).2⟩ : S35) := by
        have h2 := (List.getElem?_eq_some_iff.1 hj).2
        rw [← h2]; simp
      obtain ⟨e0, e1, _, _⟩ := hf j hjl
      obtain ⟨q0, q1, _, _⟩ := hx j (Nat.lt_of_lt_of_le hjl hmc)
      refine ⟨[.int .i64 p.f0, .int .i64 p.f1], rfl, k35_mk w p, fun i u hu => ?_⟩
      subst hp
      match i, hu with
      | 0, hu =>
        simp only [List.getElem?_cons_zero, Option.some.injEq] at hu
        rw [← hu, ← e0]; exact q0
      | 1, hu =>
        simp only [List.getElem?_cons_succ, List.getElem?_cons_zero, Option.some.injEq] at hu
        rw [← hu, ← e1]; exact q1
      | i + 2, hu => simp at hu
    · obtain ⟨i, hi, rfl⟩ := List.mem_map.1 hy
      have := hf i (List.mem_range.1 hi)
      exact ⟨this.2.2.1, this.2.2.2⟩
set_option maxRecDepth 100000 in
theorem lifted (os : Os) (started : os.Started) (H : Type) (enc : TypeId × Value → H) :
    ReturnsInHanded {} Try.checked os 4 .any (Rows.fnExactRankOfTriangulationSpec.pre6 enc Try.prog Try.f4 Rows.fnExactRankOfTriangulationRow.domain false) (Rows.fnExactRankOfTriangulationSpec.post enc Try.prog Try.f4 false true false false) := by
  refine returnsInHanded_of_change_sized (C := Try.checked) own started (by kernel_rfl) Try.func4
    (ChangeSpec.witness6 (enc := enc) (C := Try.checked) false ⟨#[], #[.int .i64 0, .slice none 0 0], []⟩ 8 (by kernel_rfl) (by kernel_rfl) (by kernel_rfl) (by kernel_rfl)) ?_
  intro W base args ds gs before hval0 hW hcnd hsz0 _
  have hsz : (DataW.weightsEach Try.prog (Try.f4.params.toList ++ Rows.fnExactRankOfTriangulationSpec.plain.varTypes Try.prog) (ds ++ gs)).all (· ≤ reachBytes) = true := hsz0
  have hval : ∀ (j : Nat) t v, Try.f4.params[j]? = some t → args[j]? = some v → Value.okWide Try.prog W .any base t v := hval0
  have hW' := hW
  obtain ⟨p, q, hA0, hV, rfl, hfz, hnd⟩ := hW
  have hA : DataW.TrodAll enc Try.prog W 0 (fun _ => true) true Try.f4.params.toList args.toList ds p := hA0
  rw [Try.params4] at hA hval hsz
  obtain ⟨v0, vs0, d0, ds0, p0, q0, hargs, rfl, rfl, h0, r0⟩ := trodAll_cons hA
  obtain ⟨v1, vs1, d1, ds1, p1, q1, rfl, rfl, rfl, h1, r1⟩ := trodAll_cons r0
  obtain ⟨rfl, rfl, rfl⟩ := trodAll_nil r1
  obtain rfl : args = #[v0, v1] := by cases args; simp_all
  obtain ⟨rfl, rfl⟩ := trodVars_none hV
  obtain ⟨a0, rfl, rfl, rfl, w0⟩ := open_int Try.underlying3 (hval 0 3 v0 rfl rfl) h0
  obtain ⟨b1, len1, cap1, rfl⟩ := okWide_slice Try.underlying28 (hval 1 28 v1 rfl rfl)
  have k1 := h1
  have lt1 : ∀ x ∈ p1, x.block < W.heap.size := by obtain ⟨m, hm⟩ := k1; exact DataW.trod_lt m _ _ _ hm
  obtain ⟨l1, el1, hr1, hm1, hc1, hw1⟩ : ∃ l : List S35, len1 = l.length ∧ Kd.C k35 W b1 l.length l ∧ l.length ≤ maxLen ∧ l.length ≤ cap1 ∧ ∀ y ∈ l, (Lit.int .i64 y.f0).wf = true ∧ (Lit.int .i64 y.f1).wf = true := by
    obtain ⟨fuel, hf⟩ := h1
    exact pairs28 hf
  subst el1
  clear hA0 hval0 hsz0 hsz
  obtain ⟨k, hk⟩ := PureFnExactRankOfTriangulation.FnExactRankOfTriangulation a0 l1 w0 hm1 hw1
  refine (laws_FnExactRankOfTriangulation.calls k a0 b1 cap1 l1 true W hr1 hc1 hk).mono fun e W' ⟨he, bel⟩ => ?_
  subst he
  exact ⟨_, rfl, _, _, _, [], _, [], hW', trodAll_mk1 (shut_bool Try.underlying4 _), (trodAll_cons_mk (shut_int Try.underlying3 w0) (trodAll_cons_mk (Below.trod laidOut (by kernel_rfl) (of_decide_eq_true (by kernel_rfl)) k1 bel lt1) trodAll_mk0)), rfl, bel.frame _, fun h => by cases h⟩
theorem over : Rows.fnExactRankOfTriangulationRow.holds Try.pinned (OpenSpec.ofChange Rows.fnExactRankOfTriangulationSpec) :=
  OpenClaim.holds_of_wide 4 Try.f4 rfl rfl rfl rfl rfl rfl rfl ⟨rfl, rfl, rfl, rfl, rfl⟩ rfl rfl rfl rfl rfl (by kernel_rfl) Try.func4 (by kernel_rfl)
    (of_decide_eq_true (by kernel_rfl)) (by unfold Func.isWrapper; first | (rw [if_pos (by decide +kernel)]; kernel_rfl) | (rw [if_neg (by decide +kernel)]; exact ⟨rfl, rfl⟩))
    (fun os started H enc _ => lifted os started H enc)
theorem proved : Rows.FnExactRankOfTriangulationSaid := over
end Go.Proofs.Ytkipgbakoljaeaa.fnExactRankOfTriangulation
namespace Go.Proofs.Ytkipgbakoljaeaa
/-- The row, under a short name, for the claim. -/
theorem fnExactRankOfTriangulation_holds : Rows.FnExactRankOfTriangulationSaid := fnExactRankOfTriangulation.proved
#print axioms fnExactRankOfTriangulation_holds
end Go.Proofs.Ytkipgbakoljaeaa
