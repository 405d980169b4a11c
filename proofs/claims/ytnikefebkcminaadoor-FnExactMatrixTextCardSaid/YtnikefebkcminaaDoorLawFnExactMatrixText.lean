import Derived.Test.YtnikefebkcminaaDoorRows
import Derived.Test.YtnikefebkcminaaDoorCards
import Derived.Test.YtnikefebkcminaaDoorTie
import Derived.SevenTiedAt
import Derived.Test.YtnikefebkcminaaDoorPureFnExactMatrixText
import Derived.WalkKit
import Derived.ProofKit
import Derived.OpenShut
import Derived.ShutString
import Derived.ChangeOld
import Derived.Below
import Derived.SizedLaws
import Derived.Handed
import Derived.LaidHandle
import Derived.Lib.LaidTab
import Derived.Deep.DeepLaidRun
import Derived.Lib.SmallJoins
import Derived.Deep.SlicePairs
namespace Go.Proofs.YtnikefebkcminaaDoor.fnExactMatrixText
open Go.ChangeShapes Go.WideShapes Go.ChangeAt Go.RowKit Go.Joins Go.Deep
open Go.ChangeMaps (open_string shut_string)
open Go.Proofs.YtnikefebkcminaaDoor.PFnExactMatrixText Go.Proofs.YtnikefebkcminaaDoorW.PrintWords
set_option linter.unusedVariables false
theorem own : ownKnob Tryd.prog.godebug = none := by kernel_rfl
theorem cells30 : Tryd.prog.cellsOf 30 = 4 := by kernel_rfl
set_option maxRecDepth 100000
def cells1 : DataW Unit → List Value
  | .lit (.int k n) => [.int k n]
  | _ => []
def cells2 : DataW Unit → List Value
  | .agg l => l.flatMap cells1
  | x => cells1 x
def cells3 : DataW Unit → List Value
  | .agg l => l.flatMap cells2
  | x => cells1 x
/-- A world that holds the variables that are laid. -/
noncomputable def layOne (P : Program) (w : World) (x : String × DataW Unit) : World :=
  match P.globalNamed x.1 with
  | some g => { w with heap := w.heap.modify g fun
      | .cells _ t frozen => .cells (cells3 x.2).toArray t frozen
      | o => o }
  | none => w
noncomputable def doorWorld (os : Os) : World := Rows.fnExactMatrixTextRow.laid.foldl (layOne Tryd.prog) (World.holding Tryd.prog os ⟨#[], #[.agg #[.int .i64 0, .int .i64 0, .int .i64 0, .int .i64 0]], []⟩)
theorem door_heap {w w' : World} (hh : w.heap = w'.heap) (h : laidMetH Tryd.prog Rows.fnExactMatrixTextRow.laid w) : laidMetH Tryd.prog Rows.fnExactMatrixTextRow.laid w' := by
  have h1 : laidMet Tryd.prog Rows.fnExactMatrixTextRow.laid w := h
  exact (show laidMet Tryd.prog Rows.fnExactMatrixTextRow.laid w' from h1.of_heap hh)
theorem door_met (os : Os) : laidMetH Tryd.prog Rows.fnExactMatrixTextRow.laid ((doorWorld os).forCall (fun _ _ => 0) ⟨#[], #[.agg #[.int .i64 0, .int .i64 0, .int .i64 0, .int .i64 0]], []⟩).memory :=
  (show laidMet Tryd.prog Rows.fnExactMatrixTextRow.laid _ from laidMet_of_run3 8 (by kernel_rfl) (by kernel_rfl) (by kernel_rfl))
theorem laidVars_at {P : Program} {w : World} : ∀ {l : List (String × DataW Unit)} {ps : List MemPlace}, DataW.LaidVars P w l ps → ∀ n d, (n, d) ∈ l → ∃ g t cs fuel p, P.globalNamed n = some g ∧ (P.globals[g]?).map (·.type) = some t ∧ w.var? P n = some cs ∧ DataW.trod (fun _ => ()) P w 0 (fun _ => true) false fuel t cs.toList = some (d, p)
  | [], _, _, _, _, hm => by cases hm
  | (_, _) :: _, _, h, n, d, hm => by
    obtain ⟨g, t, cs, fuel, p, q, h1, h2, h3, h4, h5, _⟩ := h
    rcases List.mem_cons.1 hm with e | hm
    · injection e with e1 e2
      subst e1; subst e2
      exact ⟨g, t, cs, fuel, p, h1, h2, h3, h4⟩
    · exact laidVars_at h5 n d hm
theorem tab_ok {w : World} (h : laidMetH Tryd.prog Rows.fnExactMatrixTextRow.laid w) : TabOk w := by
  have h1 : laidMet Tryd.prog Rows.fnExactMatrixTextRow.laid w := h
  obtain ⟨ps, h2, _⟩ := h1
  obtain ⟨g, t, cs, fuel, p, hg, ht, hv, hd⟩ := laidVars_at h2 "internal/strconv.uint64pow10" (Lib.tabData .u64 Lib.pow10Tab) (by
    show _ ∈ Rows.fnExactMatrixTextRow.laid
    have e : (Lib.tabData .u64 Lib.pow10Tab : DataW Unit) = Rows.laid_internal_strconv_uint64pow10 := by kernel_rfl
    rw [e]
    simp [Rows.fnExactMatrixTextRow])
  obtain rfl := Option.some.inj ((show Tryd.prog.globalNamed "internal/strconv.uint64pow10" = some 0 by kernel_rfl).symm.trans hg)
  obtain rfl := Option.some.inj ((show (Tryd.prog.globals[0]?).map (·.type) = some 84 by kernel_rfl).symm.trans ht)
  unfold TabOk Lib.TabIs
  rw [hv, ← Lib.cells_of_tab (n := 20) (e := 72) Tryd.underlying84 Tryd.underlying72 (by kernel_rfl) (by kernel_rfl) hd]
set_option maxRecDepth 100000 in
theorem lifted (os : Os) (started : os.Started) (H : Type) (enc : TypeId × Value → H) :
    ReturnsInHanded {} Tryd.checked os 4 .any (fun w args => (Rows.fnExactMatrixTextSpec.pre enc Tryd.prog Tryd.f4 Rows.fnExactMatrixTextRow.domain false w args ∧ laidMetH Tryd.prog Rows.fnExactMatrixTextRow.laid w) ∧ sizedMet enc Tryd.prog Tryd.f4 (OpenSpec.ofChange Rows.fnExactMatrixTextSpec) false w args) (Rows.fnExactMatrixTextSpec.post enc Tryd.prog Tryd.f4 false true false false) := by
  refine returnsInHanded_of_change_and (C := Tryd.checked) (X := fun w _ => laidMetH Tryd.prog Rows.fnExactMatrixTextRow.laid w) (fun _ _ _ hh h => door_heap hh h) own started (by kernel_rfl) Tryd.func4
    (ChangeSpec.witness_at (enc := enc) (C := Tryd.checked) (os := os) (X := fun w _ => laidMetH Tryd.prog Rows.fnExactMatrixTextRow.laid w) false (doorWorld os) #[.agg #[.int .i64 0, .int .i64 0, .int .i64 0, .int .i64 0]] 8 rfl (by kernel_rfl) (by kernel_rfl) (by kernel_rfl) (by kernel_rfl) (by kernel_rfl) (door_met os)) ?_
  intro W base args ds gs before hval0 hW hcnd hsz0 hlaid _
  have hsz : (DataW.weightsEach Tryd.prog (Tryd.f4.params.toList ++ Rows.fnExactMatrixTextSpec.plain.varTypes Tryd.prog) (ds ++ gs)).all (· ≤ reachBytes) = true := hsz0
  have hval : ∀ (j : Nat) t v, Tryd.f4.params[j]? = some t → args[j]? = some v → Value.okWide Tryd.prog W .any base t v := hval0
  have hW' := hW
  obtain ⟨p, q, hA0, hV, rfl, hfz, hnd⟩ := hW
  have hA : DataW.TrodAll enc Tryd.prog W 0 (fun _ => true) true Tryd.f4.params.toList args.toList ds p := hA0
  rw [Tryd.params4] at hA hval hsz
  obtain ⟨v0, vs0, d0, ds0, p0, q0, hargs, rfl, rfl, h0, r0⟩ := trodAll_cons hA
  obtain ⟨rfl, rfl, rfl⟩ := trodAll_nil r0
  obtain rfl : args = #[v0] := by cases args; simp_all
  obtain ⟨rfl, rfl⟩ := trodVars_none hV
  obtain ⟨c0_0, c0_1, c0_2, c0_3, y0_0, y0_1, y0_2, y0_3, m0, rfl, rfl, rfl, hy0_0, hy0_1, hy0_2, hy0_3⟩ := open_agg4 Tryd.underlying30 (by kernel_rfl) cells30 (hval 0 30 v0 rfl rfl) h0
  obtain ⟨a0_0, e0_0, rfl, w0_0⟩ := DataW.trod_int Tryd.underlying3 hy0_0
  simp only [List.cons.injEq, and_true] at e0_0
  subst e0_0
  obtain ⟨a0_1, e0_1, rfl, w0_1⟩ := DataW.trod_int Tryd.underlying3 hy0_1
  simp only [List.cons.injEq, and_true] at e0_1
  subst e0_1
  obtain ⟨a0_2, e0_2, rfl, w0_2⟩ := DataW.trod_int Tryd.underlying3 hy0_2
  simp only [List.cons.injEq, and_true] at e0_2
  subst e0_2
  obtain ⟨a0_3, e0_3, rfl, w0_3⟩ := DataW.trod_int Tryd.underlying3 hy0_3
  simp only [List.cons.injEq, and_true] at e0_3
  subst e0_3
  have s0 : ∀ (W' : World) (sp : Nat → Bool), DataW.Trod enc Tryd.prog W' 0 sp true 30 (.agg #[.int .i64 a0_0, .int .i64 a0_1, .int .i64 a0_2, .int .i64 a0_3]) (.agg [.lit (.int .i64 a0_0), .lit (.int .i64 a0_1), .lit (.int .i64 a0_2), .lit (.int .i64 a0_3)]) [] := fun W' sp =>
    shut_agg4 (y0 := (.lit (.int .i64 a0_0), [])) (y1 := (.lit (.int .i64 a0_1), [])) (y2 := (.lit (.int .i64 a0_2), [])) (y3 := (.lit (.int .i64 a0_3), [])) Tryd.underlying30 (by kernel_rfl) cells30 ⟨1, by simp [DataW.trod, Tryd.underlying3, w0_0]⟩ ⟨1, by simp [DataW.trod, Tryd.underlying3, w0_1]⟩ ⟨1, by simp [DataW.trod, Tryd.underlying3, w0_2]⟩ ⟨1, by simp [DataW.trod, Tryd.underlying3, w0_3]⟩
  clear hA0 hval0 hsz0 hsz
  obtain ⟨k, hk⟩ := PureFnExactMatrixText.FnExactMatrixText a0_0 a0_1 a0_2 a0_3 w0_0 w0_1 w0_2 w0_3
  refine (laws_FnExactMatrixText.calls k a0_0 a0_1 a0_2 a0_3 true W hk (tab_ok hlaid)).mono fun e W' ⟨he, bel⟩ => ?_
  subst he
  exact ⟨_, rfl, _, _, _, [], _, [], hW', trodAll_mk1 (shut_bool Tryd.underlying4 _), (trodAll_mk1 (s0 _ _)), rfl, bel.frame _, fun h => by cases h⟩
theorem over : Rows.fnExactMatrixTextRow.holds Tryd.pinned (OpenSpec.ofChange Rows.fnExactMatrixTextSpec) :=
  OpenClaim.holds_of_wide 4 Tryd.f4 rfl rfl rfl rfl rfl rfl rfl ⟨rfl, rfl, rfl, rfl, rfl⟩ rfl rfl rfl rfl rfl (by kernel_rfl) Tryd.func4 (by kernel_rfl)
    (of_decide_eq_true (by kernel_rfl)) (by unfold Func.isWrapper; first | (rw [if_pos (by decide +kernel)]; kernel_rfl) | (rw [if_neg (by decide +kernel)]; exact ⟨rfl, rfl⟩))
    (fun os started H enc _ => lifted os started H enc)
theorem proved : Rows.FnExactMatrixTextSaid := over
end Go.Proofs.YtnikefebkcminaaDoor.fnExactMatrixText
namespace Go.Proofs.YtnikefebkcminaaDoor
/-- The row, under a short name, for the claim. -/
theorem fnExactMatrixText_holds : Rows.FnExactMatrixTextSaid := fnExactMatrixText.proved
open Go in
/-- The tied card. -/
theorem fnExactMatrixTextCard_holds : Rows.FnExactMatrixTextCardSaid :=
  Claim7.holds_tied_plain_at .later [] [.data, .data, .data] true (true, "a5becfe79375293cdd9097a284b58911523c203b51453c17674fbd673fb471c2") false
    fnExactMatrixText_holds (fun _ h => by cases h) (by kernel_rfl) (fun _ h => by cases h) fnExactMatrixText_row_tie rfl ⟨rfl, rfl⟩ (by kernel_rfl) rfl
    (fun f fn hf hfn => by
      obtain rfl : f = 4 := Option.some.inj ((show Tryd.prog.funcNamed "loop.example/g01236/laws.FnExactMatrixText" = some 4 by kernel_rfl).symm.trans hf) |>.symm
      obtain rfl : fn = Tryd.f4 := (Option.some.inj (Tryd.func4.symm.trans hfn)).symm
      exact ⟨by kernel_rfl, fun j t ht => by
        rw [Tryd.params4] at ht
        have hm : t ∈ [30] := by simpa using Array.mem_of_getElem? ht
        have hall : ([30].all fun u => !Tryd.prog.wantsStandIn u) = true := by kernel_rfl
        exact (show Tryd.prog.wantsStandIn t = false by simpa using List.all_eq_true.1 hall t hm)⟩)
    (by kernel_rfl)
#print axioms fnExactMatrixTextCard_holds
end Go.Proofs.YtnikefebkcminaaDoor
