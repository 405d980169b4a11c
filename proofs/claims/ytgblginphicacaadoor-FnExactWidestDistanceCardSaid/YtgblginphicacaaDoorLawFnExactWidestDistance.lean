import Derived.Test.YtgblginphicacaaDoorRows
import Derived.Test.YtgblginphicacaaDoorCards
import Derived.Test.YtgblginphicacaaDoorTie
import Derived.SevenTiedAt
import Derived.Test.YtgblginphicacaaDoorPureFnExactWidestDistance
import Derived.WalkKit
import Derived.ProofKit
import Derived.OpenShut
import Derived.ShutString
import Derived.ChangeOld
import Derived.Below
import Derived.SizedLaws
import Derived.Handed
import Derived.LaidHandle
import Derived.Lib.LaidTab
import Derived.Deep.DeepLaidRun
import Derived.Lib.SmallJoins
import Derived.Deep.SlicePairs
namespace Go.Proofs.YtgblginphicacaaDoor.fnExactWidestDistance
open Go.ChangeShapes Go.WideShapes Go.ChangeAt Go.RowKit Go.Joins Go.Deep
open Go.ChangeMaps (open_string shut_string)
open Go.Proofs.YtgblginphicacaaDoor.PFnExactWidestDistance Go.Proofs.YtgblginphicacaaDoorW.PrintWords
set_option linter.unusedVariables false
theorem own : ownKnob Tryd.prog.godebug = none := by kernel_rfl
set_option maxRecDepth 100000
def cells1 : DataW Unit → List Value
  | .lit (.int k n) => [.int k n]
  | _ => []
def cells2 : DataW Unit → List Value
  | .agg l => l.flatMap cells1
  | x => cells1 x
def cells3 : DataW Unit → List Value
  | .agg l => l.flatMap cells2
  | x => cells1 x
/-- A world that holds the variables that are laid. -/
noncomputable def layOne (P : Program) (w : World) (x : String × DataW Unit) : World :=
  match P.globalNamed x.1 with
  | some g => { w with heap := w.heap.modify g fun
      | .cells _ t frozen => .cells (cells3 x.2).toArray t frozen
      | o => o }
  | none => w
noncomputable def doorWorld (os : Os) : World := Rows.fnExactWidestDistanceRow.laid.foldl (layOne Tryd.prog) (World.holding Tryd.prog os ⟨#[], #[.int .i64 0], []⟩)
theorem door_heap {w w' : World} (hh : w.heap = w'.heap) (h : laidMetH Tryd.prog Rows.fnExactWidestDistanceRow.laid w) : laidMetH Tryd.prog Rows.fnExactWidestDistanceRow.laid w' := by
  have h1 : laidMet Tryd.prog Rows.fnExactWidestDistanceRow.laid w := h
  exact (show laidMet Tryd.prog Rows.fnExactWidestDistanceRow.laid w' from h1.of_heap hh)
theorem door_met (os : Os) : laidMetH Tryd.prog Rows.fnExactWidestDistanceRow.laid ((doorWorld os).forCall (fun _ _ => 0) ⟨#[], #[.int .i64 0], []⟩).memory :=
  (show laidMet Tryd.prog Rows.fnExactWidestDistanceRow.laid _ from laidMet_of_run3 8 (by kernel_rfl) (by kernel_rfl) (by kernel_rfl))
theorem laidVars_at {P : Program} {w : World} : ∀ {l : List (String × DataW Unit)} {ps : List MemPlace}, DataW.LaidVars P w l ps → ∀ n d, (n, d) ∈ l → ∃ g t cs fuel p, P.globalNamed n = some g ∧ (P.globals[g]?).map (·.type) = some t ∧ w.var? P n = some cs ∧ DataW.trod (fun _ => ()) P w 0 (fun _ => true) false fuel t cs.toList = some (d, p)
  | [], _, _, _, _, hm => by cases hm
  | (_, _) :: _, _, h, n, d, hm => by
    obtain ⟨g, t, cs, fuel, p, q, h1, h2, h3, h4, h5, _⟩ := h
    rcases List.mem_cons.1 hm with e | hm
    · injection e with e1 e2
      subst e1; subst e2
      exact ⟨g, t, cs, fuel, p, h1, h2, h3, h4⟩
    · exact laidVars_at h5 n d hm
theorem tab_ok {w : World} (h : laidMetH Tryd.prog Rows.fnExactWidestDistanceRow.laid w) : TabOk w := by
  have h1 : laidMet Tryd.prog Rows.fnExactWidestDistanceRow.laid w := h
  obtain ⟨ps, h2, _⟩ := h1
  obtain ⟨g, t, cs, fuel, p, hg, ht, hv, hd⟩ := laidVars_at h2 "internal/strconv.uint64pow10" (Lib.tabData .u64 Lib.pow10Tab) (by
    show _ ∈ Rows.fnExactWidestDistanceRow.laid
    have e : (Lib.tabData .u64 Lib.pow10Tab : DataW Unit) = Rows.laid_internal_strconv_uint64pow10 := by kernel_rfl
    rw [e]
    simp [Rows.fnExactWidestDistanceRow])
  obtain rfl := Option.some.inj ((show Tryd.prog.globalNamed "internal/strconv.uint64pow10" = some 0 by kernel_rfl).symm.trans hg)
  obtain rfl := Option.some.inj ((show (Tryd.prog.globals[0]?).map (·.type) = some 125 by kernel_rfl).symm.trans ht)
  unfold TabOk Lib.TabIs
  rw [hv, ← Lib.cells_of_tab (n := 20) (e := 108) Tryd.underlying125 Tryd.underlying108 (by kernel_rfl) (by kernel_rfl) hd]
set_option maxRecDepth 100000 in
theorem lifted (os : Os) (started : os.Started) (H : Type) (enc : TypeId × Value → H) :
    ReturnsInHanded {} Tryd.checked os 3 .any (fun w args => (Rows.fnExactWidestDistanceSpec.pre enc Tryd.prog Tryd.f3 Rows.fnExactWidestDistanceRow.domain false w args ∧ laidMetH Tryd.prog Rows.fnExactWidestDistanceRow.laid w) ∧ sizedMet enc Tryd.prog Tryd.f3 (OpenSpec.ofChange Rows.fnExactWidestDistanceSpec) false w args) (Rows.fnExactWidestDistanceSpec.post enc Tryd.prog Tryd.f3 false true false false) := by
  refine returnsInHanded_of_change_and (C := Tryd.checked) (X := fun w _ => laidMetH Tryd.prog Rows.fnExactWidestDistanceRow.laid w) (fun _ _ _ hh h => door_heap hh h) own started (by kernel_rfl) Tryd.func3
    (ChangeSpec.witness_at (enc := enc) (C := Tryd.checked) (os := os) (X := fun w _ => laidMetH Tryd.prog Rows.fnExactWidestDistanceRow.laid w) false (doorWorld os) #[.int .i64 0] 8 rfl (by kernel_rfl) (by kernel_rfl) (by kernel_rfl) (by kernel_rfl) (by kernel_rfl) (door_met os)) ?_
  intro W base args ds gs before hval0 hW hcnd hsz0 hlaid _
  have hsz : (DataW.weightsEach Tryd.prog (Tryd.f3.params.toList ++ Rows.fnExactWidestDistanceSpec.plain.varTypes Tryd.prog) (ds ++ gs)).all (· ≤ reachBytes) = true := hsz0
  have hval : ∀ (j : Nat) t v, Tryd.f3.params[j]? = some t → args[j]? = some v → Value.okWide Tryd.prog W .any base t v := hval0
  have hW' := hW
  obtain ⟨p, q, hA0, hV, rfl, hfz, hnd⟩ := hW
  have hA : DataW.TrodAll enc Tryd.prog W 0 (fun _ => true) true Tryd.f3.params.toList args.toList ds p := hA0
  rw [Tryd.params3] at hA hval hsz
  obtain ⟨v0, vs0, d0, ds0, p0, q0, hargs, rfl, rfl, h0, r0⟩ := trodAll_cons hA
  obtain ⟨rfl, rfl, rfl⟩ := trodAll_nil r0
  obtain rfl : args = #[v0] := by cases args; simp_all
  obtain ⟨rfl, rfl⟩ := trodVars_none hV
  obtain ⟨a0, rfl, rfl, rfl, w0⟩ := open_int Tryd.underlying3 (hval 0 3 v0 rfl rfl) h0
  clear hA0 hval0 hsz0 hsz
  obtain ⟨k, hk⟩ := PureFnExactWidestDistance.FnExactWidestDistance a0 w0
  refine (laws_FnExactWidestDistance.calls k a0 true W hk (tab_ok hlaid)).mono fun e W' ⟨he, bel⟩ => ?_
  subst he
  exact ⟨_, rfl, _, _, _, [], _, [], hW', trodAll_mk1 (shut_bool Tryd.underlying4 _), (trodAll_mk1 (shut_int Tryd.underlying3 w0)), rfl, bel.frame _, fun h => by cases h⟩
theorem over : Rows.fnExactWidestDistanceRow.holds Tryd.pinned (OpenSpec.ofChange Rows.fnExactWidestDistanceSpec) :=
  OpenClaim.holds_of_wide 3 Tryd.f3 rfl rfl rfl rfl rfl rfl rfl ⟨rfl, rfl, rfl, rfl, rfl⟩ rfl rfl rfl rfl rfl (by kernel_rfl) Tryd.func3 (by kernel_rfl)
    (of_decide_eq_true (by kernel_rfl)) (by unfold Func.isWrapper; first | (rw [if_pos (by decide +kernel)]; kernel_rfl) | (rw [if_neg (by decide +kernel)]; exact ⟨rfl, rfl⟩))
    (fun os started H enc _ => lifted os started H enc)
theorem proved : Rows.FnExactWidestDistanceSaid := over
end Go.Proofs.YtgblginphicacaaDoor.fnExactWidestDistance
namespace Go.Proofs.YtgblginphicacaaDoor
/-- The row, under a short name, for the claim. -/
theorem fnExactWidestDistance_holds : Rows.FnExactWidestDistanceSaid := fnExactWidestDistance.proved
open Go in
/-- The tied card. -/
theorem fnExactWidestDistanceCard_holds : Rows.FnExactWidestDistanceCardSaid :=
  Claim7.holds_tied_plain_at .later [] [.data, .data, .data] true (true, "81b921f53b23bc9264dc4685a595b298b97b38b34ccd8450147bd06292b6af67") false
    fnExactWidestDistance_holds (fun _ h => by cases h) (by kernel_rfl) (fun _ h => by cases h) fnExactWidestDistance_row_tie rfl ⟨rfl, rfl⟩ (by kernel_rfl) rfl
    (fun f fn hf hfn => by
      obtain rfl : f = 3 := Option.some.inj ((show Tryd.prog.funcNamed "loop.example/g01236/laws.FnExactWidestDistance" = some 3 by kernel_rfl).symm.trans hf) |>.symm
      obtain rfl : fn = Tryd.f3 := (Option.some.inj (Tryd.func3.symm.trans hfn)).symm
      exact ⟨by kernel_rfl, fun j t ht => by
        rw [Tryd.params3] at ht
        have hm : t ∈ [3] := by simpa using Array.mem_of_getElem? ht
        have hall : ([3].all fun u => !Tryd.prog.wantsStandIn u) = true := by kernel_rfl
        exact (show Tryd.prog.wantsStandIn t = false by simpa using List.all_eq_true.1 hall t hm)⟩)
    (by kernel_rfl)
#print axioms fnExactWidestDistanceCard_holds
end Go.Proofs.YtgblginphicacaaDoor
