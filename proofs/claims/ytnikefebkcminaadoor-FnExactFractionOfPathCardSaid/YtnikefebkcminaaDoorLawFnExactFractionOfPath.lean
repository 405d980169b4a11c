import Derived.Test.YtnikefebkcminaaDoorRows
import Derived.Test.YtnikefebkcminaaDoorCards
import Derived.Test.YtnikefebkcminaaDoorTie
import Derived.SevenTiedAt
import Derived.Test.YtnikefebkcminaaDoorPureFnExactFractionOfPath
import Derived.WalkKit
import Derived.ProofKit
import Derived.OpenShut
import Derived.ShutString
import Derived.ChangeOld
import Derived.Below
import Derived.SizedLaws
import Derived.Handed
import Derived.LaidHandle
import Derived.Deep.DeepLaidRun
import Derived.Lib.SmallJoins
import Derived.Deep.SlicePairs
namespace Go.Proofs.YtnikefebkcminaaDoor.fnExactFractionOfPath
open Go.ChangeShapes Go.WideShapes Go.ChangeAt Go.RowKit Go.Joins Go.Deep
open Go.ChangeMaps (open_string shut_string)
open Go.Proofs.YtnikefebkcminaaDoor.PFnExactFractionOfPath Go.Proofs.YtnikefebkcminaaDoorW.PrintWords
set_option linter.unusedVariables false
theorem own : ownKnob Tryd.prog.godebug = none := by kernel_rfl
set_option maxRecDepth 100000
def cells1 : DataW Unit → List Value
  | .lit (.int k n) => [.int k n]
  | _ => []
def cells2 : DataW Unit → List Value
  | .agg l => l.flatMap cells1
  | x => cells1 x
def cells3 : DataW Unit → List Value
  | .agg l => l.flatMap cells2
  | x => cells1 x
/-- A world that holds the variables that are laid. -/
noncomputable def layOne (P : Program) (w : World) (x : String × DataW Unit) : World :=
  match P.globalNamed x.1 with
  | some g => { w with heap := w.heap.modify g fun
      | .cells _ t frozen => .cells (cells3 x.2).toArray t frozen
      | o => o }
  | none => w
noncomputable def doorWorld (os : Os) : World := Rows.fnExactFractionOfPathRow.laid.foldl (layOne Tryd.prog) (World.holding Tryd.prog os ⟨#[], #[.string ByteArray.empty], []⟩)
theorem door_heap {w w' : World} (hh : w.heap = w'.heap) (h : laidMetH Tryd.prog Rows.fnExactFractionOfPathRow.laid w) : laidMetH Tryd.prog Rows.fnExactFractionOfPathRow.laid w' := by
  have h1 : laidMet Tryd.prog Rows.fnExactFractionOfPathRow.laid w := h
  exact (show laidMet Tryd.prog Rows.fnExactFractionOfPathRow.laid w' from h1.of_heap hh)
theorem door_met (os : Os) : laidMetH Tryd.prog Rows.fnExactFractionOfPathRow.laid ((doorWorld os).forCall (fun _ _ => 0) ⟨#[], #[.string ByteArray.empty], []⟩).memory :=
  (show laidMet Tryd.prog Rows.fnExactFractionOfPathRow.laid _ from laidMet_of_run3 8 (by kernel_rfl) (by kernel_rfl) (by kernel_rfl))
set_option maxRecDepth 100000 in
theorem lifted (os : Os) (started : os.Started) (H : Type) (enc : TypeId × Value → H) :
    ReturnsInHanded {} Tryd.checked os 5 .any (fun w args => (Rows.fnExactFractionOfPathSpec.pre enc Tryd.prog Tryd.f5 Rows.fnExactFractionOfPathRow.domain false w args ∧ laidMetH Tryd.prog Rows.fnExactFractionOfPathRow.laid w) ∧ sizedMet enc Tryd.prog Tryd.f5 (OpenSpec.ofChange Rows.fnExactFractionOfPathSpec) false w args) (Rows.fnExactFractionOfPathSpec.post enc Tryd.prog Tryd.f5 false true false false) := by
  refine returnsInHanded_of_change_and (C := Tryd.checked) (X := fun w _ => laidMetH Tryd.prog Rows.fnExactFractionOfPathRow.laid w) (fun _ _ _ hh h => door_heap hh h) own started (by kernel_rfl) Tryd.func5
    (ChangeSpec.witness_at (enc := enc) (C := Tryd.checked) (os := os) (X := fun w _ => laidMetH Tryd.prog Rows.fnExactFractionOfPathRow.laid w) false (doorWorld os) #[.string ByteArray.empty] 8 rfl (by kernel_rfl) (by kernel_rfl) (by kernel_rfl) (by kernel_rfl) (by kernel_rfl) (door_met os)) ?_
  intro W base args ds gs before hval0 hW hcnd hsz0 _ _
  have hsz : (DataW.weightsEach Tryd.prog (Tryd.f5.params.toList ++ Rows.fnExactFractionOfPathSpec.plain.varTypes Tryd.prog) (ds ++ gs)).all (· ≤ reachBytes) = true := hsz0
  have hval : ∀ (j : Nat) t v, Tryd.f5.params[j]? = some t → args[j]? = some v → Value.okWide Tryd.prog W .any base t v := hval0
  have hW' := hW
  obtain ⟨p, q, hA0, hV, rfl, hfz, hnd⟩ := hW
  have hA : DataW.TrodAll enc Tryd.prog W 0 (fun _ => true) true Tryd.f5.params.toList args.toList ds p := hA0
  rw [Tryd.params5] at hA hval hsz
  obtain ⟨v0, vs0, d0, ds0, p0, q0, hargs, rfl, rfl, h0, r0⟩ := trodAll_cons hA
  obtain ⟨rfl, rfl, rfl⟩ := trodAll_nil r0
  obtain rfl : args = #[v0] := by cases args; simp_all
  obtain ⟨rfl, rfl⟩ := trodVars_none hV
  obtain ⟨a0, rfl, rfl, rfl, y0⟩ := open_string Tryd.underlying9 (hval 0 9 v0 rfl rfl) h0
  have w0 : a0.size ≤ 140737488351232 := by
    have z := sized_string hsz (j := 0) (t := 9) rfl rfl
    rw [Array.length_toList] at z
    exact z
  clear hA0 hval0 hsz0 hsz
  obtain ⟨k, hk⟩ := PureFnExactFractionOfPath.FnExactFractionOfPath a0 w0
  refine (laws_FnExactFractionOfPath.calls k a0 true W  hk).mono fun e W' ⟨he, bel⟩ => ?_
  subst he
  exact ⟨_, rfl, _, _, _, [], _, [], hW', trodAll_mk1 (shut_bool Tryd.underlying4 _), (trodAll_mk1 (shut_string Tryd.underlying9 y0)), rfl, bel.frame _, fun h => by cases h⟩
theorem over : Rows.fnExactFractionOfPathRow.holds Tryd.pinned (OpenSpec.ofChange Rows.fnExactFractionOfPathSpec) :=
  OpenClaim.holds_of_wide 5 Tryd.f5 rfl rfl rfl rfl rfl rfl rfl ⟨rfl, rfl, rfl, rfl, rfl⟩ rfl rfl rfl rfl rfl (by kernel_rfl) Tryd.func5 (by kernel_rfl)
    (of_decide_eq_true (by kernel_rfl)) (by unfold Func.isWrapper; first | (rw [if_pos (by decide +kernel)]; kernel_rfl) | (rw [if_neg (by decide +kernel)]; exact ⟨rfl, rfl⟩))
    (fun os started H enc _ => lifted os started H enc)
theorem proved : Rows.FnExactFractionOfPathSaid := over
end Go.Proofs.YtnikefebkcminaaDoor.fnExactFractionOfPath
namespace Go.Proofs.YtnikefebkcminaaDoor
/-- The row, under a short name, for the claim. -/
theorem fnExactFractionOfPath_holds : Rows.FnExactFractionOfPathSaid := fnExactFractionOfPath.proved
open Go in
/-- The tied card. -/
theorem fnExactFractionOfPathCard_holds : Rows.FnExactFractionOfPathCardSaid :=
  Claim7.holds_tied_plain_at .later [] [.data, .pinned] true (true, "a5becfe79375293cdd9097a284b58911523c203b51453c17674fbd673fb471c2") false
    fnExactFractionOfPath_holds (fun _ h => by cases h) (by kernel_rfl) (fun _ h => by cases h) fnExactFractionOfPath_row_tie rfl ⟨rfl, rfl⟩ (by kernel_rfl) rfl
    (fun f fn hf hfn => by
      obtain rfl : f = 5 := Option.some.inj ((show Tryd.prog.funcNamed "loop.example/g01236/laws.FnExactFractionOfPath" = some 5 by kernel_rfl).symm.trans hf) |>.symm
      obtain rfl : fn = Tryd.f5 := (Option.some.inj (Tryd.func5.symm.trans hfn)).symm
      exact ⟨by kernel_rfl, fun j t ht => by
        rw [Tryd.params5] at ht
        have hm : t ∈ [9] := by simpa using Array.mem_of_getElem? ht
        have hall : ([9].all fun u => !Tryd.prog.wantsStandIn u) = true := by kernel_rfl
        exact (show Tryd.prog.wantsStandIn t = false by simpa using List.all_eq_true.1 hall t hm)⟩)
    (by kernel_rfl)
#print axioms fnExactFractionOfPathCard_holds
end Go.Proofs.YtnikefebkcminaaDoor
