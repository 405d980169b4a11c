/-
  No cell of these rows narrows 'for every input' (looked for: loops, veiled, ifaces, maps, wideKeys, modest, calm, conditions, laid).
  DERIVED. THE GIVEN ROWS OF THIS SEAT. 12 by the template 'for every input the law returns true; each argument reads behind the call as it read before'; 0 by the template 'total and deterministic' (their statements: YtnjejmfnacpdoaaTotals.lean).
  GIVEN WITH THE SEED: the statements are not yours to turn. If you find one false, say at which input.
  Laid BY PROGRAM, IN A SANDBOX (cutbox-rows.mjs): the forced cells as the released guide's own fill.sh prints them over the translation 55684691837ad12d… (all of the seat's roots in one cut). By AI agents, Wed Nov 11 2026. No macro, syntax, notation, axiom, sorry.
-/
import Derived.Test.YtnjejmfnacpdoaaChecked
import GoSem.Claim
import GoSem.ClaimJoined
import GoSem.ClaimMapViews
import Derived.JoinedTies
import Derived.KernelRfl
namespace Go.Proofs.Ytnjejmfnacpdoaa
/- THE CELL 'sum', in the pinned program and in every row, IS THE sha256 OF THE DUMP (.gsa) THAT YtnjejmfnacpdoaaProg.lean LOADS. Nothing in Lean hashes anything: it is a label: what it is worth is what the hold of that sum in a sandbox is worth. -/
noncomputable def Try.pinned : Pinned := { name := "ytnjejmfnacpdoaa", sum := "55684691837ad12d12dbf1985b4c558bcb0304f72612616ff9a9aa457f324585", checked := Try.checked }
namespace Rows
def none {H : Type} : Left H := { results := [], args := [] }

/-- 'laws.FnExactFareyList': WHATEVER THE INPUT: true; the input reads as it did. -/
def fnExactFareyListSpec : ChangeSpec := { name := "fnExactFareyList", fn := fun _ => fun
  | [d] => { results := [.lit (.bool true)], args := [d] }
  | _ => none }
def fnExactFareyListRow : OpenClaim := { program := "ytnjejmfnacpdoaa", sum := "55684691837ad12d12dbf1985b4c558bcb0304f72612616ff9a9aa457f324585", func := "loop.example/g01236/laws.FnExactFareyList", spec := "fnExactFareyList", unfollowed := true, recurses := true, apart := false }
def FnExactFareyListSaid : Prop := fnExactFareyListRow.holds Try.pinned (OpenSpec.ofChange fnExactFareyListSpec)

/-- ITS FALSE NEIGHBOUR: 'it returns false'. Refute it at one input. -/
def fnExactFareyListWrong : ChangeSpec := { name := "fnExactFareyList", fn := fun _ => fun
  | [d] => { results := [.lit (.bool false)], args := [d] }
  | _ => none }
def FnExactFareyListWrongFalsely : Prop := fnExactFareyListRow.holds Try.pinned (OpenSpec.ofChange fnExactFareyListWrong)

/-- 'laws.FnExactCountFarey': WHATEVER THE INPUT: true; the input reads as it did. -/
def fnExactCountFareySpec : ChangeSpec := { name := "fnExactCountFarey", fn := fun _ => fun
  | [d] => { results := [.lit (.bool true)], args := [d] }
  | _ => none }
def fnExactCountFareyRow : OpenClaim := { program := "ytnjejmfnacpdoaa", sum := "55684691837ad12d12dbf1985b4c558bcb0304f72612616ff9a9aa457f324585", func := "loop.example/g01236/laws.FnExactCountFarey", spec := "fnExactCountFarey", unfollowed := true, recurses := true, apart := false }
def FnExactCountFareySaid : Prop := fnExactCountFareyRow.holds Try.pinned (OpenSpec.ofChange fnExactCountFareySpec)

/-- ITS FALSE NEIGHBOUR: 'it returns false'. Refute it at one input. -/
def fnExactCountFareyWrong : ChangeSpec := { name := "fnExactCountFarey", fn := fun _ => fun
  | [d] => { results := [.lit (.bool false)], args := [d] }
  | _ => none }
def FnExactCountFareyWrongFalsely : Prop := fnExactCountFareyRow.holds Try.pinned (OpenSpec.ofChange fnExactCountFareyWrong)

/-- 'laws.FnExactNextFarey': WHATEVER THE INPUT: true; the input reads as it did. -/
def fnExactNextFareySpec : ChangeSpec := { name := "fnExactNextFarey", fn := fun _ => fun
  | [d1, d2] => { results := [.lit (.bool true)], args := [d1, d2] }
  | _ => none }
def fnExactNextFareyRow : OpenClaim := { program := "ytnjejmfnacpdoaa", sum := "55684691837ad12d12dbf1985b4c558bcb0304f72612616ff9a9aa457f324585", func := "loop.example/g01236/laws.FnExactNextFarey", spec := "fnExactNextFarey", unfollowed := true, recurses := true, apart := false }
def FnExactNextFareySaid : Prop := fnExactNextFareyRow.holds Try.pinned (OpenSpec.ofChange fnExactNextFareySpec)

/-- ITS FALSE NEIGHBOUR: 'it returns false'. Refute it at one input. -/
def fnExactNextFareyWrong : ChangeSpec := { name := "fnExactNextFarey", fn := fun _ => fun
  | [d1, d2] => { results := [.lit (.bool false)], args := [d1, d2] }
  | _ => none }
def FnExactNextFareyWrongFalsely : Prop := fnExactNextFareyRow.holds Try.pinned (OpenSpec.ofChange fnExactNextFareyWrong)

/-- 'laws.FnExactNearPairs': WHATEVER THE INPUT: true; the input reads as it did. -/
def fnExactNearPairsSpec : ChangeSpec := { name := "fnExactNearPairs", fn := fun _ => fun
  | [d] => { results := [.lit (.bool true)], args := [d] }
  | _ => none }
def fnExactNearPairsRow : OpenClaim := { program := "ytnjejmfnacpdoaa", sum := "55684691837ad12d12dbf1985b4c558bcb0304f72612616ff9a9aa457f324585", func := "loop.example/g01236/laws.FnExactNearPairs", spec := "fnExactNearPairs", unfollowed := true, recurses := true, apart := false }
def FnExactNearPairsSaid : Prop := fnExactNearPairsRow.holds Try.pinned (OpenSpec.ofChange fnExactNearPairsSpec)

/-- ITS FALSE NEIGHBOUR: 'it returns false'. Refute it at one input. -/
def fnExactNearPairsWrong : ChangeSpec := { name := "fnExactNearPairs", fn := fun _ => fun
  | [d] => { results := [.lit (.bool false)], args := [d] }
  | _ => none }
def FnExactNearPairsWrongFalsely : Prop := fnExactNearPairsRow.holds Try.pinned (OpenSpec.ofChange fnExactNearPairsWrong)

/-- 'laws.FnExactQuiddityOfFractions': WHATEVER THE INPUT: true; the input reads as it did. -/
def fnExactQuiddityOfFractionsSpec : ChangeSpec := { name := "fnExactQuiddityOfFractions", fn := fun _ => fun
  | [d] => { results := [.lit (.bool true)], args := [d] }
  | _ => none }
def fnExactQuiddityOfFractionsRow : OpenClaim := { program := "ytnjejmfnacpdoaa", sum := "55684691837ad12d12dbf1985b4c558bcb0304f72612616ff9a9aa457f324585", func := "loop.example/g01236/laws.FnExactQuiddityOfFractions", spec := "fnExactQuiddityOfFractions", unfollowed := true, recurses := true, apart := false }
def FnExactQuiddityOfFractionsSaid : Prop := fnExactQuiddityOfFractionsRow.holds Try.pinned (OpenSpec.ofChange fnExactQuiddityOfFractionsSpec)

/-- ITS FALSE NEIGHBOUR: 'it returns false'. Refute it at one input. -/
def fnExactQuiddityOfFractionsWrong : ChangeSpec := { name := "fnExactQuiddityOfFractions", fn := fun _ => fun
  | [d] => { results := [.lit (.bool false)], args := [d] }
  | _ => none }
def FnExactQuiddityOfFractionsWrongFalsely : Prop := fnExactQuiddityOfFractionsRow.holds Try.pinned (OpenSpec.ofChange fnExactQuiddityOfFractionsWrong)

/-- 'laws.FnExactFractionsOf': WHATEVER THE INPUT: true; the input reads as it did. -/
def fnExactFractionsOfSpec : ChangeSpec := { name := "fnExactFractionsOf", fn := fun _ => fun
  | [d] => { results := [.lit (.bool true)], args := [d] }
  | _ => none }
def fnExactFractionsOfRow : OpenClaim := { program := "ytnjejmfnacpdoaa", sum := "55684691837ad12d12dbf1985b4c558bcb0304f72612616ff9a9aa457f324585", func := "loop.example/g01236/laws.FnExactFractionsOf", spec := "fnExactFractionsOf", unfollowed := true, recurses := true, apart := false }
def FnExactFractionsOfSaid : Prop := fnExactFractionsOfRow.holds Try.pinned (OpenSpec.ofChange fnExactFractionsOfSpec)

/-- ITS FALSE NEIGHBOUR: 'it returns false'. Refute it at one input. -/
def fnExactFractionsOfWrong : ChangeSpec := { name := "fnExactFractionsOf", fn := fun _ => fun
  | [d] => { results := [.lit (.bool false)], args := [d] }
  | _ => none }
def FnExactFractionsOfWrongFalsely : Prop := fnExactFractionsOfRow.holds Try.pinned (OpenSpec.ofChange fnExactFractionsOfWrong)

/-- 'laws.FnExactLeastTurned': WHATEVER THE INPUT: true; the input reads as it did. -/
def fnExactLeastTurnedSpec : ChangeSpec := { name := "fnExactLeastTurned", fn := fun _ => fun
  | [d1, d2] => { results := [.lit (.bool true)], args := [d1, d2] }
  | _ => none }
def fnExactLeastTurnedRow : OpenClaim := { program := "ytnjejmfnacpdoaa", sum := "55684691837ad12d12dbf1985b4c558bcb0304f72612616ff9a9aa457f324585", func := "loop.example/g01236/laws.FnExactLeastTurned", spec := "fnExactLeastTurned", unfollowed := true, recurses := true, apart := false }
def FnExactLeastTurnedSaid : Prop := fnExactLeastTurnedRow.holds Try.pinned (OpenSpec.ofChange fnExactLeastTurnedSpec)

/-- ITS FALSE NEIGHBOUR: 'it returns false'. Refute it at one input. -/
def fnExactLeastTurnedWrong : ChangeSpec := { name := "fnExactLeastTurned", fn := fun _ => fun
  | [d1, d2] => { results := [.lit (.bool false)], args := [d1, d2] }
  | _ => none }
def FnExactLeastTurnedWrongFalsely : Prop := fnExactLeastTurnedRow.holds Try.pinned (OpenSpec.ofChange fnExactLeastTurnedWrong)

/-- 'laws.FnExactLeastOfClass': WHATEVER THE INPUT: true; the input reads as it did. -/
def fnExactLeastOfClassSpec : ChangeSpec := { name := "fnExactLeastOfClass", fn := fun _ => fun
  | [d1, d2] => { results := [.lit (.bool true)], args := [d1, d2] }
  | _ => none }
def fnExactLeastOfClassRow : OpenClaim := { program := "ytnjejmfnacpdoaa", sum := "55684691837ad12d12dbf1985b4c558bcb0304f72612616ff9a9aa457f324585", func := "loop.example/g01236/laws.FnExactLeastOfClass", spec := "fnExactLeastOfClass", unfollowed := true, recurses := true, apart := false }
def FnExactLeastOfClassSaid : Prop := fnExactLeastOfClassRow.holds Try.pinned (OpenSpec.ofChange fnExactLeastOfClassSpec)

/-- ITS FALSE NEIGHBOUR: 'it returns false'. Refute it at one input. -/
def fnExactLeastOfClassWrong : ChangeSpec := { name := "fnExactLeastOfClass", fn := fun _ => fun
  | [d1, d2] => { results := [.lit (.bool false)], args := [d1, d2] }
  | _ => none }
def FnExactLeastOfClassWrongFalsely : Prop := fnExactLeastOfClassRow.holds Try.pinned (OpenSpec.ofChange fnExactLeastOfClassWrong)

/-- 'laws.FnExactIsOwnMirror': WHATEVER THE INPUT: true; the input reads as it did. -/
def fnExactIsOwnMirrorSpec : ChangeSpec := { name := "fnExactIsOwnMirror", fn := fun _ => fun
  | [d1, d2] => { results := [.lit (.bool true)], args := [d1, d2] }
  | _ => none }
def fnExactIsOwnMirrorRow : OpenClaim := { program := "ytnjejmfnacpdoaa", sum := "55684691837ad12d12dbf1985b4c558bcb0304f72612616ff9a9aa457f324585", func := "loop.example/g01236/laws.FnExactIsOwnMirror", spec := "fnExactIsOwnMirror", unfollowed := true, recurses := true, apart := false }
def FnExactIsOwnMirrorSaid : Prop := fnExactIsOwnMirrorRow.holds Try.pinned (OpenSpec.ofChange fnExactIsOwnMirrorSpec)

/-- ITS FALSE NEIGHBOUR: 'it returns false'. Refute it at one input. -/
def fnExactIsOwnMirrorWrong : ChangeSpec := { name := "fnExactIsOwnMirror", fn := fun _ => fun
  | [d1, d2] => { results := [.lit (.bool false)], args := [d1, d2] }
  | _ => none }
def FnExactIsOwnMirrorWrongFalsely : Prop := fnExactIsOwnMirrorRow.holds Try.pinned (OpenSpec.ofChange fnExactIsOwnMirrorWrong)

/-- 'laws.FnExactCountTurned': WHATEVER THE INPUT: true; the input reads as it did. -/
def fnExactCountTurnedSpec : ChangeSpec := { name := "fnExactCountTurned", fn := fun _ => fun
  | [d] => { results := [.lit (.bool true)], args := [d] }
  | _ => none }
def fnExactCountTurnedRow : OpenClaim := { program := "ytnjejmfnacpdoaa", sum := "55684691837ad12d12dbf1985b4c558bcb0304f72612616ff9a9aa457f324585", func := "loop.example/g01236/laws.FnExactCountTurned", spec := "fnExactCountTurned", unfollowed := true, recurses := true, apart := false }
def FnExactCountTurnedSaid : Prop := fnExactCountTurnedRow.holds Try.pinned (OpenSpec.ofChange fnExactCountTurnedSpec)

/-- ITS FALSE NEIGHBOUR: 'it returns false'. Refute it at one input. -/
def fnExactCountTurnedWrong : ChangeSpec := { name := "fnExactCountTurned", fn := fun _ => fun
  | [d] => { results := [.lit (.bool false)], args := [d] }
  | _ => none }
def FnExactCountTurnedWrongFalsely : Prop := fnExactCountTurnedRow.holds Try.pinned (OpenSpec.ofChange fnExactCountTurnedWrong)

/-- 'laws.FnExactCountClasses': WHATEVER THE INPUT: true; the input reads as it did. -/
def fnExactCountClassesSpec : ChangeSpec := { name := "fnExactCountClasses", fn := fun _ => fun
  | [d] => { results := [.lit (.bool true)], args := [d] }
  | _ => none }
def fnExactCountClassesRow : OpenClaim := { program := "ytnjejmfnacpdoaa", sum := "55684691837ad12d12dbf1985b4c558bcb0304f72612616ff9a9aa457f324585", func := "loop.example/g01236/laws.FnExactCountClasses", spec := "fnExactCountClasses", unfollowed := true, recurses := true, apart := false }
def FnExactCountClassesSaid : Prop := fnExactCountClassesRow.holds Try.pinned (OpenSpec.ofChange fnExactCountClassesSpec)

/-- ITS FALSE NEIGHBOUR: 'it returns false'. Refute it at one input. -/
def fnExactCountClassesWrong : ChangeSpec := { name := "fnExactCountClasses", fn := fun _ => fun
  | [d] => { results := [.lit (.bool false)], args := [d] }
  | _ => none }
def FnExactCountClassesWrongFalsely : Prop := fnExactCountClassesRow.holds Try.pinned (OpenSpec.ofChange fnExactCountClassesWrong)

/-- 'laws.FnExactCountSymmetric': WHATEVER THE INPUT: true; the input reads as it did. -/
def fnExactCountSymmetricSpec : ChangeSpec := { name := "fnExactCountSymmetric", fn := fun _ => fun
  | [d1, d2] => { results := [.lit (.bool true)], args := [d1, d2] }
  | _ => none }
def fnExactCountSymmetricRow : OpenClaim := { program := "ytnjejmfnacpdoaa", sum := "55684691837ad12d12dbf1985b4c558bcb0304f72612616ff9a9aa457f324585", func := "loop.example/g01236/laws.FnExactCountSymmetric", spec := "fnExactCountSymmetric", unfollowed := true, recurses := true, apart := false }
def FnExactCountSymmetricSaid : Prop := fnExactCountSymmetricRow.holds Try.pinned (OpenSpec.ofChange fnExactCountSymmetricSpec)

/-- ITS FALSE NEIGHBOUR: 'it returns false'. Refute it at one input. -/
def fnExactCountSymmetricWrong : ChangeSpec := { name := "fnExactCountSymmetric", fn := fun _ => fun
  | [d1, d2] => { results := [.lit (.bool false)], args := [d1, d2] }
  | _ => none }
def FnExactCountSymmetricWrongFalsely : Prop := fnExactCountSymmetricRow.holds Try.pinned (OpenSpec.ofChange fnExactCountSymmetricWrong)

/- THE SECOND FORM. 'bulk': how many values and letters a reading holds, each counted each time it is reached (what is shared counts as often as it is met; a slice's spare places count too). A statement '..UptoSaid' is the law's where the arguments, and the package variables that the reading takes, are together of bulk at most 1048576: NARROWER than '..Said'. Prove '..Said' where nothing that the law and all that it calls make is longer than what came in: it says more and counts as full. Else prove '..UptoSaid'. A law counts once. -/
mutual
def uptoBulk {H : Type} : DataW H → Nat
  | .lit (.string bytes) => bytes.length + 1
  | .lit _ => 1
  | .nil => 1
  | .ptr d => uptoBulk d + 1
  | .slice elems spare => uptoBulkAll elems + uptoBulkAll spare + 1
  | .agg parts => uptoBulkAll parts + 1
  | .iface _ d => uptoBulk d + 1
  | .map entries => uptoBulkEntries entries + 1
  | .held _ => 1
def uptoBulkAll {H : Type} : List (DataW H) → Nat
  | [] => 0
  | d :: r => uptoBulk d + uptoBulkAll r
def uptoBulkEntries {H : Type} : List (Lit × DataW H) → Nat
  | [] => 0
  | x :: r => uptoBulkEntry x + uptoBulkEntries r
def uptoBulkEntry {H : Type} : Lit × DataW H → Nat
  | (.string bytes, d) => bytes.length + uptoBulk d + 1
  | (_, d) => uptoBulk d + 1
 end
def uptoSmall : (H : Type) → List (DataW H) → Bool := fun _ ds => decide (uptoBulkAll ds ≤ 1048576)
def OpenSpec.upto (s : _root_.Go.ChangeSpec) : _root_.Go.OpenSpec := { _root_.Go.OpenSpec.ofChange s with cond := some uptoSmall }

/-- 'laws.FnExactFareyList', WHERE WHAT IT READS IS OF BULK AT MOST 1048576: true; the input reads as it did. -/
def fnExactFareyListUptoRow : OpenClaim := { program := "ytnjejmfnacpdoaa", sum := "55684691837ad12d12dbf1985b4c558bcb0304f72612616ff9a9aa457f324585", func := "loop.example/g01236/laws.FnExactFareyList", spec := "fnExactFareyList", unfollowed := true, recurses := true, apart := false, narrowed := true }
def FnExactFareyListUptoSaid : Prop := fnExactFareyListUptoRow.holds Try.pinned (OpenSpec.upto fnExactFareyListSpec)

/-- 'laws.FnExactCountFarey', WHERE WHAT IT READS IS OF BULK AT MOST 1048576: true; the input reads as it did. -/
def fnExactCountFareyUptoRow : OpenClaim := { program := "ytnjejmfnacpdoaa", sum := "55684691837ad12d12dbf1985b4c558bcb0304f72612616ff9a9aa457f324585", func := "loop.example/g01236/laws.FnExactCountFarey", spec := "fnExactCountFarey", unfollowed := true, recurses := true, apart := false, narrowed := true }
def FnExactCountFareyUptoSaid : Prop := fnExactCountFareyUptoRow.holds Try.pinned (OpenSpec.upto fnExactCountFareySpec)

/-- 'laws.FnExactNextFarey', WHERE WHAT IT READS IS OF BULK AT MOST 1048576: true; the input reads as it did. -/
def fnExactNextFareyUptoRow : OpenClaim := { program := "ytnjejmfnacpdoaa", sum := "55684691837ad12d12dbf1985b4c558bcb0304f72612616ff9a9aa457f324585", func := "loop.example/g01236/laws.FnExactNextFarey", spec := "fnExactNextFarey", unfollowed := true, recurses := true, apart := false, narrowed := true }
def FnExactNextFareyUptoSaid : Prop := fnExactNextFareyUptoRow.holds Try.pinned (OpenSpec.upto fnExactNextFareySpec)

/-- 'laws.FnExactNearPairs', WHERE WHAT IT READS IS OF BULK AT MOST 1048576: true; the input reads as it did. -/
def fnExactNearPairsUptoRow : OpenClaim := { program := "ytnjejmfnacpdoaa", sum := "55684691837ad12d12dbf1985b4c558bcb0304f72612616ff9a9aa457f324585", func := "loop.example/g01236/laws.FnExactNearPairs", spec := "fnExactNearPairs", unfollowed := true, recurses := true, apart := false, narrowed := true }
def FnExactNearPairsUptoSaid : Prop := fnExactNearPairsUptoRow.holds Try.pinned (OpenSpec.upto fnExactNearPairsSpec)

/-- 'laws.FnExactQuiddityOfFractions', WHERE WHAT IT READS IS OF BULK AT MOST 1048576: true; the input reads as it did. -/
def fnExactQuiddityOfFractionsUptoRow : OpenClaim := { program := "ytnjejmfnacpdoaa", sum := "55684691837ad12d12dbf1985b4c558bcb0304f72612616ff9a9aa457f324585", func := "loop.example/g01236/laws.FnExactQuiddityOfFractions", spec := "fnExactQuiddityOfFractions", unfollowed := true, recurses := true, apart := false, narrowed := true }
def FnExactQuiddityOfFractionsUptoSaid : Prop := fnExactQuiddityOfFractionsUptoRow.holds Try.pinned (OpenSpec.upto fnExactQuiddityOfFractionsSpec)

/-- 'laws.FnExactFractionsOf', WHERE WHAT IT READS IS OF BULK AT MOST 1048576: true; the input reads as it did. -/
def fnExactFractionsOfUptoRow : OpenClaim := { program := "ytnjejmfnacpdoaa", sum := "55684691837ad12d12dbf1985b4c558bcb0304f72612616ff9a9aa457f324585", func := "loop.example/g01236/laws.FnExactFractionsOf", spec := "fnExactFractionsOf", unfollowed := true, recurses := true, apart := false, narrowed := true }
def FnExactFractionsOfUptoSaid : Prop := fnExactFractionsOfUptoRow.holds Try.pinned (OpenSpec.upto fnExactFractionsOfSpec)

/-- 'laws.FnExactLeastTurned', WHERE WHAT IT READS IS OF BULK AT MOST 1048576: true; the input reads as it did. -/
def fnExactLeastTurnedUptoRow : OpenClaim := { program := "ytnjejmfnacpdoaa", sum := "55684691837ad12d12dbf1985b4c558bcb0304f72612616ff9a9aa457f324585", func := "loop.example/g01236/laws.FnExactLeastTurned", spec := "fnExactLeastTurned", unfollowed := true, recurses := true, apart := false, narrowed := true }
def FnExactLeastTurnedUptoSaid : Prop := fnExactLeastTurnedUptoRow.holds Try.pinned (OpenSpec.upto fnExactLeastTurnedSpec)

/-- 'laws.FnExactLeastOfClass', WHERE WHAT IT READS IS OF BULK AT MOST 1048576: true; the input reads as it did. -/
def fnExactLeastOfClassUptoRow : OpenClaim := { program := "ytnjejmfnacpdoaa", sum := "55684691837ad12d12dbf1985b4c558bcb0304f72612616ff9a9aa457f324585", func := "loop.example/g01236/laws.FnExactLeastOfClass", spec := "fnExactLeastOfClass", unfollowed := true, recurses := true, apart := false, narrowed := true }
def FnExactLeastOfClassUptoSaid : Prop := fnExactLeastOfClassUptoRow.holds Try.pinned (OpenSpec.upto fnExactLeastOfClassSpec)

/-- 'laws.FnExactIsOwnMirror', WHERE WHAT IT READS IS OF BULK AT MOST 1048576: true; the input reads as it did. -/
def fnExactIsOwnMirrorUptoRow : OpenClaim := { program := "ytnjejmfnacpdoaa", sum := "55684691837ad12d12dbf1985b4c558bcb0304f72612616ff9a9aa457f324585", func := "loop.example/g01236/laws.FnExactIsOwnMirror", spec := "fnExactIsOwnMirror", unfollowed := true, recurses := true, apart := false, narrowed := true }
def FnExactIsOwnMirrorUptoSaid : Prop := fnExactIsOwnMirrorUptoRow.holds Try.pinned (OpenSpec.upto fnExactIsOwnMirrorSpec)

/-- 'laws.FnExactCountTurned', WHERE WHAT IT READS IS OF BULK AT MOST 1048576: true; the input reads as it did. -/
def fnExactCountTurnedUptoRow : OpenClaim := { program := "ytnjejmfnacpdoaa", sum := "55684691837ad12d12dbf1985b4c558bcb0304f72612616ff9a9aa457f324585", func := "loop.example/g01236/laws.FnExactCountTurned", spec := "fnExactCountTurned", unfollowed := true, recurses := true, apart := false, narrowed := true }
def FnExactCountTurnedUptoSaid : Prop := fnExactCountTurnedUptoRow.holds Try.pinned (OpenSpec.upto fnExactCountTurnedSpec)

/-- 'laws.FnExactCountClasses', WHERE WHAT IT READS IS OF BULK AT MOST 1048576: true; the input reads as it did. -/
def fnExactCountClassesUptoRow : OpenClaim := { program := "ytnjejmfnacpdoaa", sum := "55684691837ad12d12dbf1985b4c558bcb0304f72612616ff9a9aa457f324585", func := "loop.example/g01236/laws.FnExactCountClasses", spec := "fnExactCountClasses", unfollowed := true, recurses := true, apart := false, narrowed := true }
def FnExactCountClassesUptoSaid : Prop := fnExactCountClassesUptoRow.holds Try.pinned (OpenSpec.upto fnExactCountClassesSpec)

/-- 'laws.FnExactCountSymmetric', WHERE WHAT IT READS IS OF BULK AT MOST 1048576: true; the input reads as it did. -/
def fnExactCountSymmetricUptoRow : OpenClaim := { program := "ytnjejmfnacpdoaa", sum := "55684691837ad12d12dbf1985b4c558bcb0304f72612616ff9a9aa457f324585", func := "loop.example/g01236/laws.FnExactCountSymmetric", spec := "fnExactCountSymmetric", unfollowed := true, recurses := true, apart := false, narrowed := true }
def FnExactCountSymmetricUptoSaid : Prop := fnExactCountSymmetricUptoRow.holds Try.pinned (OpenSpec.upto fnExactCountSymmetricSpec)

end Rows
end Go.Proofs.Ytnjejmfnacpdoaa
