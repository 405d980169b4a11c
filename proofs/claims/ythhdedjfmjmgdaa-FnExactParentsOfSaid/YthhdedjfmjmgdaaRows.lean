/-
  No cell of these rows narrows 'for every input' (looked for: loops, veiled, ifaces, maps, wideKeys, modest, calm, conditions, laid).
  DERIVED. THE GIVEN ROWS OF THIS SEAT. 12 by the template 'for every input the law returns true; each argument reads behind the call as it read before'; 0 by the template 'total and deterministic' (their statements: YthhdedjfmjmgdaaTotals.lean).
  GIVEN WITH THE SEED: the statements are not yours to turn. If you find one false, say at which input.
  Laid BY PROGRAM, IN A SANDBOX (cutbox-rows.mjs): the forced cells as the released guide's own fill.sh prints them over the translation 8cef20a08d2b067c… (all of the seat's roots in one cut). By AI agents, Wed Nov 11 2026. No macro, syntax, notation, axiom, sorry.
-/
import Derived.Test.YthhdedjfmjmgdaaChecked
import GoSem.Claim
import GoSem.ClaimJoined
import GoSem.ClaimMapViews
import Derived.JoinedTies
import Derived.KernelRfl
namespace Go.Proofs.Ythhdedjfmjmgdaa
/- THE CELL 'sum', in the pinned program and in every row, IS THE sha256 OF THE DUMP (.gsa) THAT YthhdedjfmjmgdaaProg.lean LOADS. Nothing in Lean hashes anything: it is a label: what it is worth is what the hold of that sum in a sandbox is worth. -/
noncomputable def Try.pinned : Pinned := { name := "ythhdedjfmjmgdaa", sum := "8cef20a08d2b067c847cc40f88447244ccd88ac358294f124efde6ba14e2f2d3", checked := Try.checked }
namespace Rows
def none {H : Type} : Left H := { results := [], args := [] }

/-- 'laws.FnExactIsFraction': WHATEVER THE INPUT: true; the input reads as it did. -/
def fnExactIsFractionSpec : ChangeSpec := { name := "fnExactIsFraction", fn := fun _ => fun
  | [d] => { results := [.lit (.bool true)], args := [d] }
  | _ => none }
def fnExactIsFractionRow : OpenClaim := { program := "ythhdedjfmjmgdaa", sum := "8cef20a08d2b067c847cc40f88447244ccd88ac358294f124efde6ba14e2f2d3", func := "loop.example/g01236/laws.FnExactIsFraction", spec := "fnExactIsFraction", apart := false }
def FnExactIsFractionSaid : Prop := fnExactIsFractionRow.holds Try.pinned (OpenSpec.ofChange fnExactIsFractionSpec)

/-- ITS FALSE NEIGHBOUR: 'it returns false'. Refute it at one input. -/
def fnExactIsFractionWrong : ChangeSpec := { name := "fnExactIsFraction", fn := fun _ => fun
  | [d] => { results := [.lit (.bool false)], args := [d] }
  | _ => none }
def FnExactIsFractionWrongFalsely : Prop := fnExactIsFractionRow.holds Try.pinned (OpenSpec.ofChange fnExactIsFractionWrong)

/-- 'laws.FnExactCountCuts': WHATEVER THE INPUT: true; the input reads as it did. -/
def fnExactCountCutsSpec : ChangeSpec := { name := "fnExactCountCuts", fn := fun _ => fun
  | [d1, d2] => { results := [.lit (.bool true)], args := [d1, d2] }
  | _ => none }
def fnExactCountCutsRow : OpenClaim := { program := "ythhdedjfmjmgdaa", sum := "8cef20a08d2b067c847cc40f88447244ccd88ac358294f124efde6ba14e2f2d3", func := "loop.example/g01236/laws.FnExactCountCuts", spec := "fnExactCountCuts", apart := false }
def FnExactCountCutsSaid : Prop := fnExactCountCutsRow.holds Try.pinned (OpenSpec.ofChange fnExactCountCutsSpec)

/-- ITS FALSE NEIGHBOUR: 'it returns false'. Refute it at one input. -/
def fnExactCountCutsWrong : ChangeSpec := { name := "fnExactCountCuts", fn := fun _ => fun
  | [d1, d2] => { results := [.lit (.bool false)], args := [d1, d2] }
  | _ => none }
def FnExactCountCutsWrongFalsely : Prop := fnExactCountCutsRow.holds Try.pinned (OpenSpec.ofChange fnExactCountCutsWrong)

/-- 'laws.FnExactCountTriangulations': WHATEVER THE INPUT: true; the input reads as it did. -/
def fnExactCountTriangulationsSpec : ChangeSpec := { name := "fnExactCountTriangulations", fn := fun _ => fun
  | [d] => { results := [.lit (.bool true)], args := [d] }
  | _ => none }
def fnExactCountTriangulationsRow : OpenClaim := { program := "ythhdedjfmjmgdaa", sum := "8cef20a08d2b067c847cc40f88447244ccd88ac358294f124efde6ba14e2f2d3", func := "loop.example/g01236/laws.FnExactCountTriangulations", spec := "fnExactCountTriangulations", apart := false }
def FnExactCountTriangulationsSaid : Prop := fnExactCountTriangulationsRow.holds Try.pinned (OpenSpec.ofChange fnExactCountTriangulationsSpec)

/-- ITS FALSE NEIGHBOUR: 'it returns false'. Refute it at one input. -/
def fnExactCountTriangulationsWrong : ChangeSpec := { name := "fnExactCountTriangulations", fn := fun _ => fun
  | [d] => { results := [.lit (.bool false)], args := [d] }
  | _ => none }
def FnExactCountTriangulationsWrongFalsely : Prop := fnExactCountTriangulationsRow.holds Try.pinned (OpenSpec.ofChange fnExactCountTriangulationsWrong)

/-- 'laws.FnExactCountEqualCuts': WHATEVER THE INPUT: true; the input reads as it did. -/
def fnExactCountEqualCutsSpec : ChangeSpec := { name := "fnExactCountEqualCuts", fn := fun _ => fun
  | [d1, d2] => { results := [.lit (.bool true)], args := [d1, d2] }
  | _ => none }
def fnExactCountEqualCutsRow : OpenClaim := { program := "ythhdedjfmjmgdaa", sum := "8cef20a08d2b067c847cc40f88447244ccd88ac358294f124efde6ba14e2f2d3", func := "loop.example/g01236/laws.FnExactCountEqualCuts", spec := "fnExactCountEqualCuts", apart := false }
def FnExactCountEqualCutsSaid : Prop := fnExactCountEqualCutsRow.holds Try.pinned (OpenSpec.ofChange fnExactCountEqualCutsSpec)

/-- ITS FALSE NEIGHBOUR: 'it returns false'. Refute it at one input. -/
def fnExactCountEqualCutsWrong : ChangeSpec := { name := "fnExactCountEqualCuts", fn := fun _ => fun
  | [d1, d2] => { results := [.lit (.bool false)], args := [d1, d2] }
  | _ => none }
def FnExactCountEqualCutsWrongFalsely : Prop := fnExactCountEqualCutsRow.holds Try.pinned (OpenSpec.ofChange fnExactCountEqualCutsWrong)

/-- 'laws.FnExactCountAllCuts': WHATEVER THE INPUT: true; the input reads as it did. -/
def fnExactCountAllCutsSpec : ChangeSpec := { name := "fnExactCountAllCuts", fn := fun _ => fun
  | [d] => { results := [.lit (.bool true)], args := [d] }
  | _ => none }
def fnExactCountAllCutsRow : OpenClaim := { program := "ythhdedjfmjmgdaa", sum := "8cef20a08d2b067c847cc40f88447244ccd88ac358294f124efde6ba14e2f2d3", func := "loop.example/g01236/laws.FnExactCountAllCuts", spec := "fnExactCountAllCuts", apart := false }
def FnExactCountAllCutsSaid : Prop := fnExactCountAllCutsRow.holds Try.pinned (OpenSpec.ofChange fnExactCountAllCutsSpec)

/-- ITS FALSE NEIGHBOUR: 'it returns false'. Refute it at one input. -/
def fnExactCountAllCutsWrong : ChangeSpec := { name := "fnExactCountAllCuts", fn := fun _ => fun
  | [d] => { results := [.lit (.bool false)], args := [d] }
  | _ => none }
def FnExactCountAllCutsWrongFalsely : Prop := fnExactCountAllCutsRow.holds Try.pinned (OpenSpec.ofChange fnExactCountAllCutsWrong)

/-- 'laws.FnExactCrossOf': WHATEVER THE INPUT: true; the input reads as it did. -/
def fnExactCrossOfSpec : ChangeSpec := { name := "fnExactCrossOf", fn := fun _ => fun
  | [d1, d2] => { results := [.lit (.bool true)], args := [d1, d2] }
  | _ => none }
def fnExactCrossOfRow : OpenClaim := { program := "ythhdedjfmjmgdaa", sum := "8cef20a08d2b067c847cc40f88447244ccd88ac358294f124efde6ba14e2f2d3", func := "loop.example/g01236/laws.FnExactCrossOf", spec := "fnExactCrossOf", unfollowed := true, recurses := true, apart := false }
def FnExactCrossOfSaid : Prop := fnExactCrossOfRow.holds Try.pinned (OpenSpec.ofChange fnExactCrossOfSpec)

/-- ITS FALSE NEIGHBOUR: 'it returns false'. Refute it at one input. -/
def fnExactCrossOfWrong : ChangeSpec := { name := "fnExactCrossOf", fn := fun _ => fun
  | [d1, d2] => { results := [.lit (.bool false)], args := [d1, d2] }
  | _ => none }
def FnExactCrossOfWrongFalsely : Prop := fnExactCrossOfRow.holds Try.pinned (OpenSpec.ofChange fnExactCrossOfWrong)

/-- 'laws.FnExactAreNear': WHATEVER THE INPUT: true; the input reads as it did. -/
def fnExactAreNearSpec : ChangeSpec := { name := "fnExactAreNear", fn := fun _ => fun
  | [d1, d2] => { results := [.lit (.bool true)], args := [d1, d2] }
  | _ => none }
def fnExactAreNearRow : OpenClaim := { program := "ythhdedjfmjmgdaa", sum := "8cef20a08d2b067c847cc40f88447244ccd88ac358294f124efde6ba14e2f2d3", func := "loop.example/g01236/laws.FnExactAreNear", spec := "fnExactAreNear", unfollowed := true, recurses := true, apart := false }
def FnExactAreNearSaid : Prop := fnExactAreNearRow.holds Try.pinned (OpenSpec.ofChange fnExactAreNearSpec)

/-- ITS FALSE NEIGHBOUR: 'it returns false'. Refute it at one input. -/
def fnExactAreNearWrong : ChangeSpec := { name := "fnExactAreNear", fn := fun _ => fun
  | [d1, d2] => { results := [.lit (.bool false)], args := [d1, d2] }
  | _ => none }
def FnExactAreNearWrongFalsely : Prop := fnExactAreNearRow.holds Try.pinned (OpenSpec.ofChange fnExactAreNearWrong)

/-- 'laws.FnExactCountByCorner': WHATEVER THE INPUT: true; the input reads as it did. -/
def fnExactCountByCornerSpec : ChangeSpec := { name := "fnExactCountByCorner", fn := fun _ => fun
  | [d] => { results := [.lit (.bool true)], args := [d] }
  | _ => none }
def fnExactCountByCornerRow : OpenClaim := { program := "ythhdedjfmjmgdaa", sum := "8cef20a08d2b067c847cc40f88447244ccd88ac358294f124efde6ba14e2f2d3", func := "loop.example/g01236/laws.FnExactCountByCorner", spec := "fnExactCountByCorner", apart := false }
def FnExactCountByCornerSaid : Prop := fnExactCountByCornerRow.holds Try.pinned (OpenSpec.ofChange fnExactCountByCornerSpec)

/-- ITS FALSE NEIGHBOUR: 'it returns false'. Refute it at one input. -/
def fnExactCountByCornerWrong : ChangeSpec := { name := "fnExactCountByCorner", fn := fun _ => fun
  | [d] => { results := [.lit (.bool false)], args := [d] }
  | _ => none }
def FnExactCountByCornerWrongFalsely : Prop := fnExactCountByCornerRow.holds Try.pinned (OpenSpec.ofChange fnExactCountByCornerWrong)

/-- 'laws.FnExactMediantOf': WHATEVER THE INPUT: true; the input reads as it did. -/
def fnExactMediantOfSpec : ChangeSpec := { name := "fnExactMediantOf", fn := fun _ => fun
  | [d1, d2] => { results := [.lit (.bool true)], args := [d1, d2] }
  | _ => none }
def fnExactMediantOfRow : OpenClaim := { program := "ythhdedjfmjmgdaa", sum := "8cef20a08d2b067c847cc40f88447244ccd88ac358294f124efde6ba14e2f2d3", func := "loop.example/g01236/laws.FnExactMediantOf", spec := "fnExactMediantOf", unfollowed := true, recurses := true, apart := false }
def FnExactMediantOfSaid : Prop := fnExactMediantOfRow.holds Try.pinned (OpenSpec.ofChange fnExactMediantOfSpec)

/-- ITS FALSE NEIGHBOUR: 'it returns false'. Refute it at one input. -/
def fnExactMediantOfWrong : ChangeSpec := { name := "fnExactMediantOf", fn := fun _ => fun
  | [d1, d2] => { results := [.lit (.bool false)], args := [d1, d2] }
  | _ => none }
def FnExactMediantOfWrongFalsely : Prop := fnExactMediantOfRow.holds Try.pinned (OpenSpec.ofChange fnExactMediantOfWrong)

/-- 'laws.FnExactMoveFraction': WHATEVER THE INPUT: true; the input reads as it did. -/
def fnExactMoveFractionSpec : ChangeSpec := { name := "fnExactMoveFraction", fn := fun _ => fun
  | [d1, d2] => { results := [.lit (.bool true)], args := [d1, d2] }
  | _ => none }
def fnExactMoveFractionRow : OpenClaim := { program := "ythhdedjfmjmgdaa", sum := "8cef20a08d2b067c847cc40f88447244ccd88ac358294f124efde6ba14e2f2d3", func := "loop.example/g01236/laws.FnExactMoveFraction", spec := "fnExactMoveFraction", apart := false }
def FnExactMoveFractionSaid : Prop := fnExactMoveFractionRow.holds Try.pinned (OpenSpec.ofChange fnExactMoveFractionSpec)

/-- ITS FALSE NEIGHBOUR: 'it returns false'. Refute it at one input. -/
def fnExactMoveFractionWrong : ChangeSpec := { name := "fnExactMoveFraction", fn := fun _ => fun
  | [d1, d2] => { results := [.lit (.bool false)], args := [d1, d2] }
  | _ => none }
def FnExactMoveFractionWrongFalsely : Prop := fnExactMoveFractionRow.holds Try.pinned (OpenSpec.ofChange fnExactMoveFractionWrong)

/-- 'laws.FnExactCountByEars': WHATEVER THE INPUT: true; the input reads as it did. -/
def fnExactCountByEarsSpec : ChangeSpec := { name := "fnExactCountByEars", fn := fun _ => fun
  | [d] => { results := [.lit (.bool true)], args := [d] }
  | _ => none }
def fnExactCountByEarsRow : OpenClaim := { program := "ythhdedjfmjmgdaa", sum := "8cef20a08d2b067c847cc40f88447244ccd88ac358294f124efde6ba14e2f2d3", func := "loop.example/g01236/laws.FnExactCountByEars", spec := "fnExactCountByEars", apart := false }
def FnExactCountByEarsSaid : Prop := fnExactCountByEarsRow.holds Try.pinned (OpenSpec.ofChange fnExactCountByEarsSpec)

/-- ITS FALSE NEIGHBOUR: 'it returns false'. Refute it at one input. -/
def fnExactCountByEarsWrong : ChangeSpec := { name := "fnExactCountByEars", fn := fun _ => fun
  | [d] => { results := [.lit (.bool false)], args := [d] }
  | _ => none }
def FnExactCountByEarsWrongFalsely : Prop := fnExactCountByEarsRow.holds Try.pinned (OpenSpec.ofChange fnExactCountByEarsWrong)

/-- 'laws.FnExactParentsOf': WHATEVER THE INPUT: true; the input reads as it did. -/
def fnExactParentsOfSpec : ChangeSpec := { name := "fnExactParentsOf", fn := fun _ => fun
  | [d] => { results := [.lit (.bool true)], args := [d] }
  | _ => none }
def fnExactParentsOfRow : OpenClaim := { program := "ythhdedjfmjmgdaa", sum := "8cef20a08d2b067c847cc40f88447244ccd88ac358294f124efde6ba14e2f2d3", func := "loop.example/g01236/laws.FnExactParentsOf", spec := "fnExactParentsOf", unfollowed := true, recurses := true, apart := false }
def FnExactParentsOfSaid : Prop := fnExactParentsOfRow.holds Try.pinned (OpenSpec.ofChange fnExactParentsOfSpec)

/-- ITS FALSE NEIGHBOUR: 'it returns false'. Refute it at one input. -/
def fnExactParentsOfWrong : ChangeSpec := { name := "fnExactParentsOf", fn := fun _ => fun
  | [d] => { results := [.lit (.bool false)], args := [d] }
  | _ => none }
def FnExactParentsOfWrongFalsely : Prop := fnExactParentsOfRow.holds Try.pinned (OpenSpec.ofChange fnExactParentsOfWrong)

/- THE SECOND FORM. 'bulk': how many values and letters a reading holds, each counted each time it is reached (what is shared counts as often as it is met; a slice's spare places count too). A statement '..UptoSaid' is the law's where the arguments, and the package variables that the reading takes, are together of bulk at most 1048576: NARROWER than '..Said'. Prove '..Said' where nothing that the law and all that it calls make is longer than what came in: it says more and counts as full. Else prove '..UptoSaid'. A law counts once. -/
mutual
def uptoBulk {H : Type} : DataW H → Nat
  | .lit (.string bytes) => bytes.length + 1
  | .lit _ => 1
  | .nil => 1
  | .ptr d => uptoBulk d + 1
  | .slice elems spare => uptoBulkAll elems + uptoBulkAll spare + 1
  | .agg parts => uptoBulkAll parts + 1
  | .iface _ d => uptoBulk d + 1
  | .map entries => uptoBulkEntries entries + 1
  | .held _ => 1
def uptoBulkAll {H : Type} : List (DataW H) → Nat
  | [] => 0
  | d :: r => uptoBulk d + uptoBulkAll r
def uptoBulkEntries {H : Type} : List (Lit × DataW H) → Nat
  | [] => 0
  | x :: r => uptoBulkEntry x + uptoBulkEntries r
def uptoBulkEntry {H : Type} : Lit × DataW H → Nat
  | (.string bytes, d) => bytes.length + uptoBulk d + 1
  | (_, d) => uptoBulk d + 1
 end
def uptoSmall : (H : Type) → List (DataW H) → Bool := fun _ ds => decide (uptoBulkAll ds ≤ 1048576)
def OpenSpec.upto (s : _root_.Go.ChangeSpec) : _root_.Go.OpenSpec := { _root_.Go.OpenSpec.ofChange s with cond := some uptoSmall }

/-- 'laws.FnExactIsFraction', WHERE WHAT IT READS IS OF BULK AT MOST 1048576: true; the input reads as it did. -/
def fnExactIsFractionUptoRow : OpenClaim := { program := "ythhdedjfmjmgdaa", sum := "8cef20a08d2b067c847cc40f88447244ccd88ac358294f124efde6ba14e2f2d3", func := "loop.example/g01236/laws.FnExactIsFraction", spec := "fnExactIsFraction", apart := false, narrowed := true }
def FnExactIsFractionUptoSaid : Prop := fnExactIsFractionUptoRow.holds Try.pinned (OpenSpec.upto fnExactIsFractionSpec)

/-- 'laws.FnExactCountCuts', WHERE WHAT IT READS IS OF BULK AT MOST 1048576: true; the input reads as it did. -/
def fnExactCountCutsUptoRow : OpenClaim := { program := "ythhdedjfmjmgdaa", sum := "8cef20a08d2b067c847cc40f88447244ccd88ac358294f124efde6ba14e2f2d3", func := "loop.example/g01236/laws.FnExactCountCuts", spec := "fnExactCountCuts", apart := false, narrowed := true }
def FnExactCountCutsUptoSaid : Prop := fnExactCountCutsUptoRow.holds Try.pinned (OpenSpec.upto fnExactCountCutsSpec)

/-- 'laws.FnExactCountTriangulations', WHERE WHAT IT READS IS OF BULK AT MOST 1048576: true; the input reads as it did. -/
def fnExactCountTriangulationsUptoRow : OpenClaim := { program := "ythhdedjfmjmgdaa", sum := "8cef20a08d2b067c847cc40f88447244ccd88ac358294f124efde6ba14e2f2d3", func := "loop.example/g01236/laws.FnExactCountTriangulations", spec := "fnExactCountTriangulations", apart := false, narrowed := true }
def FnExactCountTriangulationsUptoSaid : Prop := fnExactCountTriangulationsUptoRow.holds Try.pinned (OpenSpec.upto fnExactCountTriangulationsSpec)

/-- 'laws.FnExactCountEqualCuts', WHERE WHAT IT READS IS OF BULK AT MOST 1048576: true; the input reads as it did. -/
def fnExactCountEqualCutsUptoRow : OpenClaim := { program := "ythhdedjfmjmgdaa", sum := "8cef20a08d2b067c847cc40f88447244ccd88ac358294f124efde6ba14e2f2d3", func := "loop.example/g01236/laws.FnExactCountEqualCuts", spec := "fnExactCountEqualCuts", apart := false, narrowed := true }
def FnExactCountEqualCutsUptoSaid : Prop := fnExactCountEqualCutsUptoRow.holds Try.pinned (OpenSpec.upto fnExactCountEqualCutsSpec)

/-- 'laws.FnExactCountAllCuts', WHERE WHAT IT READS IS OF BULK AT MOST 1048576: true; the input reads as it did. -/
def fnExactCountAllCutsUptoRow : OpenClaim := { program := "ythhdedjfmjmgdaa", sum := "8cef20a08d2b067c847cc40f88447244ccd88ac358294f124efde6ba14e2f2d3", func := "loop.example/g01236/laws.FnExactCountAllCuts", spec := "fnExactCountAllCuts", apart := false, narrowed := true }
def FnExactCountAllCutsUptoSaid : Prop := fnExactCountAllCutsUptoRow.holds Try.pinned (OpenSpec.upto fnExactCountAllCutsSpec)

/-- 'laws.FnExactCrossOf', WHERE WHAT IT READS IS OF BULK AT MOST 1048576: true; the input reads as it did. -/
def fnExactCrossOfUptoRow : OpenClaim := { program := "ythhdedjfmjmgdaa", sum := "8cef20a08d2b067c847cc40f88447244ccd88ac358294f124efde6ba14e2f2d3", func := "loop.example/g01236/laws.FnExactCrossOf", spec := "fnExactCrossOf", unfollowed := true, recurses := true, apart := false, narrowed := true }
def FnExactCrossOfUptoSaid : Prop := fnExactCrossOfUptoRow.holds Try.pinned (OpenSpec.upto fnExactCrossOfSpec)

/-- 'laws.FnExactAreNear', WHERE WHAT IT READS IS OF BULK AT MOST 1048576: true; the input reads as it did. -/
def fnExactAreNearUptoRow : OpenClaim := { program := "ythhdedjfmjmgdaa", sum := "8cef20a08d2b067c847cc40f88447244ccd88ac358294f124efde6ba14e2f2d3", func := "loop.example/g01236/laws.FnExactAreNear", spec := "fnExactAreNear", unfollowed := true, recurses := true, apart := false, narrowed := true }
def FnExactAreNearUptoSaid : Prop := fnExactAreNearUptoRow.holds Try.pinned (OpenSpec.upto fnExactAreNearSpec)

/-- 'laws.FnExactCountByCorner', WHERE WHAT IT READS IS OF BULK AT MOST 1048576: true; the input reads as it did. -/
def fnExactCountByCornerUptoRow : OpenClaim := { program := "ythhdedjfmjmgdaa", sum := "8cef20a08d2b067c847cc40f88447244ccd88ac358294f124efde6ba14e2f2d3", func := "loop.example/g01236/laws.FnExactCountByCorner", spec := "fnExactCountByCorner", apart := false, narrowed := true }
def FnExactCountByCornerUptoSaid : Prop := fnExactCountByCornerUptoRow.holds Try.pinned (OpenSpec.upto fnExactCountByCornerSpec)

/-- 'laws.FnExactMediantOf', WHERE WHAT IT READS IS OF BULK AT MOST 1048576: true; the input reads as it did. -/
def fnExactMediantOfUptoRow : OpenClaim := { program := "ythhdedjfmjmgdaa", sum := "8cef20a08d2b067c847cc40f88447244ccd88ac358294f124efde6ba14e2f2d3", func := "loop.example/g01236/laws.FnExactMediantOf", spec := "fnExactMediantOf", unfollowed := true, recurses := true, apart := false, narrowed := true }
def FnExactMediantOfUptoSaid : Prop := fnExactMediantOfUptoRow.holds Try.pinned (OpenSpec.upto fnExactMediantOfSpec)

/-- 'laws.FnExactMoveFraction', WHERE WHAT IT READS IS OF BULK AT MOST 1048576: true; the input reads as it did. -/
def fnExactMoveFractionUptoRow : OpenClaim := { program := "ythhdedjfmjmgdaa", sum := "8cef20a08d2b067c847cc40f88447244ccd88ac358294f124efde6ba14e2f2d3", func := "loop.example/g01236/laws.FnExactMoveFraction", spec := "fnExactMoveFraction", apart := false, narrowed := true }
def FnExactMoveFractionUptoSaid : Prop := fnExactMoveFractionUptoRow.holds Try.pinned (OpenSpec.upto fnExactMoveFractionSpec)

/-- 'laws.FnExactCountByEars', WHERE WHAT IT READS IS OF BULK AT MOST 1048576: true; the input reads as it did. -/
def fnExactCountByEarsUptoRow : OpenClaim := { program := "ythhdedjfmjmgdaa", sum := "8cef20a08d2b067c847cc40f88447244ccd88ac358294f124efde6ba14e2f2d3", func := "loop.example/g01236/laws.FnExactCountByEars", spec := "fnExactCountByEars", apart := false, narrowed := true }
def FnExactCountByEarsUptoSaid : Prop := fnExactCountByEarsUptoRow.holds Try.pinned (OpenSpec.upto fnExactCountByEarsSpec)

/-- 'laws.FnExactParentsOf', WHERE WHAT IT READS IS OF BULK AT MOST 1048576: true; the input reads as it did. -/
def fnExactParentsOfUptoRow : OpenClaim := { program := "ythhdedjfmjmgdaa", sum := "8cef20a08d2b067c847cc40f88447244ccd88ac358294f124efde6ba14e2f2d3", func := "loop.example/g01236/laws.FnExactParentsOf", spec := "fnExactParentsOf", unfollowed := true, recurses := true, apart := false, narrowed := true }
def FnExactParentsOfUptoSaid : Prop := fnExactParentsOfUptoRow.holds Try.pinned (OpenSpec.upto fnExactParentsOfSpec)

end Rows
end Go.Proofs.Ythhdedjfmjmgdaa
