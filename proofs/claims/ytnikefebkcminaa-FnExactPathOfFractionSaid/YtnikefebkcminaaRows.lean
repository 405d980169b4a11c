/-
  No cell of these rows narrows 'for every input' (looked for: loops, veiled, ifaces, maps, wideKeys, modest, calm, conditions, laid).
  DERIVED. THE GIVEN ROWS OF THIS SEAT. 9 by the template 'for every input the law returns true; each argument reads behind the call as it read before'; 0 by the template 'total and deterministic' (their statements: YtnikefebkcminaaTotals.lean).
  GIVEN WITH THE SEED: the statements are not yours to turn. If you find one false, say at which input.
  Laid BY PROGRAM, IN A SANDBOX (cutbox-rows.mjs): the forced cells as the released guide's own fill.sh prints them over the translation f249bb8f2ec14bcf… (all of the seat's roots in one cut). By AI agents, Wed Nov 11 2026. No macro, syntax, notation, axiom, sorry.
-/
import Derived.Test.YtnikefebkcminaaChecked
import GoSem.Claim
import GoSem.ClaimJoined
import GoSem.ClaimMapViews
import Derived.JoinedTies
import Derived.KernelRfl
namespace Go.Proofs.Ytnikefebkcminaa
/- THE CELL 'sum', in the pinned program and in every row, IS THE sha256 OF THE DUMP (.gsa) THAT YtnikefebkcminaaProg.lean LOADS. Nothing in Lean hashes anything: it is a label: what it is worth is what the hold of that sum in a sandbox is worth. -/
noncomputable def Try.pinned : Pinned := { name := "ytnikefebkcminaa", sum := "f249bb8f2ec14bcfa391bd50c85f8041ac977e86b146fe50ff12b17f16eb8df5", checked := Try.checked }
namespace Rows
def none {H : Type} : Left H := { results := [], args := [] }

/-- 'laws.FnExactIsFractionPolygon': WHATEVER THE INPUT: true; the input reads as it did. -/
def fnExactIsFractionPolygonSpec : ChangeSpec := { name := "fnExactIsFractionPolygon", fn := fun _ => fun
  | [d] => { results := [.lit (.bool true)], args := [d] }
  | _ => none }
def fnExactIsFractionPolygonRow : OpenClaim := { program := "ytnikefebkcminaa", sum := "f249bb8f2ec14bcfa391bd50c85f8041ac977e86b146fe50ff12b17f16eb8df5", func := "loop.example/g01236/laws.FnExactIsFractionPolygon", spec := "fnExactIsFractionPolygon", unfollowed := true, recurses := true, apart := false }
def FnExactIsFractionPolygonSaid : Prop := fnExactIsFractionPolygonRow.holds Try.pinned (OpenSpec.ofChange fnExactIsFractionPolygonSpec)

/-- ITS FALSE NEIGHBOUR: 'it returns false'. Refute it at one input. -/
def fnExactIsFractionPolygonWrong : ChangeSpec := { name := "fnExactIsFractionPolygon", fn := fun _ => fun
  | [d] => { results := [.lit (.bool false)], args := [d] }
  | _ => none }
def FnExactIsFractionPolygonWrongFalsely : Prop := fnExactIsFractionPolygonRow.holds Try.pinned (OpenSpec.ofChange fnExactIsFractionPolygonWrong)

/-- 'laws.FnExactCutOfSizes': WHATEVER THE INPUT: true; the input reads as it did. -/
def fnExactCutOfSizesSpec : ChangeSpec := { name := "fnExactCutOfSizes", fn := fun _ => fun
  | [d] => { results := [.lit (.bool true)], args := [d] }
  | _ => none }
def fnExactCutOfSizesRow : OpenClaim := { program := "ytnikefebkcminaa", sum := "f249bb8f2ec14bcfa391bd50c85f8041ac977e86b146fe50ff12b17f16eb8df5", func := "loop.example/g01236/laws.FnExactCutOfSizes", spec := "fnExactCutOfSizes", apart := false }
def FnExactCutOfSizesSaid : Prop := fnExactCutOfSizesRow.holds Try.pinned (OpenSpec.ofChange fnExactCutOfSizesSpec)

/-- ITS FALSE NEIGHBOUR: 'it returns false'. Refute it at one input. -/
def fnExactCutOfSizesWrong : ChangeSpec := { name := "fnExactCutOfSizes", fn := fun _ => fun
  | [d] => { results := [.lit (.bool false)], args := [d] }
  | _ => none }
def FnExactCutOfSizesWrongFalsely : Prop := fnExactCutOfSizesRow.holds Try.pinned (OpenSpec.ofChange fnExactCutOfSizesWrong)

/-- 'laws.FnExactPathOfFraction': WHATEVER THE INPUT: true; the input reads as it did. -/
def fnExactPathOfFractionSpec : ChangeSpec := { name := "fnExactPathOfFraction", fn := fun _ => fun
  | [d] => { results := [.lit (.bool true)], args := [d] }
  | _ => none }
def fnExactPathOfFractionRow : OpenClaim := { program := "ytnikefebkcminaa", sum := "f249bb8f2ec14bcfa391bd50c85f8041ac977e86b146fe50ff12b17f16eb8df5", func := "loop.example/g01236/laws.FnExactPathOfFraction", spec := "fnExactPathOfFraction", unfollowed := true, recurses := true, apart := false }
def FnExactPathOfFractionSaid : Prop := fnExactPathOfFractionRow.holds Try.pinned (OpenSpec.ofChange fnExactPathOfFractionSpec)

/-- ITS FALSE NEIGHBOUR: 'it returns false'. Refute it at one input. -/
def fnExactPathOfFractionWrong : ChangeSpec := { name := "fnExactPathOfFraction", fn := fun _ => fun
  | [d] => { results := [.lit (.bool false)], args := [d] }
  | _ => none }
def FnExactPathOfFractionWrongFalsely : Prop := fnExactPathOfFractionRow.holds Try.pinned (OpenSpec.ofChange fnExactPathOfFractionWrong)

/-- 'laws.FnExactIsCut': WHATEVER THE INPUT: true; the input reads as it did. -/
def fnExactIsCutSpec : ChangeSpec := { name := "fnExactIsCut", fn := fun _ => fun
  | [d1, d2] => { results := [.lit (.bool true)], args := [d1, d2] }
  | _ => none }
def fnExactIsCutRow : OpenClaim := { program := "ytnikefebkcminaa", sum := "f249bb8f2ec14bcfa391bd50c85f8041ac977e86b146fe50ff12b17f16eb8df5", func := "loop.example/g01236/laws.FnExactIsCut", spec := "fnExactIsCut", unfollowed := true, recurses := true, apart := false }
def FnExactIsCutSaid : Prop := fnExactIsCutRow.holds Try.pinned (OpenSpec.ofChange fnExactIsCutSpec)

/-- ITS FALSE NEIGHBOUR: 'it returns false'. Refute it at one input. -/
def fnExactIsCutWrong : ChangeSpec := { name := "fnExactIsCut", fn := fun _ => fun
  | [d1, d2] => { results := [.lit (.bool false)], args := [d1, d2] }
  | _ => none }
def FnExactIsCutWrongFalsely : Prop := fnExactIsCutRow.holds Try.pinned (OpenSpec.ofChange fnExactIsCutWrong)

/-- 'laws.FnExactCrossingsBetween': WHATEVER THE INPUT: true; the input reads as it did. -/
def fnExactCrossingsBetweenSpec : ChangeSpec := { name := "fnExactCrossingsBetween", fn := fun _ => fun
  | [d1, d2, d3] => { results := [.lit (.bool true)], args := [d1, d2, d3] }
  | _ => none }
def fnExactCrossingsBetweenRow : OpenClaim := { program := "ytnikefebkcminaa", sum := "f249bb8f2ec14bcfa391bd50c85f8041ac977e86b146fe50ff12b17f16eb8df5", func := "loop.example/g01236/laws.FnExactCrossingsBetween", spec := "fnExactCrossingsBetween", unfollowed := true, recurses := true, apart := false }
def FnExactCrossingsBetweenSaid : Prop := fnExactCrossingsBetweenRow.holds Try.pinned (OpenSpec.ofChange fnExactCrossingsBetweenSpec)

/-- ITS FALSE NEIGHBOUR: 'it returns false'. Refute it at one input. -/
def fnExactCrossingsBetweenWrong : ChangeSpec := { name := "fnExactCrossingsBetween", fn := fun _ => fun
  | [d1, d2, d3] => { results := [.lit (.bool false)], args := [d1, d2, d3] }
  | _ => none }
def FnExactCrossingsBetweenWrongFalsely : Prop := fnExactCrossingsBetweenRow.holds Try.pinned (OpenSpec.ofChange fnExactCrossingsBetweenWrong)

/-- 'laws.FnExactPiecesAtCorners': WHATEVER THE INPUT: true; the input reads as it did. -/
def fnExactPiecesAtCornersSpec : ChangeSpec := { name := "fnExactPiecesAtCorners", fn := fun _ => fun
  | [d1, d2] => { results := [.lit (.bool true)], args := [d1, d2] }
  | _ => none }
def fnExactPiecesAtCornersRow : OpenClaim := { program := "ytnikefebkcminaa", sum := "f249bb8f2ec14bcfa391bd50c85f8041ac977e86b146fe50ff12b17f16eb8df5", func := "loop.example/g01236/laws.FnExactPiecesAtCorners", spec := "fnExactPiecesAtCorners", unfollowed := true, recurses := true, apart := false }
def FnExactPiecesAtCornersSaid : Prop := fnExactPiecesAtCornersRow.holds Try.pinned (OpenSpec.ofChange fnExactPiecesAtCornersSpec)

/-- ITS FALSE NEIGHBOUR: 'it returns false'. Refute it at one input. -/
def fnExactPiecesAtCornersWrong : ChangeSpec := { name := "fnExactPiecesAtCorners", fn := fun _ => fun
  | [d1, d2] => { results := [.lit (.bool false)], args := [d1, d2] }
  | _ => none }
def FnExactPiecesAtCornersWrongFalsely : Prop := fnExactPiecesAtCornersRow.holds Try.pinned (OpenSpec.ofChange fnExactPiecesAtCornersWrong)

/-- 'laws.FnExactFreeDiagonals': WHATEVER THE INPUT: true; the input reads as it did. -/
def fnExactFreeDiagonalsSpec : ChangeSpec := { name := "fnExactFreeDiagonals", fn := fun _ => fun
  | [d1, d2] => { results := [.lit (.bool true)], args := [d1, d2] }
  | _ => none }
def fnExactFreeDiagonalsRow : OpenClaim := { program := "ytnikefebkcminaa", sum := "f249bb8f2ec14bcfa391bd50c85f8041ac977e86b146fe50ff12b17f16eb8df5", func := "loop.example/g01236/laws.FnExactFreeDiagonals", spec := "fnExactFreeDiagonals", unfollowed := true, recurses := true, apart := false }
def FnExactFreeDiagonalsSaid : Prop := fnExactFreeDiagonalsRow.holds Try.pinned (OpenSpec.ofChange fnExactFreeDiagonalsSpec)

/-- ITS FALSE NEIGHBOUR: 'it returns false'. Refute it at one input. -/
def fnExactFreeDiagonalsWrong : ChangeSpec := { name := "fnExactFreeDiagonals", fn := fun _ => fun
  | [d1, d2] => { results := [.lit (.bool false)], args := [d1, d2] }
  | _ => none }
def FnExactFreeDiagonalsWrongFalsely : Prop := fnExactFreeDiagonalsRow.holds Try.pinned (OpenSpec.ofChange fnExactFreeDiagonalsWrong)

/-- 'laws.FnExactCommonDiagonals': WHATEVER THE INPUT: true; the input reads as it did. -/
def fnExactCommonDiagonalsSpec : ChangeSpec := { name := "fnExactCommonDiagonals", fn := fun _ => fun
  | [d1, d2, d3] => { results := [.lit (.bool true)], args := [d1, d2, d3] }
  | _ => none }
def fnExactCommonDiagonalsRow : OpenClaim := { program := "ytnikefebkcminaa", sum := "f249bb8f2ec14bcfa391bd50c85f8041ac977e86b146fe50ff12b17f16eb8df5", func := "loop.example/g01236/laws.FnExactCommonDiagonals", spec := "fnExactCommonDiagonals", unfollowed := true, recurses := true, apart := false }
def FnExactCommonDiagonalsSaid : Prop := fnExactCommonDiagonalsRow.holds Try.pinned (OpenSpec.ofChange fnExactCommonDiagonalsSpec)

/-- ITS FALSE NEIGHBOUR: 'it returns false'. Refute it at one input. -/
def fnExactCommonDiagonalsWrong : ChangeSpec := { name := "fnExactCommonDiagonals", fn := fun _ => fun
  | [d1, d2, d3] => { results := [.lit (.bool false)], args := [d1, d2, d3] }
  | _ => none }
def FnExactCommonDiagonalsWrongFalsely : Prop := fnExactCommonDiagonalsRow.holds Try.pinned (OpenSpec.ofChange fnExactCommonDiagonalsWrong)

/-- 'laws.FnExactAllCuts': WHATEVER THE INPUT: true; the input reads as it did. -/
def fnExactAllCutsSpec : ChangeSpec := { name := "fnExactAllCuts", fn := fun _ => fun
  | [d1, d2] => { results := [.lit (.bool true)], args := [d1, d2] }
  | _ => none }
def fnExactAllCutsRow : OpenClaim := { program := "ytnikefebkcminaa", sum := "f249bb8f2ec14bcfa391bd50c85f8041ac977e86b146fe50ff12b17f16eb8df5", func := "loop.example/g01236/laws.FnExactAllCuts", spec := "fnExactAllCuts", unfollowed := true, recurses := true, apart := false }
def FnExactAllCutsSaid : Prop := fnExactAllCutsRow.holds Try.pinned (OpenSpec.ofChange fnExactAllCutsSpec)

/-- ITS FALSE NEIGHBOUR: 'it returns false'. Refute it at one input. -/
def fnExactAllCutsWrong : ChangeSpec := { name := "fnExactAllCuts", fn := fun _ => fun
  | [d1, d2] => { results := [.lit (.bool false)], args := [d1, d2] }
  | _ => none }
def FnExactAllCutsWrongFalsely : Prop := fnExactAllCutsRow.holds Try.pinned (OpenSpec.ofChange fnExactAllCutsWrong)

/- THE SECOND FORM. 'bulk': how many values and letters a reading holds, each counted each time it is reached (what is shared counts as often as it is met; a slice's spare places count too). A statement '..UptoSaid' is the law's where the arguments, and the package variables that the reading takes, are together of bulk at most 1048576: NARROWER than '..Said'. Prove '..Said' where nothing that the law and all that it calls make is longer than what came in: it says more and counts as full. Else prove '..UptoSaid'. A law counts once. -/
mutual
def uptoBulk {H : Type} : DataW H → Nat
  | .lit (.string bytes) => bytes.length + 1
  | .lit _ => 1
  | .nil => 1
  | .ptr d => uptoBulk d + 1
  | .slice elems spare => uptoBulkAll elems + uptoBulkAll spare + 1
  | .agg parts => uptoBulkAll parts + 1
  | .iface _ d => uptoBulk d + 1
  | .map entries => uptoBulkEntries entries + 1
  | .held _ => 1
def uptoBulkAll {H : Type} : List (DataW H) → Nat
  | [] => 0
  | d :: r => uptoBulk d + uptoBulkAll r
def uptoBulkEntries {H : Type} : List (Lit × DataW H) → Nat
  | [] => 0
  | x :: r => uptoBulkEntry x + uptoBulkEntries r
def uptoBulkEntry {H : Type} : Lit × DataW H → Nat
  | (.string bytes, d) => bytes.length + uptoBulk d + 1
  | (_, d) => uptoBulk d + 1
 end
def uptoSmall : (H : Type) → List (DataW H) → Bool := fun _ ds => decide (uptoBulkAll ds ≤ 1048576)
def OpenSpec.upto (s : _root_.Go.ChangeSpec) : _root_.Go.OpenSpec := { _root_.Go.OpenSpec.ofChange s with cond := some uptoSmall }

/-- 'laws.FnExactIsFractionPolygon', WHERE WHAT IT READS IS OF BULK AT MOST 1048576: true; the input reads as it did. -/
def fnExactIsFractionPolygonUptoRow : OpenClaim := { program := "ytnikefebkcminaa", sum := "f249bb8f2ec14bcfa391bd50c85f8041ac977e86b146fe50ff12b17f16eb8df5", func := "loop.example/g01236/laws.FnExactIsFractionPolygon", spec := "fnExactIsFractionPolygon", unfollowed := true, recurses := true, apart := false, narrowed := true }
def FnExactIsFractionPolygonUptoSaid : Prop := fnExactIsFractionPolygonUptoRow.holds Try.pinned (OpenSpec.upto fnExactIsFractionPolygonSpec)

/-- 'laws.FnExactCutOfSizes', WHERE WHAT IT READS IS OF BULK AT MOST 1048576: true; the input reads as it did. -/
def fnExactCutOfSizesUptoRow : OpenClaim := { program := "ytnikefebkcminaa", sum := "f249bb8f2ec14bcfa391bd50c85f8041ac977e86b146fe50ff12b17f16eb8df5", func := "loop.example/g01236/laws.FnExactCutOfSizes", spec := "fnExactCutOfSizes", apart := false, narrowed := true }
def FnExactCutOfSizesUptoSaid : Prop := fnExactCutOfSizesUptoRow.holds Try.pinned (OpenSpec.upto fnExactCutOfSizesSpec)

/-- 'laws.FnExactPathOfFraction', WHERE WHAT IT READS IS OF BULK AT MOST 1048576: true; the input reads as it did. -/
def fnExactPathOfFractionUptoRow : OpenClaim := { program := "ytnikefebkcminaa", sum := "f249bb8f2ec14bcfa391bd50c85f8041ac977e86b146fe50ff12b17f16eb8df5", func := "loop.example/g01236/laws.FnExactPathOfFraction", spec := "fnExactPathOfFraction", unfollowed := true, recurses := true, apart := false, narrowed := true }
def FnExactPathOfFractionUptoSaid : Prop := fnExactPathOfFractionUptoRow.holds Try.pinned (OpenSpec.upto fnExactPathOfFractionSpec)

/-- 'laws.FnExactIsCut', WHERE WHAT IT READS IS OF BULK AT MOST 1048576: true; the input reads as it did. -/
def fnExactIsCutUptoRow : OpenClaim := { program := "ytnikefebkcminaa", sum := "f249bb8f2ec14bcfa391bd50c85f8041ac977e86b146fe50ff12b17f16eb8df5", func := "loop.example/g01236/laws.FnExactIsCut", spec := "fnExactIsCut", unfollowed := true, recurses := true, apart := false, narrowed := true }
def FnExactIsCutUptoSaid : Prop := fnExactIsCutUptoRow.holds Try.pinned (OpenSpec.upto fnExactIsCutSpec)

/-- 'laws.FnExactCrossingsBetween', WHERE WHAT IT READS IS OF BULK AT MOST 1048576: true; the input reads as it did. -/
def fnExactCrossingsBetweenUptoRow : OpenClaim := { program := "ytnikefebkcminaa", sum := "f249bb8f2ec14bcfa391bd50c85f8041ac977e86b146fe50ff12b17f16eb8df5", func := "loop.example/g01236/laws.FnExactCrossingsBetween", spec := "fnExactCrossingsBetween", unfollowed := true, recurses := true, apart := false, narrowed := true }
def FnExactCrossingsBetweenUptoSaid : Prop := fnExactCrossingsBetweenUptoRow.holds Try.pinned (OpenSpec.upto fnExactCrossingsBetweenSpec)

/-- 'laws.FnExactPiecesAtCorners', WHERE WHAT IT READS IS OF BULK AT MOST 1048576: true; the input reads as it did. -/
def fnExactPiecesAtCornersUptoRow : OpenClaim := { program := "ytnikefebkcminaa", sum := "f249bb8f2ec14bcfa391bd50c85f8041ac977e86b146fe50ff12b17f16eb8df5", func := "loop.example/g01236/laws.FnExactPiecesAtCorners", spec := "fnExactPiecesAtCorners", unfollowed := true, recurses := true, apart := false, narrowed := true }
def FnExactPiecesAtCornersUptoSaid : Prop := fnExactPiecesAtCornersUptoRow.holds Try.pinned (OpenSpec.upto fnExactPiecesAtCornersSpec)

/-- 'laws.FnExactFreeDiagonals', WHERE WHAT IT READS IS OF BULK AT MOST 1048576: true; the input reads as it did. -/
def fnExactFreeDiagonalsUptoRow : OpenClaim := { program := "ytnikefebkcminaa", sum := "f249bb8f2ec14bcfa391bd50c85f8041ac977e86b146fe50ff12b17f16eb8df5", func := "loop.example/g01236/laws.FnExactFreeDiagonals", spec := "fnExactFreeDiagonals", unfollowed := true, recurses := true, apart := false, narrowed := true }
def FnExactFreeDiagonalsUptoSaid : Prop := fnExactFreeDiagonalsUptoRow.holds Try.pinned (OpenSpec.upto fnExactFreeDiagonalsSpec)

/-- 'laws.FnExactCommonDiagonals', WHERE WHAT IT READS IS OF BULK AT MOST 1048576: true; the input reads as it did. -/
def fnExactCommonDiagonalsUptoRow : OpenClaim := { program := "ytnikefebkcminaa", sum := "f249bb8f2ec14bcfa391bd50c85f8041ac977e86b146fe50ff12b17f16eb8df5", func := "loop.example/g01236/laws.FnExactCommonDiagonals", spec := "fnExactCommonDiagonals", unfollowed := true, recurses := true, apart := false, narrowed := true }
def FnExactCommonDiagonalsUptoSaid : Prop := fnExactCommonDiagonalsUptoRow.holds Try.pinned (OpenSpec.upto fnExactCommonDiagonalsSpec)

/-- 'laws.FnExactAllCuts', WHERE WHAT IT READS IS OF BULK AT MOST 1048576: true; the input reads as it did. -/
def fnExactAllCutsUptoRow : OpenClaim := { program := "ytnikefebkcminaa", sum := "f249bb8f2ec14bcfa391bd50c85f8041ac977e86b146fe50ff12b17f16eb8df5", func := "loop.example/g01236/laws.FnExactAllCuts", spec := "fnExactAllCuts", unfollowed := true, recurses := true, apart := false, narrowed := true }
def FnExactAllCutsUptoSaid : Prop := fnExactAllCutsUptoRow.holds Try.pinned (OpenSpec.upto fnExactAllCutsSpec)

end Rows
end Go.Proofs.Ytnikefebkcminaa
