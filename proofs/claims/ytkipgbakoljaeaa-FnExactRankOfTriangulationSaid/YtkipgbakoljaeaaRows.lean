/-
  No cell of these rows narrows 'for every input' (looked for: loops, veiled, ifaces, maps, wideKeys, modest, calm, conditions, laid).
  DERIVED. THE GIVEN ROWS OF THIS SEAT. 12 by the template 'for every input the law returns true; each argument reads behind the call as it read before'; 0 by the template 'total and deterministic' (their statements: YtkipgbakoljaeaaTotals.lean).
  GIVEN WITH THE SEED: the statements are not yours to turn. If you find one false, say at which input.
  Laid BY PROGRAM, IN A SANDBOX (cutbox-rows.mjs): the forced cells as the released guide's own fill.sh prints them over the translation ed84b56c78602c81… (all of the seat's roots in one cut). By AI agents, Wed Nov 11 2026. No macro, syntax, notation, axiom, sorry.
-/
import Derived.Test.YtkipgbakoljaeaaChecked
import GoSem.Claim
import GoSem.ClaimJoined
import GoSem.ClaimMapViews
import Derived.JoinedTies
import Derived.KernelRfl
namespace Go.Proofs.Ytkipgbakoljaeaa
/- THE CELL 'sum', in the pinned program and in every row, IS THE sha256 OF THE DUMP (.gsa) THAT YtkipgbakoljaeaaProg.lean LOADS. Nothing in Lean hashes anything: it is a label: what it is worth is what the hold of that sum in a sandbox is worth. -/
noncomputable def Try.pinned : Pinned := { name := "ytkipgbakoljaeaa", sum := "ed84b56c78602c8172082cd6e8d507df9186e1a2b96642fda446270b91a1b93d", checked := Try.checked }
namespace Rows
def none {H : Type} : Left H := { results := [], args := [] }

/-- 'laws.FnExactTriangulationOfRank': WHATEVER THE INPUT: true; the input reads as it did. -/
def fnExactTriangulationOfRankSpec : ChangeSpec := { name := "fnExactTriangulationOfRank", fn := fun _ => fun
  | [d1, d2] => { results := [.lit (.bool true)], args := [d1, d2] }
  | _ => none }
def fnExactTriangulationOfRankRow : OpenClaim := { program := "ytkipgbakoljaeaa", sum := "ed84b56c78602c8172082cd6e8d507df9186e1a2b96642fda446270b91a1b93d", func := "loop.example/g01236/laws.FnExactTriangulationOfRank", spec := "fnExactTriangulationOfRank", unfollowed := true, recurses := true, apart := false }
def FnExactTriangulationOfRankSaid : Prop := fnExactTriangulationOfRankRow.holds Try.pinned (OpenSpec.ofChange fnExactTriangulationOfRankSpec)

/-- ITS FALSE NEIGHBOUR: 'it returns false'. Refute it at one input. -/
def fnExactTriangulationOfRankWrong : ChangeSpec := { name := "fnExactTriangulationOfRank", fn := fun _ => fun
  | [d1, d2] => { results := [.lit (.bool false)], args := [d1, d2] }
  | _ => none }
def FnExactTriangulationOfRankWrongFalsely : Prop := fnExactTriangulationOfRankRow.holds Try.pinned (OpenSpec.ofChange fnExactTriangulationOfRankWrong)

/-- 'laws.FnExactRankOfTriangulation': WHATEVER THE INPUT: true; the input reads as it did. -/
def fnExactRankOfTriangulationSpec : ChangeSpec := { name := "fnExactRankOfTriangulation", fn := fun _ => fun
  | [d1, d2] => { results := [.lit (.bool true)], args := [d1, d2] }
  | _ => none }
def fnExactRankOfTriangulationRow : OpenClaim := { program := "ytkipgbakoljaeaa", sum := "ed84b56c78602c8172082cd6e8d507df9186e1a2b96642fda446270b91a1b93d", func := "loop.example/g01236/laws.FnExactRankOfTriangulation", spec := "fnExactRankOfTriangulation", unfollowed := true, recurses := true, apart := false }
def FnExactRankOfTriangulationSaid : Prop := fnExactRankOfTriangulationRow.holds Try.pinned (OpenSpec.ofChange fnExactRankOfTriangulationSpec)

/-- ITS FALSE NEIGHBOUR: 'it returns false'. Refute it at one input. -/
def fnExactRankOfTriangulationWrong : ChangeSpec := { name := "fnExactRankOfTriangulation", fn := fun _ => fun
  | [d1, d2] => { results := [.lit (.bool false)], args := [d1, d2] }
  | _ => none }
def FnExactRankOfTriangulationWrongFalsely : Prop := fnExactRankOfTriangulationRow.holds Try.pinned (OpenSpec.ofChange fnExactRankOfTriangulationWrong)

/-- 'laws.FnExactOtherDiagonal': WHATEVER THE INPUT: true; the input reads as it did. -/
def fnExactOtherDiagonalSpec : ChangeSpec := { name := "fnExactOtherDiagonal", fn := fun _ => fun
  | [d1, d2, d3] => { results := [.lit (.bool true)], args := [d1, d2, d3] }
  | _ => none }
def fnExactOtherDiagonalRow : OpenClaim := { program := "ytkipgbakoljaeaa", sum := "ed84b56c78602c8172082cd6e8d507df9186e1a2b96642fda446270b91a1b93d", func := "loop.example/g01236/laws.FnExactOtherDiagonal", spec := "fnExactOtherDiagonal", unfollowed := true, recurses := true, apart := false }
def FnExactOtherDiagonalSaid : Prop := fnExactOtherDiagonalRow.holds Try.pinned (OpenSpec.ofChange fnExactOtherDiagonalSpec)

/-- ITS FALSE NEIGHBOUR: 'it returns false'. Refute it at one input. -/
def fnExactOtherDiagonalWrong : ChangeSpec := { name := "fnExactOtherDiagonal", fn := fun _ => fun
  | [d1, d2, d3] => { results := [.lit (.bool false)], args := [d1, d2, d3] }
  | _ => none }
def FnExactOtherDiagonalWrongFalsely : Prop := fnExactOtherDiagonalRow.holds Try.pinned (OpenSpec.ofChange fnExactOtherDiagonalWrong)

/-- 'laws.FnExactQuiddityChange': WHATEVER THE INPUT: true; the input reads as it did. -/
def fnExactQuiddityChangeSpec : ChangeSpec := { name := "fnExactQuiddityChange", fn := fun _ => fun
  | [d1, d2, d3] => { results := [.lit (.bool true)], args := [d1, d2, d3] }
  | _ => none }
def fnExactQuiddityChangeRow : OpenClaim := { program := "ytkipgbakoljaeaa", sum := "ed84b56c78602c8172082cd6e8d507df9186e1a2b96642fda446270b91a1b93d", func := "loop.example/g01236/laws.FnExactQuiddityChange", spec := "fnExactQuiddityChange", unfollowed := true, recurses := true, apart := false }
def FnExactQuiddityChangeSaid : Prop := fnExactQuiddityChangeRow.holds Try.pinned (OpenSpec.ofChange fnExactQuiddityChangeSpec)

/-- ITS FALSE NEIGHBOUR: 'it returns false'. Refute it at one input. -/
def fnExactQuiddityChangeWrong : ChangeSpec := { name := "fnExactQuiddityChange", fn := fun _ => fun
  | [d1, d2, d3] => { results := [.lit (.bool false)], args := [d1, d2, d3] }
  | _ => none }
def FnExactQuiddityChangeWrongFalsely : Prop := fnExactQuiddityChangeRow.holds Try.pinned (OpenSpec.ofChange fnExactQuiddityChangeWrong)

/-- 'laws.FnExactTurnCut': WHATEVER THE INPUT: true; the input reads as it did. -/
def fnExactTurnCutSpec : ChangeSpec := { name := "fnExactTurnCut", fn := fun _ => fun
  | [d1, d2, d3] => { results := [.lit (.bool true)], args := [d1, d2, d3] }
  | _ => none }
def fnExactTurnCutRow : OpenClaim := { program := "ytkipgbakoljaeaa", sum := "ed84b56c78602c8172082cd6e8d507df9186e1a2b96642fda446270b91a1b93d", func := "loop.example/g01236/laws.FnExactTurnCut", spec := "fnExactTurnCut", unfollowed := true, recurses := true, apart := false }
def FnExactTurnCutSaid : Prop := fnExactTurnCutRow.holds Try.pinned (OpenSpec.ofChange fnExactTurnCutSpec)

/-- ITS FALSE NEIGHBOUR: 'it returns false'. Refute it at one input. -/
def fnExactTurnCutWrong : ChangeSpec := { name := "fnExactTurnCut", fn := fun _ => fun
  | [d1, d2, d3] => { results := [.lit (.bool false)], args := [d1, d2, d3] }
  | _ => none }
def FnExactTurnCutWrongFalsely : Prop := fnExactTurnCutRow.holds Try.pinned (OpenSpec.ofChange fnExactTurnCutWrong)

/-- 'laws.FnExactAddDiagonal': WHATEVER THE INPUT: true; the input reads as it did. -/
def fnExactAddDiagonalSpec : ChangeSpec := { name := "fnExactAddDiagonal", fn := fun _ => fun
  | [d1, d2, d3] => { results := [.lit (.bool true)], args := [d1, d2, d3] }
  | _ => none }
def fnExactAddDiagonalRow : OpenClaim := { program := "ytkipgbakoljaeaa", sum := "ed84b56c78602c8172082cd6e8d507df9186e1a2b96642fda446270b91a1b93d", func := "loop.example/g01236/laws.FnExactAddDiagonal", spec := "fnExactAddDiagonal", unfollowed := true, recurses := true, apart := false }
def FnExactAddDiagonalSaid : Prop := fnExactAddDiagonalRow.holds Try.pinned (OpenSpec.ofChange fnExactAddDiagonalSpec)

/-- ITS FALSE NEIGHBOUR: 'it returns false'. Refute it at one input. -/
def fnExactAddDiagonalWrong : ChangeSpec := { name := "fnExactAddDiagonal", fn := fun _ => fun
  | [d1, d2, d3] => { results := [.lit (.bool false)], args := [d1, d2, d3] }
  | _ => none }
def FnExactAddDiagonalWrongFalsely : Prop := fnExactAddDiagonalRow.holds Try.pinned (OpenSpec.ofChange fnExactAddDiagonalWrong)

/-- 'laws.FnExactFlipDiagonal': WHATEVER THE INPUT: true; the input reads as it did. -/
def fnExactFlipDiagonalSpec : ChangeSpec := { name := "fnExactFlipDiagonal", fn := fun _ => fun
  | [d1, d2, d3] => { results := [.lit (.bool true)], args := [d1, d2, d3] }
  | _ => none }
def fnExactFlipDiagonalRow : OpenClaim := { program := "ytkipgbakoljaeaa", sum := "ed84b56c78602c8172082cd6e8d507df9186e1a2b96642fda446270b91a1b93d", func := "loop.example/g01236/laws.FnExactFlipDiagonal", spec := "fnExactFlipDiagonal", unfollowed := true, recurses := true, apart := false }
def FnExactFlipDiagonalSaid : Prop := fnExactFlipDiagonalRow.holds Try.pinned (OpenSpec.ofChange fnExactFlipDiagonalSpec)

/-- ITS FALSE NEIGHBOUR: 'it returns false'. Refute it at one input. -/
def fnExactFlipDiagonalWrong : ChangeSpec := { name := "fnExactFlipDiagonal", fn := fun _ => fun
  | [d1, d2, d3] => { results := [.lit (.bool false)], args := [d1, d2, d3] }
  | _ => none }
def FnExactFlipDiagonalWrongFalsely : Prop := fnExactFlipDiagonalRow.holds Try.pinned (OpenSpec.ofChange fnExactFlipDiagonalWrong)

/-- 'laws.FnExactAreFlipApart': WHATEVER THE INPUT: true; the input reads as it did. -/
def fnExactAreFlipApartSpec : ChangeSpec := { name := "fnExactAreFlipApart", fn := fun _ => fun
  | [d1, d2, d3] => { results := [.lit (.bool true)], args := [d1, d2, d3] }
  | _ => none }
def fnExactAreFlipApartRow : OpenClaim := { program := "ytkipgbakoljaeaa", sum := "ed84b56c78602c8172082cd6e8d507df9186e1a2b96642fda446270b91a1b93d", func := "loop.example/g01236/laws.FnExactAreFlipApart", spec := "fnExactAreFlipApart", unfollowed := true, recurses := true, apart := false }
def FnExactAreFlipApartSaid : Prop := fnExactAreFlipApartRow.holds Try.pinned (OpenSpec.ofChange fnExactAreFlipApartSpec)

/-- ITS FALSE NEIGHBOUR: 'it returns false'. Refute it at one input. -/
def fnExactAreFlipApartWrong : ChangeSpec := { name := "fnExactAreFlipApart", fn := fun _ => fun
  | [d1, d2, d3] => { results := [.lit (.bool false)], args := [d1, d2, d3] }
  | _ => none }
def FnExactAreFlipApartWrongFalsely : Prop := fnExactAreFlipApartRow.holds Try.pinned (OpenSpec.ofChange fnExactAreFlipApartWrong)

/-- 'laws.FnExactAllFlips': WHATEVER THE INPUT: true; the input reads as it did. -/
def fnExactAllFlipsSpec : ChangeSpec := { name := "fnExactAllFlips", fn := fun _ => fun
  | [d1, d2] => { results := [.lit (.bool true)], args := [d1, d2] }
  | _ => none }
def fnExactAllFlipsRow : OpenClaim := { program := "ytkipgbakoljaeaa", sum := "ed84b56c78602c8172082cd6e8d507df9186e1a2b96642fda446270b91a1b93d", func := "loop.example/g01236/laws.FnExactAllFlips", spec := "fnExactAllFlips", unfollowed := true, recurses := true, apart := false }
def FnExactAllFlipsSaid : Prop := fnExactAllFlipsRow.holds Try.pinned (OpenSpec.ofChange fnExactAllFlipsSpec)

/-- ITS FALSE NEIGHBOUR: 'it returns false'. Refute it at one input. -/
def fnExactAllFlipsWrong : ChangeSpec := { name := "fnExactAllFlips", fn := fun _ => fun
  | [d1, d2] => { results := [.lit (.bool false)], args := [d1, d2] }
  | _ => none }
def FnExactAllFlipsWrongFalsely : Prop := fnExactAllFlipsRow.holds Try.pinned (OpenSpec.ofChange fnExactAllFlipsWrong)

/-- 'laws.FnExactPlayFlips': WHATEVER THE INPUT: true; the input reads as it did. -/
def fnExactPlayFlipsSpec : ChangeSpec := { name := "fnExactPlayFlips", fn := fun _ => fun
  | [d1, d2, d3] => { results := [.lit (.bool true)], args := [d1, d2, d3] }
  | _ => none }
def fnExactPlayFlipsRow : OpenClaim := { program := "ytkipgbakoljaeaa", sum := "ed84b56c78602c8172082cd6e8d507df9186e1a2b96642fda446270b91a1b93d", func := "loop.example/g01236/laws.FnExactPlayFlips", spec := "fnExactPlayFlips", unfollowed := true, recurses := true, apart := false }
def FnExactPlayFlipsSaid : Prop := fnExactPlayFlipsRow.holds Try.pinned (OpenSpec.ofChange fnExactPlayFlipsSpec)

/-- ITS FALSE NEIGHBOUR: 'it returns false'. Refute it at one input. -/
def fnExactPlayFlipsWrong : ChangeSpec := { name := "fnExactPlayFlips", fn := fun _ => fun
  | [d1, d2, d3] => { results := [.lit (.bool false)], args := [d1, d2, d3] }
  | _ => none }
def FnExactPlayFlipsWrongFalsely : Prop := fnExactPlayFlipsRow.holds Try.pinned (OpenSpec.ofChange fnExactPlayFlipsWrong)

/-- 'laws.FnExactFlipsToFan': WHATEVER THE INPUT: true; the input reads as it did. -/
def fnExactFlipsToFanSpec : ChangeSpec := { name := "fnExactFlipsToFan", fn := fun _ => fun
  | [d1, d2, d3] => { results := [.lit (.bool true)], args := [d1, d2, d3] }
  | _ => none }
def fnExactFlipsToFanRow : OpenClaim := { program := "ytkipgbakoljaeaa", sum := "ed84b56c78602c8172082cd6e8d507df9186e1a2b96642fda446270b91a1b93d", func := "loop.example/g01236/laws.FnExactFlipsToFan", spec := "fnExactFlipsToFan", unfollowed := true, recurses := true, apart := false }
def FnExactFlipsToFanSaid : Prop := fnExactFlipsToFanRow.holds Try.pinned (OpenSpec.ofChange fnExactFlipsToFanSpec)

/-- ITS FALSE NEIGHBOUR: 'it returns false'. Refute it at one input. -/
def fnExactFlipsToFanWrong : ChangeSpec := { name := "fnExactFlipsToFan", fn := fun _ => fun
  | [d1, d2, d3] => { results := [.lit (.bool false)], args := [d1, d2, d3] }
  | _ => none }
def FnExactFlipsToFanWrongFalsely : Prop := fnExactFlipsToFanRow.holds Try.pinned (OpenSpec.ofChange fnExactFlipsToFanWrong)

/-- 'laws.FnExactFirstFiner': WHATEVER THE INPUT: true; the input reads as it did. -/
def fnExactFirstFinerSpec : ChangeSpec := { name := "fnExactFirstFiner", fn := fun _ => fun
  | [d1, d2] => { results := [.lit (.bool true)], args := [d1, d2] }
  | _ => none }
def fnExactFirstFinerRow : OpenClaim := { program := "ytkipgbakoljaeaa", sum := "ed84b56c78602c8172082cd6e8d507df9186e1a2b96642fda446270b91a1b93d", func := "loop.example/g01236/laws.FnExactFirstFiner", spec := "fnExactFirstFiner", unfollowed := true, recurses := true, apart := false }
def FnExactFirstFinerSaid : Prop := fnExactFirstFinerRow.holds Try.pinned (OpenSpec.ofChange fnExactFirstFinerSpec)

/-- ITS FALSE NEIGHBOUR: 'it returns false'. Refute it at one input. -/
def fnExactFirstFinerWrong : ChangeSpec := { name := "fnExactFirstFiner", fn := fun _ => fun
  | [d1, d2] => { results := [.lit (.bool false)], args := [d1, d2] }
  | _ => none }
def FnExactFirstFinerWrongFalsely : Prop := fnExactFirstFinerRow.holds Try.pinned (OpenSpec.ofChange fnExactFirstFinerWrong)

/- THE SECOND FORM. 'bulk': how many values and letters a reading holds, each counted each time it is reached (what is shared counts as often as it is met; a slice's spare places count too). A statement '..UptoSaid' is the law's where the arguments, and the package variables that the reading takes, are together of bulk at most 1048576: NARROWER than '..Said'. Prove '..Said' where nothing that the law and all that it calls make is longer than what came in: it says more and counts as full. Else prove '..UptoSaid'. A law counts once. -/
mutual
def uptoBulk {H : Type} : DataW H → Nat
  | .lit (.string bytes) => bytes.length + 1
  | .lit _ => 1
  | .nil => 1
  | .ptr d => uptoBulk d + 1
  | .slice elems spare => uptoBulkAll elems + uptoBulkAll spare + 1
  | .agg parts => uptoBulkAll parts + 1
  | .iface _ d => uptoBulk d + 1
  | .map entries => uptoBulkEntries entries + 1
  | .held _ => 1
def uptoBulkAll {H : Type} : List (DataW H) → Nat
  | [] => 0
  | d :: r => uptoBulk d + uptoBulkAll r
def uptoBulkEntries {H : Type} : List (Lit × DataW H) → Nat
  | [] => 0
  | x :: r => uptoBulkEntry x + uptoBulkEntries r
def uptoBulkEntry {H : Type} : Lit × DataW H → Nat
  | (.string bytes, d) => bytes.length + uptoBulk d + 1
  | (_, d) => uptoBulk d + 1
 end
def uptoSmall : (H : Type) → List (DataW H) → Bool := fun _ ds => decide (uptoBulkAll ds ≤ 1048576)
def OpenSpec.upto (s : _root_.Go.ChangeSpec) : _root_.Go.OpenSpec := { _root_.Go.OpenSpec.ofChange s with cond := some uptoSmall }

/-- 'laws.FnExactTriangulationOfRank', WHERE WHAT IT READS IS OF BULK AT MOST 1048576: true; the input reads as it did. -/
def fnExactTriangulationOfRankUptoRow : OpenClaim := { program := "ytkipgbakoljaeaa", sum := "ed84b56c78602c8172082cd6e8d507df9186e1a2b96642fda446270b91a1b93d", func := "loop.example/g01236/laws.FnExactTriangulationOfRank", spec := "fnExactTriangulationOfRank", unfollowed := true, recurses := true, apart := false, narrowed := true }
def FnExactTriangulationOfRankUptoSaid : Prop := fnExactTriangulationOfRankUptoRow.holds Try.pinned (OpenSpec.upto fnExactTriangulationOfRankSpec)

/-- 'laws.FnExactRankOfTriangulation', WHERE WHAT IT READS IS OF BULK AT MOST 1048576: true; the input reads as it did. -/
def fnExactRankOfTriangulationUptoRow : OpenClaim := { program := "ytkipgbakoljaeaa", sum := "ed84b56c78602c8172082cd6e8d507df9186e1a2b96642fda446270b91a1b93d", func := "loop.example/g01236/laws.FnExactRankOfTriangulation", spec := "fnExactRankOfTriangulation", unfollowed := true, recurses := true, apart := false, narrowed := true }
def FnExactRankOfTriangulationUptoSaid : Prop := fnExactRankOfTriangulationUptoRow.holds Try.pinned (OpenSpec.upto fnExactRankOfTriangulationSpec)

/-- 'laws.FnExactOtherDiagonal', WHERE WHAT IT READS IS OF BULK AT MOST 1048576: true; the input reads as it did. -/
def fnExactOtherDiagonalUptoRow : OpenClaim := { program := "ytkipgbakoljaeaa", sum := "ed84b56c78602c8172082cd6e8d507df9186e1a2b96642fda446270b91a1b93d", func := "loop.example/g01236/laws.FnExactOtherDiagonal", spec := "fnExactOtherDiagonal", unfollowed := true, recurses := true, apart := false, narrowed := true }
def FnExactOtherDiagonalUptoSaid : Prop := fnExactOtherDiagonalUptoRow.holds Try.pinned (OpenSpec.upto fnExactOtherDiagonalSpec)

/-- 'laws.FnExactQuiddityChange', WHERE WHAT IT READS IS OF BULK AT MOST 1048576: true; the input reads as it did. -/
def fnExactQuiddityChangeUptoRow : OpenClaim := { program := "ytkipgbakoljaeaa", sum := "ed84b56c78602c8172082cd6e8d507df9186e1a2b96642fda446270b91a1b93d", func := "loop.example/g01236/laws.FnExactQuiddityChange", spec := "fnExactQuiddityChange", unfollowed := true, recurses := true, apart := false, narrowed := true }
def FnExactQuiddityChangeUptoSaid : Prop := fnExactQuiddityChangeUptoRow.holds Try.pinned (OpenSpec.upto fnExactQuiddityChangeSpec)

/-- 'laws.FnExactTurnCut', WHERE WHAT IT READS IS OF BULK AT MOST 1048576: true; the input reads as it did. -/
def fnExactTurnCutUptoRow : OpenClaim := { program := "ytkipgbakoljaeaa", sum := "ed84b56c78602c8172082cd6e8d507df9186e1a2b96642fda446270b91a1b93d", func := "loop.example/g01236/laws.FnExactTurnCut", spec := "fnExactTurnCut", unfollowed := true, recurses := true, apart := false, narrowed := true }
def FnExactTurnCutUptoSaid : Prop := fnExactTurnCutUptoRow.holds Try.pinned (OpenSpec.upto fnExactTurnCutSpec)

/-- 'laws.FnExactAddDiagonal', WHERE WHAT IT READS IS OF BULK AT MOST 1048576: true; the input reads as it did. -/
def fnExactAddDiagonalUptoRow : OpenClaim := { program := "ytkipgbakoljaeaa", sum := "ed84b56c78602c8172082cd6e8d507df9186e1a2b96642fda446270b91a1b93d", func := "loop.example/g01236/laws.FnExactAddDiagonal", spec := "fnExactAddDiagonal", unfollowed := true, recurses := true, apart := false, narrowed := true }
def FnExactAddDiagonalUptoSaid : Prop := fnExactAddDiagonalUptoRow.holds Try.pinned (OpenSpec.upto fnExactAddDiagonalSpec)

/-- 'laws.FnExactFlipDiagonal', WHERE WHAT IT READS IS OF BULK AT MOST 1048576: true; the input reads as it did. -/
def fnExactFlipDiagonalUptoRow : OpenClaim := { program := "ytkipgbakoljaeaa", sum := "ed84b56c78602c8172082cd6e8d507df9186e1a2b96642fda446270b91a1b93d", func := "loop.example/g01236/laws.FnExactFlipDiagonal", spec := "fnExactFlipDiagonal", unfollowed := true, recurses := true, apart := false, narrowed := true }
def FnExactFlipDiagonalUptoSaid : Prop := fnExactFlipDiagonalUptoRow.holds Try.pinned (OpenSpec.upto fnExactFlipDiagonalSpec)

/-- 'laws.FnExactAreFlipApart', WHERE WHAT IT READS IS OF BULK AT MOST 1048576: true; the input reads as it did. -/
def fnExactAreFlipApartUptoRow : OpenClaim := { program := "ytkipgbakoljaeaa", sum := "ed84b56c78602c8172082cd6e8d507df9186e1a2b96642fda446270b91a1b93d", func := "loop.example/g01236/laws.FnExactAreFlipApart", spec := "fnExactAreFlipApart", unfollowed := true, recurses := true, apart := false, narrowed := true }
def FnExactAreFlipApartUptoSaid : Prop := fnExactAreFlipApartUptoRow.holds Try.pinned (OpenSpec.upto fnExactAreFlipApartSpec)

/-- 'laws.FnExactAllFlips', WHERE WHAT IT READS IS OF BULK AT MOST 1048576: true; the input reads as it did. -/
def fnExactAllFlipsUptoRow : OpenClaim := { program := "ytkipgbakoljaeaa", sum := "ed84b56c78602c8172082cd6e8d507df9186e1a2b96642fda446270b91a1b93d", func := "loop.example/g01236/laws.FnExactAllFlips", spec := "fnExactAllFlips", unfollowed := true, recurses := true, apart := false, narrowed := true }
def FnExactAllFlipsUptoSaid : Prop := fnExactAllFlipsUptoRow.holds Try.pinned (OpenSpec.upto fnExactAllFlipsSpec)

/-- 'laws.FnExactPlayFlips', WHERE WHAT IT READS IS OF BULK AT MOST 1048576: true; the input reads as it did. -/
def fnExactPlayFlipsUptoRow : OpenClaim := { program := "ytkipgbakoljaeaa", sum := "ed84b56c78602c8172082cd6e8d507df9186e1a2b96642fda446270b91a1b93d", func := "loop.example/g01236/laws.FnExactPlayFlips", spec := "fnExactPlayFlips", unfollowed := true, recurses := true, apart := false, narrowed := true }
def FnExactPlayFlipsUptoSaid : Prop := fnExactPlayFlipsUptoRow.holds Try.pinned (OpenSpec.upto fnExactPlayFlipsSpec)

/-- 'laws.FnExactFlipsToFan', WHERE WHAT IT READS IS OF BULK AT MOST 1048576: true; the input reads as it did. -/
def fnExactFlipsToFanUptoRow : OpenClaim := { program := "ytkipgbakoljaeaa", sum := "ed84b56c78602c8172082cd6e8d507df9186e1a2b96642fda446270b91a1b93d", func := "loop.example/g01236/laws.FnExactFlipsToFan", spec := "fnExactFlipsToFan", unfollowed := true, recurses := true, apart := false, narrowed := true }
def FnExactFlipsToFanUptoSaid : Prop := fnExactFlipsToFanUptoRow.holds Try.pinned (OpenSpec.upto fnExactFlipsToFanSpec)

/-- 'laws.FnExactFirstFiner', WHERE WHAT IT READS IS OF BULK AT MOST 1048576: true; the input reads as it did. -/
def fnExactFirstFinerUptoRow : OpenClaim := { program := "ytkipgbakoljaeaa", sum := "ed84b56c78602c8172082cd6e8d507df9186e1a2b96642fda446270b91a1b93d", func := "loop.example/g01236/laws.FnExactFirstFiner", spec := "fnExactFirstFiner", unfollowed := true, recurses := true, apart := false, narrowed := true }
def FnExactFirstFinerUptoSaid : Prop := fnExactFirstFinerUptoRow.holds Try.pinned (OpenSpec.upto fnExactFirstFinerSpec)

end Rows
end Go.Proofs.Ytkipgbakoljaeaa
