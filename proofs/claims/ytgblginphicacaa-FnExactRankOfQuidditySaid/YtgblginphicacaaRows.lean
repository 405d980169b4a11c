/-
  No cell of these rows narrows 'for every input' (looked for: loops, veiled, ifaces, maps, wideKeys, modest, calm, conditions, laid).
  DERIVED. THE GIVEN ROWS OF THIS SEAT. 3 by the template 'for every input the law returns true; each argument reads behind the call as it read before'; 0 by the template 'total and deterministic' (their statements: YtgblginphicacaaTotals.lean).
  GIVEN WITH THE SEED: the statements are not yours to turn. If you find one false, say at which input.
  Laid BY PROGRAM, IN A SANDBOX (cutbox-rows.mjs): the forced cells as the released guide's own fill.sh prints them over the translation 34b8f693be2799ee… (all of the seat's roots in one cut). By AI agents, Wed Nov 11 2026. No macro, syntax, notation, axiom, sorry.
-/
import Derived.Test.YtgblginphicacaaChecked
import GoSem.Claim
import GoSem.ClaimJoined
import GoSem.ClaimMapViews
import Derived.JoinedTies
import Derived.KernelRfl
namespace Go.Proofs.Ytgblginphicacaa
/- THE CELL 'sum', in the pinned program and in every row, IS THE sha256 OF THE DUMP (.gsa) THAT YtgblginphicacaaProg.lean LOADS. Nothing in Lean hashes anything: it is a label: what it is worth is what the hold of that sum in a sandbox is worth. -/
noncomputable def Try.pinned : Pinned := { name := "ytgblginphicacaa", sum := "34b8f693be2799ee925114fc201a574f7f043c0be973f1b2846f45fb09972e97", checked := Try.checked }
namespace Rows
def none {H : Type} : Left H := { results := [], args := [] }

/-- 'laws.FnExactAllClasses': WHATEVER THE INPUT: true; the input reads as it did. -/
def fnExactAllClassesSpec : ChangeSpec := { name := "fnExactAllClasses", fn := fun _ => fun
  | [d] => { results := [.lit (.bool true)], args := [d] }
  | _ => none }
def fnExactAllClassesRow : OpenClaim := { program := "ytgblginphicacaa", sum := "34b8f693be2799ee925114fc201a574f7f043c0be973f1b2846f45fb09972e97", func := "loop.example/g01236/laws.FnExactAllClasses", spec := "fnExactAllClasses", unfollowed := true, recurses := true, apart := false }
def FnExactAllClassesSaid : Prop := fnExactAllClassesRow.holds Try.pinned (OpenSpec.ofChange fnExactAllClassesSpec)

/-- ITS FALSE NEIGHBOUR: 'it returns false'. Refute it at one input. -/
def fnExactAllClassesWrong : ChangeSpec := { name := "fnExactAllClasses", fn := fun _ => fun
  | [d] => { results := [.lit (.bool false)], args := [d] }
  | _ => none }
def FnExactAllClassesWrongFalsely : Prop := fnExactAllClassesRow.holds Try.pinned (OpenSpec.ofChange fnExactAllClassesWrong)

/-- 'laws.FnExactAllQuiddities': WHATEVER THE INPUT: true; the input reads as it did. -/
def fnExactAllQuidditiesSpec : ChangeSpec := { name := "fnExactAllQuiddities", fn := fun _ => fun
  | [d] => { results := [.lit (.bool true)], args := [d] }
  | _ => none }
def fnExactAllQuidditiesRow : OpenClaim := { program := "ytgblginphicacaa", sum := "34b8f693be2799ee925114fc201a574f7f043c0be973f1b2846f45fb09972e97", func := "loop.example/g01236/laws.FnExactAllQuiddities", spec := "fnExactAllQuiddities", unfollowed := true, recurses := true, apart := false }
def FnExactAllQuidditiesSaid : Prop := fnExactAllQuidditiesRow.holds Try.pinned (OpenSpec.ofChange fnExactAllQuidditiesSpec)

/-- ITS FALSE NEIGHBOUR: 'it returns false'. Refute it at one input. -/
def fnExactAllQuidditiesWrong : ChangeSpec := { name := "fnExactAllQuiddities", fn := fun _ => fun
  | [d] => { results := [.lit (.bool false)], args := [d] }
  | _ => none }
def FnExactAllQuidditiesWrongFalsely : Prop := fnExactAllQuidditiesRow.holds Try.pinned (OpenSpec.ofChange fnExactAllQuidditiesWrong)

/-- 'laws.FnExactRankOfQuiddity': WHATEVER THE INPUT: true; the input reads as it did. -/
def fnExactRankOfQuidditySpec : ChangeSpec := { name := "fnExactRankOfQuiddity", fn := fun _ => fun
  | [d] => { results := [.lit (.bool true)], args := [d] }
  | _ => none }
def fnExactRankOfQuiddityRow : OpenClaim := { program := "ytgblginphicacaa", sum := "34b8f693be2799ee925114fc201a574f7f043c0be973f1b2846f45fb09972e97", func := "loop.example/g01236/laws.FnExactRankOfQuiddity", spec := "fnExactRankOfQuiddity", unfollowed := true, recurses := true, apart := false }
def FnExactRankOfQuidditySaid : Prop := fnExactRankOfQuiddityRow.holds Try.pinned (OpenSpec.ofChange fnExactRankOfQuidditySpec)

/-- ITS FALSE NEIGHBOUR: 'it returns false'. Refute it at one input. -/
def fnExactRankOfQuiddityWrong : ChangeSpec := { name := "fnExactRankOfQuiddity", fn := fun _ => fun
  | [d] => { results := [.lit (.bool false)], args := [d] }
  | _ => none }
def FnExactRankOfQuiddityWrongFalsely : Prop := fnExactRankOfQuiddityRow.holds Try.pinned (OpenSpec.ofChange fnExactRankOfQuiddityWrong)

/- THE SECOND FORM. 'bulk': how many values and letters a reading holds, each counted each time it is reached (what is shared counts as often as it is met; a slice's spare places count too). A statement '..UptoSaid' is the law's where the arguments, and the package variables that the reading takes, are together of bulk at most 1048576: NARROWER than '..Said'. Prove '..Said' where nothing that the law and all that it calls make is longer than what came in: it says more and counts as full. Else prove '..UptoSaid'. A law counts once. -/
mutual
def uptoBulk {H : Type} : DataW H → Nat
  | .lit (.string bytes) => bytes.length + 1
  | .lit _ => 1
  | .nil => 1
  | .ptr d => uptoBulk d + 1
  | .slice elems spare => uptoBulkAll elems + uptoBulkAll spare + 1
  | .agg parts => uptoBulkAll parts + 1
  | .iface _ d => uptoBulk d + 1
  | .map entries => uptoBulkEntries entries + 1
  | .held _ => 1
def uptoBulkAll {H : Type} : List (DataW H) → Nat
  | [] => 0
  | d :: r => uptoBulk d + uptoBulkAll r
def uptoBulkEntries {H : Type} : List (Lit × DataW H) → Nat
  | [] => 0
  | x :: r => uptoBulkEntry x + uptoBulkEntries r
def uptoBulkEntry {H : Type} : Lit × DataW H → Nat
  | (.string bytes, d) => bytes.length + uptoBulk d + 1
  | (_, d) => uptoBulk d + 1
 end
def uptoSmall : (H : Type) → List (DataW H) → Bool := fun _ ds => decide (uptoBulkAll ds ≤ 1048576)
def OpenSpec.upto (s : _root_.Go.ChangeSpec) : _root_.Go.OpenSpec := { _root_.Go.OpenSpec.ofChange s with cond := some uptoSmall }

/-- 'laws.FnExactAllClasses', WHERE WHAT IT READS IS OF BULK AT MOST 1048576: true; the input reads as it did. -/
def fnExactAllClassesUptoRow : OpenClaim := { program := "ytgblginphicacaa", sum := "34b8f693be2799ee925114fc201a574f7f043c0be973f1b2846f45fb09972e97", func := "loop.example/g01236/laws.FnExactAllClasses", spec := "fnExactAllClasses", unfollowed := true, recurses := true, apart := false, narrowed := true }
def FnExactAllClassesUptoSaid : Prop := fnExactAllClassesUptoRow.holds Try.pinned (OpenSpec.upto fnExactAllClassesSpec)

/-- 'laws.FnExactAllQuiddities', WHERE WHAT IT READS IS OF BULK AT MOST 1048576: true; the input reads as it did. -/
def fnExactAllQuidditiesUptoRow : OpenClaim := { program := "ytgblginphicacaa", sum := "34b8f693be2799ee925114fc201a574f7f043c0be973f1b2846f45fb09972e97", func := "loop.example/g01236/laws.FnExactAllQuiddities", spec := "fnExactAllQuiddities", unfollowed := true, recurses := true, apart := false, narrowed := true }
def FnExactAllQuidditiesUptoSaid : Prop := fnExactAllQuidditiesUptoRow.holds Try.pinned (OpenSpec.upto fnExactAllQuidditiesSpec)

/-- 'laws.FnExactRankOfQuiddity', WHERE WHAT IT READS IS OF BULK AT MOST 1048576: true; the input reads as it did. -/
def fnExactRankOfQuiddityUptoRow : OpenClaim := { program := "ytgblginphicacaa", sum := "34b8f693be2799ee925114fc201a574f7f043c0be973f1b2846f45fb09972e97", func := "loop.example/g01236/laws.FnExactRankOfQuiddity", spec := "fnExactRankOfQuiddity", unfollowed := true, recurses := true, apart := false, narrowed := true }
def FnExactRankOfQuiddityUptoSaid : Prop := fnExactRankOfQuiddityUptoRow.holds Try.pinned (OpenSpec.upto fnExactRankOfQuidditySpec)

end Rows
end Go.Proofs.Ytgblginphicacaa
