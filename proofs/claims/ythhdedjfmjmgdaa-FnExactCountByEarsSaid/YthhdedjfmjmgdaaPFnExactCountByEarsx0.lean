-- WRITTEN BY A PROGRAM OF THIS WORK (wip/tools/ppatch.py) for this claim.
import Derived.Test.YthhdedjfmjmgdaaProg
import Derived.Lib.Hide
import Derived.Shelf.Abstract
import Derived.Below
import Derived.Deep.Draws
import Derived.Deep.AppendLies
import Derived.Maps.AppendAt
import Derived.OwnWalk
import Derived.Laws.BytesArg
import Derived.Laws.MakeOwn
import Derived.Laws.OwnMore
import Derived.Deep.OwnRows
import Derived.Tactics
import Derived.Lib.ConvBytes
import Derived.Laws.Slices
import Derived.WalkKit
import Derived.KernelRfl
import Derived.RowKit3
import Derived.Deep.LoopGhost
import Derived.Deep.QuietTactic
import Derived.BigQuiet
import Derived.WideLaws
import Derived.Deep.DeepCutAuto
import Derived.Deep.CutBlock
import Derived.Deep.RegionHeld3
import Derived.Laws.Rows
import Derived.Lib.AppendStr
import Derived.ArgAppend
import Derived.Laws.IdiomCopy
import Derived.OrdersHeld
import Derived.Laws.BitsLemmas
import Derived.RowKit
import Derived.Test.YthhdedjfmjmgdaaWWords
import Derived.Test.YthhdedjfmjmgdaaWLast
import Derived.Test.YthhdedjfmjmgdaaWTab
import Derived.Test.YthhdedjfmjmgdaaWFour
import Derived.Test.YthhdedjfmjmgdaaWQPut
import Derived.Test.YthhdedjfmjmgdaaWApart
import Derived.Test.YthhdedjfmjmgdaaWArr
import Derived.Test.YthhdedjfmjmgdaaWZeros
import Derived.Test.YthhdedjfmjmgdaaWFoot
import Derived.Test.YthhdedjfmjmgdaaWKept
import Derived.Test.YthhdedjfmjmgdaaWShare
import Derived.Test.YthhdedjfmjmgdaaWN
import Derived.Test.YthhdedjfmjmgdaaWFootNe
import Derived.Test.YthhdedjfmjmgdaaWAt
import Derived.Test.YthhdedjfmjmgdaaWEqStruct
import Derived.Test.YthhdedjfmjmgdaaWRepsOne
import Derived.Test.YthhdedjfmjmgdaaWInv
import Derived.Test.YthhdedjfmjmgdaaWInvWords
import Derived.Test.YthhdedjfmjmgdaaWGuard
import Derived.Test.YthhdedjfmjmgdaaWNEv
import Derived.Test.YthhdedjfmjmgdaaWMore
namespace Go.Proofs.Ythhdedjfmjmgdaa.PFnExactCountByEars
open Go.RowKit Go.Proofs.YthhdedjfmjmgdaaW.PrintWords Go.Proofs.YthhdedjfmjmgdaaW.PrintLast Go.Proofs.YthhdedjfmjmgdaaW.PrintMore
attribute [local go_sem] max2_int min2_int max_two min_two max_three min_three max_four min_four   -- for this text's walks alone
set_option linter.unusedVariables false
set_option linter.unusedSimpArgs false



def errW : Option Int → Value
  | none => .nilIface
  | some c => .iface 0 (.int .i64 c)
theorem errW_none : errW none = .nilIface := rfl
theorem errW_some (c : Int) : errW (some c) = .iface 0 (.int .i64 c) := rfl

theorem info3 : (Try.prog.info? 3).map (fun i => (i.zero, i.size, i.bytes)) = some (some (.int .i64 0), 1, 8) := by kernel_rfl
-- the values' own types

end Go.Proofs.Ythhdedjfmjmgdaa.PFnExactCountByEars
