-- WRITTEN BY A PROGRAM OF THIS WORK (wip/tools/ppatch.py) for this claim.
import Derived.Test.YtnikefebkcminaaDoorProg
import Derived.Shelf.Lay
import Derived.Shelf.Strings.SlTrimAscii
import Derived.Ground.NamesProg
import Derived.Lib.ConvBytes
import Derived.Lib.Hide
import Derived.WalkSpells
import Derived.Lib.SliceRun
import Derived.Shelf.Abstract
import Derived.Laws.CopyOwn
import Derived.Deep.RegionLaw
import Derived.Deep.RegionLawGrows
import Derived.Laws.EntriesVeiled
import Derived.Below
import Derived.Deep.Draws
import Derived.Deep.AppendLies
import Derived.Maps.AppendAt
import Derived.OwnWalk
import Derived.Laws.BytesArg
import Derived.Laws.MakeOwn
import Derived.Laws.OwnMore
import Derived.Deep.OwnRows
import Derived.Tactics
import Derived.Lib.ConvBytes
import Derived.Laws.Slices
import Derived.WalkKit
import Derived.KernelRfl
import Derived.RowKit3
import Derived.Deep.LoopGhost
import Derived.Deep.QuietTactic
import Derived.BigQuiet
import Derived.WideLaws
import Derived.Deep.DeepCutAuto
import Derived.Deep.CutBlock
import Derived.Deep.RegionHeld3
import Derived.Laws.Rows
import Derived.Lib.AppendStr
import Derived.ArgAppend
import Derived.Laws.IdiomCopy
import Derived.OrdersHeld
import Derived.Laws.BitsLemmas
import Derived.RowKit
import Derived.Test.YtnikefebkcminaaDoorWWords
import Derived.Test.YtnikefebkcminaaDoorWLast
import Derived.Test.YtnikefebkcminaaDoorWTab
import Derived.Test.YtnikefebkcminaaDoorWFour
import Derived.Test.YtnikefebkcminaaDoorWQPut
import Derived.Test.YtnikefebkcminaaDoorWApart
import Derived.Test.YtnikefebkcminaaDoorWArr
import Derived.Test.YtnikefebkcminaaDoorWZeros
import Derived.Test.YtnikefebkcminaaDoorWFoot
import Derived.Test.YtnikefebkcminaaDoorWKept
import Derived.Test.YtnikefebkcminaaDoorWShare
import Derived.Test.YtnikefebkcminaaDoorWN
import Derived.Test.YtnikefebkcminaaDoorWFootNe
import Derived.Test.YtnikefebkcminaaDoorWAt
import Derived.Test.YtnikefebkcminaaDoorWEqStruct
import Derived.Test.YtnikefebkcminaaDoorWRepsOne
import Derived.Test.YtnikefebkcminaaDoorWInv
import Derived.Test.YtnikefebkcminaaDoorWInvWords
import Derived.Test.YtnikefebkcminaaDoorWGuard
import Derived.Test.YtnikefebkcminaaDoorWNEv
import Derived.Test.YtnikefebkcminaaDoorWMore
namespace Go.Proofs.YtnikefebkcminaaDoor.PFnExactFractionOfPath
open Go.RowKit Go.Proofs.YtnikefebkcminaaDoorW.PrintWords Go.Proofs.YtnikefebkcminaaDoorW.PrintLast Go.Proofs.YtnikefebkcminaaDoorW.PrintMore
attribute [local go_sem] max2_int min2_int max_two min_two max_three min_three max_four min_four   -- for this text's walks alone
set_option linter.unusedVariables false
set_option linter.unusedSimpArgs false


-- snippet 'words': a call of a function value in a region that draws its order
theorem goesV_ {P : Program} {ops : Array Oper} {Q : Exit → Act → World → Prop} {oi : Oper} {N : Option Tmp} {a : Act} {w : World} {K : Act → World → Prop} {f : FuncId} {fn : Func} {c : Operand} {lb : Array Value} {as0 : Array Operand} {ts : Array TypeId} (hf : P.funcs[f]? = some fn) (hname : (fn.name == "runtime.NumGoroutine") = false) (hb : fn.body.isSome = true) (args : Array Value)
    (hw : Region.wanted oi (yielded ops a.tmps) = true) (hN : oi.dst = N) (hop : oi.op = .call { callee := .value c, args := as0, argTypes := ts }) (hc : a.eval c = .func (.func f) #[] lb) (hargs : as0.map a.eval ++ lb = args)
    (h : Calls P f args w fun e w' => ∃ v, e = .returned v ∧ K (a.put N v) w') : if Region.wanted oi (yielded ops a.tmps) = true then Oper.wp P oi a w K Q else K (a.put N undef) w := by
  refine call_ f args hw hN ?_ h
  have he := enters_ hf hname hb args w
  unfold execOp
  simp only [hop, resolve, hc, Deferred.ofValue]
  simp [invoke, hargs, he]


def errW : Option Int → Value
  | none => .nilIface
  | some c => .iface 0 (.int .i64 c)
theorem errW_none : errW none = .nilIface := rfl
theorem errW_some (c : Int) : errW (some c) = .iface 0 (.int .i64 c) := rfl

-- the values' own types

end Go.Proofs.YtnikefebkcminaaDoor.PFnExactFractionOfPath
