-- Words of this law, with what the law does not reach left out (slim.py)
import Derived.Test.YtgblginphicacaaVFnExactRankOfQuiddityTab
namespace Go.Proofs.YtgblginphicacaaW.PrintLast
def up (b : Nat → Bool) (i : Nat) : Nat → Bool := fun j => if j = i then true else b j
end Go.Proofs.YtgblginphicacaaW.PrintLast
