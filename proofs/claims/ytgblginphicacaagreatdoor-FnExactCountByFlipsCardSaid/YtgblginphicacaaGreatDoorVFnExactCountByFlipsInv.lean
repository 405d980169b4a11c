-- Words of this law, with what the law does not reach left out (slim.py)
import Derived.Test.YtgblginphicacaaGreatDoorVFnExactCountByFlipsTab
namespace Go.Proofs.YtgblginphicacaaGreatDoorW.PrintLast
def up (b : Nat → Bool) (i : Nat) : Nat → Bool := fun j => if j = i then true else b j
end Go.Proofs.YtgblginphicacaaGreatDoorW.PrintLast
