-- Words of this law, with what the law does not reach left out (slim.py)
import Derived.Test.YtgblginphicacaaGreatVFnClassesToldTab
namespace Go.Proofs.YtgblginphicacaaGreatW.PrintLast
def up (b : Nat → Bool) (i : Nat) : Nat → Bool := fun j => if j = i then true else b j
end Go.Proofs.YtgblginphicacaaGreatW.PrintLast
