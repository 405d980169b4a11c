-- Words of this law, with what the law does not reach left out (slim.py)
import Derived.Test.YtgblginphicacaaGreatDoorVFnExactCountByFlipsTab
namespace Go.Proofs.YtgblginphicacaaGreatDoorW.PrintLast
end Go.Proofs.YtgblginphicacaaGreatDoorW.PrintLast
