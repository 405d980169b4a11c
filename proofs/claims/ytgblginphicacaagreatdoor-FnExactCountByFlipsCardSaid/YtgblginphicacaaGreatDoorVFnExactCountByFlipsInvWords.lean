-- Words of this law, with what the law does not reach left out (slim.py)
import Derived.Test.YtgblginphicacaaGreatDoorVFnExactCountByFlipsInv
import Derived.Test.YtgblginphicacaaGreatDoorVFnExactCountByFlipsFootNe
namespace Go.Proofs.YtgblginphicacaaGreatDoorW.PrintWords
open Go.RowKit
end Go.Proofs.YtgblginphicacaaGreatDoorW.PrintWords
namespace Go.Proofs.YtgblginphicacaaGreatDoorW.PrintLast
end Go.Proofs.YtgblginphicacaaGreatDoorW.PrintLast
