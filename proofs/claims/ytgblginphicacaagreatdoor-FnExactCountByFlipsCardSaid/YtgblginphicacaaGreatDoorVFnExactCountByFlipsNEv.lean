-- Words of this law, with what the law does not reach left out (slim.py)
import Derived.Test.YtgblginphicacaaGreatDoorVFnExactCountByFlipsN
namespace Go.Proofs.YtgblginphicacaaGreatDoorW.PrintWords
open Go.RowKit
end Go.Proofs.YtgblginphicacaaGreatDoorW.PrintWords
