-- Words of this law, with what the law does not reach left out (slim.py)
import Derived.Test.YtgblginphicacaaVFnExactRankOfQuiddityInv
import Derived.Test.YtgblginphicacaaVFnExactRankOfQuiddityFootNe
namespace Go.Proofs.YtgblginphicacaaW.PrintWords
open Go.RowKit
end Go.Proofs.YtgblginphicacaaW.PrintWords
namespace Go.Proofs.YtgblginphicacaaW.PrintLast
end Go.Proofs.YtgblginphicacaaW.PrintLast
