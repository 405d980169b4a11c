-- Words of this law, with what the law does not reach left out (slim.py)
import Derived.Test.YtgblginphicacaaVFnExactRankOfQuiddityTab
namespace Go.Proofs.YtgblginphicacaaW.PrintLast
end Go.Proofs.YtgblginphicacaaW.PrintLast
