-- Words of this law, with what the law does not reach left out (slim.py)
import Derived.Test.YtgblginphicacaaVFnExactRankOfQuiddityWords
import Derived.Laws.StructEq
namespace Go.Proofs.YtgblginphicacaaW.PrintWords
open Go.RowKit
end Go.Proofs.YtgblginphicacaaW.PrintWords
