-- Words of this law, with what the law does not reach left out (slim.py)
import Derived.Test.YtkipgbakoljaeaaVFnExactRankOfTriangulationInv
import Derived.Test.YtkipgbakoljaeaaVFnExactRankOfTriangulationFootNe
namespace Go.Proofs.YtkipgbakoljaeaaW.PrintWords
open Go.RowKit
end Go.Proofs.YtkipgbakoljaeaaW.PrintWords
namespace Go.Proofs.YtkipgbakoljaeaaW.PrintLast
end Go.Proofs.YtkipgbakoljaeaaW.PrintLast
