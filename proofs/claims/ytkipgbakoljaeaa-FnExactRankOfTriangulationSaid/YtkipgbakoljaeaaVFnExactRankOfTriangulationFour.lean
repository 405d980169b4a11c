-- Words of this law, with what the law does not reach left out (slim.py)
import Derived.Test.YtkipgbakoljaeaaVFnExactRankOfTriangulationTab
namespace Go.Proofs.YtkipgbakoljaeaaW.PrintLast
end Go.Proofs.YtkipgbakoljaeaaW.PrintLast
