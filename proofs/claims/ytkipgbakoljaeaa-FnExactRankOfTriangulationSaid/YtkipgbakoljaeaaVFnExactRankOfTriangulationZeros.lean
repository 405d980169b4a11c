-- Words of this law, with what the law does not reach left out (slim.py)
import Derived.Test.YtkipgbakoljaeaaVFnExactRankOfTriangulationApart
import Derived.Test.YtkipgbakoljaeaaVFnExactRankOfTriangulationArr
namespace Go.Proofs.YtkipgbakoljaeaaW.PrintWords
open Go.RowKit
end Go.Proofs.YtkipgbakoljaeaaW.PrintWords
