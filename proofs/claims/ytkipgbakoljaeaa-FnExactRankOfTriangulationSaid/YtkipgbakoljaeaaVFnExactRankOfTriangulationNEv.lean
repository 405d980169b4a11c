-- Words of this law, with what the law does not reach left out (slim.py)
import Derived.Test.YtkipgbakoljaeaaVFnExactRankOfTriangulationN
namespace Go.Proofs.YtkipgbakoljaeaaW.PrintWords
open Go.RowKit
end Go.Proofs.YtkipgbakoljaeaaW.PrintWords
