-- Words of this law, with what the law does not reach left out (slim.py)
import Derived.Test.YtkipgbakoljaeaaVFnExactFlipDiagonalApart
import Derived.Test.YtkipgbakoljaeaaVFnExactFlipDiagonalArr
namespace Go.Proofs.YtkipgbakoljaeaaW.PrintWords
open Go.RowKit
end Go.Proofs.YtkipgbakoljaeaaW.PrintWords
