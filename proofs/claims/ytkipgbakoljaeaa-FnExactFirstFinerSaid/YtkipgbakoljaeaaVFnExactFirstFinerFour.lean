-- Words of this law, with what the law does not reach left out (slim.py)
import Derived.Test.YtkipgbakoljaeaaVFnExactFirstFinerTab
namespace Go.Proofs.YtkipgbakoljaeaaW.PrintLast
end Go.Proofs.YtkipgbakoljaeaaW.PrintLast
