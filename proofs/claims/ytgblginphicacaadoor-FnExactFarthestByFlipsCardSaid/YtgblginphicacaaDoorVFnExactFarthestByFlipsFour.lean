-- Words of this law, with what the law does not reach left out (slim.py)
import Derived.Test.YtgblginphicacaaDoorVFnExactFarthestByFlipsTab
namespace Go.Proofs.YtgblginphicacaaDoorW.PrintLast
end Go.Proofs.YtgblginphicacaaDoorW.PrintLast
