-- Words of this law, with what the law does not reach left out (slim.py)
import Derived.Test.YtgblginphicacaaDoorVFnExactFarthestByFlipsInv
import Derived.Test.YtgblginphicacaaDoorVFnExactFarthestByFlipsFootNe
namespace Go.Proofs.YtgblginphicacaaDoorW.PrintWords
open Go.RowKit
end Go.Proofs.YtgblginphicacaaDoorW.PrintWords
namespace Go.Proofs.YtgblginphicacaaDoorW.PrintLast
end Go.Proofs.YtgblginphicacaaDoorW.PrintLast
