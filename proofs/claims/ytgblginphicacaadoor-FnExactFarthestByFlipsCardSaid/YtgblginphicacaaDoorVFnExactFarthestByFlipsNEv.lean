-- Words of this law, with what the law does not reach left out (slim.py)
import Derived.Test.YtgblginphicacaaDoorVFnExactFarthestByFlipsN
namespace Go.Proofs.YtgblginphicacaaDoorW.PrintWords
open Go.RowKit
end Go.Proofs.YtgblginphicacaaDoorW.PrintWords
