-- Words of this law, with what the law does not reach left out (slim.py)
import Derived.Test.YtnjejmfnacpdoaaVFnExactFractionsOfWords
import Derived.Laws.StructEq
namespace Go.Proofs.YtnjejmfnacpdoaaW.PrintWords
open Go.RowKit
end Go.Proofs.YtnjejmfnacpdoaaW.PrintWords
