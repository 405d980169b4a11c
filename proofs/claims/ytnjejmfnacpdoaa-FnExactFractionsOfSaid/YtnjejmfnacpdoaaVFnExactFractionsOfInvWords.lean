-- Words of this law, with what the law does not reach left out (slim.py)
import Derived.Test.YtnjejmfnacpdoaaVFnExactFractionsOfInv
import Derived.Test.YtnjejmfnacpdoaaVFnExactFractionsOfFootNe
namespace Go.Proofs.YtnjejmfnacpdoaaW.PrintWords
open Go.RowKit
end Go.Proofs.YtnjejmfnacpdoaaW.PrintWords
namespace Go.Proofs.YtnjejmfnacpdoaaW.PrintLast
end Go.Proofs.YtnjejmfnacpdoaaW.PrintLast
