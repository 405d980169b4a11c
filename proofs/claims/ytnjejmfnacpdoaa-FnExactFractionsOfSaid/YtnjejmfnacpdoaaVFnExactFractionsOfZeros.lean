-- Words of this law, with what the law does not reach left out (slim.py)
import Derived.Test.YtnjejmfnacpdoaaVFnExactFractionsOfApart
import Derived.Test.YtnjejmfnacpdoaaVFnExactFractionsOfArr
namespace Go.Proofs.YtnjejmfnacpdoaaW.PrintWords
open Go.RowKit
end Go.Proofs.YtnjejmfnacpdoaaW.PrintWords
