-- Words of this law, with what the law does not reach left out (slim.py)
import Derived.Test.YtnjejmfnacpdoaaVFnExactFractionsOfTab
namespace Go.Proofs.YtnjejmfnacpdoaaW.PrintLast
end Go.Proofs.YtnjejmfnacpdoaaW.PrintLast
