-- Words of this law, with what the law does not reach left out (slim.py)
import Derived.Test.YtnikefebkcminaaVFnExactAllCutsInv
import Derived.Test.YtnikefebkcminaaVFnExactAllCutsFootNe
namespace Go.Proofs.YtnikefebkcminaaW.PrintWords
open Go.RowKit
end Go.Proofs.YtnikefebkcminaaW.PrintWords
namespace Go.Proofs.YtnikefebkcminaaW.PrintLast
end Go.Proofs.YtnikefebkcminaaW.PrintLast
