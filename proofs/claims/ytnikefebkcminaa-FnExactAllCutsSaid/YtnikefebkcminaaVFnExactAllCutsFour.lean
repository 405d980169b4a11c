-- Words of this law, with what the law does not reach left out (slim.py)
import Derived.Test.YtnikefebkcminaaVFnExactAllCutsTab
namespace Go.Proofs.YtnikefebkcminaaW.PrintLast
end Go.Proofs.YtnikefebkcminaaW.PrintLast
