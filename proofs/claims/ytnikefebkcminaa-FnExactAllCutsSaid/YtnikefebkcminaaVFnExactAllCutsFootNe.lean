-- Words of this law, with what the law does not reach left out (slim.py)
import Derived.Test.YtnikefebkcminaaVFnExactAllCutsN
namespace Go.Proofs.YtnikefebkcminaaW.PrintWords
open Go.RowKit
end Go.Proofs.YtnikefebkcminaaW.PrintWords
