-- Words of this law, with what the law does not reach left out (slim.py)
import Derived.Test.YtgblginphicacaaGreatVFnClassesToldTab
namespace Go.Proofs.YtgblginphicacaaGreatW.PrintLast
end Go.Proofs.YtgblginphicacaaGreatW.PrintLast
