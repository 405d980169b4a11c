-- Words of this law, with what the law does not reach left out (slim.py)
import Derived.Test.YtgblginphicacaaGreatVFnClassesToldInv
import Derived.Test.YtgblginphicacaaGreatVFnClassesToldFootNe
namespace Go.Proofs.YtgblginphicacaaGreatW.PrintWords
open Go.RowKit
end Go.Proofs.YtgblginphicacaaGreatW.PrintWords
namespace Go.Proofs.YtgblginphicacaaGreatW.PrintLast
end Go.Proofs.YtgblginphicacaaGreatW.PrintLast
