-- Words of this law, with what the law does not reach left out (slim.py)
import Derived.Test.YtgblginphicacaaGreatVFnClassesToldN
namespace Go.Proofs.YtgblginphicacaaGreatW.PrintWords
open Go.RowKit
end Go.Proofs.YtgblginphicacaaGreatW.PrintWords
