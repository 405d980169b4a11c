-- WRITTEN BY A PROGRAM OF THIS WORK (wip/tools/ppatch.py) for this claim.
import Derived.Test.YtgblginphicacaaGreatPFnClassesToldx1
import Derived.Test.YtgblginphicacaaGreatPFnClassesToldx0
namespace Go.Proofs.YtgblginphicacaaGreat.PFnClassesTold
open Go.RowKit Go.Proofs.YtgblginphicacaaGreatW.PrintWords Go.Proofs.YtgblginphicacaaGreatW.PrintLast Go.Proofs.YtgblginphicacaaGreatW.PrintMore
set_option maxHeartbeats 8000000
set_option maxRecDepth 100000
attribute [local go_sem] yT yV vX vY jX jY yU yX   -- for this text's walks alone
set_option linter.unusedVariables false
set_option linter.unusedSimpArgs false

end Go.Proofs.YtgblginphicacaaGreat.PFnClassesTold
