/- Tables of this law, held by the kernel. -/
import Derived.Test.YtgblginphicacaaDoorTFnExactFarthestByFlipsO
set_option linter.unusedSimpArgs false
set_option linter.unnecessarySimpa false
set_option linter.unusedVariables false
namespace Go.Proofs.YtgblginphicacaaDoor.PureFnExactFarthestByFlips
open Go.RowKit Go.Proofs.YtgblginphicacaaDoor.PFnExactFarthestByFlips Go.Proofs.YtgblginphicacaaDoorW.PrintWords Go.Proofs.YtgblginphicacaaDoorW.PrintLast

set_option maxRecDepth 1000000 in
theorem far_tab8_0 : chkFar 8 0 11 = true := by kernel_rfl
set_option maxRecDepth 1000000 in
theorem far_tab8_1 : chkFar 8 11 11 = true := by kernel_rfl
set_option maxRecDepth 1000000 in
theorem far_tab8_2 : chkFar 8 22 11 = true := by kernel_rfl

end Go.Proofs.YtgblginphicacaaDoor.PureFnExactFarthestByFlips
