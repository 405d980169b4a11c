/- Tables of this law, held by the kernel. -/
import Derived.Test.YtgblginphicacaaGreatDoorTFnExactCountByFlipsO
set_option linter.unusedSimpArgs false
set_option linter.unnecessarySimpa false
set_option linter.unusedVariables false
namespace Go.Proofs.YtgblginphicacaaGreatDoor.PureFnExactCountByFlips
open Go.RowKit Go.Proofs.YtgblginphicacaaGreatDoor.PFnExactCountByFlips Go.Proofs.YtgblginphicacaaGreatDoorW.PrintWords Go.Proofs.YtgblginphicacaaGreatDoorW.PrintLast

set_option maxRecDepth 1000000 in
theorem far_tab8_3 : chkFar 8 33 11 = true := by kernel_rfl
set_option maxRecDepth 1000000 in
theorem far_tab8_4 : chkFar 8 44 11 = true := by kernel_rfl
set_option maxRecDepth 1000000 in
theorem far_tab8_5 : chkFar 8 55 11 = true := by kernel_rfl

end Go.Proofs.YtgblginphicacaaGreatDoor.PureFnExactCountByFlips
