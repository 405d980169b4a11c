/- Tables of this law, held by the kernel. -/
import Derived.Test.YtgblginphicacaaGreatDoorTFnExactCountByFlipsO
set_option linter.unusedSimpArgs false
set_option linter.unnecessarySimpa false
set_option linter.unusedVariables false
namespace Go.Proofs.YtgblginphicacaaGreatDoor.PureFnExactCountByFlips
open Go.RowKit Go.Proofs.YtgblginphicacaaGreatDoor.PFnExactCountByFlips Go.Proofs.YtgblginphicacaaGreatDoorW.PrintWords Go.Proofs.YtgblginphicacaaGreatDoorW.PrintLast

set_option maxRecDepth 1000000 in
theorem adj_tab8_6 : chkAdj 8 66 11 = true := by kernel_rfl
set_option maxRecDepth 1000000 in
theorem adj_tab8_7 : chkAdj 8 77 11 = true := by kernel_rfl
set_option maxRecDepth 1000000 in
theorem adj_tab8_8 : chkAdj 8 88 11 = true := by kernel_rfl
set_option maxRecDepth 1000000 in
theorem adj_tab8_9 : chkAdj 8 99 11 = true := by kernel_rfl
set_option maxRecDepth 1000000 in
theorem adj_tab8_10 : chkAdj 8 110 11 = true := by kernel_rfl
set_option maxRecDepth 1000000 in
theorem adj_tab8_11 : chkAdj 8 121 11 = true := by kernel_rfl

end Go.Proofs.YtgblginphicacaaGreatDoor.PureFnExactCountByFlips
