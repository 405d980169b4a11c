/- Tables of this law, held by the kernel. -/
import Derived.Test.YtgblginphicacaaGreatDoorTFnExactCountByFlipsO
set_option linter.unusedSimpArgs false
set_option linter.unnecessarySimpa false
set_option linter.unusedVariables false
namespace Go.Proofs.YtgblginphicacaaGreatDoor.PureFnExactCountByFlips
open Go.RowKit Go.Proofs.YtgblginphicacaaGreatDoor.PFnExactCountByFlips Go.Proofs.YtgblginphicacaaGreatDoorW.PrintWords Go.Proofs.YtgblginphicacaaGreatDoorW.PrintLast

set_option maxRecDepth 1000000 in
theorem tri_tab3 : trisOf 3 = triT 3 := by kernel_rfl
set_option maxRecDepth 1000000 in
theorem tri_tab4 : trisOf 4 = triT 4 := by kernel_rfl
set_option maxRecDepth 1000000 in
theorem tri_tab5 : trisOf 5 = triT 5 := by kernel_rfl
set_option maxRecDepth 1000000 in
theorem tri_tab6 : trisOf 6 = triT 6 := by kernel_rfl
set_option maxRecDepth 1000000 in
theorem tri_tab7 : trisOf 7 = triT 7 := by kernel_rfl
set_option maxRecDepth 1000000 in
theorem tri_tab8 : trisOf 8 = triT 8 := by kernel_rfl
set_option maxRecDepth 1000000 in
theorem sym_tab3 : chkSym 3 = true := by kernel_rfl
set_option maxRecDepth 1000000 in
theorem sym_tab4 : chkSym 4 = true := by kernel_rfl
set_option maxRecDepth 1000000 in
theorem sym_tab5 : chkSym 5 = true := by kernel_rfl
set_option maxRecDepth 1000000 in
theorem sym_tab6 : chkSym 6 = true := by kernel_rfl
set_option maxRecDepth 1000000 in
theorem sym_tab7 : chkSym 7 = true := by kernel_rfl
set_option maxRecDepth 1000000 in
theorem sym_tab8 : chkSym 8 = true := by kernel_rfl
set_option maxRecDepth 1000000 in
theorem adj_tab3 : chkAdj 3 0 1 = true := by kernel_rfl
set_option maxRecDepth 1000000 in
theorem far_tab3 : chkFar 3 0 1 = true := by kernel_rfl
set_option maxRecDepth 1000000 in
theorem adj_tab4 : chkAdj 4 0 2 = true := by kernel_rfl
set_option maxRecDepth 1000000 in
theorem far_tab4 : chkFar 4 0 2 = true := by kernel_rfl
set_option maxRecDepth 1000000 in
theorem adj_tab5 : chkAdj 5 0 5 = true := by kernel_rfl
set_option maxRecDepth 1000000 in
theorem far_tab5 : chkFar 5 0 5 = true := by kernel_rfl
set_option maxRecDepth 1000000 in
theorem adj_tab6 : chkAdj 6 0 14 = true := by kernel_rfl
set_option maxRecDepth 1000000 in
theorem far_tab6 : chkFar 6 0 14 = true := by kernel_rfl
set_option maxRecDepth 1000000 in
theorem adj_tab7 : chkAdj 7 0 42 = true := by kernel_rfl
set_option maxRecDepth 1000000 in
theorem far_tab7 : chkFar 7 0 42 = true := by kernel_rfl

end Go.Proofs.YtgblginphicacaaGreatDoor.PureFnExactCountByFlips
