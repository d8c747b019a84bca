/- DependKnown answers true, whatever the start: its tied card holds; no condition beyond the card's own. -/
import Derived.Test.YtdjnccgeajpegaaGreatDoorKp4
set_option linter.unusedVariables false
set_option linter.unusedSimpArgs false
namespace Go.Proofs.YtdjnccgeajpegaaGreatDoor
open Go.ChangeShapes Go.WideShapes Go.ChangeAt Go.WideMaps Go.WideElems Go.RowKit
set_option maxRecDepth 1000000
theorem kWf : Rows.dependKnownRow.wfByText (OpenSpec.ofChange Rows.dependKnownSpec) = true := by kernel_rfl
theorem kMain : Tryz.prog.mainIs = some (true, "38f71b55d8e7687f31376e6bd7476fdf736f6ffdf7c196ecfc2e0161e23a8131".toList) := by kernel_rfl
end Go.Proofs.YtdjnccgeajpegaaGreatDoor
