/- DependKnown answers true, whatever the start: its tied card holds; no condition beyond the card's own. -/
import Derived.Test.YtdjnccgeajpegaaGreatDoorKp4
set_option linter.unusedVariables false
set_option linter.unusedSimpArgs false
namespace Go.Proofs.YtdjnccgeajpegaaGreatDoor
set_option maxRecDepth 1000000
theorem kLooks : true = Tryz.prog.looks [] := by kernel_rfl
end Go.Proofs.YtdjnccgeajpegaaGreatDoor
