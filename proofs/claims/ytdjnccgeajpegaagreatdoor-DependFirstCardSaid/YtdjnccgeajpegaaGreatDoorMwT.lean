/- DependFirst's tied card holds; no condition beyond the card's own. -/
import Derived.Test.YtdjnccgeajpegaaGreatDoorMwS
set_option linter.unusedVariables false
set_option linter.unusedSimpArgs false
namespace Mw
open Go Go.Proofs Go.Shelf
set_option maxRecDepth 1000000
theorem nY:aG.Ok:=.of (by kernel_rfl) (by kernel_rfl)
end Mw
