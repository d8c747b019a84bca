/- DependKnown answers true, whatever the start: its tied card holds; no condition beyond the card's own. -/
import Derived.Test.YtdjnccgeajpegaaGreatDoorMwU
set_option linter.unusedVariables false
set_option linter.unusedSimpArgs false
namespace Mw
open Go Go.Proofs
set_option maxRecDepth 1000000
theorem kn16 : retIs (.d (.bool true)) (callE (cfg0.knows (orcOf tab2)) 3000 (.fn (.func 18) [] []) (List.map V.d []) none []) = true := by kernel_rfl
end Mw
