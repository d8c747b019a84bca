/- DependKnown answers true, whatever the start: its tied card holds; no condition beyond the card's own. -/
import Derived.Test.YtdjnccgeajpegaaGreatDoorKn7
set_option linter.unusedVariables false
set_option linter.unusedSimpArgs false
namespace Mw
open Go Go.Proofs
set_option maxRecDepth 1000000
theorem known_run : retIs (.d (.bool true)) (callE (cfg0.knows (orcOf tab3)) 3000 (.fn (.func 10) [] []) (List.map V.d []) none []) = true := by kernel_rfl
theorem known_fn : ∃ hp, FuncOk cfg0 10 (List.map V.d []) [] (.ret (.d (.bool true))) hp := fact tabOk3 3000 known_run
end Mw
