/- DependKnown answers true, whatever the start: its tied card holds; no condition beyond the card's own. -/
import Derived.Test.YtdjnccgeajpegaaGreatDoorMwU
set_option linter.unusedVariables false
set_option linter.unusedSimpArgs false
namespace Mw
open Go Go.Proofs
set_option maxRecDepth 1000000
theorem kn27 : retIs (.tuple [(.d (.list 1 [(.int .i64 (0)), (.int .i64 (0)), (.int .i64 (0))])), (.d (.int .i64 (0)))]) (callE (cfg0.knows (orcOf tab1)) 3000 (.fn (.func 14) [] []) (List.map V.d [task1]) none []) = true := by kernel_rfl
end Mw
