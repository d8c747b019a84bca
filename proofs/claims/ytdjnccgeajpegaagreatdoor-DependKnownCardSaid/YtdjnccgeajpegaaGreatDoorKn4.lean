/- DependKnown answers true, whatever the start: its tied card holds; no condition beyond the card's own. -/
import Derived.Test.YtdjnccgeajpegaaGreatDoorMwU
set_option linter.unusedVariables false
set_option linter.unusedSimpArgs false
namespace Mw
open Go Go.Proofs
set_option maxRecDepth 1000000
theorem kn21 : retIs (.tuple [(.d (.list 1 [(.list 1 [(.int .i64 (1))])])), (.d (.int .i64 (0)))]) (callE (cfg0.knows (orcOf tab1)) 3000 (.fn (.func 42) [] []) (List.map V.d [task0, (.int .i64 (0)), (.int .i64 (0)), (.int .i64 (1))]) none []) = true := by kernel_rfl
theorem kn22 : retIs (.tuple [(.d .nils), (.d (.int .i64 (14)))]) (callE (cfg0.knows (orcOf tab1)) 3000 (.fn (.func 44) [] []) (List.map V.d [task0, (.int .i64 (0)), (.int .i64 (0)), (.int .i64 (3))]) none []) = true := by kernel_rfl
theorem kn23 : retIs (.tuple [(.d .nils), (.d (.int .i64 (0)))]) (callE (cfg0.knows (orcOf tab1)) 3000 (.fn (.func 17) [] []) (List.map V.d [task0, (.int .i64 (0))]) none []) = true := by kernel_rfl
theorem kn24 : retIs (.tuple [(.d (.int .i64 (0))), (.d (.int .i64 (14)))]) (callE (cfg0.knows (orcOf tab1)) 3000 (.fn (.func 37) [] []) (List.map V.d [task0, (.int .i64 (2)), (.int .i64 (1))]) none []) = true := by kernel_rfl
theorem kn25 : retIs (.tuple [(.d (.list 1 [(.int .i64 (0)), (.int .i64 (1)), (.int .i64 (2))])), (.d (.int .i64 (0)))]) (callE (cfg0.knows (orcOf tab1)) 3000 (.fn (.func 40) [] []) (List.map V.d [task0, (.int .i64 (1))]) none []) = true := by kernel_rfl
theorem kn26 : retIs (.tuple [(.d .nils), (.d (.int .i64 (0)))]) (callE (cfg0.knows (orcOf tab1)) 3000 (.fn (.func 40) [] []) (List.map V.d [task0, (.int .i64 (0))]) none []) = true := by kernel_rfl
end Mw
