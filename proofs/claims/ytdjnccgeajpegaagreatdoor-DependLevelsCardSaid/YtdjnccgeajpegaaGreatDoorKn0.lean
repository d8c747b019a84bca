/- DependLevels answers true for every list of numbers: its tied card holds; no condition beyond the card's own. -/
import Derived.Test.YtdjnccgeajpegaaGreatDoorMwU
set_option linter.unusedVariables false
set_option linter.unusedSimpArgs false
set_option maxRecDepth 1000000
namespace Mw
open Go Go.Proofs
theorem kn0:retIs (.d (.int .i64 (0))) (callE (cfg0.knows (orcOf tab0)) 3000 (.fn (.func 120) [] []) (List.map V.d [task0]) none [])=true:=by kernel_rfl
theorem kn3:retIs (.d (.int .i64 (0))) (callE (cfg0.knows (orcOf tab0)) 3000 (.fn (.func 120) [] []) (List.map V.d [task1]) none [])=true:=by kernel_rfl
theorem kn27:retIs (.tuple [(.d (.list 1 [(.int .i64 (0)),(.int .i64 (0)),(.int .i64 (0))])),(.d (.int .i64 (0)))]) (callE (cfg0.knows (orcOf tab1)) 3000 (.fn (.func 14) [] []) (List.map V.d [task1]) none [])=true:=by kernel_rfl
theorem kn1:retIs (.tuple [(.d (.list 1 [(.int .i64 (0))])),(.d (.list 1 [(.int .i64 (0))])),(.d (.int .i64 (0)))]) (callE (cfg0.knows (orcOf tab1)) 3000 (.fn (.func 30) [] []) (List.map V.d [task0,(.int .i64 (0)),(.int .i64 (0)),(.int .i64 (0)),(.int .i64 (0))]) none [])=true:=by kernel_rfl
theorem kn2:retIs (.tuple [(.d .nils),(.d .nils),(.d (.int .i64 (14)))]) (callE (cfg0.knows (orcOf tab1)) 3000 (.fn (.func 30) [] []) (List.map V.d [task0,(.int .i64 (0)),(.int .i64 (0)),(.int .i64 (0)),(.int .i64 (1))]) none [])=true:=by kernel_rfl
theorem kn4:retIs (.tuple [(.d (.int .i64 (0))),(.d (.int .i64 (2))),(.d (.int .i64 (0)))]) (callE (cfg0.knows (orcOf tab1)) 3000 (.fn (.func 32) [] []) (List.map V.d [task1,(.int .i64 (0)),(.int .i64 (0)),(.int .i64 (0)),(.int .i64 (1))]) none [])=true:=by kernel_rfl
theorem kn5:retIs (.tuple [(.d (.int .i64 (0))),(.d (.int .i64 (0))),(.d (.int .i64 (14)))]) (callE (cfg0.knows (orcOf tab1)) 3000 (.fn (.func 32) [] []) (List.map V.d [task1,(.int .i64 (0)),(.int .i64 (0)),(.int .i64 (0)),(.int .i64 (2))]) none [])=true:=by kernel_rfl
theorem kn6:retIs (.tuple [(.d (.int .i64 (0))),(.d (.int .i64 (0))),(.d (.int .i64 (0))),(.d (.int .i64 (14)))]) (callE (cfg0.knows (orcOf tab1)) 3000 (.fn (.func 34) [] []) (List.map V.d [task1,(.int .i64 (0)),(.int .i64 (1)),(.int .i64 (0)),(.int .i64 (2))]) none [])=true:=by kernel_rfl
theorem kn7:retIs (.tuple [(.d (.int .i64 (0))),(.d (.int .i64 (0))),(.d (.int .i64 (9)))]) (callE (cfg0.knows (orcOf tab1)) 3000 (.fn (.func 32) [] []) (List.map V.d [task0,(.int .i64 (0)),(.int .i64 (0)),(.int .i64 (0)),(.int .i64 (1))]) none [])=true:=by kernel_rfl
end Mw
