/- DependLevels answers true for every list of numbers: its tied card holds; no condition beyond the card's own. -/
import Derived.Test.YtdjnccgeajpegaaGreatDoorMwU
set_option linter.unusedVariables false
set_option linter.unusedSimpArgs false
set_option maxRecDepth 1000000
namespace Mw
open Go Go.Proofs
theorem kn8:retIs (.tuple [(.d (.list 1 [(.int .i64 (0))])),(.d (.list 1 [(.int .i64 (1))])),(.d (.int .i64 (0)))]) (callE (cfg0.knows (orcOf tab1)) 3000 (.fn (.func 30) [] []) (List.map V.d [task0,(.int .i64 (0)),(.int .i64 (0)),(.int .i64 (0)),(.int .i64 (2))]) none [])=true:=by kernel_rfl
theorem kn9:retIs (.tuple [(.d (.int .i64 (0))),(.d (.int .i64 (-7))),(.d (.int .i64 (-1))),(.d (.int .i64 (0)))]) (callE (cfg0.knows (orcOf tab1)) 3000 (.fn (.func 34) [] []) (List.map V.d [task1,(.int .i64 (0)),(.int .i64 (0)),(.int .i64 (0)),(.int .i64 (2))]) none [])=true:=by kernel_rfl
theorem kn10:retIs (.tuple [(.d (.list 1 [(.int .i64 (1))])),(.d (.int .i64 (0)))]) (callE (cfg0.knows (orcOf tab1)) 3000 (.fn (.func 22) [] []) (List.map V.d [task0,(.int .i64 (0)),(.int .i64 (1))]) none [])=true:=by kernel_rfl
theorem kn11:retIs (.tuple [(.d (.int .i64 (0))),(.d (.int .i64 (1))),(.d (.int .i64 (0)))]) (callE (cfg0.knows (orcOf tab1)) 3000 (.fn (.func 26) [] []) (List.map V.d [task0,(.int .i64 (0)),(.int .i64 (0)),(.int .i64 (1))]) none [])=true:=by kernel_rfl
theorem kn12:retIs (.tuple [(.d (.list 1 [(.int .i64 (1))])),(.d (.int .i64 (0)))]) (callE (cfg0.knows (orcOf tab1)) 3000 (.fn (.func 44) [] []) (List.map V.d [task0,(.int .i64 (0)),(.int .i64 (0)),(.int .i64 (1))]) none [])=true:=by kernel_rfl
theorem kn13:retIs (.tuple [(.d (.list 1 [(.int .i64 (0))])),(.d (.int .i64 (0)))]) (callE (cfg0.knows (orcOf tab1)) 3000 (.fn (.func 17) [] []) (List.map V.d [task1,(.int .i64 (0))]) none [])=true:=by kernel_rfl
theorem kn14:retIs (.tuple [(.d (.int .i64 (1))),(.d (.int .i64 (0)))]) (callE (cfg0.knows (orcOf tab1)) 3000 (.fn (.func 37) [] []) (List.map V.d [task0,(.int .i64 (2)),(.int .i64 (2))]) none [])=true:=by kernel_rfl
theorem kn15:retIs (.tuple [(.d (.list 1 [(.int .i64 (0)),(.int .i64 (1)),(.int .i64 (2))])),(.d (.int .i64 (0)))]) (callE (cfg0.knows (orcOf tab1)) 3000 (.fn (.func 14) [] []) (List.map V.d [task0]) none [])=true:=by kernel_rfl
theorem kn17:retIs (.tuple [(.d .nils),(.d (.int .i64 (0)))]) (callE (cfg0.knows (orcOf tab1)) 3000 (.fn (.func 22) [] []) (List.map V.d [task0,(.int .i64 (0)),(.int .i64 (2))]) none [])=true:=by kernel_rfl
theorem kn18:retIs (.tuple [(.d .nils),(.d (.int .i64 (0)))]) (callE (cfg0.knows (orcOf tab1)) 3000 (.fn (.func 22) [] []) (List.map V.d [task0,(.int .i64 (1)),(.int .i64 (0))]) none [])=true:=by kernel_rfl
theorem kn19:retIs (.tuple [(.d (.int .i64 (2))),(.d (.int .i64 (0)))]) (callE (cfg0.knows (orcOf tab1)) 3000 (.fn (.func 24) [] []) (List.map V.d [task0,(.int .i64 (0)),(.int .i64 (0)),(.int .i64 (1))]) none [])=true:=by kernel_rfl
theorem kn20:retIs (.tuple [(.d (.int .i64 (0))),(.d (.int .i64 (0)))]) (callE (cfg0.knows (orcOf tab1)) 3000 (.fn (.func 24) [] []) (List.map V.d [task0,(.int .i64 (0)),(.int .i64 (0)),(.int .i64 (2))]) none [])=true:=by kernel_rfl
end Mw
