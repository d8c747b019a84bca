/- DependFirst's tied card holds; no condition beyond the card's own. -/
import Derived.Test.YtdjnccgeajpegaaGreatDoorMwU
set_option linter.unusedVariables false
set_option linter.unusedSimpArgs false
set_option maxRecDepth 1000000
namespace Mw
open Go Go.Proofs
theorem kn0:aT (.d (.int .i64 (0))) (aK (aG.knows (aS aeM)) 3000 (.fn (.func 120) [] []) (List.map V.d [aN]) none [])=true:=by kernel_rfl
theorem kn3:aT (.d (.int .i64 (0))) (aK (aG.knows (aS aeM)) 3000 (.fn (.func 120) [] []) (List.map V.d [task1]) none [])=true:=by kernel_rfl
theorem auV:aT (.tuple [(.d (.list 1 [(.int .i64 (0)),(.int .i64 (0)),(.int .i64 (0))])),(.d (.int .i64 (0)))]) (aK (aG.knows (aS kW)) 3000 (.fn (.func 14) [] []) (List.map V.d [task1]) none [])=true:=by kernel_rfl
theorem kn1:aT (.tuple [(.d (.list 1 [(.int .i64 (0))])),(.d (.list 1 [(.int .i64 (0))])),(.d (.int .i64 (0)))]) (aK (aG.knows (aS kW)) 3000 (.fn (.func 30) [] []) (List.map V.d [aN,(.int .i64 (0)),(.int .i64 (0)),(.int .i64 (0)),(.int .i64 (0))]) none [])=true:=by kernel_rfl
theorem kn2:aT (.tuple [(.d .nils),(.d .nils),(.d (.int .i64 (14)))]) (aK (aG.knows (aS kW)) 3000 (.fn (.func 30) [] []) (List.map V.d [aN,(.int .i64 (0)),(.int .i64 (0)),(.int .i64 (0)),(.int .i64 (1))]) none [])=true:=by kernel_rfl
theorem kn4:aT (.tuple [(.d (.int .i64 (0))),(.d (.int .i64 (2))),(.d (.int .i64 (0)))]) (aK (aG.knows (aS kW)) 3000 (.fn (.func 32) [] []) (List.map V.d [task1,(.int .i64 (0)),(.int .i64 (0)),(.int .i64 (0)),(.int .i64 (1))]) none [])=true:=by kernel_rfl
theorem kn5:aT (.tuple [(.d (.int .i64 (0))),(.d (.int .i64 (0))),(.d (.int .i64 (14)))]) (aK (aG.knows (aS kW)) 3000 (.fn (.func 32) [] []) (List.map V.d [task1,(.int .i64 (0)),(.int .i64 (0)),(.int .i64 (0)),(.int .i64 (2))]) none [])=true:=by kernel_rfl
theorem kn6:aT (.tuple [(.d (.int .i64 (0))),(.d (.int .i64 (0))),(.d (.int .i64 (0))),(.d (.int .i64 (14)))]) (aK (aG.knows (aS kW)) 3000 (.fn (.func 34) [] []) (List.map V.d [task1,(.int .i64 (0)),(.int .i64 (1)),(.int .i64 (0)),(.int .i64 (2))]) none [])=true:=by kernel_rfl
theorem kn7:aT (.tuple [(.d (.int .i64 (0))),(.d (.int .i64 (0))),(.d (.int .i64 (9)))]) (aK (aG.knows (aS kW)) 3000 (.fn (.func 32) [] []) (List.map V.d [aN,(.int .i64 (0)),(.int .i64 (0)),(.int .i64 (0)),(.int .i64 (1))]) none [])=true:=by kernel_rfl
end Mw
