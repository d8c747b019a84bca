/- DependFirst's tied card holds; no condition beyond the card's own. -/
import Derived.Test.YtdjnccgeajpegaaGreatDoorMwU
set_option linter.unusedVariables false
set_option linter.unusedSimpArgs false
set_option maxRecDepth 1000000
namespace Mw
open Go Go.Proofs
theorem kn8:aT (.tuple [(.d (.list 1 [(.int .i64 (0))])),(.d (.list 1 [(.int .i64 (1))])),(.d (.int .i64 (0)))]) (aK (aG.knows (aS kW)) 3000 (.fn (.func 30) [] []) (List.map V.d [aN,(.int .i64 (0)),(.int .i64 (0)),(.int .i64 (0)),(.int .i64 (2))]) none [])=true:=by kernel_rfl
theorem kn9:aT (.tuple [(.d (.int .i64 (0))),(.d (.int .i64 (-7))),(.d (.int .i64 (-1))),(.d (.int .i64 (0)))]) (aK (aG.knows (aS kW)) 3000 (.fn (.func 34) [] []) (List.map V.d [task1,(.int .i64 (0)),(.int .i64 (0)),(.int .i64 (0)),(.int .i64 (2))]) none [])=true:=by kernel_rfl
theorem asT:aT (.tuple [(.d (.list 1 [(.int .i64 (1))])),(.d (.int .i64 (0)))]) (aK (aG.knows (aS kW)) 3000 (.fn (.func 22) [] []) (List.map V.d [aN,(.int .i64 (0)),(.int .i64 (1))]) none [])=true:=by kernel_rfl
theorem axv:aT (.tuple [(.d (.int .i64 (0))),(.d (.int .i64 (1))),(.d (.int .i64 (0)))]) (aK (aG.knows (aS kW)) 3000 (.fn (.func 26) [] []) (List.map V.d [aN,(.int .i64 (0)),(.int .i64 (0)),(.int .i64 (1))]) none [])=true:=by kernel_rfl
theorem avU:aT (.tuple [(.d (.list 1 [(.int .i64 (1))])),(.d (.int .i64 (0)))]) (aK (aG.knows (aS kW)) 3000 (.fn (.func 44) [] []) (List.map V.d [aN,(.int .i64 (0)),(.int .i64 (0)),(.int .i64 (1))]) none [])=true:=by kernel_rfl
theorem awP:aT (.tuple [(.d (.list 1 [(.int .i64 (0))])),(.d (.int .i64 (0)))]) (aK (aG.knows (aS kW)) 3000 (.fn (.func 17) [] []) (List.map V.d [task1,(.int .i64 (0))]) none [])=true:=by kernel_rfl
theorem ays:aT (.tuple [(.d (.int .i64 (1))),(.d (.int .i64 (0)))]) (aK (aG.knows (aS kW)) 3000 (.fn (.func 37) [] []) (List.map V.d [aN,(.int .i64 (2)),(.int .i64 (2))]) none [])=true:=by kernel_rfl
theorem awf:aT (.tuple [(.d (.list 1 [(.int .i64 (0)),(.int .i64 (1)),(.int .i64 (2))])),(.d (.int .i64 (0)))]) (aK (aG.knows (aS kW)) 3000 (.fn (.func 14) [] []) (List.map V.d [aN]) none [])=true:=by kernel_rfl
theorem azF:aT (.tuple [(.d .nils),(.d (.int .i64 (0)))]) (aK (aG.knows (aS kW)) 3000 (.fn (.func 22) [] []) (List.map V.d [aN,(.int .i64 (0)),(.int .i64 (2))]) none [])=true:=by kernel_rfl
theorem azq:aT (.tuple [(.d .nils),(.d (.int .i64 (0)))]) (aK (aG.knows (aS kW)) 3000 (.fn (.func 22) [] []) (List.map V.d [aN,(.int .i64 (1)),(.int .i64 (0))]) none [])=true:=by kernel_rfl
theorem atH:aT (.tuple [(.d (.int .i64 (2))),(.d (.int .i64 (0)))]) (aK (aG.knows (aS kW)) 3000 (.fn (.func 24) [] []) (List.map V.d [aN,(.int .i64 (0)),(.int .i64 (0)),(.int .i64 (1))]) none [])=true:=by kernel_rfl
theorem axh:aT (.tuple [(.d (.int .i64 (0))),(.d (.int .i64 (0)))]) (aK (aG.knows (aS kW)) 3000 (.fn (.func 24) [] []) (List.map V.d [aN,(.int .i64 (0)),(.int .i64 (0)),(.int .i64 (2))]) none [])=true:=by kernel_rfl
end Mw
