/- DependLevels answers true for every list of numbers: its tied card holds; no condition beyond the card's own. -/
import Derived.Test.YtdjnccgeajpegaaGreatDoorMwU
import Derived.Test.YtdjnccgeajpegaaGreatDoorKn0
import Derived.Test.YtdjnccgeajpegaaGreatDoorKn1
set_option linter.unusedVariables false
set_option linter.unusedSimpArgs false
set_option maxRecDepth 1000000
namespace Mw
open Go Go.Proofs
theorem kn21:retIs (.tuple [(.d (.list 1 [(.list 1 [(.int .i64 (1))])])),(.d (.int .i64 (0)))]) (callE (cfg0.knows (orcOf tab1)) 3000 (.fn (.func 42) [] []) (List.map V.d [task0,(.int .i64 (0)),(.int .i64 (0)),(.int .i64 (1))]) none [])=true:=by kernel_rfl
theorem kn22:retIs (.tuple [(.d .nils),(.d (.int .i64 (14)))]) (callE (cfg0.knows (orcOf tab1)) 3000 (.fn (.func 44) [] []) (List.map V.d [task0,(.int .i64 (0)),(.int .i64 (0)),(.int .i64 (3))]) none [])=true:=by kernel_rfl
theorem kn23:retIs (.tuple [(.d .nils),(.d (.int .i64 (0)))]) (callE (cfg0.knows (orcOf tab1)) 3000 (.fn (.func 17) [] []) (List.map V.d [task0,(.int .i64 (0))]) none [])=true:=by kernel_rfl
theorem kn24:retIs (.tuple [(.d (.int .i64 (0))),(.d (.int .i64 (14)))]) (callE (cfg0.knows (orcOf tab1)) 3000 (.fn (.func 37) [] []) (List.map V.d [task0,(.int .i64 (2)),(.int .i64 (1))]) none [])=true:=by kernel_rfl
theorem kn25:retIs (.tuple [(.d (.list 1 [(.int .i64 (0)),(.int .i64 (1)),(.int .i64 (2))])),(.d (.int .i64 (0)))]) (callE (cfg0.knows (orcOf tab1)) 3000 (.fn (.func 40) [] []) (List.map V.d [task0,(.int .i64 (1))]) none [])=true:=by kernel_rfl
theorem kn26:retIs (.tuple [(.d .nils),(.d (.int .i64 (0)))]) (callE (cfg0.knows (orcOf tab1)) 3000 (.fn (.func 40) [] []) (List.map V.d [task0,(.int .i64 (0))]) none [])=true:=by kernel_rfl
theorem kn16:retIs (.d (.bool true)) (callE (cfg0.knows (orcOf tab2)) 3000 (.fn (.func 18) [] []) (List.map V.d []) none [])=true:=by kernel_rfl
theorem tabOk0:TabOk cfg0 tab0:=.nil
theorem fn0:∃ hp,FuncOk cfg0 120 (List.map V.d [task0]) [] (.ret (.d (.int .i64 (0)))) hp:=fact tabOk0 3000 kn0
theorem fn3:∃ hp,FuncOk cfg0 120 (List.map V.d [task1]) [] (.ret (.d (.int .i64 (0)))) hp:=fact tabOk0 3000 kn3
theorem tabOk1:TabOk cfg0 tab1:=(.cons (.cons fn0 rfl (.cons fn3 rfl .nil)) .nil)
theorem fn1:∃ hp,FuncOk cfg0 30 (List.map V.d [task0,(.int .i64 (0)),(.int .i64 (0)),(.int .i64 (0)),(.int .i64 (0))]) [] (.ret (.tuple [(.d (.list 1 [(.int .i64 (0))])),(.d (.list 1 [(.int .i64 (0))])),(.d (.int .i64 (0)))])) hp:=fact tabOk1 3000 kn1
theorem fn2:∃ hp,FuncOk cfg0 30 (List.map V.d [task0,(.int .i64 (0)),(.int .i64 (0)),(.int .i64 (0)),(.int .i64 (1))]) [] (.ret (.tuple [(.d .nils),(.d .nils),(.d (.int .i64 (14)))])) hp:=fact tabOk1 3000 kn2
theorem fn4:∃ hp,FuncOk cfg0 32 (List.map V.d [task1,(.int .i64 (0)),(.int .i64 (0)),(.int .i64 (0)),(.int .i64 (1))]) [] (.ret (.tuple [(.d (.int .i64 (0))),(.d (.int .i64 (2))),(.d (.int .i64 (0)))])) hp:=fact tabOk1 3000 kn4
theorem fn5:∃ hp,FuncOk cfg0 32 (List.map V.d [task1,(.int .i64 (0)),(.int .i64 (0)),(.int .i64 (0)),(.int .i64 (2))]) [] (.ret (.tuple [(.d (.int .i64 (0))),(.d (.int .i64 (0))),(.d (.int .i64 (14)))])) hp:=fact tabOk1 3000 kn5
theorem fn6:∃ hp,FuncOk cfg0 34 (List.map V.d [task1,(.int .i64 (0)),(.int .i64 (1)),(.int .i64 (0)),(.int .i64 (2))]) [] (.ret (.tuple [(.d (.int .i64 (0))),(.d (.int .i64 (0))),(.d (.int .i64 (0))),(.d (.int .i64 (14)))])) hp:=fact tabOk1 3000 kn6
theorem fn7:∃ hp,FuncOk cfg0 32 (List.map V.d [task0,(.int .i64 (0)),(.int .i64 (0)),(.int .i64 (0)),(.int .i64 (1))]) [] (.ret (.tuple [(.d (.int .i64 (0))),(.d (.int .i64 (0))),(.d (.int .i64 (9)))])) hp:=fact tabOk1 3000 kn7
theorem fn8:∃ hp,FuncOk cfg0 30 (List.map V.d [task0,(.int .i64 (0)),(.int .i64 (0)),(.int .i64 (0)),(.int .i64 (2))]) [] (.ret (.tuple [(.d (.list 1 [(.int .i64 (0))])),(.d (.list 1 [(.int .i64 (1))])),(.d (.int .i64 (0)))])) hp:=fact tabOk1 3000 kn8
theorem fn9:∃ hp,FuncOk cfg0 34 (List.map V.d [task1,(.int .i64 (0)),(.int .i64 (0)),(.int .i64 (0)),(.int .i64 (2))]) [] (.ret (.tuple [(.d (.int .i64 (0))),(.d (.int .i64 (-7))),(.d (.int .i64 (-1))),(.d (.int .i64 (0)))])) hp:=fact tabOk1 3000 kn9
theorem fn10:∃ hp,FuncOk cfg0 22 (List.map V.d [task0,(.int .i64 (0)),(.int .i64 (1))]) [] (.ret (.tuple [(.d (.list 1 [(.int .i64 (1))])),(.d (.int .i64 (0)))])) hp:=fact tabOk1 3000 kn10
theorem fn11:∃ hp,FuncOk cfg0 26 (List.map V.d [task0,(.int .i64 (0)),(.int .i64 (0)),(.int .i64 (1))]) [] (.ret (.tuple [(.d (.int .i64 (0))),(.d (.int .i64 (1))),(.d (.int .i64 (0)))])) hp:=fact tabOk1 3000 kn11
theorem fn12:∃ hp,FuncOk cfg0 44 (List.map V.d [task0,(.int .i64 (0)),(.int .i64 (0)),(.int .i64 (1))]) [] (.ret (.tuple [(.d (.list 1 [(.int .i64 (1))])),(.d (.int .i64 (0)))])) hp:=fact tabOk1 3000 kn12
theorem fn13:∃ hp,FuncOk cfg0 17 (List.map V.d [task1,(.int .i64 (0))]) [] (.ret (.tuple [(.d (.list 1 [(.int .i64 (0))])),(.d (.int .i64 (0)))])) hp:=fact tabOk1 3000 kn13
theorem fn14:∃ hp,FuncOk cfg0 37 (List.map V.d [task0,(.int .i64 (2)),(.int .i64 (2))]) [] (.ret (.tuple [(.d (.int .i64 (1))),(.d (.int .i64 (0)))])) hp:=fact tabOk1 3000 kn14
theorem fn15:∃ hp,FuncOk cfg0 14 (List.map V.d [task0]) [] (.ret (.tuple [(.d (.list 1 [(.int .i64 (0)),(.int .i64 (1)),(.int .i64 (2))])),(.d (.int .i64 (0)))])) hp:=fact tabOk1 3000 kn15
theorem fn17:∃ hp,FuncOk cfg0 22 (List.map V.d [task0,(.int .i64 (0)),(.int .i64 (2))]) [] (.ret (.tuple [(.d .nils),(.d (.int .i64 (0)))])) hp:=fact tabOk1 3000 kn17
theorem fn18:∃ hp,FuncOk cfg0 22 (List.map V.d [task0,(.int .i64 (1)),(.int .i64 (0))]) [] (.ret (.tuple [(.d .nils),(.d (.int .i64 (0)))])) hp:=fact tabOk1 3000 kn18
theorem fn19:∃ hp,FuncOk cfg0 24 (List.map V.d [task0,(.int .i64 (0)),(.int .i64 (0)),(.int .i64 (1))]) [] (.ret (.tuple [(.d (.int .i64 (2))),(.d (.int .i64 (0)))])) hp:=fact tabOk1 3000 kn19
theorem fn20:∃ hp,FuncOk cfg0 24 (List.map V.d [task0,(.int .i64 (0)),(.int .i64 (0)),(.int .i64 (2))]) [] (.ret (.tuple [(.d (.int .i64 (0))),(.d (.int .i64 (0)))])) hp:=fact tabOk1 3000 kn20
theorem fn21:∃ hp,FuncOk cfg0 42 (List.map V.d [task0,(.int .i64 (0)),(.int .i64 (0)),(.int .i64 (1))]) [] (.ret (.tuple [(.d (.list 1 [(.list 1 [(.int .i64 (1))])])),(.d (.int .i64 (0)))])) hp:=fact tabOk1 3000 kn21
theorem fn22:∃ hp,FuncOk cfg0 44 (List.map V.d [task0,(.int .i64 (0)),(.int .i64 (0)),(.int .i64 (3))]) [] (.ret (.tuple [(.d .nils),(.d (.int .i64 (14)))])) hp:=fact tabOk1 3000 kn22
theorem fn23:∃ hp,FuncOk cfg0 17 (List.map V.d [task0,(.int .i64 (0))]) [] (.ret (.tuple [(.d .nils),(.d (.int .i64 (0)))])) hp:=fact tabOk1 3000 kn23
theorem fn24:∃ hp,FuncOk cfg0 37 (List.map V.d [task0,(.int .i64 (2)),(.int .i64 (1))]) [] (.ret (.tuple [(.d (.int .i64 (0))),(.d (.int .i64 (14)))])) hp:=fact tabOk1 3000 kn24
theorem fn25:∃ hp,FuncOk cfg0 40 (List.map V.d [task0,(.int .i64 (1))]) [] (.ret (.tuple [(.d (.list 1 [(.int .i64 (0)),(.int .i64 (1)),(.int .i64 (2))])),(.d (.int .i64 (0)))])) hp:=fact tabOk1 3000 kn25
theorem fn26:∃ hp,FuncOk cfg0 40 (List.map V.d [task0,(.int .i64 (0))]) [] (.ret (.tuple [(.d .nils),(.d (.int .i64 (0)))])) hp:=fact tabOk1 3000 kn26
theorem fn27:∃ hp,FuncOk cfg0 14 (List.map V.d [task1]) [] (.ret (.tuple [(.d (.list 1 [(.int .i64 (0)),(.int .i64 (0)),(.int .i64 (0))])),(.d (.int .i64 (0)))])) hp:=fact tabOk1 3000 kn27
theorem tabOk2:TabOk cfg0 tab2:=(.cons (.cons fn0 rfl (.cons fn3 rfl .nil)) (.cons (.cons fn1 rfl (.cons fn2 rfl (.cons fn8 rfl .nil))) (.cons (.cons fn4 rfl (.cons fn5 rfl (.cons fn7 rfl .nil))) (.cons (.cons fn6 rfl (.cons fn9 rfl .nil)) (.cons (.cons fn10 rfl (.cons fn17 rfl (.cons fn18 rfl .nil))) (.cons (.cons fn11 rfl .nil) (.cons (.cons fn12 rfl (.cons fn22 rfl .nil)) (.cons (.cons fn13 rfl (.cons fn23 rfl .nil)) (.cons (.cons fn14 rfl (.cons fn24 rfl .nil)) (.cons (.cons fn15 rfl (.cons fn27 rfl .nil)) (.cons (.cons fn19 rfl (.cons fn20 rfl .nil)) (.cons (.cons fn21 rfl .nil) (.cons (.cons fn25 rfl (.cons fn26 rfl .nil)) .nil)))))))))))))
theorem fn16:∃ hp,FuncOk cfg0 18 (List.map V.d []) [] (.ret (.d (.bool true))) hp:=fact tabOk2 3000 kn16
end Mw
