/- DependFirst's tied card holds; no condition beyond the card's own. -/
import Derived.Test.YtdjnccgeajpegaaGreatDoorMwU
import Derived.Test.YtdjnccgeajpegaaGreatDoorKn0
import Derived.Test.YtdjnccgeajpegaaGreatDoorKn1
set_option linter.unusedVariables false
set_option linter.unusedSimpArgs false
set_option maxRecDepth 1000000
namespace Mw
open Go Go.Proofs
theorem atW:aT (.tuple [(.d (.list 1 [(.list 1 [(.int .i64 (1))])])),(.d (.int .i64 (0)))]) (aK (aG.knows (aS kW)) 3000 (.fn (.func 42) [] []) (List.map V.d [aN,(.int .i64 (0)),(.int .i64 (0)),(.int .i64 (1))]) none [])=true:=by kernel_rfl
theorem axV:aT (.tuple [(.d .nils),(.d (.int .i64 (14)))]) (aK (aG.knows (aS kW)) 3000 (.fn (.func 44) [] []) (List.map V.d [aN,(.int .i64 (0)),(.int .i64 (0)),(.int .i64 (3))]) none [])=true:=by kernel_rfl
theorem as8:aT (.tuple [(.d .nils),(.d (.int .i64 (0)))]) (aK (aG.knows (aS kW)) 3000 (.fn (.func 17) [] []) (List.map V.d [aN,(.int .i64 (0))]) none [])=true:=by kernel_rfl
theorem axj:aT (.tuple [(.d (.int .i64 (0))),(.d (.int .i64 (14)))]) (aK (aG.knows (aS kW)) 3000 (.fn (.func 37) [] []) (List.map V.d [aN,(.int .i64 (2)),(.int .i64 (1))]) none [])=true:=by kernel_rfl
theorem axL:aT (.tuple [(.d (.list 1 [(.int .i64 (0)),(.int .i64 (1)),(.int .i64 (2))])),(.d (.int .i64 (0)))]) (aK (aG.knows (aS kW)) 3000 (.fn (.func 40) [] []) (List.map V.d [aN,(.int .i64 (1))]) none [])=true:=by kernel_rfl
theorem ayW:aT (.tuple [(.d .nils),(.d (.int .i64 (0)))]) (aK (aG.knows (aS kW)) 3000 (.fn (.func 40) [] []) (List.map V.d [aN,(.int .i64 (0))]) none [])=true:=by kernel_rfl
theorem awM:aT (.d (.bool true)) (aK (aG.knows (aS ak1)) 3000 (.fn (.func 18) [] []) (List.map V.d []) none [])=true:=by kernel_rfl
theorem Wv:mO aG aeM:=.nil
theorem fn0:∃hp,aC aG 120 (List.map V.d [aN]) [] (.ret (.d (.int .i64 (0)))) hp:=fact Wv 3000 kn0
theorem fn3:∃hp,aC aG 120 (List.map V.d [task1]) [] (.ret (.d (.int .i64 (0)))) hp:=fact Wv 3000 kn3
theorem dW:mO aG kW:=(.cons (.cons fn0 rfl (.cons fn3 rfl .nil)) .nil)
theorem Gg:∃hp,aC aG 30 (List.map V.d [aN,(.int .i64 (0)),(.int .i64 (0)),(.int .i64 (0)),(.int .i64 (0))]) [] (.ret (.tuple [(.d (.list 1 [(.int .i64 (0))])),(.d (.list 1 [(.int .i64 (0))])),(.d (.int .i64 (0)))])) hp:=fact dW 3000 kn1
theorem fn2:∃hp,aC aG 30 (List.map V.d [aN,(.int .i64 (0)),(.int .i64 (0)),(.int .i64 (0)),(.int .i64 (1))]) [] (.ret (.tuple [(.d .nils),(.d .nils),(.d (.int .i64 (14)))])) hp:=fact dW 3000 kn2
theorem fn4:∃hp,aC aG 32 (List.map V.d [task1,(.int .i64 (0)),(.int .i64 (0)),(.int .i64 (0)),(.int .i64 (1))]) [] (.ret (.tuple [(.d (.int .i64 (0))),(.d (.int .i64 (2))),(.d (.int .i64 (0)))])) hp:=fact dW 3000 kn4
theorem fn5:∃hp,aC aG 32 (List.map V.d [task1,(.int .i64 (0)),(.int .i64 (0)),(.int .i64 (0)),(.int .i64 (2))]) [] (.ret (.tuple [(.d (.int .i64 (0))),(.d (.int .i64 (0))),(.d (.int .i64 (14)))])) hp:=fact dW 3000 kn5
theorem fn6:∃hp,aC aG 34 (List.map V.d [task1,(.int .i64 (0)),(.int .i64 (1)),(.int .i64 (0)),(.int .i64 (2))]) [] (.ret (.tuple [(.d (.int .i64 (0))),(.d (.int .i64 (0))),(.d (.int .i64 (0))),(.d (.int .i64 (14)))])) hp:=fact dW 3000 kn6
theorem fn7:∃hp,aC aG 32 (List.map V.d [aN,(.int .i64 (0)),(.int .i64 (0)),(.int .i64 (0)),(.int .i64 (1))]) [] (.ret (.tuple [(.d (.int .i64 (0))),(.d (.int .i64 (0))),(.d (.int .i64 (9)))])) hp:=fact dW 3000 kn7
theorem fn8:∃hp,aC aG 30 (List.map V.d [aN,(.int .i64 (0)),(.int .i64 (0)),(.int .i64 (0)),(.int .i64 (2))]) [] (.ret (.tuple [(.d (.list 1 [(.int .i64 (0))])),(.d (.list 1 [(.int .i64 (1))])),(.d (.int .i64 (0)))])) hp:=fact dW 3000 kn8
theorem fn9:∃hp,aC aG 34 (List.map V.d [task1,(.int .i64 (0)),(.int .i64 (0)),(.int .i64 (0)),(.int .i64 (2))]) [] (.ret (.tuple [(.d (.int .i64 (0))),(.d (.int .i64 (-7))),(.d (.int .i64 (-1))),(.d (.int .i64 (0)))])) hp:=fact dW 3000 kn9
theorem auo:∃hp,aC aG 22 (List.map V.d [aN,(.int .i64 (0)),(.int .i64 (1))]) [] (.ret (.tuple [(.d (.list 1 [(.int .i64 (1))])),(.d (.int .i64 (0)))])) hp:=fact dW 3000 asT
theorem au1:∃hp,aC aG 26 (List.map V.d [aN,(.int .i64 (0)),(.int .i64 (0)),(.int .i64 (1))]) [] (.ret (.tuple [(.d (.int .i64 (0))),(.d (.int .i64 (1))),(.d (.int .i64 (0)))])) hp:=fact dW 3000 axv
theorem atB:∃hp,aC aG 44 (List.map V.d [aN,(.int .i64 (0)),(.int .i64 (0)),(.int .i64 (1))]) [] (.ret (.tuple [(.d (.list 1 [(.int .i64 (1))])),(.d (.int .i64 (0)))])) hp:=fact dW 3000 avU
theorem asF:∃hp,aC aG 17 (List.map V.d [task1,(.int .i64 (0))]) [] (.ret (.tuple [(.d (.list 1 [(.int .i64 (0))])),(.d (.int .i64 (0)))])) hp:=fact dW 3000 awP
theorem aud:∃hp,aC aG 37 (List.map V.d [aN,(.int .i64 (2)),(.int .i64 (2))]) [] (.ret (.tuple [(.d (.int .i64 (1))),(.d (.int .i64 (0)))])) hp:=fact dW 3000 ays
theorem aul:∃hp,aC aG 14 (List.map V.d [aN]) [] (.ret (.tuple [(.d (.list 1 [(.int .i64 (0)),(.int .i64 (1)),(.int .i64 (2))])),(.d (.int .i64 (0)))])) hp:=fact dW 3000 awf
theorem ay5:∃hp,aC aG 22 (List.map V.d [aN,(.int .i64 (0)),(.int .i64 (2))]) [] (.ret (.tuple [(.d .nils),(.d (.int .i64 (0)))])) hp:=fact dW 3000 azF
theorem ax9:∃hp,aC aG 22 (List.map V.d [aN,(.int .i64 (1)),(.int .i64 (0))]) [] (.ret (.tuple [(.d .nils),(.d (.int .i64 (0)))])) hp:=fact dW 3000 azq
theorem avm:∃hp,aC aG 24 (List.map V.d [aN,(.int .i64 (0)),(.int .i64 (0)),(.int .i64 (1))]) [] (.ret (.tuple [(.d (.int .i64 (2))),(.d (.int .i64 (0)))])) hp:=fact dW 3000 atH
theorem asM:∃hp,aC aG 24 (List.map V.d [aN,(.int .i64 (0)),(.int .i64 (0)),(.int .i64 (2))]) [] (.ret (.tuple [(.d (.int .i64 (0))),(.d (.int .i64 (0)))])) hp:=fact dW 3000 axh
theorem aw8:∃hp,aC aG 42 (List.map V.d [aN,(.int .i64 (0)),(.int .i64 (0)),(.int .i64 (1))]) [] (.ret (.tuple [(.d (.list 1 [(.list 1 [(.int .i64 (1))])])),(.d (.int .i64 (0)))])) hp:=fact dW 3000 atW
theorem axc:∃hp,aC aG 44 (List.map V.d [aN,(.int .i64 (0)),(.int .i64 (0)),(.int .i64 (3))]) [] (.ret (.tuple [(.d .nils),(.d (.int .i64 (14)))])) hp:=fact dW 3000 axV
theorem ata:∃hp,aC aG 17 (List.map V.d [aN,(.int .i64 (0))]) [] (.ret (.tuple [(.d .nils),(.d (.int .i64 (0)))])) hp:=fact dW 3000 as8
theorem au2:∃hp,aC aG 37 (List.map V.d [aN,(.int .i64 (2)),(.int .i64 (1))]) [] (.ret (.tuple [(.d (.int .i64 (0))),(.d (.int .i64 (14)))])) hp:=fact dW 3000 axj
theorem avx:∃hp,aC aG 40 (List.map V.d [aN,(.int .i64 (1))]) [] (.ret (.tuple [(.d (.list 1 [(.int .i64 (0)),(.int .i64 (1)),(.int .i64 (2))])),(.d (.int .i64 (0)))])) hp:=fact dW 3000 axL
theorem auW:∃hp,aC aG 40 (List.map V.d [aN,(.int .i64 (0))]) [] (.ret (.tuple [(.d .nils),(.d (.int .i64 (0)))])) hp:=fact dW 3000 ayW
theorem atw:∃hp,aC aG 14 (List.map V.d [task1]) [] (.ret (.tuple [(.d (.list 1 [(.int .i64 (0)),(.int .i64 (0)),(.int .i64 (0))])),(.d (.int .i64 (0)))])) hp:=fact dW 3000 auV
theorem ahP:mO aG ak1:=(.cons (.cons fn0 rfl (.cons fn3 rfl .nil)) (.cons (.cons Gg rfl (.cons fn2 rfl (.cons fn8 rfl .nil))) (.cons (.cons fn4 rfl (.cons fn5 rfl (.cons fn7 rfl .nil))) (.cons (.cons fn6 rfl (.cons fn9 rfl .nil)) (.cons (.cons auo rfl (.cons ay5 rfl (.cons ax9 rfl .nil))) (.cons (.cons au1 rfl .nil) (.cons (.cons atB rfl (.cons axc rfl .nil)) (.cons (.cons asF rfl (.cons ata rfl .nil)) (.cons (.cons aud rfl (.cons au2 rfl .nil)) (.cons (.cons aul rfl (.cons atw rfl .nil)) (.cons (.cons avm rfl (.cons asM rfl .nil)) (.cons (.cons aw8 rfl .nil) (.cons (.cons avx rfl (.cons auW rfl .nil)) .nil)))))))))))))
theorem axF:∃hp,aC aG 18 (List.map V.d []) [] (.ret (.d (.bool true))) hp:=fact ahP 3000 awM
end Mw
