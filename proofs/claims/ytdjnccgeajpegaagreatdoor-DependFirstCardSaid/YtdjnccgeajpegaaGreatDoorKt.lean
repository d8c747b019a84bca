/- DependFirst's tied card holds; no condition beyond the card's own. -/
import Derived.Test.YtdjnccgeajpegaaGreatDoorKa
import Derived.Test.YtdjnccgeajpegaaGreatDoorMwP
set_option linter.unusedVariables false
set_option linter.unusedSimpArgs false
set_option maxRecDepth 1000000
namespace Mw
open Go Go.Proofs
theorem kt0:aT (.d (.agg [(.str ⟨#[48]⟩),(.str ⟨#[49]⟩)])) (aK (aG.knows (aS eG)) 3000 (.fn (.func 188) [] []) (List.map V.d [(.int .i64 0),(.int .i64 1)]) none [])=true:=by kernel_rfl
theorem kt1:aT (.d (.agg [(.str ⟨#[49]⟩),(.str ⟨#[49]⟩)])) (aK (aG.knows (aS eG)) 3000 (.fn (.func 188) [] []) (List.map V.d [(.int .i64 1),(.int .i64 1)]) none [])=true:=by kernel_rfl
theorem kt2:aT (.d (.agg [(.str ⟨#[50]⟩),(.str ⟨#[49]⟩)])) (aK (aG.knows (aS eG)) 3000 (.fn (.func 188) [] []) (List.map V.d [(.int .i64 2),(.int .i64 1)]) none [])=true:=by kernel_rfl
theorem kt3:aT (.d (.agg [(.str ⟨#[51]⟩),(.str ⟨#[49]⟩)])) (aK (aG.knows (aS eG)) 3000 (.fn (.func 188) [] []) (List.map V.d [(.int .i64 3),(.int .i64 1)]) none [])=true:=by kernel_rfl
theorem kt4:aT (.d (.agg [(.str ⟨#[52]⟩),(.str ⟨#[49]⟩)])) (aK (aG.knows (aS eG)) 3000 (.fn (.func 188) [] []) (List.map V.d [(.int .i64 4),(.int .i64 1)]) none [])=true:=by kernel_rfl
theorem kt5:aT (.d (.agg [(.str ⟨#[53]⟩),(.str ⟨#[49]⟩)])) (aK (aG.knows (aS eG)) 3000 (.fn (.func 188) [] []) (List.map V.d [(.int .i64 5),(.int .i64 1)]) none [])=true:=by kernel_rfl
theorem kt6:aT (.d (.agg [(.str ⟨#[49]⟩),(.str ⟨#[50]⟩)])) (aK (aG.knows (aS eG)) 3000 (.fn (.func 188) [] []) (List.map V.d [(.int .i64 1),(.int .i64 2)]) none [])=true:=by kernel_rfl
theorem kt7:aT (.d (.agg [(.str ⟨#[49]⟩),(.str ⟨#[51]⟩)])) (aK (aG.knows (aS eG)) 3000 (.fn (.func 188) [] []) (List.map V.d [(.int .i64 1),(.int .i64 3)]) none [])=true:=by kernel_rfl
theorem kt8:aT (.d (.agg [(.str ⟨#[49]⟩),(.str ⟨#[49]⟩)])) (aK (aG.knows (aS eG)) 3000 (.fn (.func 188) [] []) (List.map V.d [(.int .i64 2),(.int .i64 2)]) none [])=true:=by kernel_rfl
theorem kt9:aT (.d (.agg [(.str ⟨#[50]⟩),(.str ⟨#[51]⟩)])) (aK (aG.knows (aS eG)) 3000 (.fn (.func 188) [] []) (List.map V.d [(.int .i64 2),(.int .i64 3)]) none [])=true:=by kernel_rfl
theorem azl:aT (.d (.str ⟨#[48]⟩)) (aK (aG.knows (aS eG)) 3000 (.fn (.func 189) [] []) (List.map V.d [(.int .i64 0)]) none [])=true:=by kernel_rfl
theorem as2:aT (.d (.str ⟨#[49]⟩)) (aK (aG.knows (aS eG)) 3000 (.fn (.func 189) [] []) (List.map V.d [(.int .i64 1)]) none [])=true:=by kernel_rfl
theorem ax8:aT (.d (.str ⟨#[50]⟩)) (aK (aG.knows (aS eG)) 3000 (.fn (.func 189) [] []) (List.map V.d [(.int .i64 2)]) none [])=true:=by kernel_rfl
theorem auD:aT (.d (.int .i64 0)) (aK (aG.knows (aS eG)) 3000 (.fn (.func 266) [] []) (List.map V.d [(.agg [(.str ⟨#[48]⟩),(.str ⟨#[49]⟩)])]) none [])=true:=by kernel_rfl
theorem aub:aT (.d (.int .i64 0)) (aK (aG.knows (aS eG)) 3000 (.fn (.func 266) [] []) (List.map V.d [(.agg [(.str ⟨#[49]⟩),(.str ⟨#[49]⟩)])]) none [])=true:=by kernel_rfl
theorem avZ:aT (.d (.int .i64 0)) (aK (aG.knows (aS eG)) 3000 (.fn (.func 266) [] []) (List.map V.d [(.agg [(.str ⟨#[50]⟩),(.str ⟨#[49]⟩)])]) none [])=true:=by kernel_rfl
theorem avl:aT (.d (.int .i64 0)) (aK (aG.knows (aS eG)) 3000 (.fn (.func 266) [] []) (List.map V.d [(.agg [(.str ⟨#[51]⟩),(.str ⟨#[49]⟩)])]) none [])=true:=by kernel_rfl
theorem awQ:aT (.d (.int .i64 0)) (aK (aG.knows (aS eG)) 3000 (.fn (.func 266) [] []) (List.map V.d [(.agg [(.str ⟨#[52]⟩),(.str ⟨#[49]⟩)])]) none [])=true:=by kernel_rfl
theorem awL:aT (.d (.int .i64 0)) (aK (aG.knows (aS eG)) 3000 (.fn (.func 266) [] []) (List.map V.d [(.agg [(.str ⟨#[53]⟩),(.str ⟨#[49]⟩)])]) none [])=true:=by kernel_rfl
theorem asw:aT (.d (.int .i64 0)) (aK (aG.knows (aS eG)) 3000 (.fn (.func 266) [] []) (List.map V.d [(.agg [(.str ⟨#[49]⟩),(.str ⟨#[50]⟩)])]) none [])=true:=by kernel_rfl
theorem atu:aT (.d (.int .i64 0)) (aK (aG.knows (aS eG)) 3000 (.fn (.func 266) [] []) (List.map V.d [(.agg [(.str ⟨#[49]⟩),(.str ⟨#[51]⟩)])]) none [])=true:=by kernel_rfl
theorem azH:aT (.d (.int .i64 0)) (aK (aG.knows (aS eG)) 3000 (.fn (.func 266) [] []) (List.map V.d [(.agg [(.str ⟨#[50]⟩),(.str ⟨#[51]⟩)])]) none [])=true:=by kernel_rfl
theorem avg:aT (.d (.bool true)) (aK (aG.knows (aS eG)) 3000 (.fn (.func 268) [] []) (List.map V.d [(.str ⟨#[97]⟩)]) none [])=true:=by kernel_rfl
theorem axm:aT (.d (.bool true)) (aK (aG.knows (aS eG)) 3000 (.fn (.func 268) [] []) (List.map V.d [(.str ⟨#[98]⟩)]) none [])=true:=by kernel_rfl
theorem ayk:aT (.d (.bool true)) (aK (aG.knows (aS eG)) 3000 (.fn (.func 268) [] []) (List.map V.d [(.str ⟨#[99]⟩)]) none [])=true:=by kernel_rfl
theorem ayz:aT (.d (.bool true)) (aK (aG.knows (aS eG)) 3000 (.fn (.func 268) [] []) (List.map V.d [(.str ⟨#[114,48]⟩)]) none [])=true:=by kernel_rfl
theorem axx:aT (.d (.bool true)) (aK (aG.knows (aS eG)) 3000 (.fn (.func 268) [] []) (List.map V.d [(.str ⟨#[114,49]⟩)]) none [])=true:=by kernel_rfl
theorem ayO:aT (.d (.bool true)) (aK (aG.knows (aS eG)) 3000 (.fn (.func 268) [] []) (List.map V.d [(.str ⟨#[114,50]⟩)]) none [])=true:=by kernel_rfl
theorem azf:aT (.d (.bool true)) (aK (aG.knows (aS eG)) 3000 (.fn (.func 268) [] []) (List.map V.d [(.str ⟨#[105,48]⟩)]) none [])=true:=by kernel_rfl
theorem asz:aT (.d (.bool true)) (aK (aG.knows (aS eG)) 3000 (.fn (.func 268) [] []) (List.map V.d [(.str ⟨#[105,49]⟩)]) none [])=true:=by kernel_rfl
theorem azm:aT (.d (.int .i64 0)) (aK (aG.knows (aS eG)) 3000 (.fn (.func 165) [] []) (List.map V.d [(.str ⟨#[114,48]⟩),(.int .u8 114),(.int .i64 1)]) none [])=true:=by kernel_rfl
theorem awS:aT (.d (.int .i64 0)) (aK (aG.knows (aS eG)) 3000 (.fn (.func 165) [] []) (List.map V.d [(.str ⟨#[114,48]⟩),(.int .u8 114),(.int .i64 2)]) none [])=true:=by kernel_rfl
theorem atA:aT (.d (.int .i64 0)) (aK (aG.knows (aS eG)) 3000 (.fn (.func 165) [] []) (List.map V.d [(.str ⟨#[114,48]⟩),(.int .u8 114),(.int .i64 3)]) none [])=true:=by kernel_rfl
theorem atQ:aT (.d (.int .i64 1)) (aK (aG.knows (aS eG)) 3000 (.fn (.func 165) [] []) (List.map V.d [(.str ⟨#[114,49]⟩),(.int .u8 114),(.int .i64 2)]) none [])=true:=by kernel_rfl
theorem ay7:aT (.d (.int .i64 1)) (aK (aG.knows (aS eG)) 3000 (.fn (.func 165) [] []) (List.map V.d [(.str ⟨#[114,49]⟩),(.int .u8 114),(.int .i64 3)]) none [])=true:=by kernel_rfl
theorem aww:aT (.d (.int .i64 2)) (aK (aG.knows (aS eG)) 3000 (.fn (.func 165) [] []) (List.map V.d [(.str ⟨#[114,50]⟩),(.int .u8 114),(.int .i64 3)]) none [])=true:=by kernel_rfl
theorem avk:aT (.d (.int .i64 (-1))) (aK (aG.knows (aS eG)) 3000 (.fn (.func 165) [] []) (List.map V.d [(.str ⟨#[105,48]⟩),(.int .u8 114),(.int .i64 0)]) none [])=true:=by kernel_rfl
theorem awm:aT (.d (.int .i64 (-1))) (aK (aG.knows (aS eG)) 3000 (.fn (.func 165) [] []) (List.map V.d [(.str ⟨#[105,48]⟩),(.int .u8 114),(.int .i64 1)]) none [])=true:=by kernel_rfl
theorem avH:aT (.d (.int .i64 (-1))) (aK (aG.knows (aS eG)) 3000 (.fn (.func 165) [] []) (List.map V.d [(.str ⟨#[105,48]⟩),(.int .u8 114),(.int .i64 2)]) none [])=true:=by kernel_rfl
theorem as4:aT (.d (.int .i64 (-1))) (aK (aG.knows (aS eG)) 3000 (.fn (.func 165) [] []) (List.map V.d [(.str ⟨#[105,48]⟩),(.int .u8 114),(.int .i64 3)]) none [])=true:=by kernel_rfl
theorem awj:aT (.d (.int .i64 0)) (aK (aG.knows (aS eG)) 3000 (.fn (.func 165) [] []) (List.map V.d [(.str ⟨#[105,48]⟩),(.int .u8 105),(.int .i64 1)]) none [])=true:=by kernel_rfl
theorem axw:aT (.d (.int .i64 0)) (aK (aG.knows (aS eG)) 3000 (.fn (.func 165) [] []) (List.map V.d [(.str ⟨#[105,48]⟩),(.int .u8 105),(.int .i64 2)]) none [])=true:=by kernel_rfl
theorem avJ:aT (.d (.int .i64 (-1))) (aK (aG.knows (aS eG)) 3000 (.fn (.func 165) [] []) (List.map V.d [(.str ⟨#[105,49]⟩),(.int .u8 114),(.int .i64 0)]) none [])=true:=by kernel_rfl
theorem awH:aT (.d (.int .i64 (-1))) (aK (aG.knows (aS eG)) 3000 (.fn (.func 165) [] []) (List.map V.d [(.str ⟨#[105,49]⟩),(.int .u8 114),(.int .i64 1)]) none [])=true:=by kernel_rfl
theorem awY:aT (.d (.int .i64 (-1))) (aK (aG.knows (aS eG)) 3000 (.fn (.func 165) [] []) (List.map V.d [(.str ⟨#[105,49]⟩),(.int .u8 114),(.int .i64 2)]) none [])=true:=by kernel_rfl
theorem awU:aT (.d (.int .i64 (-1))) (aK (aG.knows (aS eG)) 3000 (.fn (.func 165) [] []) (List.map V.d [(.str ⟨#[105,49]⟩),(.int .u8 114),(.int .i64 3)]) none [])=true:=by kernel_rfl
theorem atv:aT (.d (.int .i64 1)) (aK (aG.knows (aS eG)) 3000 (.fn (.func 165) [] []) (List.map V.d [(.str ⟨#[105,49]⟩),(.int .u8 105),(.int .i64 2)]) none [])=true:=by kernel_rfl
end Mw
