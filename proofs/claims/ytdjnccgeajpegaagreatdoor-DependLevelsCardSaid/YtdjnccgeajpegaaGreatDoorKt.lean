/- DependLevels answers true for every list of numbers: its tied card holds; no condition beyond the card's own. -/
import Derived.Test.YtdjnccgeajpegaaGreatDoorKa
import Derived.Test.YtdjnccgeajpegaaGreatDoorMwP
set_option linter.unusedVariables false
set_option linter.unusedSimpArgs false
set_option maxRecDepth 1000000
namespace Mw
open Go Go.Proofs
theorem kt0:retIs (.d (.agg [(.str ⟨#[48]⟩),(.str ⟨#[49]⟩)])) (callE (cfg0.knows (orcOf tabA)) 3000 (.fn (.func 188) [] []) (List.map V.d [(.int .i64 0),(.int .i64 1)]) none [])=true:=by kernel_rfl
theorem kt1:retIs (.d (.agg [(.str ⟨#[49]⟩),(.str ⟨#[49]⟩)])) (callE (cfg0.knows (orcOf tabA)) 3000 (.fn (.func 188) [] []) (List.map V.d [(.int .i64 1),(.int .i64 1)]) none [])=true:=by kernel_rfl
theorem kt2:retIs (.d (.agg [(.str ⟨#[50]⟩),(.str ⟨#[49]⟩)])) (callE (cfg0.knows (orcOf tabA)) 3000 (.fn (.func 188) [] []) (List.map V.d [(.int .i64 2),(.int .i64 1)]) none [])=true:=by kernel_rfl
theorem kt3:retIs (.d (.agg [(.str ⟨#[51]⟩),(.str ⟨#[49]⟩)])) (callE (cfg0.knows (orcOf tabA)) 3000 (.fn (.func 188) [] []) (List.map V.d [(.int .i64 3),(.int .i64 1)]) none [])=true:=by kernel_rfl
theorem kt4:retIs (.d (.agg [(.str ⟨#[52]⟩),(.str ⟨#[49]⟩)])) (callE (cfg0.knows (orcOf tabA)) 3000 (.fn (.func 188) [] []) (List.map V.d [(.int .i64 4),(.int .i64 1)]) none [])=true:=by kernel_rfl
theorem kt5:retIs (.d (.agg [(.str ⟨#[53]⟩),(.str ⟨#[49]⟩)])) (callE (cfg0.knows (orcOf tabA)) 3000 (.fn (.func 188) [] []) (List.map V.d [(.int .i64 5),(.int .i64 1)]) none [])=true:=by kernel_rfl
theorem kt6:retIs (.d (.agg [(.str ⟨#[49]⟩),(.str ⟨#[50]⟩)])) (callE (cfg0.knows (orcOf tabA)) 3000 (.fn (.func 188) [] []) (List.map V.d [(.int .i64 1),(.int .i64 2)]) none [])=true:=by kernel_rfl
theorem kt7:retIs (.d (.agg [(.str ⟨#[49]⟩),(.str ⟨#[51]⟩)])) (callE (cfg0.knows (orcOf tabA)) 3000 (.fn (.func 188) [] []) (List.map V.d [(.int .i64 1),(.int .i64 3)]) none [])=true:=by kernel_rfl
theorem kt8:retIs (.d (.agg [(.str ⟨#[49]⟩),(.str ⟨#[49]⟩)])) (callE (cfg0.knows (orcOf tabA)) 3000 (.fn (.func 188) [] []) (List.map V.d [(.int .i64 2),(.int .i64 2)]) none [])=true:=by kernel_rfl
theorem kt9:retIs (.d (.agg [(.str ⟨#[50]⟩),(.str ⟨#[51]⟩)])) (callE (cfg0.knows (orcOf tabA)) 3000 (.fn (.func 188) [] []) (List.map V.d [(.int .i64 2),(.int .i64 3)]) none [])=true:=by kernel_rfl
theorem kt10:retIs (.d (.str ⟨#[48]⟩)) (callE (cfg0.knows (orcOf tabA)) 3000 (.fn (.func 189) [] []) (List.map V.d [(.int .i64 0)]) none [])=true:=by kernel_rfl
theorem kt11:retIs (.d (.str ⟨#[49]⟩)) (callE (cfg0.knows (orcOf tabA)) 3000 (.fn (.func 189) [] []) (List.map V.d [(.int .i64 1)]) none [])=true:=by kernel_rfl
theorem kt12:retIs (.d (.str ⟨#[50]⟩)) (callE (cfg0.knows (orcOf tabA)) 3000 (.fn (.func 189) [] []) (List.map V.d [(.int .i64 2)]) none [])=true:=by kernel_rfl
theorem kt13:retIs (.d (.int .i64 0)) (callE (cfg0.knows (orcOf tabA)) 3000 (.fn (.func 266) [] []) (List.map V.d [(.agg [(.str ⟨#[48]⟩),(.str ⟨#[49]⟩)])]) none [])=true:=by kernel_rfl
theorem kt14:retIs (.d (.int .i64 0)) (callE (cfg0.knows (orcOf tabA)) 3000 (.fn (.func 266) [] []) (List.map V.d [(.agg [(.str ⟨#[49]⟩),(.str ⟨#[49]⟩)])]) none [])=true:=by kernel_rfl
theorem kt15:retIs (.d (.int .i64 0)) (callE (cfg0.knows (orcOf tabA)) 3000 (.fn (.func 266) [] []) (List.map V.d [(.agg [(.str ⟨#[50]⟩),(.str ⟨#[49]⟩)])]) none [])=true:=by kernel_rfl
theorem kt16:retIs (.d (.int .i64 0)) (callE (cfg0.knows (orcOf tabA)) 3000 (.fn (.func 266) [] []) (List.map V.d [(.agg [(.str ⟨#[51]⟩),(.str ⟨#[49]⟩)])]) none [])=true:=by kernel_rfl
theorem kt17:retIs (.d (.int .i64 0)) (callE (cfg0.knows (orcOf tabA)) 3000 (.fn (.func 266) [] []) (List.map V.d [(.agg [(.str ⟨#[52]⟩),(.str ⟨#[49]⟩)])]) none [])=true:=by kernel_rfl
theorem kt18:retIs (.d (.int .i64 0)) (callE (cfg0.knows (orcOf tabA)) 3000 (.fn (.func 266) [] []) (List.map V.d [(.agg [(.str ⟨#[53]⟩),(.str ⟨#[49]⟩)])]) none [])=true:=by kernel_rfl
theorem kt19:retIs (.d (.int .i64 0)) (callE (cfg0.knows (orcOf tabA)) 3000 (.fn (.func 266) [] []) (List.map V.d [(.agg [(.str ⟨#[49]⟩),(.str ⟨#[50]⟩)])]) none [])=true:=by kernel_rfl
theorem kt20:retIs (.d (.int .i64 0)) (callE (cfg0.knows (orcOf tabA)) 3000 (.fn (.func 266) [] []) (List.map V.d [(.agg [(.str ⟨#[49]⟩),(.str ⟨#[51]⟩)])]) none [])=true:=by kernel_rfl
theorem kt21:retIs (.d (.int .i64 0)) (callE (cfg0.knows (orcOf tabA)) 3000 (.fn (.func 266) [] []) (List.map V.d [(.agg [(.str ⟨#[50]⟩),(.str ⟨#[51]⟩)])]) none [])=true:=by kernel_rfl
theorem kt22:retIs (.d (.bool true)) (callE (cfg0.knows (orcOf tabA)) 3000 (.fn (.func 268) [] []) (List.map V.d [(.str ⟨#[97]⟩)]) none [])=true:=by kernel_rfl
theorem kt23:retIs (.d (.bool true)) (callE (cfg0.knows (orcOf tabA)) 3000 (.fn (.func 268) [] []) (List.map V.d [(.str ⟨#[98]⟩)]) none [])=true:=by kernel_rfl
theorem kt24:retIs (.d (.bool true)) (callE (cfg0.knows (orcOf tabA)) 3000 (.fn (.func 268) [] []) (List.map V.d [(.str ⟨#[99]⟩)]) none [])=true:=by kernel_rfl
theorem kt25:retIs (.d (.bool true)) (callE (cfg0.knows (orcOf tabA)) 3000 (.fn (.func 268) [] []) (List.map V.d [(.str ⟨#[114,48]⟩)]) none [])=true:=by kernel_rfl
theorem kt26:retIs (.d (.bool true)) (callE (cfg0.knows (orcOf tabA)) 3000 (.fn (.func 268) [] []) (List.map V.d [(.str ⟨#[114,49]⟩)]) none [])=true:=by kernel_rfl
theorem kt27:retIs (.d (.bool true)) (callE (cfg0.knows (orcOf tabA)) 3000 (.fn (.func 268) [] []) (List.map V.d [(.str ⟨#[114,50]⟩)]) none [])=true:=by kernel_rfl
theorem kt28:retIs (.d (.bool true)) (callE (cfg0.knows (orcOf tabA)) 3000 (.fn (.func 268) [] []) (List.map V.d [(.str ⟨#[105,48]⟩)]) none [])=true:=by kernel_rfl
theorem kt29:retIs (.d (.bool true)) (callE (cfg0.knows (orcOf tabA)) 3000 (.fn (.func 268) [] []) (List.map V.d [(.str ⟨#[105,49]⟩)]) none [])=true:=by kernel_rfl
theorem kt30:retIs (.d (.int .i64 0)) (callE (cfg0.knows (orcOf tabA)) 3000 (.fn (.func 165) [] []) (List.map V.d [(.str ⟨#[114,48]⟩),(.int .u8 114),(.int .i64 1)]) none [])=true:=by kernel_rfl
theorem kt31:retIs (.d (.int .i64 0)) (callE (cfg0.knows (orcOf tabA)) 3000 (.fn (.func 165) [] []) (List.map V.d [(.str ⟨#[114,48]⟩),(.int .u8 114),(.int .i64 2)]) none [])=true:=by kernel_rfl
theorem kt32:retIs (.d (.int .i64 0)) (callE (cfg0.knows (orcOf tabA)) 3000 (.fn (.func 165) [] []) (List.map V.d [(.str ⟨#[114,48]⟩),(.int .u8 114),(.int .i64 3)]) none [])=true:=by kernel_rfl
theorem kt33:retIs (.d (.int .i64 1)) (callE (cfg0.knows (orcOf tabA)) 3000 (.fn (.func 165) [] []) (List.map V.d [(.str ⟨#[114,49]⟩),(.int .u8 114),(.int .i64 2)]) none [])=true:=by kernel_rfl
theorem kt34:retIs (.d (.int .i64 1)) (callE (cfg0.knows (orcOf tabA)) 3000 (.fn (.func 165) [] []) (List.map V.d [(.str ⟨#[114,49]⟩),(.int .u8 114),(.int .i64 3)]) none [])=true:=by kernel_rfl
theorem kt35:retIs (.d (.int .i64 2)) (callE (cfg0.knows (orcOf tabA)) 3000 (.fn (.func 165) [] []) (List.map V.d [(.str ⟨#[114,50]⟩),(.int .u8 114),(.int .i64 3)]) none [])=true:=by kernel_rfl
theorem kt36:retIs (.d (.int .i64 (-1))) (callE (cfg0.knows (orcOf tabA)) 3000 (.fn (.func 165) [] []) (List.map V.d [(.str ⟨#[105,48]⟩),(.int .u8 114),(.int .i64 0)]) none [])=true:=by kernel_rfl
theorem kt37:retIs (.d (.int .i64 (-1))) (callE (cfg0.knows (orcOf tabA)) 3000 (.fn (.func 165) [] []) (List.map V.d [(.str ⟨#[105,48]⟩),(.int .u8 114),(.int .i64 1)]) none [])=true:=by kernel_rfl
theorem kt38:retIs (.d (.int .i64 (-1))) (callE (cfg0.knows (orcOf tabA)) 3000 (.fn (.func 165) [] []) (List.map V.d [(.str ⟨#[105,48]⟩),(.int .u8 114),(.int .i64 2)]) none [])=true:=by kernel_rfl
theorem kt39:retIs (.d (.int .i64 (-1))) (callE (cfg0.knows (orcOf tabA)) 3000 (.fn (.func 165) [] []) (List.map V.d [(.str ⟨#[105,48]⟩),(.int .u8 114),(.int .i64 3)]) none [])=true:=by kernel_rfl
theorem kt40:retIs (.d (.int .i64 0)) (callE (cfg0.knows (orcOf tabA)) 3000 (.fn (.func 165) [] []) (List.map V.d [(.str ⟨#[105,48]⟩),(.int .u8 105),(.int .i64 1)]) none [])=true:=by kernel_rfl
theorem kt41:retIs (.d (.int .i64 0)) (callE (cfg0.knows (orcOf tabA)) 3000 (.fn (.func 165) [] []) (List.map V.d [(.str ⟨#[105,48]⟩),(.int .u8 105),(.int .i64 2)]) none [])=true:=by kernel_rfl
theorem kt42:retIs (.d (.int .i64 (-1))) (callE (cfg0.knows (orcOf tabA)) 3000 (.fn (.func 165) [] []) (List.map V.d [(.str ⟨#[105,49]⟩),(.int .u8 114),(.int .i64 0)]) none [])=true:=by kernel_rfl
theorem kt43:retIs (.d (.int .i64 (-1))) (callE (cfg0.knows (orcOf tabA)) 3000 (.fn (.func 165) [] []) (List.map V.d [(.str ⟨#[105,49]⟩),(.int .u8 114),(.int .i64 1)]) none [])=true:=by kernel_rfl
theorem kt44:retIs (.d (.int .i64 (-1))) (callE (cfg0.knows (orcOf tabA)) 3000 (.fn (.func 165) [] []) (List.map V.d [(.str ⟨#[105,49]⟩),(.int .u8 114),(.int .i64 2)]) none [])=true:=by kernel_rfl
theorem kt45:retIs (.d (.int .i64 (-1))) (callE (cfg0.knows (orcOf tabA)) 3000 (.fn (.func 165) [] []) (List.map V.d [(.str ⟨#[105,49]⟩),(.int .u8 114),(.int .i64 3)]) none [])=true:=by kernel_rfl
theorem kt46:retIs (.d (.int .i64 1)) (callE (cfg0.knows (orcOf tabA)) 3000 (.fn (.func 165) [] []) (List.map V.d [(.str ⟨#[105,49]⟩),(.int .u8 105),(.int .i64 2)]) none [])=true:=by kernel_rfl
end Mw
