/- DependLevels answers true for every list of numbers: its tied card holds; no condition beyond the card's own. -/
import Derived.Test.YtdjnccgeajpegaaGreatDoorKb
import Derived.Test.YtdjnccgeajpegaaGreatDoorKt
import Derived.Test.YtdjnccgeajpegaaGreatDoorKn2
import Derived.Test.YtdjnccgeajpegaaGreatDoorLa
import Derived.Test.YtdjnccgeajpegaaGreatDoorQm
set_option linter.unusedVariables false
set_option linter.unusedSimpArgs false
namespace Mw
open Go Go.Proofs
theorem kf0:∃ hp,FuncOk cfg0 188 (List.map V.d [(.int .i64 0),(.int .i64 1)]) [] (.ret (.d (.agg [(.str ⟨#[48]⟩),(.str ⟨#[49]⟩)]))) hp:=fact tabAOk 3000 kt0
theorem kf1:∃ hp,FuncOk cfg0 188 (List.map V.d [(.int .i64 1),(.int .i64 1)]) [] (.ret (.d (.agg [(.str ⟨#[49]⟩),(.str ⟨#[49]⟩)]))) hp:=fact tabAOk 3000 kt1
theorem kf2:∃ hp,FuncOk cfg0 188 (List.map V.d [(.int .i64 2),(.int .i64 1)]) [] (.ret (.d (.agg [(.str ⟨#[50]⟩),(.str ⟨#[49]⟩)]))) hp:=fact tabAOk 3000 kt2
theorem kf3:∃ hp,FuncOk cfg0 188 (List.map V.d [(.int .i64 3),(.int .i64 1)]) [] (.ret (.d (.agg [(.str ⟨#[51]⟩),(.str ⟨#[49]⟩)]))) hp:=fact tabAOk 3000 kt3
theorem kf4:∃ hp,FuncOk cfg0 188 (List.map V.d [(.int .i64 4),(.int .i64 1)]) [] (.ret (.d (.agg [(.str ⟨#[52]⟩),(.str ⟨#[49]⟩)]))) hp:=fact tabAOk 3000 kt4
theorem kf5:∃ hp,FuncOk cfg0 188 (List.map V.d [(.int .i64 5),(.int .i64 1)]) [] (.ret (.d (.agg [(.str ⟨#[53]⟩),(.str ⟨#[49]⟩)]))) hp:=fact tabAOk 3000 kt5
theorem kf6:∃ hp,FuncOk cfg0 188 (List.map V.d [(.int .i64 1),(.int .i64 2)]) [] (.ret (.d (.agg [(.str ⟨#[49]⟩),(.str ⟨#[50]⟩)]))) hp:=fact tabAOk 3000 kt6
theorem kf7:∃ hp,FuncOk cfg0 188 (List.map V.d [(.int .i64 1),(.int .i64 3)]) [] (.ret (.d (.agg [(.str ⟨#[49]⟩),(.str ⟨#[51]⟩)]))) hp:=fact tabAOk 3000 kt7
theorem kf8:∃ hp,FuncOk cfg0 188 (List.map V.d [(.int .i64 2),(.int .i64 2)]) [] (.ret (.d (.agg [(.str ⟨#[49]⟩),(.str ⟨#[49]⟩)]))) hp:=fact tabAOk 3000 kt8
theorem kf9:∃ hp,FuncOk cfg0 188 (List.map V.d [(.int .i64 2),(.int .i64 3)]) [] (.ret (.d (.agg [(.str ⟨#[50]⟩),(.str ⟨#[51]⟩)]))) hp:=fact tabAOk 3000 kt9
theorem kf10:∃ hp,FuncOk cfg0 189 (List.map V.d [(.int .i64 0)]) [] (.ret (.d (.str ⟨#[48]⟩))) hp:=fact tabAOk 3000 kt10
theorem kf11:∃ hp,FuncOk cfg0 189 (List.map V.d [(.int .i64 1)]) [] (.ret (.d (.str ⟨#[49]⟩))) hp:=fact tabAOk 3000 kt11
theorem kf12:∃ hp,FuncOk cfg0 189 (List.map V.d [(.int .i64 2)]) [] (.ret (.d (.str ⟨#[50]⟩))) hp:=fact tabAOk 3000 kt12
theorem kf13:∃ hp,FuncOk cfg0 266 (List.map V.d [(.agg [(.str ⟨#[48]⟩),(.str ⟨#[49]⟩)])]) [] (.ret (.d (.int .i64 0))) hp:=fact tabAOk 3000 kt13
theorem kf14:∃ hp,FuncOk cfg0 266 (List.map V.d [(.agg [(.str ⟨#[49]⟩),(.str ⟨#[49]⟩)])]) [] (.ret (.d (.int .i64 0))) hp:=fact tabAOk 3000 kt14
theorem kf15:∃ hp,FuncOk cfg0 266 (List.map V.d [(.agg [(.str ⟨#[50]⟩),(.str ⟨#[49]⟩)])]) [] (.ret (.d (.int .i64 0))) hp:=fact tabAOk 3000 kt15
theorem kf16:∃ hp,FuncOk cfg0 266 (List.map V.d [(.agg [(.str ⟨#[51]⟩),(.str ⟨#[49]⟩)])]) [] (.ret (.d (.int .i64 0))) hp:=fact tabAOk 3000 kt16
theorem kf17:∃ hp,FuncOk cfg0 266 (List.map V.d [(.agg [(.str ⟨#[52]⟩),(.str ⟨#[49]⟩)])]) [] (.ret (.d (.int .i64 0))) hp:=fact tabAOk 3000 kt17
theorem kf18:∃ hp,FuncOk cfg0 266 (List.map V.d [(.agg [(.str ⟨#[53]⟩),(.str ⟨#[49]⟩)])]) [] (.ret (.d (.int .i64 0))) hp:=fact tabAOk 3000 kt18
theorem kf19:∃ hp,FuncOk cfg0 266 (List.map V.d [(.agg [(.str ⟨#[49]⟩),(.str ⟨#[50]⟩)])]) [] (.ret (.d (.int .i64 0))) hp:=fact tabAOk 3000 kt19
theorem kf20:∃ hp,FuncOk cfg0 266 (List.map V.d [(.agg [(.str ⟨#[49]⟩),(.str ⟨#[51]⟩)])]) [] (.ret (.d (.int .i64 0))) hp:=fact tabAOk 3000 kt20
theorem kf21:∃ hp,FuncOk cfg0 266 (List.map V.d [(.agg [(.str ⟨#[50]⟩),(.str ⟨#[51]⟩)])]) [] (.ret (.d (.int .i64 0))) hp:=fact tabAOk 3000 kt21
theorem kf22:∃ hp,FuncOk cfg0 268 (List.map V.d [(.str ⟨#[97]⟩)]) [] (.ret (.d (.bool true))) hp:=fact tabAOk 3000 kt22
theorem kf23:∃ hp,FuncOk cfg0 268 (List.map V.d [(.str ⟨#[98]⟩)]) [] (.ret (.d (.bool true))) hp:=fact tabAOk 3000 kt23
theorem kf24:∃ hp,FuncOk cfg0 268 (List.map V.d [(.str ⟨#[99]⟩)]) [] (.ret (.d (.bool true))) hp:=fact tabAOk 3000 kt24
theorem kf25:∃ hp,FuncOk cfg0 268 (List.map V.d [(.str ⟨#[114,48]⟩)]) [] (.ret (.d (.bool true))) hp:=fact tabAOk 3000 kt25
theorem kf26:∃ hp,FuncOk cfg0 268 (List.map V.d [(.str ⟨#[114,49]⟩)]) [] (.ret (.d (.bool true))) hp:=fact tabAOk 3000 kt26
theorem kf27:∃ hp,FuncOk cfg0 268 (List.map V.d [(.str ⟨#[114,50]⟩)]) [] (.ret (.d (.bool true))) hp:=fact tabAOk 3000 kt27
theorem kf28:∃ hp,FuncOk cfg0 268 (List.map V.d [(.str ⟨#[105,48]⟩)]) [] (.ret (.d (.bool true))) hp:=fact tabAOk 3000 kt28
theorem kf29:∃ hp,FuncOk cfg0 268 (List.map V.d [(.str ⟨#[105,49]⟩)]) [] (.ret (.d (.bool true))) hp:=fact tabAOk 3000 kt29
theorem kf30:∃ hp,FuncOk cfg0 165 (List.map V.d [(.str ⟨#[114,48]⟩),(.int .u8 114),(.int .i64 1)]) [] (.ret (.d (.int .i64 0))) hp:=fact tabAOk 3000 kt30
theorem kf31:∃ hp,FuncOk cfg0 165 (List.map V.d [(.str ⟨#[114,48]⟩),(.int .u8 114),(.int .i64 2)]) [] (.ret (.d (.int .i64 0))) hp:=fact tabAOk 3000 kt31
theorem kf32:∃ hp,FuncOk cfg0 165 (List.map V.d [(.str ⟨#[114,48]⟩),(.int .u8 114),(.int .i64 3)]) [] (.ret (.d (.int .i64 0))) hp:=fact tabAOk 3000 kt32
theorem kf33:∃ hp,FuncOk cfg0 165 (List.map V.d [(.str ⟨#[114,49]⟩),(.int .u8 114),(.int .i64 2)]) [] (.ret (.d (.int .i64 1))) hp:=fact tabAOk 3000 kt33
theorem kf34:∃ hp,FuncOk cfg0 165 (List.map V.d [(.str ⟨#[114,49]⟩),(.int .u8 114),(.int .i64 3)]) [] (.ret (.d (.int .i64 1))) hp:=fact tabAOk 3000 kt34
theorem kf35:∃ hp,FuncOk cfg0 165 (List.map V.d [(.str ⟨#[114,50]⟩),(.int .u8 114),(.int .i64 3)]) [] (.ret (.d (.int .i64 2))) hp:=fact tabAOk 3000 kt35
theorem kf36:∃ hp,FuncOk cfg0 165 (List.map V.d [(.str ⟨#[105,48]⟩),(.int .u8 114),(.int .i64 0)]) [] (.ret (.d (.int .i64 (-1)))) hp:=fact tabAOk 3000 kt36
theorem kf37:∃ hp,FuncOk cfg0 165 (List.map V.d [(.str ⟨#[105,48]⟩),(.int .u8 114),(.int .i64 1)]) [] (.ret (.d (.int .i64 (-1)))) hp:=fact tabAOk 3000 kt37
theorem kf38:∃ hp,FuncOk cfg0 165 (List.map V.d [(.str ⟨#[105,48]⟩),(.int .u8 114),(.int .i64 2)]) [] (.ret (.d (.int .i64 (-1)))) hp:=fact tabAOk 3000 kt38
theorem kf39:∃ hp,FuncOk cfg0 165 (List.map V.d [(.str ⟨#[105,48]⟩),(.int .u8 114),(.int .i64 3)]) [] (.ret (.d (.int .i64 (-1)))) hp:=fact tabAOk 3000 kt39
theorem kf40:∃ hp,FuncOk cfg0 165 (List.map V.d [(.str ⟨#[105,48]⟩),(.int .u8 105),(.int .i64 1)]) [] (.ret (.d (.int .i64 0))) hp:=fact tabAOk 3000 kt40
theorem kf41:∃ hp,FuncOk cfg0 165 (List.map V.d [(.str ⟨#[105,48]⟩),(.int .u8 105),(.int .i64 2)]) [] (.ret (.d (.int .i64 0))) hp:=fact tabAOk 3000 kt41
theorem kf42:∃ hp,FuncOk cfg0 165 (List.map V.d [(.str ⟨#[105,49]⟩),(.int .u8 114),(.int .i64 0)]) [] (.ret (.d (.int .i64 (-1)))) hp:=fact tabAOk 3000 kt42
theorem kf43:∃ hp,FuncOk cfg0 165 (List.map V.d [(.str ⟨#[105,49]⟩),(.int .u8 114),(.int .i64 1)]) [] (.ret (.d (.int .i64 (-1)))) hp:=fact tabAOk 3000 kt43
theorem kf44:∃ hp,FuncOk cfg0 165 (List.map V.d [(.str ⟨#[105,49]⟩),(.int .u8 114),(.int .i64 2)]) [] (.ret (.d (.int .i64 (-1)))) hp:=fact tabAOk 3000 kt44
theorem kf45:∃ hp,FuncOk cfg0 165 (List.map V.d [(.str ⟨#[105,49]⟩),(.int .u8 114),(.int .i64 3)]) [] (.ret (.d (.int .i64 (-1)))) hp:=fact tabAOk 3000 kt45
theorem kf46:∃ hp,FuncOk cfg0 165 (List.map V.d [(.str ⟨#[105,49]⟩),(.int .u8 105),(.int .i64 2)]) [] (.ret (.d (.int .i64 1))) hp:=fact tabAOk 3000 kt46
theorem tabKOk:TabOk cfg0 tabK:=(.cons (.cons fn16 rfl .nil) (.cons (.cons kf0 rfl (.cons kf1 rfl (.cons kf2 rfl (.cons kf3 rfl (.cons kf4 rfl (.cons kf5 rfl (.cons kf6 rfl (.cons kf7 rfl (.cons kf8 rfl (.cons kf9 rfl .nil)))))))))) (.cons (.cons kf10 rfl (.cons kf11 rfl (.cons kf12 rfl .nil))) (.cons (.cons kf13 rfl (.cons kf14 rfl (.cons kf15 rfl (.cons kf16 rfl (.cons kf17 rfl (.cons kf18 rfl (.cons kf19 rfl (.cons kf20 rfl (.cons kf21 rfl .nil))))))))) (.cons (.cons kf22 rfl (.cons kf23 rfl (.cons kf24 rfl (.cons kf25 rfl (.cons kf26 rfl (.cons kf27 rfl (.cons kf28 rfl (.cons kf29 rfl .nil)))))))) (.cons (.cons kf30 rfl (.cons kf31 rfl (.cons kf32 rfl (.cons kf33 rfl (.cons kf34 rfl (.cons kf35 rfl (.cons kf36 rfl (.cons kf37 rfl (.cons kf38 rfl (.cons kf39 rfl (.cons kf40 rfl (.cons kf41 rfl (.cons kf42 rfl (.cons kf43 rfl (.cons kf44 rfl (.cons kf45 rfl (.cons kf46 rfl .nil))))))))))))))))) .nil))))))
end Mw
namespace Mw
open Go Go.Proofs
theorem kOk:K.Ok:=cfg_ok.knows
theorem kOrc:OrcOk K:=orcSOk tabKOk
theorem func_of_callL {f:Nat} {args:List V} {hp hp':List O} {r:CR} {w:Nat} (e:callL K (.fn (.func f) [] []) args none hp=some (r,false,hp',w)):FuncOk cfg0 f args hp r hp':=by
 obtain ⟨k,hk⟩:=callL_iff.1 e
 have:=(callOk kOk kOrc k).func _ _ _ _ _ _ _ _ _ hk
 simp only [List.nil_append,List.append_nil] at this
 exact (FuncOk_knows (C:=cfg0) (k:=orcS tabK)).1 this
end Mw
namespace Go.Proofs.YtdjnccgeajpegaaGreatDoor
theorem true3:True1 3:=fun v nums hv=>by
 obtain ⟨H,w,e⟩:=Mw.s3 (v:=v) (nums:=nums) hv
 exact ⟨H,Mw.func_of_callL e⟩
end Go.Proofs.YtdjnccgeajpegaaGreatDoor
