/- DependFirst's tied card holds; no condition beyond the card's own. -/
import Derived.Test.YtdjnccgeajpegaaGreatDoorRa
set_option linter.unusedVariables false
set_option linter.unusedSimpArgs false
namespace Go.Proofs.YtdjnccgeajpegaaGreatDoor
open Go.ChangeShapes Go.WideShapes Go.ChangeAt Go.WideMaps Go.WideElems Go.RowKit
set_option maxRecDepth 1000000
theorem ahG:Tryz.prog.closure 8=[8,12,13,62,21,20,73,63,58,128,186,129,130,146,131,188,189,216,187,114,113,24,76,64,120,170,171,203,204,235,260,261,262,263,287,288,289,205,236,237,264,265,266,290,291,292,306,323,324,325,344,345,365,346,343,308,326,327,347,328,348,366,376,379,380,349,367,377,368,369,202,234,259,283,284,227,302,303,285,286,304,305,321,322,378,370,329,307,309,330,350,331,332,334,354,154,198,355,374,351,352,371,372,373,311,310,333,353,267,268,293,294,269,172,206,207,109,169,174,175,208,238,240,241,108,81,117,163,164,201,233,270,242,239,210,209,211,165,244,243,173,176,110,132,190,191,133,68,97,69,138,139,65,134,145,196,192,140,194,226,193,217,223,218,247,219,248,249,220,250,251,277,221,222,224,225,141,142,26,42,71,98,99,100,101,155,156,199,228,44,104,48,49,50,47,28,51,61,83,127,95,15,66,135,53,67,136,137,52,18,55,111,159,158,160,200,229,252,278,179,181,299,180,124,276,300,230,253,254,279,255,257,281,301,320,342,363,375,273,295,312,335,315,313,356,314,336,357,246,319,338,358,341,360,361,340,337,362,339,359,296,364,282,280,271,256,231,232,258,56,112,30,80,93,34,84,150,85,89,22,74,75,144,143,195,17,70,72,37,94,14]:=by kernel_rfl
end Go.Proofs.YtdjnccgeajpegaaGreatDoor
namespace Go.Proofs.YtdjnccgeajpegaaGreatDoor
open Go.ChangeShapes Go.WideShapes Go.ChangeAt Go.WideMaps Go.WideElems Go.RowKit
set_option maxRecDepth 1000000
theorem TD:(Rows.dependFirstRow.inPlace==Tryz.prog.inPlace 8)=true:=by unfold Program.inPlace;rw[ahG];kernel_rfl
theorem adV:(Rows.dependFirstRow.unfollowed==Tryz.prog.unfollowed 8)=true:=by unfold Program.unfollowed;rw[ahG];kernel_rfl
theorem asW:Tryz.prog.unfollowed 8=true:=by have:=adV;rw[beq_iff_eq]at this;rw[←this];rfl
theorem akk:(Rows.dependFirstRow.recurses==Tryz.prog.recurses 8)=true:=by unfold Program.recurses;rw[asW];rfl
theorem abH:(Rows.dependFirstRow.named==Tryz.prog.varsNamed 8)=true:=by unfold Program.varsNamed;rw[ahG];kernel_rfl
end Go.Proofs.YtdjnccgeajpegaaGreatDoor
