/- DependProofs answers true for every list of numbers: its tied card holds; no condition beyond the card's own. -/
import Derived.Test.YtdjnccgeajpegaaGreatDoorRa
set_option linter.unusedVariables false
set_option linter.unusedSimpArgs false
namespace Go.Proofs.YtdjnccgeajpegaaGreatDoor
open Go.ChangeShapes Go.WideShapes Go.ChangeAt Go.WideMaps Go.WideElems Go.RowKit
set_option maxRecDepth 1000000
theorem clo9:Tryz.prog.closure 9=[9,12,13,62,21,20,73,63,58,128,186,129,130,146,131,188,189,216,187,114,113,30,80,64,120,170,171,203,204,235,260,261,262,263,287,288,289,205,236,237,264,265,266,290,291,292,306,323,324,325,344,345,365,346,343,308,326,327,347,328,348,366,376,379,380,349,367,377,368,369,202,234,259,283,284,227,302,303,285,286,304,305,321,322,378,370,329,307,309,330,350,331,332,334,354,154,198,355,374,351,352,371,372,373,311,310,333,353,267,268,293,294,269,172,206,207,109,169,174,175,208,238,240,241,108,81,117,163,164,201,233,270,242,239,210,209,211,165,244,243,173,176,110,132,190,191,133,93,68,97,32,84,150,85,86,151,34,89,53,18,55,111,159,158,160,200,229,252,278,179,181,299,180,124,276,300,230,253,254,279,255,257,281,301,320,342,363,375,273,295,312,335,315,313,356,314,336,357,246,319,338,358,341,360,361,340,337,362,339,359,296,364,282,280,271,256,231,232,258,56,112,22,74,75,139,65,134,145,196,192,142,144,143,195,26,76,69,138,140,194,226,193,217,223,218,247,219,248,249,220,250,251,277,221,222,224,225,141,44,71,104,17,70,72,37,94,14,28,48,54,107,157,106,51,61,83,127,95,15,66,135,67,136,137]:=by kernel_rfl
end Go.Proofs.YtdjnccgeajpegaaGreatDoor
namespace Go.Proofs.YtdjnccgeajpegaaGreatDoor
open Go.ChangeShapes Go.WideShapes Go.ChangeAt Go.WideMaps Go.WideElems Go.RowKit
set_option maxRecDepth 1000000
theorem fInPlace9:(Rows.dependProofsRow.inPlace == Tryz.prog.inPlace 9)=true:=by
 unfold Program.inPlace; rw [clo9]; kernel_rfl
theorem fUnf9:(Rows.dependProofsRow.unfollowed == Tryz.prog.unfollowed 9)=true:=by
 unfold Program.unfollowed; rw [clo9]; kernel_rfl
theorem unf9:Tryz.prog.unfollowed 9=true:=by
 have:=fUnf9
 rw [beq_iff_eq] at this
 rw [← this]; rfl
theorem fRec9:(Rows.dependProofsRow.recurses == Tryz.prog.recurses 9)=true:=by
 unfold Program.recurses; rw [unf9]; rfl
theorem fNamed9:(Rows.dependProofsRow.named == Tryz.prog.varsNamed 9)=true:=by
 unfold Program.varsNamed; rw [clo9]; kernel_rfl
end Go.Proofs.YtdjnccgeajpegaaGreatDoor
