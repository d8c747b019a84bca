/- DependFirst's tied card holds; no condition beyond the card's own. -/
import Derived.Test.YtdjnccgeajpegaaGreatDoorRc
set_option linter.unusedVariables false
set_option linter.unusedSimpArgs false
namespace Go.Proofs.YtdjnccgeajpegaaGreatDoor
open Go.ChangeShapes Go.WideShapes Go.ChangeAt Go.WideMaps Go.WideElems Go.RowKit
set_option maxRecDepth 1000000
theorem aiv(hT:SL 8):Rows.DependFirstSaid:=
 OpenClaim.holds_of_wide 8 Tryz.f8 rfl rfl rfl rfl rfl rfl rfl ⟨rfl,rfl,rfl,rfl,rfl⟩ rfl rfl rfl rfl rfl (by kernel_rfl) Tryz.func8 abU
  Z7 aal (fun os started H enc _=>acf hT os started H enc)
theorem atd:Rows.dependFirstRow.wfByText (OpenSpec.ofChange Rows.dependFirstSpec)=true:=by kernel_rfl
theorem ahb:Tryz.prog.mainIs=some (true,"38f71b55d8e7687f31376e6bd7476fdf736f6ffdf7c196ecfc2e0161e23a8131".toList):=by kernel_rfl
end Go.Proofs.YtdjnccgeajpegaaGreatDoor
