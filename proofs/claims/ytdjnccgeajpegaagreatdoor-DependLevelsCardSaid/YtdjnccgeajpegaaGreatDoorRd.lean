/- DependLevels answers true for every list of numbers: its tied card holds; no condition beyond the card's own. -/
import Derived.Test.YtdjnccgeajpegaaGreatDoorRc
set_option linter.unusedVariables false
set_option linter.unusedSimpArgs false
namespace Go.Proofs.YtdjnccgeajpegaaGreatDoor
open Go.ChangeShapes Go.WideShapes Go.ChangeAt Go.WideMaps Go.WideElems Go.RowKit
set_option maxRecDepth 1000000
theorem holds3 (hT:True1 3):Rows.DependLevelsSaid :=
 OpenClaim.holds_of_wide 3 Tryz.f3 rfl rfl rfl rfl rfl rfl rfl ⟨rfl,rfl,rfl,rfl,rfl⟩ rfl rfl rfl rfl rfl (by kernel_rfl) Tryz.func3 closed3
  isInst3 isWrap3 (fun os started H enc _=>lifted3 hT os started H enc)
theorem kWf3:Rows.dependLevelsRow.wfByText (OpenSpec.ofChange Rows.dependLevelsSpec)=true:=by kernel_rfl
theorem kMain3:Tryz.prog.mainIs=some (true,"38f71b55d8e7687f31376e6bd7476fdf736f6ffdf7c196ecfc2e0161e23a8131".toList):=by kernel_rfl
end Go.Proofs.YtdjnccgeajpegaaGreatDoor
