/- DependProofs answers true for every list of numbers: its tied card holds; no condition beyond the card's own. -/
import Derived.Test.YtdjnccgeajpegaaGreatDoorRc
set_option linter.unusedVariables false
set_option linter.unusedSimpArgs false
namespace Go.Proofs.YtdjnccgeajpegaaGreatDoor
open Go.ChangeShapes Go.WideShapes Go.ChangeAt Go.WideMaps Go.WideElems Go.RowKit
set_option maxRecDepth 1000000
theorem holds9 (hT:True1 9):Rows.DependProofsSaid :=
 OpenClaim.holds_of_wide 9 Tryz.f9 rfl rfl rfl rfl rfl rfl rfl ⟨rfl,rfl,rfl,rfl,rfl⟩ rfl rfl rfl rfl rfl (by kernel_rfl) Tryz.func9 closed9
  isInst9 isWrap9 (fun os started H enc _=>lifted9 hT os started H enc)
theorem kWf9:Rows.dependProofsRow.wfByText (OpenSpec.ofChange Rows.dependProofsSpec)=true:=by kernel_rfl
theorem kMain9:Tryz.prog.mainIs=some (true,"38f71b55d8e7687f31376e6bd7476fdf736f6ffdf7c196ecfc2e0161e23a8131".toList):=by kernel_rfl
end Go.Proofs.YtdjnccgeajpegaaGreatDoor
