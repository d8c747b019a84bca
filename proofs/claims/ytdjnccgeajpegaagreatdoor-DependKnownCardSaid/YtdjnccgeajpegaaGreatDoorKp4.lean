/- DependKnown answers true, whatever the start: its tied card holds; no condition beyond the card's own. -/
import Derived.Test.YtdjnccgeajpegaaGreatDoorKp3
set_option linter.unusedVariables false
set_option linter.unusedSimpArgs false
namespace Go.Proofs.YtdjnccgeajpegaaGreatDoor
open Go.ChangeShapes Go.WideShapes Go.ChangeAt Go.WideMaps Go.WideElems Go.RowKit
set_option maxRecDepth 1000000
theorem dependKnown_holds : Rows.DependKnownSaid :=
  OpenClaim.holds_of_wide 10 Tryz.f10 rfl rfl rfl rfl rfl rfl rfl ⟨rfl, rfl, rfl, rfl, rfl⟩ rfl rfl rfl rfl rfl (by kernel_rfl) Tryz.func10 closed
    isInst isWrap (fun os started H enc _ => lifted os started H enc)
end Go.Proofs.YtdjnccgeajpegaaGreatDoor
