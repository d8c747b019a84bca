/- DependKnown answers true, whatever the start: its tied card holds; no condition beyond the card's own. -/
import Derived.Test.YtdjnccgeajpegaaGreatDoorKc1
set_option linter.unusedVariables false
set_option linter.unusedSimpArgs false
namespace Go.Proofs.YtdjnccgeajpegaaGreatDoor
open Go.ChangeShapes Go.WideShapes Go.ChangeAt Go.WideMaps Go.WideElems Go.RowKit
set_option maxRecDepth 1000000
theorem fInPlace : (Rows.dependKnownRow.inPlace == Tryz.prog.inPlace 10) = true := by
  unfold Program.inPlace; rw [clo]; kernel_rfl
theorem fUnf : (Rows.dependKnownRow.unfollowed == Tryz.prog.unfollowed 10) = true := by
  unfold Program.unfollowed; rw [clo]; kernel_rfl
theorem unf : Tryz.prog.unfollowed 10 = true := by
  have := fUnf
  rw [beq_iff_eq] at this
  rw [← this]; rfl
theorem fRec : (Rows.dependKnownRow.recurses == Tryz.prog.recurses 10) = true := by
  unfold Program.recurses; rw [unf]; rfl
theorem fNamed : (Rows.dependKnownRow.named == Tryz.prog.varsNamed 10) = true := by
  unfold Program.varsNamed; rw [clo]; kernel_rfl
end Go.Proofs.YtdjnccgeajpegaaGreatDoor
