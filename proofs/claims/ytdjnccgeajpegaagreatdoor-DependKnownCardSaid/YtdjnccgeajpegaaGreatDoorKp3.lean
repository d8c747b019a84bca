/- DependKnown answers true, whatever the start: its tied card holds; no condition beyond the card's own. -/
import Derived.Test.YtdjnccgeajpegaaGreatDoorKc2
set_option linter.unusedVariables false
set_option linter.unusedSimpArgs false
namespace Go.Proofs.YtdjnccgeajpegaaGreatDoor
open Go.ChangeShapes Go.WideShapes Go.ChangeAt Go.WideMaps Go.WideElems Go.RowKit
set_option maxRecDepth 1000000
theorem closed : joinedFacts Tryz.prog 10 Tryz.f10 Rows.dependKnownSpec Rows.dependKnownRow = true := by
  unfold joinedFacts
  rw [fInPlace, fUnf, fRec, fNamed]
  kernel_rfl
theorem isInst : Tryz.f10.isInstance Tryz.prog Rows.dependKnownRow.origin Rows.dependKnownRow.targs := of_decide_eq_true (by kernel_rfl)
theorem isWrap : Tryz.f10.isWrapper Tryz.prog Rows.dependKnownRow.wrapper Rows.dependKnownRow.mainSum := by
  unfold Func.isWrapper; first | (rw [if_pos (by decide +kernel)]; kernel_rfl) | (rw [if_neg (by decide +kernel)]; exact ⟨rfl, rfl⟩)
end Go.Proofs.YtdjnccgeajpegaaGreatDoor
