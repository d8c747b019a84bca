/- DependLevels answers true for every list of numbers: its tied card holds; no condition beyond the card's own. -/
import Derived.Test.YtdjnccgeajpegaaGreatDoorRb
set_option linter.unusedVariables false
set_option linter.unusedSimpArgs false
namespace Go.Proofs.YtdjnccgeajpegaaGreatDoor
open Go.ChangeShapes Go.WideShapes Go.ChangeAt Go.WideMaps Go.WideElems Go.RowKit
set_option maxRecDepth 1000000
theorem closed3:joinedFacts Tryz.prog 3 Tryz.f3 Rows.dependLevelsSpec Rows.dependLevelsRow=true:=by
 unfold joinedFacts
 rw [fInPlace3,fUnf3,fRec3,fNamed3]
 kernel_rfl
theorem isInst3:Tryz.f3.isInstance Tryz.prog Rows.dependLevelsRow.origin Rows.dependLevelsRow.targs:=of_decide_eq_true (by kernel_rfl)
theorem isWrap3:Tryz.f3.isWrapper Tryz.prog Rows.dependLevelsRow.wrapper Rows.dependLevelsRow.mainSum:=by
 unfold Func.isWrapper; first | (rw [if_pos (by decide +kernel)]; kernel_rfl) | (rw [if_neg (by decide +kernel)]; exact ⟨rfl,rfl⟩)
end Go.Proofs.YtdjnccgeajpegaaGreatDoor
