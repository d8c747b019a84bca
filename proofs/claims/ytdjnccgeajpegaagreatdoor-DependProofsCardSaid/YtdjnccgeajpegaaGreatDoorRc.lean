/- DependProofs answers true for every list of numbers: its tied card holds; no condition beyond the card's own. -/
import Derived.Test.YtdjnccgeajpegaaGreatDoorRb
set_option linter.unusedVariables false
set_option linter.unusedSimpArgs false
namespace Go.Proofs.YtdjnccgeajpegaaGreatDoor
open Go.ChangeShapes Go.WideShapes Go.ChangeAt Go.WideMaps Go.WideElems Go.RowKit
set_option maxRecDepth 1000000
theorem closed9:joinedFacts Tryz.prog 9 Tryz.f9 Rows.dependProofsSpec Rows.dependProofsRow=true:=by
 unfold joinedFacts
 rw [fInPlace9,fUnf9,fRec9,fNamed9]
 kernel_rfl
theorem isInst9:Tryz.f9.isInstance Tryz.prog Rows.dependProofsRow.origin Rows.dependProofsRow.targs:=of_decide_eq_true (by kernel_rfl)
theorem isWrap9:Tryz.f9.isWrapper Tryz.prog Rows.dependProofsRow.wrapper Rows.dependProofsRow.mainSum:=by
 unfold Func.isWrapper; first | (rw [if_pos (by decide +kernel)]; kernel_rfl) | (rw [if_neg (by decide +kernel)]; exact ⟨rfl,rfl⟩)
end Go.Proofs.YtdjnccgeajpegaaGreatDoor
