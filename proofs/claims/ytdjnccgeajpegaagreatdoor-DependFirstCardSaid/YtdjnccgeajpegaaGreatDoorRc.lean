/- DependFirst's tied card holds; no condition beyond the card's own. -/
import Derived.Test.YtdjnccgeajpegaaGreatDoorRb
set_option linter.unusedVariables false
set_option linter.unusedSimpArgs false
namespace Go.Proofs.YtdjnccgeajpegaaGreatDoor
open Go.ChangeShapes Go.WideShapes Go.ChangeAt Go.WideMaps Go.WideElems Go.RowKit
set_option maxRecDepth 1000000
theorem abU:joinedFacts Tryz.prog 8 Tryz.f8 Rows.dependFirstSpec Rows.dependFirstRow=true:=by unfold joinedFacts;rw[TD,adV,akk,abH];kernel_rfl
theorem Z7:Tryz.f8.isInstance Tryz.prog Rows.dependFirstRow.origin Rows.dependFirstRow.targs:=of_decide_eq_true (by kernel_rfl)
theorem aal:Tryz.f8.isWrapper Tryz.prog Rows.dependFirstRow.wrapper Rows.dependFirstRow.mainSum:=by unfold Func.isWrapper;first|(rw[if_pos (by decide +kernel)];kernel_rfl)|(rw[if_neg (by decide +kernel)];exact⟨rfl,rfl⟩)
end Go.Proofs.YtdjnccgeajpegaaGreatDoor
