/- DependKnown answers true, whatever the start: its tied card holds; no condition beyond the card's own. -/
import Derived.Test.YtdjnccgeajpegaaGreatDoorKp5
import Derived.Test.YtdjnccgeajpegaaGreatDoorKp6
import Derived.Test.YtdjnccgeajpegaaGreatDoorKp7
set_option linter.unusedVariables false
set_option linter.unusedSimpArgs false
namespace Go.Proofs.YtdjnccgeajpegaaGreatDoor
open Go.ChangeShapes Go.WideShapes Go.ChangeAt Go.WideMaps Go.WideElems Go.RowKit
set_option maxRecDepth 1000000
theorem fNum : Tryz.prog.funcNamed "metewand/metewandlaw19.DependKnown" = some 10 := by kernel_rfl
theorem dependKnown_card : Rows.DependKnownCardSaid :=
  Claim7.holds_tied_plain_at .later [] [.data, .data, .data, .handle, .sentinel, .sentinel] true (true, "38f71b55d8e7687f31376e6bd7476fdf736f6ffdf7c196ecfc2e0161e23a8131") true
    dependKnown_holds (fun _ h => by cases h) kWf (fun _ h => by cases h) dependKnown_row_tie rfl ⟨rfl, rfl⟩ kMain rfl
    (fun f fn hf hfn => by
      obtain rfl : f = 10 := Option.some.inj (fNum.symm.trans hf) |>.symm
      obtain rfl : fn = Tryz.f10 := (Option.some.inj (Tryz.func10.symm.trans hfn)).symm
      exact ⟨kLooks, fun j t ht => by
        rw [Tryz.params10] at ht
        simp at ht⟩)
    kGoes
end Go.Proofs.YtdjnccgeajpegaaGreatDoor
