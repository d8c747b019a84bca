/- DependLevels answers true for every list of numbers: its tied card holds; no condition beyond the card's own. -/
import Derived.Test.YtdjnccgeajpegaaGreatDoorRe
import Derived.Test.YtdjnccgeajpegaaGreatDoorRf
import Derived.Test.YtdjnccgeajpegaaGreatDoorLb
set_option linter.unusedVariables false
set_option linter.unusedSimpArgs false
namespace Go.Proofs.YtdjnccgeajpegaaGreatDoor
open Go.ChangeShapes Go.WideShapes Go.ChangeAt Go.WideMaps Go.WideElems Go.RowKit
set_option maxRecDepth 1000000
theorem fNum3:Tryz.prog.funcNamed "metewand/metewandlaw19.DependLevels"=some 3:=by kernel_rfl
theorem kStand3:Tryz.prog.wantsStandIn 22=false:=by kernel_rfl
theorem dependLevels_card:Rows.DependLevelsCardSaid :=
 Claim7.holds_tied_plain_at .later [] [.data,.data,.data,.handle,.sentinel,.sentinel] true (true,"38f71b55d8e7687f31376e6bd7476fdf736f6ffdf7c196ecfc2e0161e23a8131") true
  (holds3 true3) (fun _ h=>by cases h) kWf3 (fun _ h=>by cases h) dependLevels_row_tie rfl ⟨rfl,rfl⟩ kMain3 rfl
  (fun f fn hf hfn=>by
   obtain rfl:f=3:=Option.some.inj (fNum3.symm.trans hf) |>.symm
   obtain rfl:fn=Tryz.f3:=(Option.some.inj (Tryz.func3.symm.trans hfn)).symm
   exact ⟨kLooks3,fun j t ht=>by
    rw [Tryz.params3] at ht
    match j,ht with
    | 0,ht =>
     obtain rfl:(22:Nat)=t:=Option.some.inj ht
     exact kStand3
    | j+1,ht=>simp at ht⟩)
  kGoes3
end Go.Proofs.YtdjnccgeajpegaaGreatDoor
