/- DependFirst's tied card holds; no condition beyond the card's own. -/
import Derived.Test.YtdjnccgeajpegaaGreatDoorRe
import Derived.Test.YtdjnccgeajpegaaGreatDoorRf
import Derived.Test.YtdjnccgeajpegaaGreatDoorLb
set_option linter.unusedVariables false
set_option linter.unusedSimpArgs false
namespace Go.Proofs.YtdjnccgeajpegaaGreatDoor
open Go.ChangeShapes Go.WideShapes Go.ChangeAt Go.WideMaps Go.WideElems Go.RowKit
set_option maxRecDepth 1000000
theorem akw:Tryz.prog.funcNamed "metewand/metewandlaw19.DependFirst"=some 8:=by kernel_rfl
theorem aaP:Tryz.prog.wantsStandIn 22=false:=by kernel_rfl
theorem dependFirst_card:Rows.DependFirstCardSaid:=
 Claim7.holds_tied_plain_at .later [] [.data,.data,.data,.handle,.sentinel,.sentinel] true (true,"38f71b55d8e7687f31376e6bd7476fdf736f6ffdf7c196ecfc2e0161e23a8131") true
  (aiv alQ) (fun _ h=>by cases h) atd (fun _ h=>by cases h) dependFirst_row_tie rfl ⟨rfl,rfl⟩ ahb rfl
  (fun f fn hf hfn=>by
   obtain rfl:f=8:=Option.some.inj (akw.symm.trans hf) |>.symm;obtain rfl:fn=Tryz.f8:=(Option.some.inj (Tryz.func8.symm.trans hfn)).symm
   exact⟨acE,fun j t ht=>by
    rw[Tryz.params8]at ht
    match j,ht with
    |0,ht=>obtain rfl:(22:Nat)=t:=Option.some.inj ht;exact aaP
    |j+1,ht=>simp at ht⟩)
  ahj
end Go.Proofs.YtdjnccgeajpegaaGreatDoor
