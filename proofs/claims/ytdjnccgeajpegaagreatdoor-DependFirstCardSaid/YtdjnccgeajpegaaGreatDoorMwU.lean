/- DependFirst's tied card holds; no condition beyond the card's own. -/
import Derived.Test.YtdjnccgeajpegaaGreatDoorMwT
import Derived.Test.YtdjnccgeajpegaaGreatDoorMwP
set_option linter.unusedVariables false
set_option linter.unusedSimpArgs false
namespace Mw
open Go Go.Proofs
def aN:D:=.agg [(.list 2 [(.agg [(.str ⟨#[97]⟩),(.list 1 [(.int .i64 (4))])]),(.agg [(.str ⟨#[98]⟩),(.list 1 [(.int .i64 (4))])])]),(.list 10 [(.agg [(.list 1 [(.int .i64 (3))]),(.int .i64 (1)),(.list 2 [(.agg [(.int .i64 (1)),(.list 1 [(.int .i64 (1))])])]),(.list 2 [(.agg [(.int .i64 (0)),(.list 2 [(.agg [(.int .i64 (0)),(.list 1 [(.int .i64 (1))])])])]),(.agg [(.int .i64 (1)),(.list 2 [(.agg [(.int .i64 (0)),(.list 1 [(.int .i64 (1))])])])])]),(.int .i64 (3)),(.str ⟨#[]⟩),(.str ⟨#[]⟩),(.str ⟨#[]⟩),(.int .i64 (0)),(.list 6 [(.agg [(.int .i64 (1)),(.str ⟨#[]⟩),(.str ⟨#[]⟩),(.str ⟨#[114,48]⟩),(.int .i64 (0)),.nils]),(.agg [(.int .i64 (1)),(.str ⟨#[]⟩),(.str ⟨#[]⟩),(.str ⟨#[114,49]⟩),(.int .i64 (0)),.nils])])])])]
def task1:D:=.agg [(.list 2 [(.agg [(.str ⟨#[97]⟩),(.list 1 [(.int .i64 (8))])])]),(.list 10 [(.agg [(.list 1 [(.int .i64 (3))]),(.int .i64 (0)),(.list 2 [(.agg [(.int .i64 (0)),(.list 1 [(.int .i64 (2))])])]),(.list 2 [(.agg [(.int .i64 (0)),(.list 2 [(.agg [(.int .i64 (1)),(.list 1 [(.int .i64 (2))])])])]),(.agg [(.int .i64 (0)),(.list 2 [(.agg [(.int .i64 (5)),(.list 1 [(.int .i64 (1))])])])])]),(.int .i64 (4)),(.str ⟨#[]⟩),(.str ⟨#[]⟩),(.str ⟨#[]⟩),(.int .i64 (0)),(.list 6 [(.agg [(.int .i64 (1)),(.str ⟨#[]⟩),(.str ⟨#[]⟩),(.str ⟨#[114,48]⟩),(.int .i64 (0)),.nils]),(.agg [(.int .i64 (1)),(.str ⟨#[]⟩),(.str ⟨#[]⟩),(.str ⟨#[114,49]⟩),(.int .i64 (0)),.nils])])])])]
def aeM:List (Nat×Ans):=[]
def kW:List (Nat×Ans):=[(120,[([aN],.d (.int .i64 (0))),
  ([task1],.d (.int .i64 (0)))])]
def ak1:List (Nat×Ans):=[(120,[([aN],.d (.int .i64 (0))),
  ([task1],.d (.int .i64 (0)))]),
 (30,[([aN,(.int .i64 (0)),(.int .i64 (0)),(.int .i64 (0)),(.int .i64 (0))],.tuple [(.d (.list 1 [(.int .i64 (0))])),(.d (.list 1 [(.int .i64 (0))])),(.d (.int .i64 (0)))]),
  ([aN,(.int .i64 (0)),(.int .i64 (0)),(.int .i64 (0)),(.int .i64 (1))],.tuple [(.d .nils),(.d .nils),(.d (.int .i64 (14)))]),
  ([aN,(.int .i64 (0)),(.int .i64 (0)),(.int .i64 (0)),(.int .i64 (2))],.tuple [(.d (.list 1 [(.int .i64 (0))])),(.d (.list 1 [(.int .i64 (1))])),(.d (.int .i64 (0)))])]),
 (32,[([task1,(.int .i64 (0)),(.int .i64 (0)),(.int .i64 (0)),(.int .i64 (1))],.tuple [(.d (.int .i64 (0))),(.d (.int .i64 (2))),(.d (.int .i64 (0)))]),
  ([task1,(.int .i64 (0)),(.int .i64 (0)),(.int .i64 (0)),(.int .i64 (2))],.tuple [(.d (.int .i64 (0))),(.d (.int .i64 (0))),(.d (.int .i64 (14)))]),
  ([aN,(.int .i64 (0)),(.int .i64 (0)),(.int .i64 (0)),(.int .i64 (1))],.tuple [(.d (.int .i64 (0))),(.d (.int .i64 (0))),(.d (.int .i64 (9)))])]),
 (34,[([task1,(.int .i64 (0)),(.int .i64 (1)),(.int .i64 (0)),(.int .i64 (2))],.tuple [(.d (.int .i64 (0))),(.d (.int .i64 (0))),(.d (.int .i64 (0))),(.d (.int .i64 (14)))]),
  ([task1,(.int .i64 (0)),(.int .i64 (0)),(.int .i64 (0)),(.int .i64 (2))],.tuple [(.d (.int .i64 (0))),(.d (.int .i64 (-7))),(.d (.int .i64 (-1))),(.d (.int .i64 (0)))])]),
 (22,[([aN,(.int .i64 (0)),(.int .i64 (1))],.tuple [(.d (.list 1 [(.int .i64 (1))])),(.d (.int .i64 (0)))]),
  ([aN,(.int .i64 (0)),(.int .i64 (2))],.tuple [(.d .nils),(.d (.int .i64 (0)))]),
  ([aN,(.int .i64 (1)),(.int .i64 (0))],.tuple [(.d .nils),(.d (.int .i64 (0)))])]),
 (26,[([aN,(.int .i64 (0)),(.int .i64 (0)),(.int .i64 (1))],.tuple [(.d (.int .i64 (0))),(.d (.int .i64 (1))),(.d (.int .i64 (0)))])]),
 (44,[([aN,(.int .i64 (0)),(.int .i64 (0)),(.int .i64 (1))],.tuple [(.d (.list 1 [(.int .i64 (1))])),(.d (.int .i64 (0)))]),
  ([aN,(.int .i64 (0)),(.int .i64 (0)),(.int .i64 (3))],.tuple [(.d .nils),(.d (.int .i64 (14)))])]),
 (17,[([task1,(.int .i64 (0))],.tuple [(.d (.list 1 [(.int .i64 (0))])),(.d (.int .i64 (0)))]),
  ([aN,(.int .i64 (0))],.tuple [(.d .nils),(.d (.int .i64 (0)))])]),
 (37,[([aN,(.int .i64 (2)),(.int .i64 (2))],.tuple [(.d (.int .i64 (1))),(.d (.int .i64 (0)))]),
  ([aN,(.int .i64 (2)),(.int .i64 (1))],.tuple [(.d (.int .i64 (0))),(.d (.int .i64 (14)))])]),
 (14,[([aN],.tuple [(.d (.list 1 [(.int .i64 (0)),(.int .i64 (1)),(.int .i64 (2))])),(.d (.int .i64 (0)))]),
  ([task1],.tuple [(.d (.list 1 [(.int .i64 (0)),(.int .i64 (0)),(.int .i64 (0))])),(.d (.int .i64 (0)))])]),
 (24,[([aN,(.int .i64 (0)),(.int .i64 (0)),(.int .i64 (1))],.tuple [(.d (.int .i64 (2))),(.d (.int .i64 (0)))]),
  ([aN,(.int .i64 (0)),(.int .i64 (0)),(.int .i64 (2))],.tuple [(.d (.int .i64 (0))),(.d (.int .i64 (0)))])]),
 (42,[([aN,(.int .i64 (0)),(.int .i64 (0)),(.int .i64 (1))],.tuple [(.d (.list 1 [(.list 1 [(.int .i64 (1))])])),(.d (.int .i64 (0)))])]),
 (40,[([aN,(.int .i64 (1))],.tuple [(.d (.list 1 [(.int .i64 (0)),(.int .i64 (1)),(.int .i64 (2))])),(.d (.int .i64 (0)))]),
  ([aN,(.int .i64 (0))],.tuple [(.d .nils),(.d (.int .i64 (0)))])])]
def aC8:List (Nat×Ans):=[(120,[([aN],.d (.int .i64 (0))),
  ([task1],.d (.int .i64 (0)))]),
 (30,[([aN,(.int .i64 (0)),(.int .i64 (0)),(.int .i64 (0)),(.int .i64 (0))],.tuple [(.d (.list 1 [(.int .i64 (0))])),(.d (.list 1 [(.int .i64 (0))])),(.d (.int .i64 (0)))]),
  ([aN,(.int .i64 (0)),(.int .i64 (0)),(.int .i64 (0)),(.int .i64 (1))],.tuple [(.d .nils),(.d .nils),(.d (.int .i64 (14)))]),
  ([aN,(.int .i64 (0)),(.int .i64 (0)),(.int .i64 (0)),(.int .i64 (2))],.tuple [(.d (.list 1 [(.int .i64 (0))])),(.d (.list 1 [(.int .i64 (1))])),(.d (.int .i64 (0)))])]),
 (32,[([task1,(.int .i64 (0)),(.int .i64 (0)),(.int .i64 (0)),(.int .i64 (1))],.tuple [(.d (.int .i64 (0))),(.d (.int .i64 (2))),(.d (.int .i64 (0)))]),
  ([task1,(.int .i64 (0)),(.int .i64 (0)),(.int .i64 (0)),(.int .i64 (2))],.tuple [(.d (.int .i64 (0))),(.d (.int .i64 (0))),(.d (.int .i64 (14)))]),
  ([aN,(.int .i64 (0)),(.int .i64 (0)),(.int .i64 (0)),(.int .i64 (1))],.tuple [(.d (.int .i64 (0))),(.d (.int .i64 (0))),(.d (.int .i64 (9)))])]),
 (34,[([task1,(.int .i64 (0)),(.int .i64 (1)),(.int .i64 (0)),(.int .i64 (2))],.tuple [(.d (.int .i64 (0))),(.d (.int .i64 (0))),(.d (.int .i64 (0))),(.d (.int .i64 (14)))]),
  ([task1,(.int .i64 (0)),(.int .i64 (0)),(.int .i64 (0)),(.int .i64 (2))],.tuple [(.d (.int .i64 (0))),(.d (.int .i64 (-7))),(.d (.int .i64 (-1))),(.d (.int .i64 (0)))])]),
 (22,[([aN,(.int .i64 (0)),(.int .i64 (1))],.tuple [(.d (.list 1 [(.int .i64 (1))])),(.d (.int .i64 (0)))]),
  ([aN,(.int .i64 (0)),(.int .i64 (2))],.tuple [(.d .nils),(.d (.int .i64 (0)))]),
  ([aN,(.int .i64 (1)),(.int .i64 (0))],.tuple [(.d .nils),(.d (.int .i64 (0)))])]),
 (26,[([aN,(.int .i64 (0)),(.int .i64 (0)),(.int .i64 (1))],.tuple [(.d (.int .i64 (0))),(.d (.int .i64 (1))),(.d (.int .i64 (0)))])]),
 (44,[([aN,(.int .i64 (0)),(.int .i64 (0)),(.int .i64 (1))],.tuple [(.d (.list 1 [(.int .i64 (1))])),(.d (.int .i64 (0)))]),
  ([aN,(.int .i64 (0)),(.int .i64 (0)),(.int .i64 (3))],.tuple [(.d .nils),(.d (.int .i64 (14)))])]),
 (17,[([task1,(.int .i64 (0))],.tuple [(.d (.list 1 [(.int .i64 (0))])),(.d (.int .i64 (0)))]),
  ([aN,(.int .i64 (0))],.tuple [(.d .nils),(.d (.int .i64 (0)))])]),
 (37,[([aN,(.int .i64 (2)),(.int .i64 (2))],.tuple [(.d (.int .i64 (1))),(.d (.int .i64 (0)))]),
  ([aN,(.int .i64 (2)),(.int .i64 (1))],.tuple [(.d (.int .i64 (0))),(.d (.int .i64 (14)))])]),
 (14,[([aN],.tuple [(.d (.list 1 [(.int .i64 (0)),(.int .i64 (1)),(.int .i64 (2))])),(.d (.int .i64 (0)))]),
  ([task1],.tuple [(.d (.list 1 [(.int .i64 (0)),(.int .i64 (0)),(.int .i64 (0))])),(.d (.int .i64 (0)))])]),
 (24,[([aN,(.int .i64 (0)),(.int .i64 (0)),(.int .i64 (1))],.tuple [(.d (.int .i64 (2))),(.d (.int .i64 (0)))]),
  ([aN,(.int .i64 (0)),(.int .i64 (0)),(.int .i64 (2))],.tuple [(.d (.int .i64 (0))),(.d (.int .i64 (0)))])]),
 (42,[([aN,(.int .i64 (0)),(.int .i64 (0)),(.int .i64 (1))],.tuple [(.d (.list 1 [(.list 1 [(.int .i64 (1))])])),(.d (.int .i64 (0)))])]),
 (40,[([aN,(.int .i64 (1))],.tuple [(.d (.list 1 [(.int .i64 (0)),(.int .i64 (1)),(.int .i64 (2))])),(.d (.int .i64 (0)))]),
  ([aN,(.int .i64 (0))],.tuple [(.d .nils),(.d (.int .i64 (0)))])]),
 (18,[([],.d (.bool true))])]
theorem fact{tab:List (Nat×Ans)}(hT:mO aG tab)(k:Nat){g:Nat}{ds:List D}{v:V}(h:aT v (aK (aG.knows (aS tab)) k (.fn (.func g) [] []) (ds.map V.d) none [])=true):∃hp,aC aG g (ds.map V.d) [] (.ret v) hp:=by obtain⟨rcd,hp,wl,hr⟩:=IE h;rw[wW]at hr;have:=(CB nY.knows (am7 nY Tryz.lIns rfl hT) k).func _ _ _ _ _ _ _ _ _ hr;rw[fK]at this;exact⟨hp,by simpa using this⟩
end Mw
