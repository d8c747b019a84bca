/- DependLevels answers true for every list of numbers: its tied card holds; no condition beyond the card's own. -/
import Derived.Test.YtdjnccgeajpegaaGreatDoorMwT
import Derived.Test.YtdjnccgeajpegaaGreatDoorMwP
set_option linter.unusedVariables false
set_option linter.unusedSimpArgs false
namespace Mw
open Go Go.Proofs
def task0:D:=.agg [(.list 2 [(.agg [(.str ⟨#[97]⟩),(.list 1 [(.int .i64 (4))])]),(.agg [(.str ⟨#[98]⟩),(.list 1 [(.int .i64 (4))])])]),(.list 10 [(.agg [(.list 1 [(.int .i64 (3))]),(.int .i64 (1)),(.list 2 [(.agg [(.int .i64 (1)),(.list 1 [(.int .i64 (1))])])]),(.list 2 [(.agg [(.int .i64 (0)),(.list 2 [(.agg [(.int .i64 (0)),(.list 1 [(.int .i64 (1))])])])]),(.agg [(.int .i64 (1)),(.list 2 [(.agg [(.int .i64 (0)),(.list 1 [(.int .i64 (1))])])])])]),(.int .i64 (3)),(.str ⟨#[]⟩),(.str ⟨#[]⟩),(.str ⟨#[]⟩),(.int .i64 (0)),(.list 6 [(.agg [(.int .i64 (1)),(.str ⟨#[]⟩),(.str ⟨#[]⟩),(.str ⟨#[114,48]⟩),(.int .i64 (0)),.nils]),(.agg [(.int .i64 (1)),(.str ⟨#[]⟩),(.str ⟨#[]⟩),(.str ⟨#[114,49]⟩),(.int .i64 (0)),.nils])])])])]
def task1:D:=.agg [(.list 2 [(.agg [(.str ⟨#[97]⟩),(.list 1 [(.int .i64 (8))])])]),(.list 10 [(.agg [(.list 1 [(.int .i64 (3))]),(.int .i64 (0)),(.list 2 [(.agg [(.int .i64 (0)),(.list 1 [(.int .i64 (2))])])]),(.list 2 [(.agg [(.int .i64 (0)),(.list 2 [(.agg [(.int .i64 (1)),(.list 1 [(.int .i64 (2))])])])]),(.agg [(.int .i64 (0)),(.list 2 [(.agg [(.int .i64 (5)),(.list 1 [(.int .i64 (1))])])])])]),(.int .i64 (4)),(.str ⟨#[]⟩),(.str ⟨#[]⟩),(.str ⟨#[]⟩),(.int .i64 (0)),(.list 6 [(.agg [(.int .i64 (1)),(.str ⟨#[]⟩),(.str ⟨#[]⟩),(.str ⟨#[114,48]⟩),(.int .i64 (0)),.nils]),(.agg [(.int .i64 (1)),(.str ⟨#[]⟩),(.str ⟨#[]⟩),(.str ⟨#[114,49]⟩),(.int .i64 (0)),.nils])])])])]
def tab0:List (Nat × Ans):=[]
def tab1:List (Nat × Ans):=[(120,[([task0],.d (.int .i64 (0))),
  ([task1],.d (.int .i64 (0)))])]
def tab2:List (Nat × Ans):=[(120,[([task0],.d (.int .i64 (0))),
  ([task1],.d (.int .i64 (0)))]),
 (30,[([task0,(.int .i64 (0)),(.int .i64 (0)),(.int .i64 (0)),(.int .i64 (0))],.tuple [(.d (.list 1 [(.int .i64 (0))])),(.d (.list 1 [(.int .i64 (0))])),(.d (.int .i64 (0)))]),
  ([task0,(.int .i64 (0)),(.int .i64 (0)),(.int .i64 (0)),(.int .i64 (1))],.tuple [(.d .nils),(.d .nils),(.d (.int .i64 (14)))]),
  ([task0,(.int .i64 (0)),(.int .i64 (0)),(.int .i64 (0)),(.int .i64 (2))],.tuple [(.d (.list 1 [(.int .i64 (0))])),(.d (.list 1 [(.int .i64 (1))])),(.d (.int .i64 (0)))])]),
 (32,[([task1,(.int .i64 (0)),(.int .i64 (0)),(.int .i64 (0)),(.int .i64 (1))],.tuple [(.d (.int .i64 (0))),(.d (.int .i64 (2))),(.d (.int .i64 (0)))]),
  ([task1,(.int .i64 (0)),(.int .i64 (0)),(.int .i64 (0)),(.int .i64 (2))],.tuple [(.d (.int .i64 (0))),(.d (.int .i64 (0))),(.d (.int .i64 (14)))]),
  ([task0,(.int .i64 (0)),(.int .i64 (0)),(.int .i64 (0)),(.int .i64 (1))],.tuple [(.d (.int .i64 (0))),(.d (.int .i64 (0))),(.d (.int .i64 (9)))])]),
 (34,[([task1,(.int .i64 (0)),(.int .i64 (1)),(.int .i64 (0)),(.int .i64 (2))],.tuple [(.d (.int .i64 (0))),(.d (.int .i64 (0))),(.d (.int .i64 (0))),(.d (.int .i64 (14)))]),
  ([task1,(.int .i64 (0)),(.int .i64 (0)),(.int .i64 (0)),(.int .i64 (2))],.tuple [(.d (.int .i64 (0))),(.d (.int .i64 (-7))),(.d (.int .i64 (-1))),(.d (.int .i64 (0)))])]),
 (22,[([task0,(.int .i64 (0)),(.int .i64 (1))],.tuple [(.d (.list 1 [(.int .i64 (1))])),(.d (.int .i64 (0)))]),
  ([task0,(.int .i64 (0)),(.int .i64 (2))],.tuple [(.d .nils),(.d (.int .i64 (0)))]),
  ([task0,(.int .i64 (1)),(.int .i64 (0))],.tuple [(.d .nils),(.d (.int .i64 (0)))])]),
 (26,[([task0,(.int .i64 (0)),(.int .i64 (0)),(.int .i64 (1))],.tuple [(.d (.int .i64 (0))),(.d (.int .i64 (1))),(.d (.int .i64 (0)))])]),
 (44,[([task0,(.int .i64 (0)),(.int .i64 (0)),(.int .i64 (1))],.tuple [(.d (.list 1 [(.int .i64 (1))])),(.d (.int .i64 (0)))]),
  ([task0,(.int .i64 (0)),(.int .i64 (0)),(.int .i64 (3))],.tuple [(.d .nils),(.d (.int .i64 (14)))])]),
 (17,[([task1,(.int .i64 (0))],.tuple [(.d (.list 1 [(.int .i64 (0))])),(.d (.int .i64 (0)))]),
  ([task0,(.int .i64 (0))],.tuple [(.d .nils),(.d (.int .i64 (0)))])]),
 (37,[([task0,(.int .i64 (2)),(.int .i64 (2))],.tuple [(.d (.int .i64 (1))),(.d (.int .i64 (0)))]),
  ([task0,(.int .i64 (2)),(.int .i64 (1))],.tuple [(.d (.int .i64 (0))),(.d (.int .i64 (14)))])]),
 (14,[([task0],.tuple [(.d (.list 1 [(.int .i64 (0)),(.int .i64 (1)),(.int .i64 (2))])),(.d (.int .i64 (0)))]),
  ([task1],.tuple [(.d (.list 1 [(.int .i64 (0)),(.int .i64 (0)),(.int .i64 (0))])),(.d (.int .i64 (0)))])]),
 (24,[([task0,(.int .i64 (0)),(.int .i64 (0)),(.int .i64 (1))],.tuple [(.d (.int .i64 (2))),(.d (.int .i64 (0)))]),
  ([task0,(.int .i64 (0)),(.int .i64 (0)),(.int .i64 (2))],.tuple [(.d (.int .i64 (0))),(.d (.int .i64 (0)))])]),
 (42,[([task0,(.int .i64 (0)),(.int .i64 (0)),(.int .i64 (1))],.tuple [(.d (.list 1 [(.list 1 [(.int .i64 (1))])])),(.d (.int .i64 (0)))])]),
 (40,[([task0,(.int .i64 (1))],.tuple [(.d (.list 1 [(.int .i64 (0)),(.int .i64 (1)),(.int .i64 (2))])),(.d (.int .i64 (0)))]),
  ([task0,(.int .i64 (0))],.tuple [(.d .nils),(.d (.int .i64 (0)))])])]
def tab3:List (Nat × Ans):=[(120,[([task0],.d (.int .i64 (0))),
  ([task1],.d (.int .i64 (0)))]),
 (30,[([task0,(.int .i64 (0)),(.int .i64 (0)),(.int .i64 (0)),(.int .i64 (0))],.tuple [(.d (.list 1 [(.int .i64 (0))])),(.d (.list 1 [(.int .i64 (0))])),(.d (.int .i64 (0)))]),
  ([task0,(.int .i64 (0)),(.int .i64 (0)),(.int .i64 (0)),(.int .i64 (1))],.tuple [(.d .nils),(.d .nils),(.d (.int .i64 (14)))]),
  ([task0,(.int .i64 (0)),(.int .i64 (0)),(.int .i64 (0)),(.int .i64 (2))],.tuple [(.d (.list 1 [(.int .i64 (0))])),(.d (.list 1 [(.int .i64 (1))])),(.d (.int .i64 (0)))])]),
 (32,[([task1,(.int .i64 (0)),(.int .i64 (0)),(.int .i64 (0)),(.int .i64 (1))],.tuple [(.d (.int .i64 (0))),(.d (.int .i64 (2))),(.d (.int .i64 (0)))]),
  ([task1,(.int .i64 (0)),(.int .i64 (0)),(.int .i64 (0)),(.int .i64 (2))],.tuple [(.d (.int .i64 (0))),(.d (.int .i64 (0))),(.d (.int .i64 (14)))]),
  ([task0,(.int .i64 (0)),(.int .i64 (0)),(.int .i64 (0)),(.int .i64 (1))],.tuple [(.d (.int .i64 (0))),(.d (.int .i64 (0))),(.d (.int .i64 (9)))])]),
 (34,[([task1,(.int .i64 (0)),(.int .i64 (1)),(.int .i64 (0)),(.int .i64 (2))],.tuple [(.d (.int .i64 (0))),(.d (.int .i64 (0))),(.d (.int .i64 (0))),(.d (.int .i64 (14)))]),
  ([task1,(.int .i64 (0)),(.int .i64 (0)),(.int .i64 (0)),(.int .i64 (2))],.tuple [(.d (.int .i64 (0))),(.d (.int .i64 (-7))),(.d (.int .i64 (-1))),(.d (.int .i64 (0)))])]),
 (22,[([task0,(.int .i64 (0)),(.int .i64 (1))],.tuple [(.d (.list 1 [(.int .i64 (1))])),(.d (.int .i64 (0)))]),
  ([task0,(.int .i64 (0)),(.int .i64 (2))],.tuple [(.d .nils),(.d (.int .i64 (0)))]),
  ([task0,(.int .i64 (1)),(.int .i64 (0))],.tuple [(.d .nils),(.d (.int .i64 (0)))])]),
 (26,[([task0,(.int .i64 (0)),(.int .i64 (0)),(.int .i64 (1))],.tuple [(.d (.int .i64 (0))),(.d (.int .i64 (1))),(.d (.int .i64 (0)))])]),
 (44,[([task0,(.int .i64 (0)),(.int .i64 (0)),(.int .i64 (1))],.tuple [(.d (.list 1 [(.int .i64 (1))])),(.d (.int .i64 (0)))]),
  ([task0,(.int .i64 (0)),(.int .i64 (0)),(.int .i64 (3))],.tuple [(.d .nils),(.d (.int .i64 (14)))])]),
 (17,[([task1,(.int .i64 (0))],.tuple [(.d (.list 1 [(.int .i64 (0))])),(.d (.int .i64 (0)))]),
  ([task0,(.int .i64 (0))],.tuple [(.d .nils),(.d (.int .i64 (0)))])]),
 (37,[([task0,(.int .i64 (2)),(.int .i64 (2))],.tuple [(.d (.int .i64 (1))),(.d (.int .i64 (0)))]),
  ([task0,(.int .i64 (2)),(.int .i64 (1))],.tuple [(.d (.int .i64 (0))),(.d (.int .i64 (14)))])]),
 (14,[([task0],.tuple [(.d (.list 1 [(.int .i64 (0)),(.int .i64 (1)),(.int .i64 (2))])),(.d (.int .i64 (0)))]),
  ([task1],.tuple [(.d (.list 1 [(.int .i64 (0)),(.int .i64 (0)),(.int .i64 (0))])),(.d (.int .i64 (0)))])]),
 (24,[([task0,(.int .i64 (0)),(.int .i64 (0)),(.int .i64 (1))],.tuple [(.d (.int .i64 (2))),(.d (.int .i64 (0)))]),
  ([task0,(.int .i64 (0)),(.int .i64 (0)),(.int .i64 (2))],.tuple [(.d (.int .i64 (0))),(.d (.int .i64 (0)))])]),
 (42,[([task0,(.int .i64 (0)),(.int .i64 (0)),(.int .i64 (1))],.tuple [(.d (.list 1 [(.list 1 [(.int .i64 (1))])])),(.d (.int .i64 (0)))])]),
 (40,[([task0,(.int .i64 (1))],.tuple [(.d (.list 1 [(.int .i64 (0)),(.int .i64 (1)),(.int .i64 (2))])),(.d (.int .i64 (0)))]),
  ([task0,(.int .i64 (0))],.tuple [(.d .nils),(.d (.int .i64 (0)))])]),
 (18,[([],.d (.bool true))])]
theorem fact {tab:List (Nat × Ans)} (hT:TabOk cfg0 tab) (k:Nat) {g:Nat} {ds:List D} {v:V} (h:retIs v (callE (cfg0.knows (orcOf tab)) k (.fn (.func g) [] []) (ds.map V.d) none [])=true):∃ hp,FuncOk cfg0 g (ds.map V.d) [] (.ret v) hp:=by
 obtain ⟨rcd,hp,wl,hr⟩:=retIs_sound h
 rw [callE_eq] at hr
 have:=(callOk cfg_ok.knows (orcOk cfg_ok Tryz.lIns rfl hT) k).func _ _ _ _ _ _ _ _ _ hr
 rw [FuncOk_knows] at this
 exact ⟨hp,by simpa using this⟩
end Mw
