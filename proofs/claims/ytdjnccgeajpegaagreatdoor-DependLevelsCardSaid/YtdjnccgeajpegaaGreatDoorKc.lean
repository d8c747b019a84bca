/- DependLevels answers true for every list of numbers: its tied card holds; no condition beyond the card's own. -/
import Derived.Test.YtdjnccgeajpegaaGreatDoorKb
set_option linter.unusedVariables false
set_option linter.unusedSimpArgs false
namespace Mw
open Go Go.Proofs
set_option maxRecDepth 100000
@[simp] theorem kc18_0 (hp:List O):callL K (.fn (.func 18) [] []) [] none hp=some (.ret (.d (.bool true)),false,hp,0):=callL_orc (h:=(K.orc 18).get (by kernel_rfl)) (by kernel_rfl) _ _ _ hp (by kernel_rfl)
@[simp] theorem kc188_1 (hp:List O):callL K (.fn (.func 188) [] []) [.d (.int .i64 0),.d (.int .i64 1)] none hp=some (.ret (.d (.agg [(.str ⟨#[48]⟩),(.str ⟨#[49]⟩)])),false,hp,0):=callL_orc (h:=(K.orc 188).get (by kernel_rfl)) (by kernel_rfl) _ _ _ hp (by kernel_rfl)
@[simp] theorem kc188_2 (hp:List O):callL K (.fn (.func 188) [] []) [.d (.int .i64 1),.d (.int .i64 1)] none hp=some (.ret (.d (.agg [(.str ⟨#[49]⟩),(.str ⟨#[49]⟩)])),false,hp,0):=callL_orc (h:=(K.orc 188).get (by kernel_rfl)) (by kernel_rfl) _ _ _ hp (by kernel_rfl)
@[simp] theorem kc188_3 (hp:List O):callL K (.fn (.func 188) [] []) [.d (.int .i64 2),.d (.int .i64 1)] none hp=some (.ret (.d (.agg [(.str ⟨#[50]⟩),(.str ⟨#[49]⟩)])),false,hp,0):=callL_orc (h:=(K.orc 188).get (by kernel_rfl)) (by kernel_rfl) _ _ _ hp (by kernel_rfl)
@[simp] theorem kc188_4 (hp:List O):callL K (.fn (.func 188) [] []) [.d (.int .i64 3),.d (.int .i64 1)] none hp=some (.ret (.d (.agg [(.str ⟨#[51]⟩),(.str ⟨#[49]⟩)])),false,hp,0):=callL_orc (h:=(K.orc 188).get (by kernel_rfl)) (by kernel_rfl) _ _ _ hp (by kernel_rfl)
@[simp] theorem kc188_5 (hp:List O):callL K (.fn (.func 188) [] []) [.d (.int .i64 4),.d (.int .i64 1)] none hp=some (.ret (.d (.agg [(.str ⟨#[52]⟩),(.str ⟨#[49]⟩)])),false,hp,0):=callL_orc (h:=(K.orc 188).get (by kernel_rfl)) (by kernel_rfl) _ _ _ hp (by kernel_rfl)
@[simp] theorem kc188_6 (hp:List O):callL K (.fn (.func 188) [] []) [.d (.int .i64 5),.d (.int .i64 1)] none hp=some (.ret (.d (.agg [(.str ⟨#[53]⟩),(.str ⟨#[49]⟩)])),false,hp,0):=callL_orc (h:=(K.orc 188).get (by kernel_rfl)) (by kernel_rfl) _ _ _ hp (by kernel_rfl)
@[simp] theorem kc188_7 (hp:List O):callL K (.fn (.func 188) [] []) [.d (.int .i64 1),.d (.int .i64 2)] none hp=some (.ret (.d (.agg [(.str ⟨#[49]⟩),(.str ⟨#[50]⟩)])),false,hp,0):=callL_orc (h:=(K.orc 188).get (by kernel_rfl)) (by kernel_rfl) _ _ _ hp (by kernel_rfl)
@[simp] theorem kc188_8 (hp:List O):callL K (.fn (.func 188) [] []) [.d (.int .i64 1),.d (.int .i64 3)] none hp=some (.ret (.d (.agg [(.str ⟨#[49]⟩),(.str ⟨#[51]⟩)])),false,hp,0):=callL_orc (h:=(K.orc 188).get (by kernel_rfl)) (by kernel_rfl) _ _ _ hp (by kernel_rfl)
@[simp] theorem kc188_9 (hp:List O):callL K (.fn (.func 188) [] []) [.d (.int .i64 2),.d (.int .i64 2)] none hp=some (.ret (.d (.agg [(.str ⟨#[49]⟩),(.str ⟨#[49]⟩)])),false,hp,0):=callL_orc (h:=(K.orc 188).get (by kernel_rfl)) (by kernel_rfl) _ _ _ hp (by kernel_rfl)
@[simp] theorem kc188_10 (hp:List O):callL K (.fn (.func 188) [] []) [.d (.int .i64 2),.d (.int .i64 3)] none hp=some (.ret (.d (.agg [(.str ⟨#[50]⟩),(.str ⟨#[51]⟩)])),false,hp,0):=callL_orc (h:=(K.orc 188).get (by kernel_rfl)) (by kernel_rfl) _ _ _ hp (by kernel_rfl)
@[simp] theorem kc189_11 (hp:List O):callL K (.fn (.func 189) [] []) [.d (.int .i64 0)] none hp=some (.ret (.d (.str ⟨#[48]⟩)),false,hp,0):=callL_orc (h:=(K.orc 189).get (by kernel_rfl)) (by kernel_rfl) _ _ _ hp (by kernel_rfl)
@[simp] theorem kc189_12 (hp:List O):callL K (.fn (.func 189) [] []) [.d (.int .i64 1)] none hp=some (.ret (.d (.str ⟨#[49]⟩)),false,hp,0):=callL_orc (h:=(K.orc 189).get (by kernel_rfl)) (by kernel_rfl) _ _ _ hp (by kernel_rfl)
@[simp] theorem kc189_13 (hp:List O):callL K (.fn (.func 189) [] []) [.d (.int .i64 2)] none hp=some (.ret (.d (.str ⟨#[50]⟩)),false,hp,0):=callL_orc (h:=(K.orc 189).get (by kernel_rfl)) (by kernel_rfl) _ _ _ hp (by kernel_rfl)
@[simp] theorem kc266_14 (hp:List O):callL K (.fn (.func 266) [] []) [.d (.agg [(.str ⟨#[48]⟩),(.str ⟨#[49]⟩)])] none hp=some (.ret (.d (.int .i64 0)),false,hp,0):=callL_orc (h:=(K.orc 266).get (by kernel_rfl)) (by kernel_rfl) _ _ _ hp (by kernel_rfl)
@[simp] theorem kc266_15 (hp:List O):callL K (.fn (.func 266) [] []) [.d (.agg [(.str ⟨#[49]⟩),(.str ⟨#[49]⟩)])] none hp=some (.ret (.d (.int .i64 0)),false,hp,0):=callL_orc (h:=(K.orc 266).get (by kernel_rfl)) (by kernel_rfl) _ _ _ hp (by kernel_rfl)
@[simp] theorem kc266_16 (hp:List O):callL K (.fn (.func 266) [] []) [.d (.agg [(.str ⟨#[50]⟩),(.str ⟨#[49]⟩)])] none hp=some (.ret (.d (.int .i64 0)),false,hp,0):=callL_orc (h:=(K.orc 266).get (by kernel_rfl)) (by kernel_rfl) _ _ _ hp (by kernel_rfl)
@[simp] theorem kc266_17 (hp:List O):callL K (.fn (.func 266) [] []) [.d (.agg [(.str ⟨#[51]⟩),(.str ⟨#[49]⟩)])] none hp=some (.ret (.d (.int .i64 0)),false,hp,0):=callL_orc (h:=(K.orc 266).get (by kernel_rfl)) (by kernel_rfl) _ _ _ hp (by kernel_rfl)
@[simp] theorem kc266_18 (hp:List O):callL K (.fn (.func 266) [] []) [.d (.agg [(.str ⟨#[52]⟩),(.str ⟨#[49]⟩)])] none hp=some (.ret (.d (.int .i64 0)),false,hp,0):=callL_orc (h:=(K.orc 266).get (by kernel_rfl)) (by kernel_rfl) _ _ _ hp (by kernel_rfl)
@[simp] theorem kc266_19 (hp:List O):callL K (.fn (.func 266) [] []) [.d (.agg [(.str ⟨#[53]⟩),(.str ⟨#[49]⟩)])] none hp=some (.ret (.d (.int .i64 0)),false,hp,0):=callL_orc (h:=(K.orc 266).get (by kernel_rfl)) (by kernel_rfl) _ _ _ hp (by kernel_rfl)
@[simp] theorem kc266_20 (hp:List O):callL K (.fn (.func 266) [] []) [.d (.agg [(.str ⟨#[49]⟩),(.str ⟨#[50]⟩)])] none hp=some (.ret (.d (.int .i64 0)),false,hp,0):=callL_orc (h:=(K.orc 266).get (by kernel_rfl)) (by kernel_rfl) _ _ _ hp (by kernel_rfl)
@[simp] theorem kc266_21 (hp:List O):callL K (.fn (.func 266) [] []) [.d (.agg [(.str ⟨#[49]⟩),(.str ⟨#[51]⟩)])] none hp=some (.ret (.d (.int .i64 0)),false,hp,0):=callL_orc (h:=(K.orc 266).get (by kernel_rfl)) (by kernel_rfl) _ _ _ hp (by kernel_rfl)
@[simp] theorem kc266_22 (hp:List O):callL K (.fn (.func 266) [] []) [.d (.agg [(.str ⟨#[50]⟩),(.str ⟨#[51]⟩)])] none hp=some (.ret (.d (.int .i64 0)),false,hp,0):=callL_orc (h:=(K.orc 266).get (by kernel_rfl)) (by kernel_rfl) _ _ _ hp (by kernel_rfl)
@[simp] theorem kc268_23 (hp:List O):callL K (.fn (.func 268) [] []) [.d (.str ⟨#[97]⟩)] none hp=some (.ret (.d (.bool true)),false,hp,0):=callL_orc (h:=(K.orc 268).get (by kernel_rfl)) (by kernel_rfl) _ _ _ hp (by kernel_rfl)
@[simp] theorem kc268_24 (hp:List O):callL K (.fn (.func 268) [] []) [.d (.str ⟨#[98]⟩)] none hp=some (.ret (.d (.bool true)),false,hp,0):=callL_orc (h:=(K.orc 268).get (by kernel_rfl)) (by kernel_rfl) _ _ _ hp (by kernel_rfl)
@[simp] theorem kc268_25 (hp:List O):callL K (.fn (.func 268) [] []) [.d (.str ⟨#[99]⟩)] none hp=some (.ret (.d (.bool true)),false,hp,0):=callL_orc (h:=(K.orc 268).get (by kernel_rfl)) (by kernel_rfl) _ _ _ hp (by kernel_rfl)
@[simp] theorem kc268_26 (hp:List O):callL K (.fn (.func 268) [] []) [.d (.str ⟨#[114,48]⟩)] none hp=some (.ret (.d (.bool true)),false,hp,0):=callL_orc (h:=(K.orc 268).get (by kernel_rfl)) (by kernel_rfl) _ _ _ hp (by kernel_rfl)
@[simp] theorem kc268_27 (hp:List O):callL K (.fn (.func 268) [] []) [.d (.str ⟨#[114,49]⟩)] none hp=some (.ret (.d (.bool true)),false,hp,0):=callL_orc (h:=(K.orc 268).get (by kernel_rfl)) (by kernel_rfl) _ _ _ hp (by kernel_rfl)
@[simp] theorem kc268_28 (hp:List O):callL K (.fn (.func 268) [] []) [.d (.str ⟨#[114,50]⟩)] none hp=some (.ret (.d (.bool true)),false,hp,0):=callL_orc (h:=(K.orc 268).get (by kernel_rfl)) (by kernel_rfl) _ _ _ hp (by kernel_rfl)
@[simp] theorem kc268_29 (hp:List O):callL K (.fn (.func 268) [] []) [.d (.str ⟨#[105,48]⟩)] none hp=some (.ret (.d (.bool true)),false,hp,0):=callL_orc (h:=(K.orc 268).get (by kernel_rfl)) (by kernel_rfl) _ _ _ hp (by kernel_rfl)
@[simp] theorem kc268_30 (hp:List O):callL K (.fn (.func 268) [] []) [.d (.str ⟨#[105,49]⟩)] none hp=some (.ret (.d (.bool true)),false,hp,0):=callL_orc (h:=(K.orc 268).get (by kernel_rfl)) (by kernel_rfl) _ _ _ hp (by kernel_rfl)
@[simp] theorem kc165_31 (hp:List O):callL K (.fn (.func 165) [] []) [.d (.str ⟨#[114,48]⟩),.d (.int .u8 114),.d (.int .i64 1)] none hp=some (.ret (.d (.int .i64 0)),false,hp,0):=callL_orc (h:=(K.orc 165).get (by kernel_rfl)) (by kernel_rfl) _ _ _ hp (by kernel_rfl)
@[simp] theorem kc165_32 (hp:List O):callL K (.fn (.func 165) [] []) [.d (.str ⟨#[114,48]⟩),.d (.int .u8 114),.d (.int .i64 2)] none hp=some (.ret (.d (.int .i64 0)),false,hp,0):=callL_orc (h:=(K.orc 165).get (by kernel_rfl)) (by kernel_rfl) _ _ _ hp (by kernel_rfl)
@[simp] theorem kc165_33 (hp:List O):callL K (.fn (.func 165) [] []) [.d (.str ⟨#[114,48]⟩),.d (.int .u8 114),.d (.int .i64 3)] none hp=some (.ret (.d (.int .i64 0)),false,hp,0):=callL_orc (h:=(K.orc 165).get (by kernel_rfl)) (by kernel_rfl) _ _ _ hp (by kernel_rfl)
@[simp] theorem kc165_34 (hp:List O):callL K (.fn (.func 165) [] []) [.d (.str ⟨#[114,49]⟩),.d (.int .u8 114),.d (.int .i64 2)] none hp=some (.ret (.d (.int .i64 1)),false,hp,0):=callL_orc (h:=(K.orc 165).get (by kernel_rfl)) (by kernel_rfl) _ _ _ hp (by kernel_rfl)
@[simp] theorem kc165_35 (hp:List O):callL K (.fn (.func 165) [] []) [.d (.str ⟨#[114,49]⟩),.d (.int .u8 114),.d (.int .i64 3)] none hp=some (.ret (.d (.int .i64 1)),false,hp,0):=callL_orc (h:=(K.orc 165).get (by kernel_rfl)) (by kernel_rfl) _ _ _ hp (by kernel_rfl)
@[simp] theorem kc165_36 (hp:List O):callL K (.fn (.func 165) [] []) [.d (.str ⟨#[114,50]⟩),.d (.int .u8 114),.d (.int .i64 3)] none hp=some (.ret (.d (.int .i64 2)),false,hp,0):=callL_orc (h:=(K.orc 165).get (by kernel_rfl)) (by kernel_rfl) _ _ _ hp (by kernel_rfl)
@[simp] theorem kc165_37 (hp:List O):callL K (.fn (.func 165) [] []) [.d (.str ⟨#[105,48]⟩),.d (.int .u8 114),.d (.int .i64 0)] none hp=some (.ret (.d (.int .i64 (-1))),false,hp,0):=callL_orc (h:=(K.orc 165).get (by kernel_rfl)) (by kernel_rfl) _ _ _ hp (by kernel_rfl)
@[simp] theorem kc165_38 (hp:List O):callL K (.fn (.func 165) [] []) [.d (.str ⟨#[105,48]⟩),.d (.int .u8 114),.d (.int .i64 1)] none hp=some (.ret (.d (.int .i64 (-1))),false,hp,0):=callL_orc (h:=(K.orc 165).get (by kernel_rfl)) (by kernel_rfl) _ _ _ hp (by kernel_rfl)
@[simp] theorem kc165_39 (hp:List O):callL K (.fn (.func 165) [] []) [.d (.str ⟨#[105,48]⟩),.d (.int .u8 114),.d (.int .i64 2)] none hp=some (.ret (.d (.int .i64 (-1))),false,hp,0):=callL_orc (h:=(K.orc 165).get (by kernel_rfl)) (by kernel_rfl) _ _ _ hp (by kernel_rfl)
@[simp] theorem kc165_40 (hp:List O):callL K (.fn (.func 165) [] []) [.d (.str ⟨#[105,48]⟩),.d (.int .u8 114),.d (.int .i64 3)] none hp=some (.ret (.d (.int .i64 (-1))),false,hp,0):=callL_orc (h:=(K.orc 165).get (by kernel_rfl)) (by kernel_rfl) _ _ _ hp (by kernel_rfl)
@[simp] theorem kc165_41 (hp:List O):callL K (.fn (.func 165) [] []) [.d (.str ⟨#[105,48]⟩),.d (.int .u8 105),.d (.int .i64 1)] none hp=some (.ret (.d (.int .i64 0)),false,hp,0):=callL_orc (h:=(K.orc 165).get (by kernel_rfl)) (by kernel_rfl) _ _ _ hp (by kernel_rfl)
@[simp] theorem kc165_42 (hp:List O):callL K (.fn (.func 165) [] []) [.d (.str ⟨#[105,48]⟩),.d (.int .u8 105),.d (.int .i64 2)] none hp=some (.ret (.d (.int .i64 0)),false,hp,0):=callL_orc (h:=(K.orc 165).get (by kernel_rfl)) (by kernel_rfl) _ _ _ hp (by kernel_rfl)
@[simp] theorem kc165_43 (hp:List O):callL K (.fn (.func 165) [] []) [.d (.str ⟨#[105,49]⟩),.d (.int .u8 114),.d (.int .i64 0)] none hp=some (.ret (.d (.int .i64 (-1))),false,hp,0):=callL_orc (h:=(K.orc 165).get (by kernel_rfl)) (by kernel_rfl) _ _ _ hp (by kernel_rfl)
@[simp] theorem kc165_44 (hp:List O):callL K (.fn (.func 165) [] []) [.d (.str ⟨#[105,49]⟩),.d (.int .u8 114),.d (.int .i64 1)] none hp=some (.ret (.d (.int .i64 (-1))),false,hp,0):=callL_orc (h:=(K.orc 165).get (by kernel_rfl)) (by kernel_rfl) _ _ _ hp (by kernel_rfl)
@[simp] theorem kc165_45 (hp:List O):callL K (.fn (.func 165) [] []) [.d (.str ⟨#[105,49]⟩),.d (.int .u8 114),.d (.int .i64 2)] none hp=some (.ret (.d (.int .i64 (-1))),false,hp,0):=callL_orc (h:=(K.orc 165).get (by kernel_rfl)) (by kernel_rfl) _ _ _ hp (by kernel_rfl)
@[simp] theorem kc165_46 (hp:List O):callL K (.fn (.func 165) [] []) [.d (.str ⟨#[105,49]⟩),.d (.int .u8 114),.d (.int .i64 3)] none hp=some (.ret (.d (.int .i64 (-1))),false,hp,0):=callL_orc (h:=(K.orc 165).get (by kernel_rfl)) (by kernel_rfl) _ _ _ hp (by kernel_rfl)
@[simp] theorem kc165_47 (hp:List O):callL K (.fn (.func 165) [] []) [.d (.str ⟨#[105,49]⟩),.d (.int .u8 105),.d (.int .i64 2)] none hp=some (.ret (.d (.int .i64 1)),false,hp,0):=callL_orc (h:=(K.orc 165).get (by kernel_rfl)) (by kernel_rfl) _ _ _ hp (by kernel_rfl)
@[simp] theorem am18 (a b:List V):argMode K (.fn (.func 18) a b)=0:=by kernel_rfl
@[simp] theorem am188 (a b:List V):argMode K (.fn (.func 188) a b)=0:=by kernel_rfl
@[simp] theorem am189 (a b:List V):argMode K (.fn (.func 189) a b)=0:=by kernel_rfl
@[simp] theorem am266 (a b:List V):argMode K (.fn (.func 266) a b)=0:=by kernel_rfl
@[simp] theorem am268 (a b:List V):argMode K (.fn (.func 268) a b)=0:=by kernel_rfl
@[simp] theorem am165 (a b:List V):argMode K (.fn (.func 165) a b)=0:=by kernel_rfl
end Mw
/-! Facts on types. -/
namespace Mw
open Go Go.Proofs
set_option maxRecDepth 100000
@[simp] theorem und_3:K.P.underlying 3=some (.int .i64):=by kernel_rfl
@[simp] theorem size_3:sizeT K 3=1:=by kernel_rfl
@[simp] theorem szT_3:szT K 3=some (1,false):=by kernel_rfl
@[simp] theorem agg_3:aggT K 3=false:=by kernel_rfl
@[simp] theorem info_3:(K.P.info? 3).isSome=true:=by kernel_rfl
@[simp] theorem zero_3:zeroT K 3=some (.int .i64 0):=by kernel_rfl
@[simp] theorem und_4:K.P.underlying 4=some (.bool):=by kernel_rfl
@[simp] theorem size_4:sizeT K 4=1:=by kernel_rfl
@[simp] theorem szT_4:szT K 4=some (1,false):=by kernel_rfl
@[simp] theorem agg_4:aggT K 4=false:=by kernel_rfl
@[simp] theorem info_4:(K.P.info? 4).isSome=true:=by kernel_rfl
@[simp] theorem zero_4:zeroT K 4=some (.bool false):=by kernel_rfl
@[simp] theorem und_5:K.P.underlying 5=some (.int .u8):=by kernel_rfl
@[simp] theorem size_5:sizeT K 5=1:=by kernel_rfl
@[simp] theorem szT_5:szT K 5=some (1,false):=by kernel_rfl
@[simp] theorem agg_5:aggT K 5=false:=by kernel_rfl
@[simp] theorem info_5:(K.P.info? 5).isSome=true:=by kernel_rfl
@[simp] theorem zero_5:zeroT K 5=some (.int .u8 0):=by kernel_rfl
@[simp] theorem und_9:K.P.underlying 9=some (.string):=by kernel_rfl
@[simp] theorem size_9:sizeT K 9=1:=by kernel_rfl
@[simp] theorem szT_9:szT K 9=some (1,false):=by kernel_rfl
@[simp] theorem agg_9:aggT K 9=false:=by kernel_rfl
@[simp] theorem info_9:(K.P.info? 9).isSome=true:=by kernel_rfl
@[simp] theorem zero_9:zeroT K 9=some (.str ⟨#[]⟩):=by kernel_rfl
-- type 20: interface
@[simp] theorem size_20:sizeT K 20=1:=by kernel_rfl
@[simp] theorem szT_20:szT K 20=some (1,false):=by kernel_rfl
@[simp] theorem zero_20:zeroT K 20=some (.nili):=by kernel_rfl
@[simp] theorem und_22:K.P.underlying 22=some (.slice 3):=by kernel_rfl
@[simp] theorem size_22:sizeT K 22=1:=by kernel_rfl
@[simp] theorem szT_22:szT K 22=some (1,false):=by kernel_rfl
@[simp] theorem agg_22:aggT K 22=false:=by kernel_rfl
@[simp] theorem info_22:(K.P.info? 22).isSome=true:=by kernel_rfl
@[simp] theorem zero_22:zeroT K 22=some (.nils):=by kernel_rfl
@[simp] theorem elem_22:elemT K 22=some 3:=by kernel_rfl
@[simp] theorem und_25:K.P.underlying 25=some (.slice 168):=by kernel_rfl
@[simp] theorem size_25:sizeT K 25=1:=by kernel_rfl
@[simp] theorem szT_25:szT K 25=some (1,false):=by kernel_rfl
@[simp] theorem agg_25:aggT K 25=false:=by kernel_rfl
@[simp] theorem info_25:(K.P.info? 25).isSome=true:=by kernel_rfl
@[simp] theorem zero_25:zeroT K 25=some (.nils):=by kernel_rfl
@[simp] theorem elem_25:elemT K 25=some 168:=by kernel_rfl
@[simp] theorem und_26:K.P.underlying 26=some (.slice 47):=by kernel_rfl
@[simp] theorem size_26:sizeT K 26=1:=by kernel_rfl
@[simp] theorem szT_26:szT K 26=some (1,false):=by kernel_rfl
@[simp] theorem agg_26:aggT K 26=false:=by kernel_rfl
@[simp] theorem info_26:(K.P.info? 26).isSome=true:=by kernel_rfl
@[simp] theorem zero_26:zeroT K 26=some (.nils):=by kernel_rfl
@[simp] theorem elem_26:elemT K 26=some 47:=by kernel_rfl
@[simp] theorem und_28:K.P.underlying 28=some (.struct #[⟨ "Arrays",25,0,false,"","",0⟩,⟨ "Steps",26,1,false,"","",24⟩]):=by kernel_rfl
@[simp] theorem size_28:sizeT K 28=2:=by kernel_rfl
@[simp] theorem szT_28:szT K 28=some (2,true):=by kernel_rfl
@[simp] theorem agg_28:aggT K 28=true:=by kernel_rfl
@[simp] theorem info_28:(K.P.info? 28).isSome=true:=by kernel_rfl
@[simp] theorem zero_28:zeroT K 28=some (.agg [.nils,.nils]):=by kernel_rfl
@[simp] theorem fld_28_0:fieldOf K 28 0=some ⟨ "Arrays",25,0,false,"","",0⟩:=by kernel_rfl
@[simp] theorem fld_28_1:fieldOf K 28 1=some ⟨ "Steps",26,1,false,"","",24⟩:=by kernel_rfl
@[simp] theorem und_30:K.P.underlying 30=some (.int .i64):=by kernel_rfl
@[simp] theorem size_30:sizeT K 30=1:=by kernel_rfl
@[simp] theorem szT_30:szT K 30=some (1,false):=by kernel_rfl
@[simp] theorem agg_30:aggT K 30=false:=by kernel_rfl
@[simp] theorem info_30:(K.P.info? 30).isSome=true:=by kernel_rfl
@[simp] theorem zero_30:zeroT K 30=some (.int .i64 0):=by kernel_rfl
@[simp] theorem und_33:K.P.underlying 33=some (.slice 87):=by kernel_rfl
@[simp] theorem size_33:sizeT K 33=1:=by kernel_rfl
@[simp] theorem szT_33:szT K 33=some (1,false):=by kernel_rfl
@[simp] theorem agg_33:aggT K 33=false:=by kernel_rfl
@[simp] theorem info_33:(K.P.info? 33).isSome=true:=by kernel_rfl
@[simp] theorem zero_33:zeroT K 33=some (.nils):=by kernel_rfl
@[simp] theorem elem_33:elemT K 33=some 87:=by kernel_rfl
@[simp] theorem und_37:K.P.underlying 37=some (.slice 142):=by kernel_rfl
@[simp] theorem size_37:sizeT K 37=1:=by kernel_rfl
@[simp] theorem szT_37:szT K 37=some (1,false):=by kernel_rfl
@[simp] theorem agg_37:aggT K 37=false:=by kernel_rfl
@[simp] theorem info_37:(K.P.info? 37).isSome=true:=by kernel_rfl
@[simp] theorem zero_37:zeroT K 37=some (.nils):=by kernel_rfl
@[simp] theorem elem_37:elemT K 37=some 142:=by kernel_rfl
@[simp] theorem und_39:K.P.underlying 39=some (.struct #[⟨ "Array",3,0,false,"","",0⟩,⟨ "At",37,1,false,"","",8⟩]):=by kernel_rfl
@[simp] theorem size_39:sizeT K 39=2:=by kernel_rfl
@[simp] theorem szT_39:szT K 39=some (2,true):=by kernel_rfl
@[simp] theorem agg_39:aggT K 39=true:=by kernel_rfl
@[simp] theorem info_39:(K.P.info? 39).isSome=true:=by kernel_rfl
@[simp] theorem zero_39:zeroT K 39=some (.agg [.int .i64 0,.nils]):=by kernel_rfl
@[simp] theorem fld_39_0:fieldOf K 39 0=some ⟨ "Array",3,0,false,"","",0⟩:=by kernel_rfl
@[simp] theorem fld_39_1:fieldOf K 39 1=some ⟨ "At",37,1,false,"","",8⟩:=by kernel_rfl
@[simp] theorem und_40:K.P.underlying 40=some (.slice 39):=by kernel_rfl
@[simp] theorem size_40:sizeT K 40=1:=by kernel_rfl
@[simp] theorem szT_40:szT K 40=some (1,false):=by kernel_rfl
@[simp] theorem agg_40:aggT K 40=false:=by kernel_rfl
@[simp] theorem info_40:(K.P.info? 40).isSome=true:=by kernel_rfl
@[simp] theorem zero_40:zeroT K 40=some (.nils):=by kernel_rfl
@[simp] theorem elem_40:elemT K 40=some 39:=by kernel_rfl
@[simp] theorem und_42:K.P.underlying 42=some (.struct #[⟨ "Num",9,0,false,"","",0⟩,⟨ "Den",9,1,false,"","",16⟩]):=by kernel_rfl
@[simp] theorem size_42:sizeT K 42=2:=by kernel_rfl
@[simp] theorem szT_42:szT K 42=some (2,true):=by kernel_rfl
@[simp] theorem agg_42:aggT K 42=true:=by kernel_rfl
@[simp] theorem info_42:(K.P.info? 42).isSome=true:=by kernel_rfl
@[simp] theorem zero_42:zeroT K 42=some (.agg [.str ⟨#[]⟩,.str ⟨#[]⟩]):=by kernel_rfl
@[simp] theorem fld_42_0:fieldOf K 42 0=some ⟨ "Num",9,0,false,"","",0⟩:=by kernel_rfl
@[simp] theorem fld_42_1:fieldOf K 42 1=some ⟨ "Den",9,1,false,"","",16⟩:=by kernel_rfl
@[simp] theorem und_43:K.P.underlying 43=some (.slice 45):=by kernel_rfl
@[simp] theorem size_43:sizeT K 43=1:=by kernel_rfl
@[simp] theorem szT_43:szT K 43=some (1,false):=by kernel_rfl
@[simp] theorem agg_43:aggT K 43=false:=by kernel_rfl
@[simp] theorem info_43:(K.P.info? 43).isSome=true:=by kernel_rfl
@[simp] theorem zero_43:zeroT K 43=some (.nils):=by kernel_rfl
@[simp] theorem elem_43:elemT K 43=some 45:=by kernel_rfl
@[simp] theorem und_45:K.P.underlying 45=some (.struct #[⟨ "Op",3,0,false,"","",0⟩,⟨ "Num",42,1,false,"","",8⟩,⟨ "Name",9,3,false,"","",40⟩,⟨ "Size",3,4,false,"","",56⟩,⟨ "Args",43,5,false,"","",64⟩]):=by kernel_rfl
@[simp] theorem size_45:sizeT K 45=6:=by kernel_rfl
@[simp] theorem szT_45:szT K 45=some (6,true):=by kernel_rfl
@[simp] theorem agg_45:aggT K 45=true:=by kernel_rfl
@[simp] theorem info_45:(K.P.info? 45).isSome=true:=by kernel_rfl
@[simp] theorem zero_45:zeroT K 45=some (.agg [.int .i64 0,.str ⟨#[]⟩,.str ⟨#[]⟩,.str ⟨#[]⟩,.int .i64 0,.nils]):=by kernel_rfl
@[simp] theorem fld_45_0:fieldOf K 45 0=some ⟨ "Op",3,0,false,"","",0⟩:=by kernel_rfl
@[simp] theorem fld_45_1:fieldOf K 45 1=some ⟨ "Num",42,1,false,"","",8⟩:=by kernel_rfl
@[simp] theorem fld_45_2:fieldOf K 45 2=some ⟨ "Name",9,3,false,"","",40⟩:=by kernel_rfl
@[simp] theorem fld_45_3:fieldOf K 45 3=some ⟨ "Size",3,4,false,"","",56⟩:=by kernel_rfl
@[simp] theorem fld_45_4:fieldOf K 45 4=some ⟨ "Args",43,5,false,"","",64⟩:=by kernel_rfl
@[simp] theorem und_47:K.P.underlying 47=some (.struct #[⟨ "Sizes",22,0,false,"","",0⟩,⟨ "To",39,1,false,"","",24⟩,⟨ "From",40,3,false,"","",56⟩,⟨ "Body",45,4,false,"","",80⟩]):=by kernel_rfl
@[simp] theorem size_47:sizeT K 47=10:=by kernel_rfl
@[simp] theorem szT_47:szT K 47=some (10,true):=by kernel_rfl
@[simp] theorem agg_47:aggT K 47=true:=by kernel_rfl
@[simp] theorem info_47:(K.P.info? 47).isSome=true:=by kernel_rfl
@[simp] theorem zero_47:zeroT K 47=some (.agg [.nils,.int .i64 0,.nils,.nils,.int .i64 0,.str ⟨#[]⟩,.str ⟨#[]⟩,.str ⟨#[]⟩,.int .i64 0,.nils]):=by kernel_rfl
@[simp] theorem fld_47_0:fieldOf K 47 0=some ⟨ "Sizes",22,0,false,"","",0⟩:=by kernel_rfl
@[simp] theorem fld_47_1:fieldOf K 47 1=some ⟨ "To",39,1,false,"","",24⟩:=by kernel_rfl
@[simp] theorem fld_47_2:fieldOf K 47 2=some ⟨ "From",40,3,false,"","",56⟩:=by kernel_rfl
@[simp] theorem fld_47_3:fieldOf K 47 3=some ⟨ "Body",45,4,false,"","",80⟩:=by kernel_rfl
-- type 49: func
@[simp] theorem size_49:sizeT K 49=1:=by kernel_rfl
@[simp] theorem szT_49:szT K 49=some (1,false):=by kernel_rfl
@[simp] theorem und_86:K.P.underlying 86=some (.struct #[⟨ "Array",3,0,false,"","",0⟩,⟨ "Cell",3,1,false,"","",8⟩]):=by kernel_rfl
@[simp] theorem size_86:sizeT K 86=2:=by kernel_rfl
@[simp] theorem szT_86:szT K 86=some (2,true):=by kernel_rfl
@[simp] theorem agg_86:aggT K 86=true:=by kernel_rfl
@[simp] theorem info_86:(K.P.info? 86).isSome=true:=by kernel_rfl
@[simp] theorem zero_86:zeroT K 86=some (.agg [.int .i64 0,.int .i64 0]):=by kernel_rfl
@[simp] theorem fld_86_0:fieldOf K 86 0=some ⟨ "Array",3,0,false,"","",0⟩:=by kernel_rfl
@[simp] theorem fld_86_1:fieldOf K 86 1=some ⟨ "Cell",3,1,false,"","",8⟩:=by kernel_rfl
@[simp] theorem und_87:K.P.underlying 87=some (.slice 86):=by kernel_rfl
@[simp] theorem size_87:sizeT K 87=1:=by kernel_rfl
@[simp] theorem szT_87:szT K 87=some (1,false):=by kernel_rfl
@[simp] theorem agg_87:aggT K 87=false:=by kernel_rfl
@[simp] theorem info_87:(K.P.info? 87).isSome=true:=by kernel_rfl
@[simp] theorem zero_87:zeroT K 87=some (.nils):=by kernel_rfl
@[simp] theorem elem_87:elemT K 87=some 86:=by kernel_rfl
@[simp] theorem und_94:K.P.underlying 94=some (.int .u64):=by kernel_rfl
@[simp] theorem size_94:sizeT K 94=1:=by kernel_rfl
@[simp] theorem szT_94:szT K 94=some (1,false):=by kernel_rfl
@[simp] theorem agg_94:aggT K 94=false:=by kernel_rfl
@[simp] theorem info_94:(K.P.info? 94).isSome=true:=by kernel_rfl
@[simp] theorem zero_94:zeroT K 94=some (.int .u64 0):=by kernel_rfl
@[simp] theorem und_96:K.P.underlying 96=some (.struct #[⟨ "list",22,0,false,"","metewand/metewandkit",0⟩,⟨ "at",3,1,false,"","metewand/metewandkit",24⟩,⟨ "state",94,2,false,"","metewand/metewandkit",32⟩]):=by kernel_rfl
@[simp] theorem size_96:sizeT K 96=3:=by kernel_rfl
@[simp] theorem szT_96:szT K 96=some (3,true):=by kernel_rfl
@[simp] theorem agg_96:aggT K 96=true:=by kernel_rfl
@[simp] theorem info_96:(K.P.info? 96).isSome=true:=by kernel_rfl
@[simp] theorem zero_96:zeroT K 96=some (.agg [.nils,.int .i64 0,.int .u64 0]):=by kernel_rfl
@[simp] theorem fld_96_0:fieldOf K 96 0=some ⟨ "list",22,0,false,"","metewand/metewandkit",0⟩:=by kernel_rfl
@[simp] theorem fld_96_1:fieldOf K 96 1=some ⟨ "at",3,1,false,"","metewand/metewandkit",24⟩:=by kernel_rfl
@[simp] theorem fld_96_2:fieldOf K 96 2=some ⟨ "state",94,2,false,"","metewand/metewandkit",32⟩:=by kernel_rfl
@[simp] theorem und_99:K.P.underlying 99=some (.pointer 105):=by kernel_rfl
@[simp] theorem size_99:sizeT K 99=1:=by kernel_rfl
@[simp] theorem szT_99:szT K 99=some (1,false):=by kernel_rfl
@[simp] theorem agg_99:aggT K 99=false:=by kernel_rfl
@[simp] theorem info_99:(K.P.info? 99).isSome=true:=by kernel_rfl
@[simp] theorem zero_99:zeroT K 99=some (.nilp):=by kernel_rfl
@[simp] theorem und_102:K.P.underlying 102=some (.map 110 3):=by kernel_rfl
@[simp] theorem size_102:sizeT K 102=1:=by kernel_rfl
@[simp] theorem szT_102:szT K 102=some (1,false):=by kernel_rfl
@[simp] theorem agg_102:aggT K 102=false:=by kernel_rfl
@[simp] theorem info_102:(K.P.info? 102).isSome=true:=by kernel_rfl
@[simp] theorem zero_102:zeroT K 102=some (.nilm):=by kernel_rfl
@[simp] theorem key_102:keyT K 102=some (110,3):=by kernel_rfl
@[simp] theorem und_103:K.P.underlying 103=some (.slice 108):=by kernel_rfl
@[simp] theorem size_103:sizeT K 103=1:=by kernel_rfl
@[simp] theorem szT_103:szT K 103=some (1,false):=by kernel_rfl
@[simp] theorem agg_103:aggT K 103=false:=by kernel_rfl
@[simp] theorem info_103:(K.P.info? 103).isSome=true:=by kernel_rfl
@[simp] theorem zero_103:zeroT K 103=some (.nils):=by kernel_rfl
@[simp] theorem elem_103:elemT K 103=some 108:=by kernel_rfl
@[simp] theorem und_105:K.P.underlying 105=some (.struct #[⟨ "LoopTask",28,0,true,"","",0⟩,⟨ "list",103,2,false,"","metewand/depend",48⟩]):=by kernel_rfl
@[simp] theorem size_105:sizeT K 105=3:=by kernel_rfl
@[simp] theorem szT_105:szT K 105=some (3,true):=by kernel_rfl
@[simp] theorem agg_105:aggT K 105=true:=by kernel_rfl
@[simp] theorem info_105:(K.P.info? 105).isSome=true:=by kernel_rfl
@[simp] theorem zero_105:zeroT K 105=some (.agg [.nils,.nils,.nils]):=by kernel_rfl
@[simp] theorem fld_105_0:fieldOf K 105 0=some ⟨ "LoopTask",28,0,true,"","",0⟩:=by kernel_rfl
@[simp] theorem fld_105_1:fieldOf K 105 1=some ⟨ "list",103,2,false,"","metewand/depend",48⟩:=by kernel_rfl
@[simp] theorem und_106:K.P.underlying 106=some (.slice 110):=by kernel_rfl
@[simp] theorem size_106:sizeT K 106=1:=by kernel_rfl
@[simp] theorem szT_106:szT K 106=some (1,false):=by kernel_rfl
@[simp] theorem agg_106:aggT K 106=false:=by kernel_rfl
@[simp] theorem info_106:(K.P.info? 106).isSome=true:=by kernel_rfl
@[simp] theorem zero_106:zeroT K 106=some (.nils):=by kernel_rfl
@[simp] theorem elem_106:elemT K 106=some 110:=by kernel_rfl
@[simp] theorem und_108:K.P.underlying 108=some (.struct #[⟨ "step",3,0,false,"","metewand/depend",0⟩,⟨ "n",3,1,false,"","metewand/depend",8⟩,⟨ "at",22,2,false,"","metewand/depend",16⟩,⟨ "touched",106,3,false,"","metewand/depend",40⟩]):=by kernel_rfl
@[simp] theorem size_108:sizeT K 108=4:=by kernel_rfl
@[simp] theorem szT_108:szT K 108=some (4,true):=by kernel_rfl
@[simp] theorem agg_108:aggT K 108=true:=by kernel_rfl
@[simp] theorem info_108:(K.P.info? 108).isSome=true:=by kernel_rfl
@[simp] theorem zero_108:zeroT K 108=some (.agg [.int .i64 0,.int .i64 0,.nils,.nils]):=by kernel_rfl
@[simp] theorem fld_108_0:fieldOf K 108 0=some ⟨ "step",3,0,false,"","metewand/depend",0⟩:=by kernel_rfl
@[simp] theorem fld_108_1:fieldOf K 108 1=some ⟨ "n",3,1,false,"","metewand/depend",8⟩:=by kernel_rfl
@[simp] theorem fld_108_2:fieldOf K 108 2=some ⟨ "at",22,2,false,"","metewand/depend",16⟩:=by kernel_rfl
@[simp] theorem fld_108_3:fieldOf K 108 3=some ⟨ "touched",106,3,false,"","metewand/depend",40⟩:=by kernel_rfl
@[simp] theorem und_110:K.P.underlying 110=some (.array 2 3):=by kernel_rfl
@[simp] theorem size_110:sizeT K 110=2:=by kernel_rfl
@[simp] theorem szT_110:szT K 110=some (2,true):=by kernel_rfl
@[simp] theorem agg_110:aggT K 110=true:=by kernel_rfl
@[simp] theorem info_110:(K.P.info? 110).isSome=true:=by kernel_rfl
@[simp] theorem zero_110:zeroT K 110=some (.agg [.int .i64 0,.int .i64 0]):=by kernel_rfl
@[simp] theorem elem_110:elemT K 110=none:=by kernel_rfl
@[simp] theorem arr_110:arrT K 110=some (2,3):=by kernel_rfl
-- type 111: func
@[simp] theorem size_111:sizeT K 111=1:=by kernel_rfl
@[simp] theorem szT_111:szT K 111=some (1,false):=by kernel_rfl
@[simp] theorem zero_111:zeroT K 111=some (.nilf):=by kernel_rfl
@[simp] theorem und_116:K.P.underlying 116=some (.array 4 4):=by kernel_rfl
@[simp] theorem size_116:sizeT K 116=4:=by kernel_rfl
@[simp] theorem szT_116:szT K 116=some (4,true):=by kernel_rfl
@[simp] theorem agg_116:aggT K 116=true:=by kernel_rfl
@[simp] theorem info_116:(K.P.info? 116).isSome=true:=by kernel_rfl
@[simp] theorem zero_116:zeroT K 116=some (.agg [.bool false,.bool false,.bool false,.bool false]):=by kernel_rfl
@[simp] theorem elem_116:elemT K 116=none:=by kernel_rfl
@[simp] theorem arr_116:arrT K 116=some (4,4):=by kernel_rfl
@[simp] theorem und_121:K.P.underlying 121=some (.struct #[⟨ "n",3,0,false,"","metewand/depend",0⟩,⟨ "m",3,1,false,"","metewand/depend",8⟩]):=by kernel_rfl
@[simp] theorem size_121:sizeT K 121=2:=by kernel_rfl
@[simp] theorem szT_121:szT K 121=some (2,true):=by kernel_rfl
@[simp] theorem agg_121:aggT K 121=true:=by kernel_rfl
@[simp] theorem info_121:(K.P.info? 121).isSome=true:=by kernel_rfl
@[simp] theorem zero_121:zeroT K 121=some (.agg [.int .i64 0,.int .i64 0]):=by kernel_rfl
@[simp] theorem fld_121_0:fieldOf K 121 0=some ⟨ "n",3,0,false,"","metewand/depend",0⟩:=by kernel_rfl
@[simp] theorem fld_121_1:fieldOf K 121 1=some ⟨ "m",3,1,false,"","metewand/depend",8⟩:=by kernel_rfl
@[simp] theorem und_130:K.P.underlying 130=some (.map 110 22):=by kernel_rfl
@[simp] theorem size_130:sizeT K 130=1:=by kernel_rfl
@[simp] theorem szT_130:szT K 130=some (1,false):=by kernel_rfl
@[simp] theorem agg_130:aggT K 130=false:=by kernel_rfl
@[simp] theorem info_130:(K.P.info? 130).isSome=true:=by kernel_rfl
@[simp] theorem zero_130:zeroT K 130=some (.nilm):=by kernel_rfl
@[simp] theorem key_130:keyT K 130=some (110,22):=by kernel_rfl
@[simp] theorem und_142:K.P.underlying 142=some (.struct #[⟨ "Const",3,0,false,"","",0⟩,⟨ "Coefs",22,1,false,"","",8⟩]):=by kernel_rfl
@[simp] theorem size_142:sizeT K 142=2:=by kernel_rfl
@[simp] theorem szT_142:szT K 142=some (2,true):=by kernel_rfl
@[simp] theorem agg_142:aggT K 142=true:=by kernel_rfl
@[simp] theorem info_142:(K.P.info? 142).isSome=true:=by kernel_rfl
@[simp] theorem zero_142:zeroT K 142=some (.agg [.int .i64 0,.nils]):=by kernel_rfl
@[simp] theorem fld_142_0:fieldOf K 142 0=some ⟨ "Const",3,0,false,"","",0⟩:=by kernel_rfl
@[simp] theorem fld_142_1:fieldOf K 142 1=some ⟨ "Coefs",22,1,false,"","",8⟩:=by kernel_rfl
@[simp] theorem und_164:K.P.underlying 164=some (.struct #[⟨ "LoopTask",28,0,true,"","",0⟩]):=by kernel_rfl
@[simp] theorem size_164:sizeT K 164=2:=by kernel_rfl
@[simp] theorem szT_164:szT K 164=some (2,true):=by kernel_rfl
@[simp] theorem agg_164:aggT K 164=true:=by kernel_rfl
@[simp] theorem info_164:(K.P.info? 164).isSome=true:=by kernel_rfl
@[simp] theorem zero_164:zeroT K 164=some (.agg [.nils,.nils]):=by kernel_rfl
@[simp] theorem fld_164_0:fieldOf K 164 0=some ⟨ "LoopTask",28,0,true,"","",0⟩:=by kernel_rfl
@[simp] theorem und_168:K.P.underlying 168=some (.struct #[⟨ "Name",9,0,false,"","",0⟩,⟨ "Sizes",22,1,false,"","",16⟩]):=by kernel_rfl
@[simp] theorem size_168:sizeT K 168=2:=by kernel_rfl
@[simp] theorem szT_168:szT K 168=some (2,true):=by kernel_rfl
@[simp] theorem agg_168:aggT K 168=true:=by kernel_rfl
@[simp] theorem info_168:(K.P.info? 168).isSome=true:=by kernel_rfl
@[simp] theorem zero_168:zeroT K 168=some (.agg [.str ⟨#[]⟩,.nils]):=by kernel_rfl
@[simp] theorem fld_168_0:fieldOf K 168 0=some ⟨ "Name",9,0,false,"","",0⟩:=by kernel_rfl
@[simp] theorem fld_168_1:fieldOf K 168 1=some ⟨ "Sizes",22,1,false,"","",16⟩:=by kernel_rfl
@[simp] theorem und_195:K.P.underlying 195=some (.int .u64):=by kernel_rfl
@[simp] theorem size_195:sizeT K 195=1:=by kernel_rfl
@[simp] theorem szT_195:szT K 195=some (1,false):=by kernel_rfl
@[simp] theorem agg_195:aggT K 195=false:=by kernel_rfl
@[simp] theorem info_195:(K.P.info? 195).isSome=true:=by kernel_rfl
@[simp] theorem zero_195:zeroT K 195=some (.int .u64 0):=by kernel_rfl
@[simp] theorem und_216:K.P.underlying 216=some (.map 9 4):=by kernel_rfl
@[simp] theorem size_216:sizeT K 216=1:=by kernel_rfl
@[simp] theorem szT_216:szT K 216=some (1,false):=by kernel_rfl
@[simp] theorem agg_216:aggT K 216=false:=by kernel_rfl
@[simp] theorem info_216:(K.P.info? 216).isSome=true:=by kernel_rfl
@[simp] theorem zero_216:zeroT K 216=some (.nilm):=by kernel_rfl
@[simp] theorem key_216:keyT K 216=some (9,4):=by kernel_rfl
@[simp] theorem und_234:K.P.underlying 234=some (.struct #[⟨ "places",111,0,false,"","metewand/depend",0⟩]):=by kernel_rfl
@[simp] theorem size_234:sizeT K 234=1:=by kernel_rfl
@[simp] theorem szT_234:szT K 234=some (1,true):=by kernel_rfl
@[simp] theorem agg_234:aggT K 234=true:=by kernel_rfl
@[simp] theorem info_234:(K.P.info? 234).isSome=true:=by kernel_rfl
@[simp] theorem zero_234:zeroT K 234=some (.agg [.nilf]):=by kernel_rfl
@[simp] theorem fld_234_0:fieldOf K 234 0=some ⟨ "places",111,0,false,"","metewand/depend",0⟩:=by kernel_rfl
-- type 271: interface
@[simp] theorem size_271:sizeT K 271=1:=by kernel_rfl
@[simp] theorem szT_271:szT K 271=some (1,false):=by kernel_rfl
@[simp] theorem zero_271:zeroT K 271=some (.nili):=by kernel_rfl
@[simp] theorem und_274:K.P.underlying 274=some (.struct #[⟨ "code",30,0,false,"","metewand/read",0⟩]):=by kernel_rfl
@[simp] theorem size_274:sizeT K 274=1:=by kernel_rfl
@[simp] theorem szT_274:szT K 274=some (1,true):=by kernel_rfl
@[simp] theorem agg_274:aggT K 274=true:=by kernel_rfl
@[simp] theorem info_274:(K.P.info? 274).isSome=true:=by kernel_rfl
@[simp] theorem zero_274:zeroT K 274=some (.agg [.int .i64 0]):=by kernel_rfl
@[simp] theorem fld_274_0:fieldOf K 274 0=some ⟨ "code",30,0,false,"","metewand/read",0⟩:=by kernel_rfl
@[simp] theorem und_276:K.P.underlying 276=some (.pointer 274):=by kernel_rfl
@[simp] theorem size_276:sizeT K 276=1:=by kernel_rfl
@[simp] theorem szT_276:szT K 276=some (1,false):=by kernel_rfl
@[simp] theorem agg_276:aggT K 276=false:=by kernel_rfl
@[simp] theorem info_276:(K.P.info? 276).isSome=true:=by kernel_rfl
@[simp] theorem zero_276:zeroT K 276=some (.nilp):=by kernel_rfl
@[simp] theorem und_309:K.P.underlying 309=some (.array 2 3):=by kernel_rfl
@[simp] theorem size_309:sizeT K 309=2:=by kernel_rfl
@[simp] theorem szT_309:szT K 309=some (2,true):=by kernel_rfl
@[simp] theorem agg_309:aggT K 309=true:=by kernel_rfl
@[simp] theorem info_309:(K.P.info? 309).isSome=true:=by kernel_rfl
@[simp] theorem zero_309:zeroT K 309=some (.agg [.int .i64 0,.int .i64 0]):=by kernel_rfl
@[simp] theorem elem_309:elemT K 309=none:=by kernel_rfl
@[simp] theorem arr_309:arrT K 309=some (2,3):=by kernel_rfl
@[simp] theorem grow_3 (n:Nat):growOk K 3 n=(decide (n≤4294967296)&&decide (n * 8≤4294967296)):=growOk_eq (by kernel_rfl) (by kernel_rfl) n
@[simp] theorem grow_39 (n:Nat):growOk K 39 n=(decide (n≤4294967296)&&decide (n * 32≤4294967296)):=growOk_eq (by kernel_rfl) (by kernel_rfl) n
@[simp] theorem grow_47 (n:Nat):growOk K 47 n=(decide (n≤4294967296)&&decide (n * 168≤4294967296)):=growOk_eq (by kernel_rfl) (by kernel_rfl) n
@[simp] theorem grow_86 (n:Nat):growOk K 86 n=(decide (n≤4294967296)&&decide (n * 16≤4294967296)):=growOk_eq (by kernel_rfl) (by kernel_rfl) n
@[simp] theorem grow_87 (n:Nat):growOk K 87 n=(decide (n≤4294967296)&&decide (n * 24≤4294967296)):=growOk_eq (by kernel_rfl) (by kernel_rfl) n
@[simp] theorem grow_108 (n:Nat):growOk K 108 n=(decide (n≤4294967296)&&decide (n * 64≤4294967296)):=growOk_eq (by kernel_rfl) (by kernel_rfl) n
@[simp] theorem grow_110 (n:Nat):growOk K 110 n=(decide (n≤4294967296)&&decide (n * 16≤4294967296)):=growOk_eq (by kernel_rfl) (by kernel_rfl) n
@[simp] theorem grow_142 (n:Nat):growOk K 142 n=(decide (n≤4294967296)&&decide (n * 32≤4294967296)):=growOk_eq (by kernel_rfl) (by kernel_rfl) n
@[simp] theorem room_3 (n:Nat):roomOk K 3 n=(decide (n≤4294967296)&&decide (n * 8≤4294967296)):=roomOk_eq (by kernel_rfl) n
@[simp] theorem room_39 (n:Nat):roomOk K 39 n=(decide (n≤4294967296)&&decide (n * 32≤4294967296)):=roomOk_eq (by kernel_rfl) n
@[simp] theorem room_47 (n:Nat):roomOk K 47 n=(decide (n≤4294967296)&&decide (n * 168≤4294967296)):=roomOk_eq (by kernel_rfl) n
@[simp] theorem room_86 (n:Nat):roomOk K 86 n=(decide (n≤4294967296)&&decide (n * 16≤4294967296)):=roomOk_eq (by kernel_rfl) n
@[simp] theorem room_87 (n:Nat):roomOk K 87 n=(decide (n≤4294967296)&&decide (n * 24≤4294967296)):=roomOk_eq (by kernel_rfl) n
@[simp] theorem room_108 (n:Nat):roomOk K 108 n=(decide (n≤4294967296)&&decide (n * 64≤4294967296)):=roomOk_eq (by kernel_rfl) n
@[simp] theorem room_110 (n:Nat):roomOk K 110 n=(decide (n≤4294967296)&&decide (n * 16≤4294967296)):=roomOk_eq (by kernel_rfl) n
@[simp] theorem room_142 (n:Nat):roomOk K 142 n=(decide (n≤4294967296)&&decide (n * 32≤4294967296)):=roomOk_eq (by kernel_rfl) n
@[simp] theorem build_28 (parts:List (Nat × V)):buildV K 28 parts=buildL [.nils,.nils] [(0,1),(1,1)] parts:=buildV_struct zero_28 und_28 (by kernel_rfl) (by kernel_rfl) parts
@[simp] theorem build_39 (parts:List (Nat × V)):buildV K 39 parts=buildL [.int .i64 0,.nils] [(0,1),(1,1)] parts:=buildV_struct zero_39 und_39 (by kernel_rfl) (by kernel_rfl) parts
@[simp] theorem build_42 (parts:List (Nat × V)):buildV K 42 parts=buildL [.str ⟨#[]⟩,.str ⟨#[]⟩] [(0,1),(1,1)] parts:=buildV_struct zero_42 und_42 (by kernel_rfl) (by kernel_rfl) parts
@[simp] theorem build_45 (parts:List (Nat × V)):buildV K 45 parts=buildL [.int .i64 0,.str ⟨#[]⟩,.str ⟨#[]⟩,.str ⟨#[]⟩,.int .i64 0,.nils] [(0,1),(1,2),(3,1),(4,1),(5,1)] parts:=buildV_struct zero_45 und_45 (by kernel_rfl) (by kernel_rfl) parts
@[simp] theorem build_47 (parts:List (Nat × V)):buildV K 47 parts=buildL [.nils,.int .i64 0,.nils,.nils,.int .i64 0,.str ⟨#[]⟩,.str ⟨#[]⟩,.str ⟨#[]⟩,.int .i64 0,.nils] [(0,1),(1,2),(3,1),(4,6)] parts:=buildV_struct zero_47 und_47 (by kernel_rfl) (by kernel_rfl) parts
@[simp] theorem build_86 (parts:List (Nat × V)):buildV K 86 parts=buildL [.int .i64 0,.int .i64 0] [(0,1),(1,1)] parts:=buildV_struct zero_86 und_86 (by kernel_rfl) (by kernel_rfl) parts
@[simp] theorem build_96 (parts:List (Nat × V)):buildV K 96 parts=buildL [.nils,.int .i64 0,.int .u64 0] [(0,1),(1,1),(2,1)] parts:=buildV_struct zero_96 und_96 (by kernel_rfl) (by kernel_rfl) parts
@[simp] theorem build_105 (parts:List (Nat × V)):buildV K 105 parts=buildL [.nils,.nils,.nils] [(0,2),(2,1)] parts:=buildV_struct zero_105 und_105 (by kernel_rfl) (by kernel_rfl) parts
@[simp] theorem build_108 (parts:List (Nat × V)):buildV K 108 parts=buildL [.int .i64 0,.int .i64 0,.nils,.nils] [(0,1),(1,1),(2,1),(3,1)] parts:=buildV_struct zero_108 und_108 (by kernel_rfl) (by kernel_rfl) parts
@[simp] theorem build_110 (parts:List (Nat × V)):buildV K 110 parts=buildA [.int .i64 0,.int .i64 0] 1 parts:=buildV_arr zero_110 und_110 (by kernel_rfl) (by kernel_rfl) parts
@[simp] theorem build_121 (parts:List (Nat × V)):buildV K 121 parts=buildL [.int .i64 0,.int .i64 0] [(0,1),(1,1)] parts:=buildV_struct zero_121 und_121 (by kernel_rfl) (by kernel_rfl) parts
@[simp] theorem build_142 (parts:List (Nat × V)):buildV K 142 parts=buildL [.int .i64 0,.nils] [(0,1),(1,1)] parts:=buildV_struct zero_142 und_142 (by kernel_rfl) (by kernel_rfl) parts
@[simp] theorem build_164 (parts:List (Nat × V)):buildV K 164 parts=buildL [.nils,.nils] [(0,2)] parts:=buildV_struct zero_164 und_164 (by kernel_rfl) (by kernel_rfl) parts
@[simp] theorem build_168 (parts:List (Nat × V)):buildV K 168 parts=buildL [.str ⟨#[]⟩,.nils] [(0,1),(1,1)] parts:=buildV_struct zero_168 und_168 (by kernel_rfl) (by kernel_rfl) parts
@[simp] theorem build_234 (parts:List (Nat × V)):buildV K 234 parts=buildL [.nilf] [(0,1)] parts:=buildV_struct zero_234 und_234 (by kernel_rfl) (by kernel_rfl) parts
@[simp] theorem build_274 (parts:List (Nat × V)):buildV K 274 parts=buildL [.int .i64 0] [(0,1)] parts:=buildV_struct zero_274 und_274 (by kernel_rfl) (by kernel_rfl) parts
@[simp] theorem build_309 (parts:List (Nat × V)):buildV K 309 parts=buildA [.int .i64 0,.int .i64 0] 1 parts:=buildV_arr zero_309 und_309 (by kernel_rfl) (by kernel_rfl) parts
@[simp] theorem am_3 (a b:List V):argMode K (.fn (.func 3) a b)=4:=by kernel_rfl
@[simp] theorem am_12 (a b:List V):argMode K (.fn (.func 12) a b)=4:=by kernel_rfl
@[simp] theorem am_13 (a b:List V):argMode K (.fn (.func 13) a b)=4:=by kernel_rfl
@[simp] theorem am_14 (a b:List V):argMode K (.fn (.func 14) a b)=4:=by kernel_rfl
@[simp] theorem am_15 (a b:List V):argMode K (.fn (.func 15) a b)=4:=by kernel_rfl
@[simp] theorem am_16 (a b:List V):argMode K (.fn (.func 16) a b)=4:=by kernel_rfl
@[simp] theorem am_17 (a b:List V):argMode K (.fn (.func 17) a b)=4:=by kernel_rfl
@[simp] theorem am_20 (a b:List V):argMode K (.fn (.func 20) a b)=4:=by kernel_rfl
@[simp] theorem am_21 (a b:List V):argMode K (.fn (.func 21) a b)=4:=by kernel_rfl
@[simp] theorem am_52 (a b:List V):argMode K (.fn (.func 52) a b)=4:=by kernel_rfl
@[simp] theorem am_53 (a b:List V):argMode K (.fn (.func 53) a b)=4:=by kernel_rfl
@[simp] theorem am_58 (a b:List V):argMode K (.fn (.func 58) a b)=4:=by kernel_rfl
@[simp] theorem am_61 (a b:List V):argMode K (.fn (.func 61) a b)=4:=by kernel_rfl
@[simp] theorem am_62 (a b:List V):argMode K (.fn (.func 62) a b)=4:=by kernel_rfl
@[simp] theorem am_63 (a b:List V):argMode K (.fn (.func 63) a b)=4:=by kernel_rfl
@[simp] theorem am_64 (a b:List V):argMode K (.fn (.func 64) a b)=4:=by kernel_rfl
@[simp] theorem am_65 (a b:List V):argMode K (.fn (.func 65) a b)=4:=by kernel_rfl
@[simp] theorem am_66 (a b:List V):argMode K (.fn (.func 66) a b)=4:=by kernel_rfl
@[simp] theorem am_67 (a b:List V):argMode K (.fn (.func 67) a b)=4:=by kernel_rfl
@[simp] theorem am_68 (a b:List V):argMode K (.fn (.func 68) a b)=4:=by kernel_rfl
@[simp] theorem am_69 (a b:List V):argMode K (.fn (.func 69) a b)=4:=by kernel_rfl
@[simp] theorem am_70 (a b:List V):argMode K (.fn (.func 70) a b)=4:=by kernel_rfl
@[simp] theorem am_71 (a b:List V):argMode K (.fn (.func 71) a b)=4:=by kernel_rfl
@[simp] theorem am_72 (a b:List V):argMode K (.fn (.func 72) a b)=4:=by kernel_rfl
@[simp] theorem am_73 (a b:List V):argMode K (.fn (.func 73) a b)=4:=by kernel_rfl
@[simp] theorem am_81 (a b:List V):argMode K (.fn (.func 81) a b)=4:=by kernel_rfl
@[simp] theorem am_83 (a b:List V):argMode K (.fn (.func 83) a b)=4:=by kernel_rfl
@[simp] theorem am_97 (a b:List V):argMode K (.fn (.func 97) a b)=4:=by kernel_rfl
@[simp] theorem am_108 (a b:List V):argMode K (.fn (.func 108) a b)=4:=by kernel_rfl
@[simp] theorem am_109 (a b:List V):argMode K (.fn (.func 109) a b)=4:=by kernel_rfl
@[simp] theorem am_110 (a b:List V):argMode K (.fn (.func 110) a b)=4:=by kernel_rfl
@[simp] theorem am_113 (a b:List V):argMode K (.fn (.func 113) a b)=4:=by kernel_rfl
@[simp] theorem am_114 (a b:List V):argMode K (.fn (.func 114) a b)=4:=by kernel_rfl
@[simp] theorem am_120 (a b:List V):argMode K (.fn (.func 120) a b)=4:=by kernel_rfl
@[simp] theorem am_127 (a b:List V):argMode K (.fn (.func 127) a b)=4:=by kernel_rfl
@[simp] theorem am_128 (a b:List V):argMode K (.fn (.func 128) a b)=4:=by kernel_rfl
@[simp] theorem am_129 (a b:List V):argMode K (.fn (.func 129) a b)=4:=by kernel_rfl
@[simp] theorem am_130 (a b:List V):argMode K (.fn (.func 130) a b)=4:=by kernel_rfl
@[simp] theorem am_131 (a b:List V):argMode K (.fn (.func 131) a b)=4:=by kernel_rfl
@[simp] theorem am_132 (a b:List V):argMode K (.fn (.func 132) a b)=4:=by kernel_rfl
@[simp] theorem am_133 (a b:List V):argMode K (.fn (.func 133) a b)=4:=by kernel_rfl
@[simp] theorem am_134 (a b:List V):argMode K (.fn (.func 134) a b)=4:=by kernel_rfl
@[simp] theorem am_135 (a b:List V):argMode K (.fn (.func 135) a b)=4:=by kernel_rfl
@[simp] theorem am_136 (a b:List V):argMode K (.fn (.func 136) a b)=4:=by kernel_rfl
@[simp] theorem am_137 (a b:List V):argMode K (.fn (.func 137) a b)=4:=by kernel_rfl
@[simp] theorem am_138 (a b:List V):argMode K (.fn (.func 138) a b)=4:=by kernel_rfl
@[simp] theorem am_139 (a b:List V):argMode K (.fn (.func 139) a b)=4:=by kernel_rfl
@[simp] theorem am_140 (a b:List V):argMode K (.fn (.func 140) a b)=0:=by kernel_rfl
@[simp] theorem am_141 (a b:List V):argMode K (.fn (.func 141) a b)=4:=by kernel_rfl
@[simp] theorem am_142 (a b:List V):argMode K (.fn (.func 142) a b)=4:=by kernel_rfl
@[simp] theorem am_145 (a b:List V):argMode K (.fn (.func 145) a b)=4:=by kernel_rfl
@[simp] theorem am_146 (a b:List V):argMode K (.fn (.func 146) a b)=4:=by kernel_rfl
@[simp] theorem am_169 (a b:List V):argMode K (.fn (.func 169) a b)=4:=by kernel_rfl
@[simp] theorem am_170 (a b:List V):argMode K (.fn (.func 170) a b)=4:=by kernel_rfl
@[simp] theorem am_171 (a b:List V):argMode K (.fn (.func 171) a b)=4:=by kernel_rfl
@[simp] theorem am_172 (a b:List V):argMode K (.fn (.func 172) a b)=4:=by kernel_rfl
@[simp] theorem am_173 (a b:List V):argMode K (.fn (.func 173) a b)=4:=by kernel_rfl
@[simp] theorem am_174 (a b:List V):argMode K (.fn (.func 174) a b)=4:=by kernel_rfl
@[simp] theorem am_175 (a b:List V):argMode K (.fn (.func 175) a b)=4:=by kernel_rfl
@[simp] theorem am_176 (a b:List V):argMode K (.fn (.func 176) a b)=4:=by kernel_rfl
@[simp] theorem am_186 (a b:List V):argMode K (.fn (.func 186) a b)=4:=by kernel_rfl
@[simp] theorem am_187 (a b:List V):argMode K (.fn (.func 187) a b)=4:=by kernel_rfl
@[simp] theorem am_190 (a b:List V):argMode K (.fn (.func 190) a b)=4:=by kernel_rfl
@[simp] theorem am_191 (a b:List V):argMode K (.fn (.func 191) a b)=4:=by kernel_rfl
@[simp] theorem am_192 (a b:List V):argMode K (.fn (.func 192) a b)=4:=by kernel_rfl
@[simp] theorem am_196 (a b:List V):argMode K (.fn (.func 196) a b)=4:=by kernel_rfl
@[simp] theorem am_203 (a b:List V):argMode K (.fn (.func 203) a b)=4:=by kernel_rfl
@[simp] theorem am_204 (a b:List V):argMode K (.fn (.func 204) a b)=4:=by kernel_rfl
@[simp] theorem am_205 (a b:List V):argMode K (.fn (.func 205) a b)=4:=by kernel_rfl
@[simp] theorem am_206 (a b:List V):argMode K (.fn (.func 206) a b)=4:=by kernel_rfl
@[simp] theorem am_207 (a b:List V):argMode K (.fn (.func 207) a b)=4:=by kernel_rfl
@[simp] theorem am_208 (a b:List V):argMode K (.fn (.func 208) a b)=4:=by kernel_rfl
@[simp] theorem am_209 (a b:List V):argMode K (.fn (.func 209) a b)=4:=by kernel_rfl
@[simp] theorem am_210 (a b:List V):argMode K (.fn (.func 210) a b)=4:=by kernel_rfl
@[simp] theorem am_211 (a b:List V):argMode K (.fn (.func 211) a b)=4:=by kernel_rfl
@[simp] theorem am_235 (a b:List V):argMode K (.fn (.func 235) a b)=4:=by kernel_rfl
@[simp] theorem am_236 (a b:List V):argMode K (.fn (.func 236) a b)=4:=by kernel_rfl
@[simp] theorem am_237 (a b:List V):argMode K (.fn (.func 237) a b)=4:=by kernel_rfl
@[simp] theorem am_238 (a b:List V):argMode K (.fn (.func 238) a b)=4:=by kernel_rfl
@[simp] theorem am_239 (a b:List V):argMode K (.fn (.func 239) a b)=4:=by kernel_rfl
@[simp] theorem am_240 (a b:List V):argMode K (.fn (.func 240) a b)=4:=by kernel_rfl
@[simp] theorem am_241 (a b:List V):argMode K (.fn (.func 241) a b)=4:=by kernel_rfl
@[simp] theorem am_242 (a b:List V):argMode K (.fn (.func 242) a b)=4:=by kernel_rfl
@[simp] theorem am_243 (a b:List V):argMode K (.fn (.func 243) a b)=4:=by kernel_rfl
@[simp] theorem am_244 (a b:List V):argMode K (.fn (.func 244) a b)=4:=by kernel_rfl
@[simp] theorem am_264 (a b:List V):argMode K (.fn (.func 264) a b)=4:=by kernel_rfl
@[simp] theorem am_265 (a b:List V):argMode K (.fn (.func 265) a b)=4:=by kernel_rfl
@[simp] theorem am_267 (a b:List V):argMode K (.fn (.func 267) a b)=4:=by kernel_rfl
@[simp] theorem am_269 (a b:List V):argMode K (.fn (.func 269) a b)=4:=by kernel_rfl
@[simp] theorem am_270 (a b:List V):argMode K (.fn (.func 270) a b)=4:=by kernel_rfl
end Mw
namespace Mw
open Go Go.Proofs
variable {C:Cfg} {f:FuncId}
theorem loop_range {body:Code} (st:Nat→St) (n:Nat) {r:X × St} (hx:r.1≠.normal) (hb:∀ i,i < n→execL C f body (st i)=some (.normal,st (i+1))) (he:execL C f body (st n)=some r):execL C f (.loop body) (st 0)=some r:=by
 have key:∀ k i,i+k=n→execL C f (.loop body) (st i)=some r:=by
  intro k
  induction k with
  | zero =>
   intro i hi
   have:i=n:=by omega
   subst this
   rw [execL_loop,he]
   obtain ⟨y,s⟩:=r
   cases y with
   | normal=>exact absurd rfl hx
   | _=>rfl
  | succ k ih =>
   intro i hi
   rw [execL_loop,hb i (by omega)]
   exact ih (i+1) (by omega)
 exact key n 0 (by omega)
theorem wrap_id {x:Int} (h1:-9223372036854775808≤x) (h2:x≤9223372036854775807):wr .i64 x=x:=by
 rw [wr_eq]
 have e1:(2:Int) ^ IntKind.i64.bits=18446744073709551616:=by decide
 have e2:(2:Int) ^ (IntKind.i64.bits - 1)=9223372036854775808:=by decide
 unfold IntKind.wrap
 simp only [e1,e2,IntKind.signed,Bool.true_and,decide_eq_true_eq]
 split<;>omega
theorem wrapu_id {x:Int} (h1:0≤x) (h2:x≤18446744073709551615):wr .u64 x=x:=by
 rw [wr_eq]
 have e1:(2:Int) ^ IntKind.u64.bits=18446744073709551616:=by decide
 unfold IntKind.wrap
 simp only [e1,IntKind.signed,Bool.false_and]
 simp
 omega
theorem wrapu_pos (x:Int):0≤IntKind.wrap .u64 x:=by
 have e1:(2:Int) ^ IntKind.u64.bits=18446744073709551616:=by decide
 unfold IntKind.wrap
 simp only [e1,IntKind.signed,Bool.false_and]
 simp
 omega
theorem xor_pos (x y:Int):0≤au .xor x y:=by rw [au_eq]; exact wrapu_pos _
theorem shr_pos {x:Int} (y:Int) (h:0≤x):0≤au .shr x y:=by
 rw [au_eq]; exact Int.fdiv_nonneg h (Int.pow_nonneg (by decide))
theorem wrap_next {i n:Nat} (h:i < n) (hn:n≤4294967296):wr .i64 ((i:Int)+1)=(i:Int)+1:=wrap_id (by omega) (by omega)
theorem w0:wr .i64 0=0:=wrap_id (by omega) (by omega)
theorem hw0:wr .i64 0=0:=w0
theorem w1:wr .i64 1=1:=wrap_id (by omega) (by omega)
theorem hw1:wr .i64 1=1:=w1
theorem w2:wr .i64 2=2:=wrap_id (by omega) (by omega)
theorem hw2:wr .i64 2=2:=w2
theorem w3:wr .i64 3=3:=wrap_id (by omega) (by omega)
theorem hw3:wr .i64 3=3:=w3
theorem w4:wr .i64 4=4:=wrap_id (by omega) (by omega)
theorem hw4:wr .i64 4=4:=w4
theorem w5:wr .i64 5=5:=wrap_id (by omega) (by omega)
theorem hw5:wr .i64 5=5:=w5
end Mw
namespace Mw
open Go Go.Proofs
def ints (xs:List Int):List D:=xs.map (.int .i64)
@[simp] theorem ints_nil:ints []=[]:=rfl
@[simp] theorem ints_cons (x:Int) (xs:List Int):ints (x :: xs)=.int .i64 x :: ints xs:=rfl
@[simp] theorem ints_append (xs ys:List Int):ints (xs++ys)=ints xs++ints ys:=by simp [ints]
@[simp] theorem ints_getElem {xs:List Int} {i:Nat} (h:i < (ints xs).length):(ints xs)[i]=.int .i64 (xs[i]'(by simpa [ints] using h)):=by simp [ints]
@[simp] theorem ints_length (xs:List Int):(ints xs).length=xs.length:=by simp [ints]
theorem ints_get {xs:List Int} {i:Nat} (h:i < xs.length):(ints xs)[i]?=some (.int .i64 xs[i]):=by
 unfold ints; rw [List.getElem?_map,List.getElem?_eq_getElem h]; rfl
def IsInts (v:V) (xs:List Int):Prop:=v=.d (.list 1 (ints xs))∨(v=.d .nils∧xs=[])
def rodO (v:V) (k st:Int):O:=.cells [v,.d (.int .i64 k),.d (.int .u64 st)] false
end Mw
