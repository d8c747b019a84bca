/- DependFirst's tied card holds; no condition beyond the card's own. -/
import Derived.Test.YtdjnccgeajpegaaGreatDoorKb
set_option linter.unusedVariables false
set_option linter.unusedSimpArgs false
namespace Mw
open Go Go.Proofs
set_option maxRecDepth 100000
@[simp] theorem ave(hp:List O):ah K (.fn (.func 18) [] []) [] none hp=some (.ret (.d (.bool true)),false,hp,0):=aF (h:=(K.orc 18).get (by kernel_rfl)) (by kernel_rfl) _ _ _ hp (by kernel_rfl)
@[simp] theorem abE(hp:List O):ah K (.fn (.func 188) [] []) [.d (.int .i64 0),.d (.int .i64 1)] none hp=some (.ret (.d (.agg [(.str ⟨#[48]⟩),(.str ⟨#[49]⟩)])),false,hp,0):=aF (h:=(K.orc 188).get (by kernel_rfl)) (by kernel_rfl) _ _ _ hp (by kernel_rfl)
@[simp] theorem ab5(hp:List O):ah K (.fn (.func 188) [] []) [.d (.int .i64 1),.d (.int .i64 1)] none hp=some (.ret (.d (.agg [(.str ⟨#[49]⟩),(.str ⟨#[49]⟩)])),false,hp,0):=aF (h:=(K.orc 188).get (by kernel_rfl)) (by kernel_rfl) _ _ _ hp (by kernel_rfl)
@[simp] theorem Z9(hp:List O):ah K (.fn (.func 188) [] []) [.d (.int .i64 2),.d (.int .i64 1)] none hp=some (.ret (.d (.agg [(.str ⟨#[50]⟩),(.str ⟨#[49]⟩)])),false,hp,0):=aF (h:=(K.orc 188).get (by kernel_rfl)) (by kernel_rfl) _ _ _ hp (by kernel_rfl)
@[simp] theorem ZV(hp:List O):ah K (.fn (.func 188) [] []) [.d (.int .i64 3),.d (.int .i64 1)] none hp=some (.ret (.d (.agg [(.str ⟨#[51]⟩),(.str ⟨#[49]⟩)])),false,hp,0):=aF (h:=(K.orc 188).get (by kernel_rfl)) (by kernel_rfl) _ _ _ hp (by kernel_rfl)
@[simp] theorem Z5(hp:List O):ah K (.fn (.func 188) [] []) [.d (.int .i64 4),.d (.int .i64 1)] none hp=some (.ret (.d (.agg [(.str ⟨#[52]⟩),(.str ⟨#[49]⟩)])),false,hp,0):=aF (h:=(K.orc 188).get (by kernel_rfl)) (by kernel_rfl) _ _ _ hp (by kernel_rfl)
@[simp] theorem aaf(hp:List O):ah K (.fn (.func 188) [] []) [.d (.int .i64 5),.d (.int .i64 1)] none hp=some (.ret (.d (.agg [(.str ⟨#[53]⟩),(.str ⟨#[49]⟩)])),false,hp,0):=aF (h:=(K.orc 188).get (by kernel_rfl)) (by kernel_rfl) _ _ _ hp (by kernel_rfl)
@[simp] theorem aah(hp:List O):ah K (.fn (.func 188) [] []) [.d (.int .i64 1),.d (.int .i64 2)] none hp=some (.ret (.d (.agg [(.str ⟨#[49]⟩),(.str ⟨#[50]⟩)])),false,hp,0):=aF (h:=(K.orc 188).get (by kernel_rfl)) (by kernel_rfl) _ _ _ hp (by kernel_rfl)
@[simp] theorem abQ(hp:List O):ah K (.fn (.func 188) [] []) [.d (.int .i64 1),.d (.int .i64 3)] none hp=some (.ret (.d (.agg [(.str ⟨#[49]⟩),(.str ⟨#[51]⟩)])),false,hp,0):=aF (h:=(K.orc 188).get (by kernel_rfl)) (by kernel_rfl) _ _ _ hp (by kernel_rfl)
@[simp] theorem aaS(hp:List O):ah K (.fn (.func 188) [] []) [.d (.int .i64 2),.d (.int .i64 2)] none hp=some (.ret (.d (.agg [(.str ⟨#[49]⟩),(.str ⟨#[49]⟩)])),false,hp,0):=aF (h:=(K.orc 188).get (by kernel_rfl)) (by kernel_rfl) _ _ _ hp (by kernel_rfl)
@[simp] theorem U7(hp:List O):ah K (.fn (.func 188) [] []) [.d (.int .i64 2),.d (.int .i64 3)] none hp=some (.ret (.d (.agg [(.str ⟨#[50]⟩),(.str ⟨#[51]⟩)])),false,hp,0):=aF (h:=(K.orc 188).get (by kernel_rfl)) (by kernel_rfl) _ _ _ hp (by kernel_rfl)
@[simp] theorem amA(hp:List O):ah K (.fn (.func 189) [] []) [.d (.int .i64 0)] none hp=some (.ret (.d (.str ⟨#[48]⟩)),false,hp,0):=aF (h:=(K.orc 189).get (by kernel_rfl)) (by kernel_rfl) _ _ _ hp (by kernel_rfl)
@[simp] theorem amO(hp:List O):ah K (.fn (.func 189) [] []) [.d (.int .i64 1)] none hp=some (.ret (.d (.str ⟨#[49]⟩)),false,hp,0):=aF (h:=(K.orc 189).get (by kernel_rfl)) (by kernel_rfl) _ _ _ hp (by kernel_rfl)
@[simp] theorem al8(hp:List O):ah K (.fn (.func 189) [] []) [.d (.int .i64 2)] none hp=some (.ret (.d (.str ⟨#[50]⟩)),false,hp,0):=aF (h:=(K.orc 189).get (by kernel_rfl)) (by kernel_rfl) _ _ _ hp (by kernel_rfl)
@[simp] theorem aoC(hp:List O):ah K (.fn (.func 266) [] []) [.d (.agg [(.str ⟨#[48]⟩),(.str ⟨#[49]⟩)])] none hp=some (.ret (.d (.int .i64 0)),false,hp,0):=aF (h:=(K.orc 266).get (by kernel_rfl)) (by kernel_rfl) _ _ _ hp (by kernel_rfl)
@[simp] theorem amM(hp:List O):ah K (.fn (.func 266) [] []) [.d (.agg [(.str ⟨#[49]⟩),(.str ⟨#[49]⟩)])] none hp=some (.ret (.d (.int .i64 0)),false,hp,0):=aF (h:=(K.orc 266).get (by kernel_rfl)) (by kernel_rfl) _ _ _ hp (by kernel_rfl)
@[simp] theorem alr(hp:List O):ah K (.fn (.func 266) [] []) [.d (.agg [(.str ⟨#[50]⟩),(.str ⟨#[49]⟩)])] none hp=some (.ret (.d (.int .i64 0)),false,hp,0):=aF (h:=(K.orc 266).get (by kernel_rfl)) (by kernel_rfl) _ _ _ hp (by kernel_rfl)
@[simp] theorem ao0(hp:List O):ah K (.fn (.func 266) [] []) [.d (.agg [(.str ⟨#[51]⟩),(.str ⟨#[49]⟩)])] none hp=some (.ret (.d (.int .i64 0)),false,hp,0):=aF (h:=(K.orc 266).get (by kernel_rfl)) (by kernel_rfl) _ _ _ hp (by kernel_rfl)
@[simp] theorem aog(hp:List O):ah K (.fn (.func 266) [] []) [.d (.agg [(.str ⟨#[52]⟩),(.str ⟨#[49]⟩)])] none hp=some (.ret (.d (.int .i64 0)),false,hp,0):=aF (h:=(K.orc 266).get (by kernel_rfl)) (by kernel_rfl) _ _ _ hp (by kernel_rfl)
@[simp] theorem ajY(hp:List O):ah K (.fn (.func 266) [] []) [.d (.agg [(.str ⟨#[53]⟩),(.str ⟨#[49]⟩)])] none hp=some (.ret (.d (.int .i64 0)),false,hp,0):=aF (h:=(K.orc 266).get (by kernel_rfl)) (by kernel_rfl) _ _ _ hp (by kernel_rfl)
@[simp] theorem anm(hp:List O):ah K (.fn (.func 266) [] []) [.d (.agg [(.str ⟨#[49]⟩),(.str ⟨#[50]⟩)])] none hp=some (.ret (.d (.int .i64 0)),false,hp,0):=aF (h:=(K.orc 266).get (by kernel_rfl)) (by kernel_rfl) _ _ _ hp (by kernel_rfl)
@[simp] theorem amn(hp:List O):ah K (.fn (.func 266) [] []) [.d (.agg [(.str ⟨#[49]⟩),(.str ⟨#[51]⟩)])] none hp=some (.ret (.d (.int .i64 0)),false,hp,0):=aF (h:=(K.orc 266).get (by kernel_rfl)) (by kernel_rfl) _ _ _ hp (by kernel_rfl)
@[simp] theorem apF(hp:List O):ah K (.fn (.func 266) [] []) [.d (.agg [(.str ⟨#[50]⟩),(.str ⟨#[51]⟩)])] none hp=some (.ret (.d (.int .i64 0)),false,hp,0):=aF (h:=(K.orc 266).get (by kernel_rfl)) (by kernel_rfl) _ _ _ hp (by kernel_rfl)
@[simp] theorem aj2(hp:List O):ah K (.fn (.func 268) [] []) [.d (.str ⟨#[97]⟩)] none hp=some (.ret (.d (.bool true)),false,hp,0):=aF (h:=(K.orc 268).get (by kernel_rfl)) (by kernel_rfl) _ _ _ hp (by kernel_rfl)
@[simp] theorem alI(hp:List O):ah K (.fn (.func 268) [] []) [.d (.str ⟨#[98]⟩)] none hp=some (.ret (.d (.bool true)),false,hp,0):=aF (h:=(K.orc 268).get (by kernel_rfl)) (by kernel_rfl) _ _ _ hp (by kernel_rfl)
@[simp] theorem aj1(hp:List O):ah K (.fn (.func 268) [] []) [.d (.str ⟨#[99]⟩)] none hp=some (.ret (.d (.bool true)),false,hp,0):=aF (h:=(K.orc 268).get (by kernel_rfl)) (by kernel_rfl) _ _ _ hp (by kernel_rfl)
@[simp] theorem anx(hp:List O):ah K (.fn (.func 268) [] []) [.d (.str ⟨#[114,48]⟩)] none hp=some (.ret (.d (.bool true)),false,hp,0):=aF (h:=(K.orc 268).get (by kernel_rfl)) (by kernel_rfl) _ _ _ hp (by kernel_rfl)
@[simp] theorem alC(hp:List O):ah K (.fn (.func 268) [] []) [.d (.str ⟨#[114,49]⟩)] none hp=some (.ret (.d (.bool true)),false,hp,0):=aF (h:=(K.orc 268).get (by kernel_rfl)) (by kernel_rfl) _ _ _ hp (by kernel_rfl)
@[simp] theorem amo(hp:List O):ah K (.fn (.func 268) [] []) [.d (.str ⟨#[114,50]⟩)] none hp=some (.ret (.d (.bool true)),false,hp,0):=aF (h:=(K.orc 268).get (by kernel_rfl)) (by kernel_rfl) _ _ _ hp (by kernel_rfl)
@[simp] theorem aok(hp:List O):ah K (.fn (.func 268) [] []) [.d (.str ⟨#[105,48]⟩)] none hp=some (.ret (.d (.bool true)),false,hp,0):=aF (h:=(K.orc 268).get (by kernel_rfl)) (by kernel_rfl) _ _ _ hp (by kernel_rfl)
@[simp] theorem akc(hp:List O):ah K (.fn (.func 268) [] []) [.d (.str ⟨#[105,49]⟩)] none hp=some (.ret (.d (.bool true)),false,hp,0):=aF (h:=(K.orc 268).get (by kernel_rfl)) (by kernel_rfl) _ _ _ hp (by kernel_rfl)
@[simp] theorem amg(hp:List O):ah K (.fn (.func 165) [] []) [.d (.str ⟨#[114,48]⟩),.d (.int .u8 114),.d (.int .i64 1)] none hp=some (.ret (.d (.int .i64 0)),false,hp,0):=aF (h:=(K.orc 165).get (by kernel_rfl)) (by kernel_rfl) _ _ _ hp (by kernel_rfl)
@[simp] theorem anE(hp:List O):ah K (.fn (.func 165) [] []) [.d (.str ⟨#[114,48]⟩),.d (.int .u8 114),.d (.int .i64 2)] none hp=some (.ret (.d (.int .i64 0)),false,hp,0):=aF (h:=(K.orc 165).get (by kernel_rfl)) (by kernel_rfl) _ _ _ hp (by kernel_rfl)
@[simp] theorem apn(hp:List O):ah K (.fn (.func 165) [] []) [.d (.str ⟨#[114,48]⟩),.d (.int .u8 114),.d (.int .i64 3)] none hp=some (.ret (.d (.int .i64 0)),false,hp,0):=aF (h:=(K.orc 165).get (by kernel_rfl)) (by kernel_rfl) _ _ _ hp (by kernel_rfl)
@[simp] theorem ak0(hp:List O):ah K (.fn (.func 165) [] []) [.d (.str ⟨#[114,49]⟩),.d (.int .u8 114),.d (.int .i64 2)] none hp=some (.ret (.d (.int .i64 1)),false,hp,0):=aF (h:=(K.orc 165).get (by kernel_rfl)) (by kernel_rfl) _ _ _ hp (by kernel_rfl)
@[simp] theorem aoS(hp:List O):ah K (.fn (.func 165) [] []) [.d (.str ⟨#[114,49]⟩),.d (.int .u8 114),.d (.int .i64 3)] none hp=some (.ret (.d (.int .i64 1)),false,hp,0):=aF (h:=(K.orc 165).get (by kernel_rfl)) (by kernel_rfl) _ _ _ hp (by kernel_rfl)
@[simp] theorem an6(hp:List O):ah K (.fn (.func 165) [] []) [.d (.str ⟨#[114,50]⟩),.d (.int .u8 114),.d (.int .i64 3)] none hp=some (.ret (.d (.int .i64 2)),false,hp,0):=aF (h:=(K.orc 165).get (by kernel_rfl)) (by kernel_rfl) _ _ _ hp (by kernel_rfl)
@[simp] theorem ao8(hp:List O):ah K (.fn (.func 165) [] []) [.d (.str ⟨#[105,48]⟩),.d (.int .u8 114),.d (.int .i64 0)] none hp=some (.ret (.d (.int .i64 (-1))),false,hp,0):=aF (h:=(K.orc 165).get (by kernel_rfl)) (by kernel_rfl) _ _ _ hp (by kernel_rfl)
@[simp] theorem anp(hp:List O):ah K (.fn (.func 165) [] []) [.d (.str ⟨#[105,48]⟩),.d (.int .u8 114),.d (.int .i64 1)] none hp=some (.ret (.d (.int .i64 (-1))),false,hp,0):=aF (h:=(K.orc 165).get (by kernel_rfl)) (by kernel_rfl) _ _ _ hp (by kernel_rfl)
@[simp] theorem am6(hp:List O):ah K (.fn (.func 165) [] []) [.d (.str ⟨#[105,48]⟩),.d (.int .u8 114),.d (.int .i64 2)] none hp=some (.ret (.d (.int .i64 (-1))),false,hp,0):=aF (h:=(K.orc 165).get (by kernel_rfl)) (by kernel_rfl) _ _ _ hp (by kernel_rfl)
@[simp] theorem amV(hp:List O):ah K (.fn (.func 165) [] []) [.d (.str ⟨#[105,48]⟩),.d (.int .u8 114),.d (.int .i64 3)] none hp=some (.ret (.d (.int .i64 (-1))),false,hp,0):=aF (h:=(K.orc 165).get (by kernel_rfl)) (by kernel_rfl) _ _ _ hp (by kernel_rfl)
@[simp] theorem aj3(hp:List O):ah K (.fn (.func 165) [] []) [.d (.str ⟨#[105,48]⟩),.d (.int .u8 105),.d (.int .i64 1)] none hp=some (.ret (.d (.int .i64 0)),false,hp,0):=aF (h:=(K.orc 165).get (by kernel_rfl)) (by kernel_rfl) _ _ _ hp (by kernel_rfl)
@[simp] theorem anI(hp:List O):ah K (.fn (.func 165) [] []) [.d (.str ⟨#[105,48]⟩),.d (.int .u8 105),.d (.int .i64 2)] none hp=some (.ret (.d (.int .i64 0)),false,hp,0):=aF (h:=(K.orc 165).get (by kernel_rfl)) (by kernel_rfl) _ _ _ hp (by kernel_rfl)
@[simp] theorem anf(hp:List O):ah K (.fn (.func 165) [] []) [.d (.str ⟨#[105,49]⟩),.d (.int .u8 114),.d (.int .i64 0)] none hp=some (.ret (.d (.int .i64 (-1))),false,hp,0):=aF (h:=(K.orc 165).get (by kernel_rfl)) (by kernel_rfl) _ _ _ hp (by kernel_rfl)
@[simp] theorem akZ(hp:List O):ah K (.fn (.func 165) [] []) [.d (.str ⟨#[105,49]⟩),.d (.int .u8 114),.d (.int .i64 1)] none hp=some (.ret (.d (.int .i64 (-1))),false,hp,0):=aF (h:=(K.orc 165).get (by kernel_rfl)) (by kernel_rfl) _ _ _ hp (by kernel_rfl)
@[simp] theorem aox(hp:List O):ah K (.fn (.func 165) [] []) [.d (.str ⟨#[105,49]⟩),.d (.int .u8 114),.d (.int .i64 2)] none hp=some (.ret (.d (.int .i64 (-1))),false,hp,0):=aF (h:=(K.orc 165).get (by kernel_rfl)) (by kernel_rfl) _ _ _ hp (by kernel_rfl)
@[simp] theorem amX(hp:List O):ah K (.fn (.func 165) [] []) [.d (.str ⟨#[105,49]⟩),.d (.int .u8 114),.d (.int .i64 3)] none hp=some (.ret (.d (.int .i64 (-1))),false,hp,0):=aF (h:=(K.orc 165).get (by kernel_rfl)) (by kernel_rfl) _ _ _ hp (by kernel_rfl)
@[simp] theorem aol(hp:List O):ah K (.fn (.func 165) [] []) [.d (.str ⟨#[105,49]⟩),.d (.int .u8 105),.d (.int .i64 2)] none hp=some (.ret (.d (.int .i64 1)),false,hp,0):=aF (h:=(K.orc 165).get (by kernel_rfl)) (by kernel_rfl) _ _ _ hp (by kernel_rfl)
@[simp] theorem aCb(a b:List V):ay K (.fn (.func 18) a b)=0:=by kernel_rfl
@[simp] theorem aAN(a b:List V):ay K (.fn (.func 188) a b)=0:=by kernel_rfl
@[simp] theorem aAA(a b:List V):ay K (.fn (.func 189) a b)=0:=by kernel_rfl
@[simp] theorem azY(a b:List V):ay K (.fn (.func 266) a b)=0:=by kernel_rfl
@[simp] theorem aBm(a b:List V):ay K (.fn (.func 268) a b)=0:=by kernel_rfl
@[simp] theorem aAb(a b:List V):ay K (.fn (.func 165) a b)=0:=by kernel_rfl
@[simp] theorem aBh:K.P.underlying 3=some (.int .i64):=by kernel_rfl
@[simp] theorem av8:aA K 3=1:=by kernel_rfl
@[simp] theorem aAt:lD K 3=some (1,false):=by kernel_rfl
@[simp] theorem az8:cu K 3=false:=by kernel_rfl
@[simp] theorem azv:(K.P.info? 3).isSome=true:=by kernel_rfl
@[simp] theorem atX:aU K 3=some (.int .i64 0):=by kernel_rfl
@[simp] theorem aAT:K.P.underlying 4=some (.bool):=by kernel_rfl
@[simp] theorem atn:aA K 4=1:=by kernel_rfl
@[simp] theorem azZ:lD K 4=some (1,false):=by kernel_rfl
@[simp] theorem aAG:cu K 4=false:=by kernel_rfl
@[simp] theorem axQ:(K.P.info? 4).isSome=true:=by kernel_rfl
@[simp] theorem atb:aU K 4=some (.bool false):=by kernel_rfl
@[simp] theorem aAU:K.P.underlying 5=some (.int .u8):=by kernel_rfl
@[simp] theorem avP:aA K 5=1:=by kernel_rfl
@[simp] theorem az2:lD K 5=some (1,false):=by kernel_rfl
@[simp] theorem aAL:cu K 5=false:=by kernel_rfl
@[simp] theorem ayu:(K.P.info? 5).isSome=true:=by kernel_rfl
@[simp] theorem aue:aU K 5=some (.int .u8 0):=by kernel_rfl
@[simp] theorem aBg:K.P.underlying 9=some (.string):=by kernel_rfl
@[simp] theorem aug:aA K 9=1:=by kernel_rfl
@[simp] theorem aBE:lD K 9=some (1,false):=by kernel_rfl
@[simp] theorem aBr:cu K 9=false:=by kernel_rfl
@[simp] theorem azj:(K.P.info? 9).isSome=true:=by kernel_rfl
@[simp] theorem auK:aU K 9=some (.str ⟨#[]⟩):=by kernel_rfl
@[simp] theorem arB:aA K 20=1:=by kernel_rfl
@[simp] theorem at6:lD K 20=some (1,false):=by kernel_rfl
@[simp] theorem aqc:aU K 20=some (.nili):=by kernel_rfl
@[simp] theorem atp:K.P.underlying 22=some (.slice 3):=by kernel_rfl
@[simp] theorem aqF:aA K 22=1:=by kernel_rfl
@[simp] theorem azE:lD K 22=some (1,false):=by kernel_rfl
@[simp] theorem avA:cu K 22=false:=by kernel_rfl
@[simp] theorem aqf:(K.P.info? 22).isSome=true:=by kernel_rfl
@[simp] theorem arN:aU K 22=some (.nils):=by kernel_rfl
@[simp] theorem ap6:eU K 22=some 3:=by kernel_rfl
@[simp] theorem axG:K.P.underlying 25=some (.slice 168):=by kernel_rfl
@[simp] theorem arq:aA K 25=1:=by kernel_rfl
@[simp] theorem awz:lD K 25=some (1,false):=by kernel_rfl
@[simp] theorem azN:cu K 25=false:=by kernel_rfl
@[simp] theorem arJ:(K.P.info? 25).isSome=true:=by kernel_rfl
@[simp] theorem aq6:aU K 25=some (.nils):=by kernel_rfl
@[simp] theorem arH:eU K 25=some 168:=by kernel_rfl
@[simp] theorem ayo:K.P.underlying 26=some (.slice 47):=by kernel_rfl
@[simp] theorem aqr:aA K 26=1:=by kernel_rfl
@[simp] theorem auS:lD K 26=some (1,false):=by kernel_rfl
@[simp] theorem awh:cu K 26=false:=by kernel_rfl
@[simp] theorem arF:(K.P.info? 26).isSome=true:=by kernel_rfl
@[simp] theorem apS:aU K 26=some (.nils):=by kernel_rfl
@[simp] theorem arj:eU K 26=some 47:=by kernel_rfl
@[simp] theorem ahV:K.P.underlying 28=some (.struct #[⟨ "Arrays",25,0,false,"","",0⟩,⟨ "Steps",26,1,false,"","",24⟩]):=by kernel_rfl
@[simp] theorem ard:aA K 28=2:=by kernel_rfl
@[simp] theorem au9:lD K 28=some (2,true):=by kernel_rfl
@[simp] theorem atO:cu K 28=true:=by kernel_rfl
@[simp] theorem asa:(K.P.info? 28).isSome=true:=by kernel_rfl
@[simp] theorem aaL:aU K 28=some (.agg [.nils,.nils]):=by kernel_rfl
@[simp] theorem an5:aQ K 28 0=some ⟨ "Arrays",25,0,false,"","",0⟩:=by kernel_rfl
@[simp] theorem apk:aQ K 28 1=some ⟨ "Steps",26,1,false,"","",24⟩:=by kernel_rfl
@[simp] theorem avN:K.P.underlying 30=some (.int .i64):=by kernel_rfl
@[simp] theorem aqb:aA K 30=1:=by kernel_rfl
@[simp] theorem atr:lD K 30=some (1,false):=by kernel_rfl
@[simp] theorem aw5:cu K 30=false:=by kernel_rfl
@[simp] theorem ap8:(K.P.info? 30).isSome=true:=by kernel_rfl
@[simp] theorem apK:aU K 30=some (.int .i64 0):=by kernel_rfl
@[simp] theorem aua:K.P.underlying 33=some (.slice 87):=by kernel_rfl
@[simp] theorem aqs:aA K 33=1:=by kernel_rfl
@[simp] theorem ath:lD K 33=some (1,false):=by kernel_rfl
@[simp] theorem axK:cu K 33=false:=by kernel_rfl
@[simp] theorem aqv:(K.P.info? 33).isSome=true:=by kernel_rfl
@[simp] theorem aro:aU K 33=some (.nils):=by kernel_rfl
@[simp] theorem aq0:eU K 33=some 87:=by kernel_rfl
@[simp] theorem azt:K.P.underlying 37=some (.slice 142):=by kernel_rfl
@[simp] theorem aqE:aA K 37=1:=by kernel_rfl
@[simp] theorem ayi:lD K 37=some (1,false):=by kernel_rfl
@[simp] theorem avo:cu K 37=false:=by kernel_rfl
@[simp] theorem arE:(K.P.info? 37).isSome=true:=by kernel_rfl
@[simp] theorem aqG:aU K 37=some (.nils):=by kernel_rfl
@[simp] theorem aqV:eU K 37=some 142:=by kernel_rfl
@[simp] theorem aiz:K.P.underlying 39=some (.struct #[⟨ "Array",3,0,false,"","",0⟩,⟨ "At",37,1,false,"","",8⟩]):=by kernel_rfl
@[simp] theorem apN:aA K 39=2:=by kernel_rfl
@[simp] theorem av9:lD K 39=some (2,true):=by kernel_rfl
@[simp] theorem atg:cu K 39=true:=by kernel_rfl
@[simp] theorem ar7:(K.P.info? 39).isSome=true:=by kernel_rfl
@[simp] theorem aaG:aU K 39=some (.agg [.int .i64 0,.nils]):=by kernel_rfl
@[simp] theorem anD:aQ K 39 0=some ⟨ "Array",3,0,false,"","",0⟩:=by kernel_rfl
@[simp] theorem anv:aQ K 39 1=some ⟨ "At",37,1,false,"","",8⟩:=by kernel_rfl
@[simp] theorem atG:K.P.underlying 40=some (.slice 39):=by kernel_rfl
@[simp] theorem arI:aA K 40=1:=by kernel_rfl
@[simp] theorem avp:lD K 40=some (1,false):=by kernel_rfl
@[simp] theorem axZ:cu K 40=false:=by kernel_rfl
@[simp] theorem apT:(K.P.info? 40).isSome=true:=by kernel_rfl
@[simp] theorem aqu:aU K 40=some (.nils):=by kernel_rfl
@[simp] theorem apO:eU K 40=some 39:=by kernel_rfl
@[simp] theorem afL:K.P.underlying 42=some (.struct #[⟨ "Num",9,0,false,"","",0⟩,⟨ "Den",9,1,false,"","",16⟩]):=by kernel_rfl
@[simp] theorem ap4:aA K 42=2:=by kernel_rfl
@[simp] theorem avz:lD K 42=some (2,true):=by kernel_rfl
@[simp] theorem aus:cu K 42=true:=by kernel_rfl
@[simp] theorem aqw:(K.P.info? 42).isSome=true:=by kernel_rfl
@[simp] theorem abM:aU K 42=some (.agg [.str ⟨#[]⟩,.str ⟨#[]⟩]):=by kernel_rfl
@[simp] theorem alu:aQ K 42 0=some ⟨ "Num",9,0,false,"","",0⟩:=by kernel_rfl
@[simp] theorem ajT:aQ K 42 1=some ⟨ "Den",9,1,false,"","",16⟩:=by kernel_rfl
@[simp] theorem au7:K.P.underlying 43=some (.slice 45):=by kernel_rfl
@[simp] theorem ap2:aA K 43=1:=by kernel_rfl
@[simp] theorem azh:lD K 43=some (1,false):=by kernel_rfl
@[simp] theorem axp:cu K 43=false:=by kernel_rfl
@[simp] theorem ash:(K.P.info? 43).isSome=true:=by kernel_rfl
@[simp] theorem asg:aU K 43=some (.nils):=by kernel_rfl
@[simp] theorem apU:eU K 43=some 45:=by kernel_rfl
@[simp] theorem aeG:K.P.underlying 45=some (.struct #[⟨ "Op",3,0,false,"","",0⟩,⟨ "Num",42,1,false,"","",8⟩,⟨ "Name",9,3,false,"","",40⟩,⟨ "Size",3,4,false,"","",56⟩,⟨ "Args",43,5,false,"","",64⟩]):=by kernel_rfl
@[simp] theorem arY:aA K 45=6:=by kernel_rfl
@[simp] theorem asu:lD K 45=some (6,true):=by kernel_rfl
@[simp] theorem ayd:cu K 45=true:=by kernel_rfl
@[simp] theorem arz:(K.P.info? 45).isSome=true:=by kernel_rfl
@[simp] theorem aag:aU K 45=some (.agg [.int .i64 0,.str ⟨#[]⟩,.str ⟨#[]⟩,.str ⟨#[]⟩,.int .i64 0,.nils]):=by kernel_rfl
@[simp] theorem ajZ:aQ K 45 0=some ⟨ "Op",3,0,false,"","",0⟩:=by kernel_rfl
@[simp] theorem ako:aQ K 45 1=some ⟨ "Num",42,1,false,"","",8⟩:=by kernel_rfl
@[simp] theorem alv:aQ K 45 2=some ⟨ "Name",9,3,false,"","",40⟩:=by kernel_rfl
@[simp] theorem aou:aQ K 45 3=some ⟨ "Size",3,4,false,"","",56⟩:=by kernel_rfl
@[simp] theorem anq:aQ K 45 4=some ⟨ "Args",43,5,false,"","",64⟩:=by kernel_rfl
@[simp] theorem ae3:K.P.underlying 47=some (.struct #[⟨ "Sizes",22,0,false,"","",0⟩,⟨ "To",39,1,false,"","",24⟩,⟨ "From",40,3,false,"","",56⟩,⟨ "Body",45,4,false,"","",80⟩]):=by kernel_rfl
@[simp] theorem aq2:aA K 47=10:=by kernel_rfl
@[simp] theorem ayj:lD K 47=some (10,true):=by kernel_rfl
@[simp] theorem au3:cu K 47=true:=by kernel_rfl
@[simp] theorem aq3:(K.P.info? 47).isSome=true:=by kernel_rfl
@[simp] theorem acP:aU K 47=some (.agg [.nils,.int .i64 0,.nils,.nils,.int .i64 0,.str ⟨#[]⟩,.str ⟨#[]⟩,.str ⟨#[]⟩,.int .i64 0,.nils]):=by kernel_rfl
@[simp] theorem aj7:aQ K 47 0=some ⟨ "Sizes",22,0,false,"","",0⟩:=by kernel_rfl
@[simp] theorem amc:aQ K 47 1=some ⟨ "To",39,1,false,"","",24⟩:=by kernel_rfl
@[simp] theorem anM:aQ K 47 2=some ⟨ "From",40,3,false,"","",56⟩:=by kernel_rfl
@[simp] theorem amv:aQ K 47 3=some ⟨ "Body",45,4,false,"","",80⟩:=by kernel_rfl
@[simp] theorem arO:aA K 49=1:=by kernel_rfl
@[simp] theorem axn:lD K 49=some (1,false):=by kernel_rfl
@[simp] theorem atS:K.P.underlying 74=some (.slice 22):=by kernel_rfl
@[simp] theorem ap7:aA K 74=1:=by kernel_rfl
@[simp] theorem atF:lD K 74=some (1,false):=by kernel_rfl
@[simp] theorem ax2:cu K 74=false:=by kernel_rfl
@[simp] theorem aq7:(K.P.info? 74).isSome=true:=by kernel_rfl
@[simp] theorem aqN:aU K 74=some (.nils):=by kernel_rfl
@[simp] theorem aqa:eU K 74=some 22:=by kernel_rfl
@[simp] theorem ae4:K.P.underlying 86=some (.struct #[⟨ "Array",3,0,false,"","",0⟩,⟨ "Cell",3,1,false,"","",8⟩]):=by kernel_rfl
@[simp] theorem ar1:aA K 86=2:=by kernel_rfl
@[simp] theorem azM:lD K 86=some (2,true):=by kernel_rfl
@[simp] theorem awg:cu K 86=true:=by kernel_rfl
@[simp] theorem asj:(K.P.info? 86).isSome=true:=by kernel_rfl
@[simp] theorem acj:aU K 86=some (.agg [.int .i64 0,.int .i64 0]):=by kernel_rfl
@[simp] theorem al4:aQ K 86 0=some ⟨ "Array",3,0,false,"","",0⟩:=by kernel_rfl
@[simp] theorem ak4:aQ K 86 1=some ⟨ "Cell",3,1,false,"","",8⟩:=by kernel_rfl
@[simp] theorem azi:K.P.underlying 87=some (.slice 86):=by kernel_rfl
@[simp] theorem apV:aA K 87=1:=by kernel_rfl
@[simp] theorem avS:lD K 87=some (1,false):=by kernel_rfl
@[simp] theorem aw9:cu K 87=false:=by kernel_rfl
@[simp] theorem ap3:(K.P.info? 87).isSome=true:=by kernel_rfl
@[simp] theorem aqm:aU K 87=some (.nils):=by kernel_rfl
@[simp] theorem aqL:eU K 87=some 86:=by kernel_rfl
@[simp] theorem ayE:K.P.underlying 94=some (.int .u64):=by kernel_rfl
@[simp] theorem apW:aA K 94=1:=by kernel_rfl
@[simp] theorem ayN:lD K 94=some (1,false):=by kernel_rfl
@[simp] theorem axX:cu K 94=false:=by kernel_rfl
@[simp] theorem aqe:(K.P.info? 94).isSome=true:=by kernel_rfl
@[simp] theorem aq9:aU K 94=some (.int .u64 0):=by kernel_rfl
@[simp] theorem agm:K.P.underlying 96=some (.struct #[⟨ "list",22,0,false,"","metewand/metewandkit",0⟩,⟨ "at",3,1,false,"","metewand/metewandkit",24⟩,⟨ "state",94,2,false,"","metewand/metewandkit",32⟩]):=by kernel_rfl
@[simp] theorem arU:aA K 96=3:=by kernel_rfl
@[simp] theorem asV:lD K 96=some (3,true):=by kernel_rfl
@[simp] theorem atK:cu K 96=true:=by kernel_rfl
@[simp] theorem arX:(K.P.info? 96).isSome=true:=by kernel_rfl
@[simp] theorem acA:aU K 96=some (.agg [.nils,.int .i64 0,.int .u64 0]):=by kernel_rfl
@[simp] theorem amh:aQ K 96 0=some ⟨ "list",22,0,false,"","metewand/metewandkit",0⟩:=by kernel_rfl
@[simp] theorem an2:aQ K 96 1=some ⟨ "at",3,1,false,"","metewand/metewandkit",24⟩:=by kernel_rfl
@[simp] theorem akU:aQ K 96 2=some ⟨ "state",94,2,false,"","metewand/metewandkit",32⟩:=by kernel_rfl
@[simp] theorem axI:K.P.underlying 99=some (.pointer 105):=by kernel_rfl
@[simp] theorem ap1:aA K 99=1:=by kernel_rfl
@[simp] theorem avi:lD K 99=some (1,false):=by kernel_rfl
@[simp] theorem ayw:cu K 99=false:=by kernel_rfl
@[simp] theorem arW:(K.P.info? 99).isSome=true:=by kernel_rfl
@[simp] theorem aqX:aU K 99=some (.nilp):=by kernel_rfl
@[simp] theorem apX:K.P.underlying 102=some (.map 110 3):=by kernel_rfl
@[simp] theorem akA:aA K 102=1:=by kernel_rfl
@[simp] theorem aqi:lD K 102=some (1,false):=by kernel_rfl
@[simp] theorem ap5:cu K 102=false:=by kernel_rfl
@[simp] theorem alj:(K.P.info? 102).isSome=true:=by kernel_rfl
@[simp] theorem ak9:aU K 102=some (.nilm):=by kernel_rfl
@[simp] theorem ap0:CJ K 102=some (110,3):=by kernel_rfl
@[simp] theorem aqT:K.P.underlying 103=some (.slice 108):=by kernel_rfl
@[simp] theorem akH:aA K 103=1:=by kernel_rfl
@[simp] theorem apL:lD K 103=some (1,false):=by kernel_rfl
@[simp] theorem aqD:cu K 103=false:=by kernel_rfl
@[simp] theorem alW:(K.P.info? 103).isSome=true:=by kernel_rfl
@[simp] theorem akQ:aU K 103=some (.nils):=by kernel_rfl
@[simp] theorem akr:eU K 103=some 108:=by kernel_rfl
@[simp] theorem ZW:K.P.underlying 105=some (.struct #[⟨ "LoopTask",28,0,true,"","",0⟩,⟨ "list",103,2,false,"","metewand/depend",48⟩]):=by kernel_rfl
@[simp] theorem aoF:aA K 105=3:=by kernel_rfl
@[simp] theorem ar8:lD K 105=some (3,true):=by kernel_rfl
@[simp] theorem arl:cu K 105=true:=by kernel_rfl
@[simp] theorem aky:(K.P.info? 105).isSome=true:=by kernel_rfl
@[simp] theorem Zb:aU K 105=some (.agg [.nils,.nils,.nils]):=by kernel_rfl
@[simp] theorem ajl:aQ K 105 0=some ⟨ "LoopTask",28,0,true,"","",0⟩:=by kernel_rfl
@[simp] theorem ajp:aQ K 105 1=some ⟨ "list",103,2,false,"","metewand/depend",48⟩:=by kernel_rfl
@[simp] theorem apQ:K.P.underlying 106=some (.slice 110):=by kernel_rfl
@[simp] theorem aoh:aA K 106=1:=by kernel_rfl
@[simp] theorem ar9:lD K 106=some (1,false):=by kernel_rfl
@[simp] theorem aqR:cu K 106=false:=by kernel_rfl
@[simp] theorem amj:(K.P.info? 106).isSome=true:=by kernel_rfl
@[simp] theorem ake:aU K 106=some (.nils):=by kernel_rfl
@[simp] theorem aoB:eU K 106=some 110:=by kernel_rfl
@[simp] theorem aaj:K.P.underlying 108=some (.struct #[⟨ "step",3,0,false,"","metewand/depend",0⟩,⟨ "n",3,1,false,"","metewand/depend",8⟩,⟨ "at",22,2,false,"","metewand/depend",16⟩,⟨ "touched",106,3,false,"","metewand/depend",40⟩]):=by kernel_rfl
@[simp] theorem apb:aA K 108=4:=by kernel_rfl
@[simp] theorem arh:lD K 108=some (4,true):=by kernel_rfl
@[simp] theorem arM:cu K 108=true:=by kernel_rfl
@[simp] theorem akm:(K.P.info? 108).isSome=true:=by kernel_rfl
@[simp] theorem XH:aU K 108=some (.agg [.int .i64 0,.int .i64 0,.nils,.nils]):=by kernel_rfl
@[simp] theorem ajA:aQ K 108 0=some ⟨ "step",3,0,false,"","metewand/depend",0⟩:=by kernel_rfl
@[simp] theorem ajn:aQ K 108 1=some ⟨ "n",3,1,false,"","metewand/depend",8⟩:=by kernel_rfl
@[simp] theorem ajJ:aQ K 108 2=some ⟨ "at",22,2,false,"","metewand/depend",16⟩:=by kernel_rfl
@[simp] theorem ajw:aQ K 108 3=some ⟨ "touched",106,3,false,"","metewand/depend",40⟩:=by kernel_rfl
@[simp] theorem aaT:K.P.underlying 110=some (.array 2 3):=by kernel_rfl
@[simp] theorem amw:aA K 110=2:=by kernel_rfl
@[simp] theorem arw:lD K 110=some (2,true):=by kernel_rfl
@[simp] theorem apP:cu K 110=true:=by kernel_rfl
@[simp] theorem aoT:(K.P.info? 110).isSome=true:=by kernel_rfl
@[simp] theorem Yb:aU K 110=some (.agg [.int .i64 0,.int .i64 0]):=by kernel_rfl
@[simp] theorem alD:eU K 110=none:=by kernel_rfl
@[simp] theorem arb:wH K 110=some (2,3):=by kernel_rfl
@[simp] theorem ang:aA K 111=1:=by kernel_rfl
@[simp] theorem ar4:lD K 111=some (1,false):=by kernel_rfl
@[simp] theorem apt:aU K 111=some (.nilf):=by kernel_rfl
@[simp] theorem ar5:K.P.underlying 116=some (.array 4 4):=by kernel_rfl
@[simp] theorem amH:aA K 116=4:=by kernel_rfl
@[simp] theorem aqP:lD K 116=some (4,true):=by kernel_rfl
@[simp] theorem ar0:cu K 116=true:=by kernel_rfl
@[simp] theorem amS:(K.P.info? 116).isSome=true:=by kernel_rfl
@[simp] theorem akM:aU K 116=some (.agg [.bool false,.bool false,.bool false,.bool false]):=by kernel_rfl
@[simp] theorem ajW:eU K 116=none:=by kernel_rfl
@[simp] theorem aqp:wH K 116=some (4,4):=by kernel_rfl
@[simp] theorem acC:K.P.underlying 121=some (.struct #[⟨ "n",3,0,false,"","metewand/depend",0⟩,⟨ "m",3,1,false,"","metewand/depend",8⟩]):=by kernel_rfl
@[simp] theorem amm:aA K 121=2:=by kernel_rfl
@[simp] theorem arn:lD K 121=some (2,true):=by kernel_rfl
@[simp] theorem arV:cu K 121=true:=by kernel_rfl
@[simp] theorem anY:(K.P.info? 121).isSome=true:=by kernel_rfl
@[simp] theorem Xj:aU K 121=some (.agg [.int .i64 0,.int .i64 0]):=by kernel_rfl
@[simp] theorem ajE:aQ K 121 0=some ⟨ "n",3,0,false,"","metewand/depend",0⟩:=by kernel_rfl
@[simp] theorem ajF:aQ K 121 1=some ⟨ "m",3,1,false,"","metewand/depend",8⟩:=by kernel_rfl
@[simp] theorem apZ:K.P.underlying 130=some (.map 110 22):=by kernel_rfl
@[simp] theorem am2:aA K 130=1:=by kernel_rfl
@[simp] theorem aqZ:lD K 130=some (1,false):=by kernel_rfl
@[simp] theorem asb:cu K 130=false:=by kernel_rfl
@[simp] theorem akX:(K.P.info? 130).isSome=true:=by kernel_rfl
@[simp] theorem al2:aU K 130=some (.nilm):=by kernel_rfl
@[simp] theorem aqK:CJ K 130=some (110,22):=by kernel_rfl
@[simp] theorem aqB:K.P.underlying 134=some (.slice 138):=by kernel_rfl
@[simp] theorem alZ:aA K 134=1:=by kernel_rfl
@[simp] theorem ari:lD K 134=some (1,false):=by kernel_rfl
@[simp] theorem ap9:cu K 134=false:=by kernel_rfl
@[simp] theorem ajV:(K.P.info? 134).isSome=true:=by kernel_rfl
@[simp] theorem aly:aU K 134=some (.nils):=by kernel_rfl
@[simp] theorem apz:eU K 134=some 138:=by kernel_rfl
@[simp] theorem ar6:K.P.underlying 136=some (.slice 204):=by kernel_rfl
@[simp] theorem aoD:aA K 136=1:=by kernel_rfl
@[simp] theorem arC:lD K 136=some (1,false):=by kernel_rfl
@[simp] theorem aqk:cu K 136=false:=by kernel_rfl
@[simp] theorem amL:(K.P.info? 136).isSome=true:=by kernel_rfl
@[simp] theorem aoW:aU K 136=some (.nils):=by kernel_rfl
@[simp] theorem anA:eU K 136=some 204:=by kernel_rfl
@[simp] theorem acQ:K.P.underlying 138=some (.struct #[⟨ "constant",3,0,false,"","metewand/depend",0⟩,⟨ "terms",136,1,false,"","metewand/depend",8⟩]):=by kernel_rfl
@[simp] theorem amJ:aA K 138=2:=by kernel_rfl
@[simp] theorem arS:lD K 138=some (2,true):=by kernel_rfl
@[simp] theorem arD:cu K 138=true:=by kernel_rfl
@[simp] theorem am4:(K.P.info? 138).isSome=true:=by kernel_rfl
@[simp] theorem WH:aU K 138=some (.agg [.int .i64 0,.nils]):=by kernel_rfl
@[simp] theorem ajv:aQ K 138 0=some ⟨ "constant",3,0,false,"","metewand/depend",0⟩:=by kernel_rfl
@[simp] theorem aji:aQ K 138 1=some ⟨ "terms",136,1,false,"","metewand/depend",8⟩:=by kernel_rfl
@[simp] theorem acg:K.P.underlying 142=some (.struct #[⟨ "Const",3,0,false,"","",0⟩,⟨ "Coefs",22,1,false,"","",8⟩]):=by kernel_rfl
@[simp] theorem anL:aA K 142=2:=by kernel_rfl
@[simp] theorem arA:lD K 142=some (2,true):=by kernel_rfl
@[simp] theorem arp:cu K 142=true:=by kernel_rfl
@[simp] theorem ak5:(K.P.info? 142).isSome=true:=by kernel_rfl
@[simp] theorem VO:aU K 142=some (.agg [.int .i64 0,.nils]):=by kernel_rfl
@[simp] theorem ai4:aQ K 142 0=some ⟨ "Const",3,0,false,"","",0⟩:=by kernel_rfl
@[simp] theorem ajm:aQ K 142 1=some ⟨ "Coefs",22,1,false,"","",8⟩:=by kernel_rfl
@[simp] theorem acz:K.P.underlying 164=some (.struct #[⟨ "LoopTask",28,0,true,"","",0⟩]):=by kernel_rfl
@[simp] theorem alM:aA K 164=2:=by kernel_rfl
@[simp] theorem aql:lD K 164=some (2,true):=by kernel_rfl
@[simp] theorem arT:cu K 164=true:=by kernel_rfl
@[simp] theorem alE:(K.P.info? 164).isSome=true:=by kernel_rfl
@[simp] theorem YV:aU K 164=some (.agg [.nils,.nils]):=by kernel_rfl
@[simp] theorem ajo:aQ K 164 0=some ⟨ "LoopTask",28,0,true,"","",0⟩:=by kernel_rfl
@[simp] theorem aco:K.P.underlying 168=some (.struct #[⟨ "Name",9,0,false,"","",0⟩,⟨ "Sizes",22,1,false,"","",16⟩]):=by kernel_rfl
@[simp] theorem aph:aA K 168=2:=by kernel_rfl
@[simp] theorem aq8:lD K 168=some (2,true):=by kernel_rfl
@[simp] theorem arx:cu K 168=true:=by kernel_rfl
@[simp] theorem alg:(K.P.info? 168).isSome=true:=by kernel_rfl
@[simp] theorem VG:aU K 168=some (.agg [.str ⟨#[]⟩,.nils]):=by kernel_rfl
@[simp] theorem aja:aQ K 168 0=some ⟨ "Name",9,0,false,"","",0⟩:=by kernel_rfl
@[simp] theorem ajd:aQ K 168 1=some ⟨ "Sizes",22,1,false,"","",16⟩:=by kernel_rfl
@[simp] theorem aqh:K.P.underlying 195=some (.int .u64):=by kernel_rfl
@[simp] theorem akK:aA K 195=1:=by kernel_rfl
@[simp] theorem aqO:lD K 195=some (1,false):=by kernel_rfl
@[simp] theorem aq5:cu K 195=false:=by kernel_rfl
@[simp] theorem anz:(K.P.info? 195).isSome=true:=by kernel_rfl
@[simp] theorem aoc:aU K 195=some (.int .u64 0):=by kernel_rfl
@[simp] theorem aaC:K.P.underlying 204=some (.struct #[⟨ "by",3,0,false,"","metewand/depend",0⟩,⟨ "most",3,1,false,"","metewand/depend",8⟩]):=by kernel_rfl
@[simp] theorem am0:aA K 204=2:=by kernel_rfl
@[simp] theorem asi:lD K 204=some (2,true):=by kernel_rfl
@[simp] theorem apR:cu K 204=true:=by kernel_rfl
@[simp] theorem aos:(K.P.info? 204).isSome=true:=by kernel_rfl
@[simp] theorem X3:aU K 204=some (.agg [.int .i64 0,.int .i64 0]):=by kernel_rfl
@[simp] theorem ajD:aQ K 204 0=some ⟨ "by",3,0,false,"","metewand/depend",0⟩:=by kernel_rfl
@[simp] theorem ajb:aQ K 204 1=some ⟨ "most",3,1,false,"","metewand/depend",8⟩:=by kernel_rfl
@[simp] theorem arf:K.P.underlying 216=some (.map 9 4):=by kernel_rfl
@[simp] theorem ano:aA K 216=1:=by kernel_rfl
@[simp] theorem aqz:lD K 216=some (1,false):=by kernel_rfl
@[simp] theorem aqH:cu K 216=false:=by kernel_rfl
@[simp] theorem amu:(K.P.info? 216).isSome=true:=by kernel_rfl
@[simp] theorem aml:aU K 216=some (.nilm):=by kernel_rfl
@[simp] theorem aqg:CJ K 216=some (9,4):=by kernel_rfl
@[simp] theorem aax:K.P.underlying 234=some (.struct #[⟨ "places",111,0,false,"","metewand/depend",0⟩]):=by kernel_rfl
@[simp] theorem apg:aA K 234=1:=by kernel_rfl
@[simp] theorem apI:lD K 234=some (1,true):=by kernel_rfl
@[simp] theorem ase:cu K 234=true:=by kernel_rfl
@[simp] theorem aoz:(K.P.info? 234).isSome=true:=by kernel_rfl
@[simp] theorem Zx:aU K 234=some (.agg [.nilf]):=by kernel_rfl
@[simp] theorem ai5:aQ K 234 0=some ⟨ "places",111,0,false,"","metewand/depend",0⟩:=by kernel_rfl
@[simp] theorem aoV:aA K 271=1:=by kernel_rfl
@[simp] theorem aqn:lD K 271=some (1,false):=by kernel_rfl
@[simp] theorem anT:aU K 271=some (.nili):=by kernel_rfl
@[simp] theorem abY:K.P.underlying 274=some (.struct #[⟨ "code",30,0,false,"","metewand/read",0⟩]):=by kernel_rfl
@[simp] theorem amr:aA K 274=1:=by kernel_rfl
@[simp] theorem aqt:lD K 274=some (1,true):=by kernel_rfl
@[simp] theorem ark:cu K 274=true:=by kernel_rfl
@[simp] theorem am5:(K.P.info? 274).isSome=true:=by kernel_rfl
@[simp] theorem Xk:aU K 274=some (.agg [.int .i64 0]):=by kernel_rfl
@[simp] theorem ajB:aQ K 274 0=some ⟨ "code",30,0,false,"","metewand/read",0⟩:=by kernel_rfl
@[simp] theorem aq1:K.P.underlying 276=some (.pointer 274):=by kernel_rfl
@[simp] theorem akx:aA K 276=1:=by kernel_rfl
@[simp] theorem aqo:lD K 276=some (1,false):=by kernel_rfl
@[simp] theorem aq4:cu K 276=false:=by kernel_rfl
@[simp] theorem anj:(K.P.info? 276).isSome=true:=by kernel_rfl
@[simp] theorem akz:aU K 276=some (.nilp):=by kernel_rfl
@[simp] theorem abD:K.P.underlying 309=some (.array 2 3):=by kernel_rfl
@[simp] theorem apf:aA K 309=2:=by kernel_rfl
@[simp] theorem aru:lD K 309=some (2,true):=by kernel_rfl
@[simp] theorem asn:cu K 309=true:=by kernel_rfl
@[simp] theorem apy:(K.P.info? 309).isSome=true:=by kernel_rfl
@[simp] theorem YT:aU K 309=some (.agg [.int .i64 0,.int .i64 0]):=by kernel_rfl
@[simp] theorem akt:eU K 309=none:=by kernel_rfl
@[simp] theorem aqy:wH K 309=some (2,3):=by kernel_rfl
@[simp] theorem awN(n:Nat):gI K 3 n=(decide (n≤4294967296)&&decide (n*8≤4294967296)):=ig (by kernel_rfl) (by kernel_rfl) n
@[simp] theorem ara(n:Nat):gI K 39 n=(decide (n≤4294967296)&&decide (n*32≤4294967296)):=ig (by kernel_rfl) (by kernel_rfl) n
@[simp] theorem aqQ(n:Nat):gI K 47 n=(decide (n≤4294967296)&&decide (n*168≤4294967296)):=ig (by kernel_rfl) (by kernel_rfl) n
@[simp] theorem arR(n:Nat):gI K 86 n=(decide (n≤4294967296)&&decide (n*16≤4294967296)):=ig (by kernel_rfl) (by kernel_rfl) n
@[simp] theorem apM(n:Nat):gI K 87 n=(decide (n≤4294967296)&&decide (n*24≤4294967296)):=ig (by kernel_rfl) (by kernel_rfl) n
@[simp] theorem aoN(n:Nat):gI K 108 n=(decide (n≤4294967296)&&decide (n*64≤4294967296)):=ig (by kernel_rfl) (by kernel_rfl) n
@[simp] theorem aob(n:Nat):gI K 110 n=(decide (n≤4294967296)&&decide (n*16≤4294967296)):=ig (by kernel_rfl) (by kernel_rfl) n
@[simp] theorem ape(n:Nat):gI K 138 n=(decide (n≤4294967296)&&decide (n*32≤4294967296)):=ig (by kernel_rfl) (by kernel_rfl) n
@[simp] theorem apE(n:Nat):gI K 142 n=(decide (n≤4294967296)&&decide (n*32≤4294967296)):=ig (by kernel_rfl) (by kernel_rfl) n
@[simp] theorem an4(n:Nat):gI K 204 n=(decide (n≤4294967296)&&decide (n*16≤4294967296)):=ig (by kernel_rfl) (by kernel_rfl) n
@[simp] theorem azK(n:Nat):gY K 3 n=(decide (n≤4294967296)&&decide (n*8≤4294967296)):=gy (by kernel_rfl) n
@[simp] theorem arZ(n:Nat):gY K 39 n=(decide (n≤4294967296)&&decide (n*32≤4294967296)):=gy (by kernel_rfl) n
@[simp] theorem ar2(n:Nat):gY K 47 n=(decide (n≤4294967296)&&decide (n*168≤4294967296)):=gy (by kernel_rfl) n
@[simp] theorem aqx(n:Nat):gY K 86 n=(decide (n≤4294967296)&&decide (n*16≤4294967296)):=gy (by kernel_rfl) n
@[simp] theorem aqI(n:Nat):gY K 87 n=(decide (n≤4294967296)&&decide (n*24≤4294967296)):=gy (by kernel_rfl) n
@[simp] theorem akp(n:Nat):gY K 108 n=(decide (n≤4294967296)&&decide (n*64≤4294967296)):=gy (by kernel_rfl) n
@[simp] theorem ak3(n:Nat):gY K 110 n=(decide (n≤4294967296)&&decide (n*16≤4294967296)):=gy (by kernel_rfl) n
@[simp] theorem amx(n:Nat):gY K 138 n=(decide (n≤4294967296)&&decide (n*32≤4294967296)):=gy (by kernel_rfl) n
@[simp] theorem ale(n:Nat):gY K 142 n=(decide (n≤4294967296)&&decide (n*32≤4294967296)):=gy (by kernel_rfl) n
@[simp] theorem an0(n:Nat):gY K 204 n=(decide (n≤4294967296)&&decide (n*16≤4294967296)):=gy (by kernel_rfl) n
@[simp] theorem ajP(parts:List (Nat×V)):dO K 28 parts=gG [.nils,.nils] [(0,1),(1,1)] parts:=aX aaL ahV (by kernel_rfl) (by kernel_rfl) parts
@[simp] theorem akW(parts:List (Nat×V)):dO K 39 parts=gG [.int .i64 0,.nils] [(0,1),(1,1)] parts:=aX aaG aiz (by kernel_rfl) (by kernel_rfl) parts
@[simp] theorem an8(parts:List (Nat×V)):dO K 42 parts=gG [.str ⟨#[]⟩,.str ⟨#[]⟩] [(0,1),(1,1)] parts:=aX abM afL (by kernel_rfl) (by kernel_rfl) parts
@[simp] theorem ao7(parts:List (Nat×V)):dO K 45 parts=gG [.int .i64 0,.str ⟨#[]⟩,.str ⟨#[]⟩,.str ⟨#[]⟩,.int .i64 0,.nils] [(0,1),(1,2),(3,1),(4,1),(5,1)] parts:=aX aag aeG (by kernel_rfl) (by kernel_rfl) parts
@[simp] theorem aoX(parts:List (Nat×V)):dO K 47 parts=gG [.nils,.int .i64 0,.nils,.nils,.int .i64 0,.str ⟨#[]⟩,.str ⟨#[]⟩,.str ⟨#[]⟩,.int .i64 0,.nils] [(0,1),(1,2),(3,1),(4,6)] parts:=aX acP ae3 (by kernel_rfl) (by kernel_rfl) parts
@[simp] theorem ala(parts:List (Nat×V)):dO K 86 parts=gG [.int .i64 0,.int .i64 0] [(0,1),(1,1)] parts:=aX acj ae4 (by kernel_rfl) (by kernel_rfl) parts
@[simp] theorem akG(parts:List (Nat×V)):dO K 96 parts=gG [.nils,.int .i64 0,.int .u64 0] [(0,1),(1,1),(2,1)] parts:=aX acA agm (by kernel_rfl) (by kernel_rfl) parts
@[simp] theorem ai0(parts:List (Nat×V)):dO K 105 parts=gG [.nils,.nils,.nils] [(0,2),(2,1)] parts:=aX Zb ZW (by kernel_rfl) (by kernel_rfl) parts
@[simp] theorem ai1(parts:List (Nat×V)):dO K 108 parts=gG [.int .i64 0,.int .i64 0,.nils,.nils] [(0,1),(1,1),(2,1),(3,1)] parts:=aX XH aaj (by kernel_rfl) (by kernel_rfl) parts
@[simp] theorem ai2(parts:List (Nat×V)):dO K 110 parts=AV [.int .i64 0,.int .i64 0] 1 parts:=BI Yb aaT (by kernel_rfl) (by kernel_rfl) parts
@[simp] theorem aiZ(parts:List (Nat×V)):dO K 121 parts=gG [.int .i64 0,.int .i64 0] [(0,1),(1,1)] parts:=aX Xj acC (by kernel_rfl) (by kernel_rfl) parts
@[simp] theorem ajy(parts:List (Nat×V)):dO K 138 parts=gG [.int .i64 0,.nils] [(0,1),(1,1)] parts:=aX WH acQ (by kernel_rfl) (by kernel_rfl) parts
@[simp] theorem ai7(parts:List (Nat×V)):dO K 142 parts=gG [.int .i64 0,.nils] [(0,1),(1,1)] parts:=aX VO acg (by kernel_rfl) (by kernel_rfl) parts
@[simp] theorem ajh(parts:List (Nat×V)):dO K 164 parts=gG [.nils,.nils] [(0,2)] parts:=aX YV acz (by kernel_rfl) (by kernel_rfl) parts
@[simp] theorem aju(parts:List (Nat×V)):dO K 168 parts=gG [.str ⟨#[]⟩,.nils] [(0,1),(1,1)] parts:=aX VG aco (by kernel_rfl) (by kernel_rfl) parts
@[simp] theorem ajg(parts:List (Nat×V)):dO K 204 parts=gG [.int .i64 0,.int .i64 0] [(0,1),(1,1)] parts:=aX X3 aaC (by kernel_rfl) (by kernel_rfl) parts
@[simp] theorem ai6(parts:List (Nat×V)):dO K 234 parts=gG [.nilf] [(0,1)] parts:=aX Zx aax (by kernel_rfl) (by kernel_rfl) parts
@[simp] theorem aiY(parts:List (Nat×V)):dO K 274 parts=gG [.int .i64 0] [(0,1)] parts:=aX Xk abY (by kernel_rfl) (by kernel_rfl) parts
@[simp] theorem ai3(parts:List (Nat×V)):dO K 309 parts=AV [.int .i64 0,.int .i64 0] 1 parts:=BI YT abD (by kernel_rfl) (by kernel_rfl) parts
@[simp] theorem aCd(a b:List V):ay K (.fn (.func 8) a b)=4:=by kernel_rfl
@[simp] theorem aBV(a b:List V):ay K (.fn (.func 12) a b)=4:=by kernel_rfl
@[simp] theorem aAv(a b:List V):ay K (.fn (.func 13) a b)=4:=by kernel_rfl
@[simp] theorem aBt(a b:List V):ay K (.fn (.func 14) a b)=4:=by kernel_rfl
@[simp] theorem aAc(a b:List V):ay K (.fn (.func 15) a b)=4:=by kernel_rfl
@[simp] theorem aBT(a b:List V):ay K (.fn (.func 16) a b)=4:=by kernel_rfl
@[simp] theorem aBJ(a b:List V):ay K (.fn (.func 17) a b)=4:=by kernel_rfl
@[simp] theorem aAs(a b:List V):ay K (.fn (.func 20) a b)=4:=by kernel_rfl
@[simp] theorem aAg(a b:List V):ay K (.fn (.func 21) a b)=4:=by kernel_rfl
@[simp] theorem aA8(a b:List V):ay K (.fn (.func 24) a b)=4:=by kernel_rfl
@[simp] theorem aAr(a b:List V):ay K (.fn (.func 26) a b)=4:=by kernel_rfl
@[simp] theorem aAI(a b:List V):ay K (.fn (.func 28) a b)=4:=by kernel_rfl
@[simp] theorem aBe(a b:List V):ay K (.fn (.func 30) a b)=4:=by kernel_rfl
@[simp] theorem aAn(a b:List V):ay K (.fn (.func 32) a b)=4:=by kernel_rfl
@[simp] theorem aAz(a b:List V):ay K (.fn (.func 34) a b)=4:=by kernel_rfl
@[simp] theorem aA0(a b:List V):ay K (.fn (.func 42) a b)=4:=by kernel_rfl
@[simp] theorem aBs(a b:List V):ay K (.fn (.func 44) a b)=4:=by kernel_rfl
@[simp] theorem aBS(a b:List V):ay K (.fn (.func 47) a b)=4:=by kernel_rfl
@[simp] theorem aAm(a b:List V):ay K (.fn (.func 48) a b)=4:=by kernel_rfl
@[simp] theorem aBu(a b:List V):ay K (.fn (.func 49) a b)=4:=by kernel_rfl
@[simp] theorem aBU(a b:List V):ay K (.fn (.func 50) a b)=4:=by kernel_rfl
@[simp] theorem az4(a b:List V):ay K (.fn (.func 51) a b)=4:=by kernel_rfl
@[simp] theorem aAV(a b:List V):ay K (.fn (.func 52) a b)=4:=by kernel_rfl
@[simp] theorem aAZ(a b:List V):ay K (.fn (.func 53) a b)=4:=by kernel_rfl
@[simp] theorem aAM(a b:List V):ay K (.fn (.func 58) a b)=4:=by kernel_rfl
@[simp] theorem azQ(a b:List V):ay K (.fn (.func 61) a b)=4:=by kernel_rfl
@[simp] theorem aBp(a b:List V):ay K (.fn (.func 62) a b)=4:=by kernel_rfl
@[simp] theorem aA7(a b:List V):ay K (.fn (.func 63) a b)=4:=by kernel_rfl
@[simp] theorem aAl(a b:List V):ay K (.fn (.func 64) a b)=4:=by kernel_rfl
@[simp] theorem az3(a b:List V):ay K (.fn (.func 65) a b)=4:=by kernel_rfl
@[simp] theorem aAd(a b:List V):ay K (.fn (.func 66) a b)=4:=by kernel_rfl
@[simp] theorem azX(a b:List V):ay K (.fn (.func 67) a b)=4:=by kernel_rfl
@[simp] theorem aAY(a b:List V):ay K (.fn (.func 68) a b)=4:=by kernel_rfl
@[simp] theorem aBj(a b:List V):ay K (.fn (.func 69) a b)=4:=by kernel_rfl
@[simp] theorem aBz(a b:List V):ay K (.fn (.func 70) a b)=4:=by kernel_rfl
@[simp] theorem aBN(a b:List V):ay K (.fn (.func 71) a b)=4:=by kernel_rfl
@[simp] theorem aBq(a b:List V):ay K (.fn (.func 72) a b)=4:=by kernel_rfl
@[simp] theorem aAH(a b:List V):ay K (.fn (.func 73) a b)=4:=by kernel_rfl
@[simp] theorem aAj(a b:List V):ay K (.fn (.func 76) a b)=4:=by kernel_rfl
@[simp] theorem azW(a b:List V):ay K (.fn (.func 80) a b)=4:=by kernel_rfl
@[simp] theorem aBQ(a b:List V):ay K (.fn (.func 81) a b)=4:=by kernel_rfl
@[simp] theorem aAo(a b:List V):ay K (.fn (.func 83) a b)=4:=by kernel_rfl
@[simp] theorem aBA(a b:List V):ay K (.fn (.func 84) a b)=4:=by kernel_rfl
@[simp] theorem aAe(a b:List V):ay K (.fn (.func 85) a b)=4:=by kernel_rfl
@[simp] theorem aA3(a b:List V):ay K (.fn (.func 86) a b)=4:=by kernel_rfl
@[simp] theorem aBH(a b:List V):ay K (.fn (.func 89) a b)=4:=by kernel_rfl
@[simp] theorem aBo(a b:List V):ay K (.fn (.func 93) a b)=4:=by kernel_rfl
@[simp] theorem aBL(a b:List V):ay K (.fn (.func 95) a b)=4:=by kernel_rfl
@[simp] theorem aA6(a b:List V):ay K (.fn (.func 97) a b)=4:=by kernel_rfl
@[simp] theorem aBd(a b:List V):ay K (.fn (.func 98) a b)=4:=by kernel_rfl
@[simp] theorem aAX(a b:List V):ay K (.fn (.func 99) a b)=4:=by kernel_rfl
@[simp] theorem auZ(a b:List V):ay K (.fn (.func 100) a b)=4:=by kernel_rfl
@[simp] theorem asD(a b:List V):ay K (.fn (.func 101) a b)=0:=by kernel_rfl
@[simp] theorem ax6(a b:List V):ay K (.fn (.func 104) a b)=4:=by kernel_rfl
@[simp] theorem avD(a b:List V):ay K (.fn (.func 108) a b)=4:=by kernel_rfl
@[simp] theorem ayD(a b:List V):ay K (.fn (.func 109) a b)=4:=by kernel_rfl
@[simp] theorem axi(a b:List V):ay K (.fn (.func 110) a b)=4:=by kernel_rfl
@[simp] theorem aym(a b:List V):ay K (.fn (.func 113) a b)=4:=by kernel_rfl
@[simp] theorem axN(a b:List V):ay K (.fn (.func 114) a b)=4:=by kernel_rfl
@[simp] theorem atJ(a b:List V):ay K (.fn (.func 120) a b)=4:=by kernel_rfl
@[simp] theorem aza(a b:List V):ay K (.fn (.func 127) a b)=4:=by kernel_rfl
@[simp] theorem atU(a b:List V):ay K (.fn (.func 128) a b)=4:=by kernel_rfl
@[simp] theorem ava(a b:List V):ay K (.fn (.func 129) a b)=4:=by kernel_rfl
@[simp] theorem avQ(a b:List V):ay K (.fn (.func 130) a b)=4:=by kernel_rfl
@[simp] theorem av2(a b:List V):ay K (.fn (.func 131) a b)=4:=by kernel_rfl
@[simp] theorem ayB(a b:List V):ay K (.fn (.func 132) a b)=4:=by kernel_rfl
@[simp] theorem asL(a b:List V):ay K (.fn (.func 133) a b)=4:=by kernel_rfl
@[simp] theorem avE(a b:List V):ay K (.fn (.func 134) a b)=4:=by kernel_rfl
@[simp] theorem avM(a b:List V):ay K (.fn (.func 135) a b)=4:=by kernel_rfl
@[simp] theorem ayJ(a b:List V):ay K (.fn (.func 136) a b)=4:=by kernel_rfl
@[simp] theorem avX(a b:List V):ay K (.fn (.func 137) a b)=4:=by kernel_rfl
@[simp] theorem auj(a b:List V):ay K (.fn (.func 138) a b)=4:=by kernel_rfl
@[simp] theorem awn(a b:List V):ay K (.fn (.func 139) a b)=4:=by kernel_rfl
@[simp] theorem awO(a b:List V):ay K (.fn (.func 140) a b)=0:=by kernel_rfl
@[simp] theorem auA(a b:List V):ay K (.fn (.func 141) a b)=4:=by kernel_rfl
@[simp] theorem atc(a b:List V):ay K (.fn (.func 142) a b)=4:=by kernel_rfl
@[simp] theorem aw2(a b:List V):ay K (.fn (.func 145) a b)=4:=by kernel_rfl
@[simp] theorem asR(a b:List V):ay K (.fn (.func 146) a b)=4:=by kernel_rfl
@[simp] theorem auQ(a b:List V):ay K (.fn (.func 150) a b)=4:=by kernel_rfl
@[simp] theorem axP(a b:List V):ay K (.fn (.func 151) a b)=4:=by kernel_rfl
@[simp] theorem axy(a b:List V):ay K (.fn (.func 154) a b)=4:=by kernel_rfl
@[simp] theorem ayT(a b:List V):ay K (.fn (.func 169) a b)=4:=by kernel_rfl
@[simp] theorem azG(a b:List V):ay K (.fn (.func 170) a b)=4:=by kernel_rfl
@[simp] theorem auu(a b:List V):ay K (.fn (.func 171) a b)=4:=by kernel_rfl
@[simp] theorem aze(a b:List V):ay K (.fn (.func 172) a b)=4:=by kernel_rfl
@[simp] theorem azL(a b:List V):ay K (.fn (.func 173) a b)=4:=by kernel_rfl
@[simp] theorem ayp(a b:List V):ay K (.fn (.func 174) a b)=4:=by kernel_rfl
@[simp] theorem ast(a b:List V):ay K (.fn (.func 175) a b)=4:=by kernel_rfl
@[simp] theorem av4(a b:List V):ay K (.fn (.func 176) a b)=4:=by kernel_rfl
@[simp] theorem axo(a b:List V):ay K (.fn (.func 186) a b)=4:=by kernel_rfl
@[simp] theorem ayF(a b:List V):ay K (.fn (.func 187) a b)=4:=by kernel_rfl
@[simp] theorem azJ(a b:List V):ay K (.fn (.func 190) a b)=4:=by kernel_rfl
@[simp] theorem auk(a b:List V):ay K (.fn (.func 191) a b)=4:=by kernel_rfl
@[simp] theorem asX(a b:List V):ay K (.fn (.func 192) a b)=4:=by kernel_rfl
@[simp] theorem ax0(a b:List V):ay K (.fn (.func 196) a b)=4:=by kernel_rfl
@[simp] theorem ayU(a b:List V):ay K (.fn (.func 198) a b)=4:=by kernel_rfl
@[simp] theorem as6(a b:List V):ay K (.fn (.func 203) a b)=4:=by kernel_rfl
@[simp] theorem ay0(a b:List V):ay K (.fn (.func 204) a b)=4:=by kernel_rfl
@[simp] theorem aur(a b:List V):ay K (.fn (.func 205) a b)=4:=by kernel_rfl
@[simp] theorem atM(a b:List V):ay K (.fn (.func 206) a b)=4:=by kernel_rfl
@[simp] theorem aeX(a b:List V):ay K (.fn (.func 207) a b)=4:=by kernel_rfl
@[simp] theorem ayA(a b:List V):ay K (.fn (.func 208) a b)=4:=by kernel_rfl
@[simp] theorem av3(a b:List V):ay K (.fn (.func 209) a b)=4:=by kernel_rfl
@[simp] theorem av1(a b:List V):ay K (.fn (.func 210) a b)=4:=by kernel_rfl
@[simp] theorem axJ(a b:List V):ay K (.fn (.func 211) a b)=4:=by kernel_rfl
@[simp] theorem auH(a b:List V):ay K (.fn (.func 235) a b)=4:=by kernel_rfl
@[simp] theorem awu(a b:List V):ay K (.fn (.func 236) a b)=4:=by kernel_rfl
@[simp] theorem aso(a b:List V):ay K (.fn (.func 237) a b)=4:=by kernel_rfl
@[simp] theorem ayY(a b:List V):ay K (.fn (.func 238) a b)=4:=by kernel_rfl
@[simp] theorem awr(a b:List V):ay K (.fn (.func 239) a b)=4:=by kernel_rfl
@[simp] theorem axM(a b:List V):ay K (.fn (.func 240) a b)=4:=by kernel_rfl
@[simp] theorem asy(a b:List V):ay K (.fn (.func 241) a b)=4:=by kernel_rfl
@[simp] theorem ay4(a b:List V):ay K (.fn (.func 242) a b)=4:=by kernel_rfl
@[simp] theorem ayl(a b:List V):ay K (.fn (.func 243) a b)=4:=by kernel_rfl
@[simp] theorem auU(a b:List V):ay K (.fn (.func 244) a b)=4:=by kernel_rfl
@[simp] theorem ayL(a b:List V):ay K (.fn (.func 264) a b)=4:=by kernel_rfl
@[simp] theorem axt(a b:List V):ay K (.fn (.func 265) a b)=4:=by kernel_rfl
@[simp] theorem auE(a b:List V):ay K (.fn (.func 267) a b)=4:=by kernel_rfl
@[simp] theorem ay6(a b:List V):ay K (.fn (.func 269) a b)=4:=by kernel_rfl
@[simp] theorem Zd(a b:List V):ay K (.fn (.func 270) a b)=4:=by kernel_rfl
variable{C:aY}{f:FuncId}
theorem Aw{body:Code}(st:Nat→St)(n:Nat){r:X×St}(hx:r.1≠.normal)(hb:∀i,i<n→aj C f body (st i)=some (.normal,st (i+1)))(he:aj C f body (st n)=some r):aj C f (.loop body) (st 0)=some r:=by
 have key:∀k i,i+k=n→aj C f (.loop body) (st i)=some r:=by
  intro k;induction k with
  |zero=>
   intro i hi;have:i=n:=by omega
   subst this;rw[af,he];obtain⟨y,s⟩:=r;cases y with
   |normal=>exact absurd rfl hx|_=>rfl
  |succ k ih=>intro i hi;rw[af,hb i (by omega)];exact ih (i+1) (by omega)
 exact key n 0 (by omega)
theorem lT{x:Int}(h1:-9223372036854775808≤x)(h2:x≤9223372036854775807):wr .i64 x=x:=by
 rw[qO];have e1:(2:Int) ^ IntKind.i64.bits=18446744073709551616:=by decide
 have e2:(2:Int) ^ (IntKind.i64.bits-1)=9223372036854775808:=by decide
 unfold IntKind.wrap;simp only[e1,e2,IntKind.signed,Bool.true_and,decide_eq_true_eq];split<;>omega
theorem wI{x:Int}(h1:-9223372036854775808≤x:=by omega)(h2:x≤9223372036854775807:=by omega):wr .i64 x=x:=lT h1 h2
theorem Ie{x:Int}(h1:0≤x)(h2:x≤18446744073709551615):wr .u64 x=x:=by
 rw[qO];have e1:(2:Int) ^ IntKind.u64.bits=18446744073709551616:=by decide
 unfold IntKind.wrap;simp only[e1,IntKind.signed,Bool.false_and];simp;omega
theorem UM(x:Int):0≤IntKind.wrap .u64 x:=by
 have e1:(2:Int) ^ IntKind.u64.bits=18446744073709551616:=by decide
 unfold IntKind.wrap;simp only[e1,IntKind.signed,Bool.false_and];simp;omega
theorem GN(x y:Int):0≤au .xor x y:=by rw[uj];exact UM _
theorem Fh{x:Int}(y:Int)(h:0≤x):0≤au .shr x y:=by rw[uj];exact Int.fdiv_nonneg h (Int.pow_nonneg (by decide))
theorem EG{i n:Nat}(h:i<n)(hn:n≤4294967296):wr .i64 ((i:Int)+1)=(i:Int)+1:=wI
theorem w0:wr .i64 0=0:=wI
theorem hw0:wr .i64 0=0:=w0
theorem w1:wr .i64 1=1:=wI
theorem hw1:wr .i64 1=1:=w1
theorem w2:wr .i64 2=2:=wI
theorem hw2:wr .i64 2=2:=w2
theorem w3:wr .i64 3=3:=wI
theorem hw3:wr .i64 3=3:=w3
theorem w4:wr .i64 4=4:=wI
theorem hw4:wr .i64 4=4:=w4
theorem w5:wr .i64 5=5:=wI
theorem hw5:wr .i64 5=5:=w5
end Mw
namespace Mw
open Go Go.Proofs
def ints(xs:List Int):List D:=xs.map (.int .i64)
@[simp] theorem jI:ints []=[]:=rfl
@[simp] theorem eu(x:Int)(xs:List Int):ints (x::xs)=.int .i64 x::ints xs:=rfl
@[simp] theorem adJ(xs ys:List Int):ints (xs++ys)=ints xs++ints ys:=by simp[ints]
@[simp] theorem abq{xs:List Int}{i:Nat}(h:i<(ints xs).length):(ints xs)[i]=.int .i64 (xs[i]'(by simpa[ints]using h)):=by simp[ints]
@[simp] theorem ade(xs:List Int):(ints xs).length=xs.length:=by simp[ints]
theorem XM{xs:List Int}{i:Nat}(h:i<xs.length):(ints xs)[i]?=some (.int .i64 xs[i]):=by unfold ints;rw[List.getElem?_map,List.getElem?_eq_getElem h];rfl
def dn(v:V)(xs:List Int):Prop:=v=.d (.list 1 (ints xs))∨(v=.d .nils∧xs=[])
def aW(v:V)(k st:Int):O:=.cells [v,.d (.int .i64 k),.d (.int .u64 st)] false
attribute [simp] J6 bg fE fD aO fP jK FP.meets FP.reads FP.touches FP.local
end Mw
