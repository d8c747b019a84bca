/- DependFirst's tied card holds; no condition beyond the card's own. -/
import Derived.Test.YtdjnccgeajpegaaGreatDoorKb
import Derived.Test.YtdjnccgeajpegaaGreatDoorKt
import Derived.Test.YtdjnccgeajpegaaGreatDoorKn2
import Derived.Test.YtdjnccgeajpegaaGreatDoorLa
import Derived.Test.YtdjnccgeajpegaaGreatDoorQm
set_option linter.unusedVariables false
set_option linter.unusedSimpArgs false
namespace Mw
open Go Go.Proofs
theorem kf0:∃hp,aC aG 188 (List.map V.d [(.int .i64 0),(.int .i64 1)]) [] (.ret (.d (.agg [(.str ⟨#[48]⟩),(.str ⟨#[49]⟩)]))) hp:=fact bf 3000 kt0
theorem kf1:∃hp,aC aG 188 (List.map V.d [(.int .i64 1),(.int .i64 1)]) [] (.ret (.d (.agg [(.str ⟨#[49]⟩),(.str ⟨#[49]⟩)]))) hp:=fact bf 3000 kt1
theorem kf2:∃hp,aC aG 188 (List.map V.d [(.int .i64 2),(.int .i64 1)]) [] (.ret (.d (.agg [(.str ⟨#[50]⟩),(.str ⟨#[49]⟩)]))) hp:=fact bf 3000 kt2
theorem kf3:∃hp,aC aG 188 (List.map V.d [(.int .i64 3),(.int .i64 1)]) [] (.ret (.d (.agg [(.str ⟨#[51]⟩),(.str ⟨#[49]⟩)]))) hp:=fact bf 3000 kt3
theorem kf4:∃hp,aC aG 188 (List.map V.d [(.int .i64 4),(.int .i64 1)]) [] (.ret (.d (.agg [(.str ⟨#[52]⟩),(.str ⟨#[49]⟩)]))) hp:=fact bf 3000 kt4
theorem kf5:∃hp,aC aG 188 (List.map V.d [(.int .i64 5),(.int .i64 1)]) [] (.ret (.d (.agg [(.str ⟨#[53]⟩),(.str ⟨#[49]⟩)]))) hp:=fact bf 3000 kt5
theorem kf6:∃hp,aC aG 188 (List.map V.d [(.int .i64 1),(.int .i64 2)]) [] (.ret (.d (.agg [(.str ⟨#[49]⟩),(.str ⟨#[50]⟩)]))) hp:=fact bf 3000 kt6
theorem kf7:∃hp,aC aG 188 (List.map V.d [(.int .i64 1),(.int .i64 3)]) [] (.ret (.d (.agg [(.str ⟨#[49]⟩),(.str ⟨#[51]⟩)]))) hp:=fact bf 3000 kt7
theorem kf8:∃hp,aC aG 188 (List.map V.d [(.int .i64 2),(.int .i64 2)]) [] (.ret (.d (.agg [(.str ⟨#[49]⟩),(.str ⟨#[49]⟩)]))) hp:=fact bf 3000 kt8
theorem kf9:∃hp,aC aG 188 (List.map V.d [(.int .i64 2),(.int .i64 3)]) [] (.ret (.d (.agg [(.str ⟨#[50]⟩),(.str ⟨#[51]⟩)]))) hp:=fact bf 3000 kt9
theorem ayh:∃hp,aC aG 189 (List.map V.d [(.int .i64 0)]) [] (.ret (.d (.str ⟨#[48]⟩))) hp:=fact bf 3000 azl
theorem asB:∃hp,aC aG 189 (List.map V.d [(.int .i64 1)]) [] (.ret (.d (.str ⟨#[49]⟩))) hp:=fact bf 3000 as2
theorem auG:∃hp,aC aG 189 (List.map V.d [(.int .i64 2)]) [] (.ret (.d (.str ⟨#[50]⟩))) hp:=fact bf 3000 ax8
theorem azu:∃hp,aC aG 266 (List.map V.d [(.agg [(.str ⟨#[48]⟩),(.str ⟨#[49]⟩)])]) [] (.ret (.d (.int .i64 0))) hp:=fact bf 3000 auD
theorem avY:∃hp,aC aG 266 (List.map V.d [(.agg [(.str ⟨#[49]⟩),(.str ⟨#[49]⟩)])]) [] (.ret (.d (.int .i64 0))) hp:=fact bf 3000 aub
theorem awC:∃hp,aC aG 266 (List.map V.d [(.agg [(.str ⟨#[50]⟩),(.str ⟨#[49]⟩)])]) [] (.ret (.d (.int .i64 0))) hp:=fact bf 3000 avZ
theorem axe:∃hp,aC aG 266 (List.map V.d [(.agg [(.str ⟨#[51]⟩),(.str ⟨#[49]⟩)])]) [] (.ret (.d (.int .i64 0))) hp:=fact bf 3000 avl
theorem avC:∃hp,aC aG 266 (List.map V.d [(.agg [(.str ⟨#[52]⟩),(.str ⟨#[49]⟩)])]) [] (.ret (.d (.int .i64 0))) hp:=fact bf 3000 awQ
theorem auf:∃hp,aC aG 266 (List.map V.d [(.agg [(.str ⟨#[53]⟩),(.str ⟨#[49]⟩)])]) [] (.ret (.d (.int .i64 0))) hp:=fact bf 3000 awL
theorem ato:∃hp,aC aG 266 (List.map V.d [(.agg [(.str ⟨#[49]⟩),(.str ⟨#[50]⟩)])]) [] (.ret (.d (.int .i64 0))) hp:=fact bf 3000 asw
theorem awE:∃hp,aC aG 266 (List.map V.d [(.agg [(.str ⟨#[49]⟩),(.str ⟨#[51]⟩)])]) [] (.ret (.d (.int .i64 0))) hp:=fact bf 3000 atu
theorem axd:∃hp,aC aG 266 (List.map V.d [(.agg [(.str ⟨#[50]⟩),(.str ⟨#[51]⟩)])]) [] (.ret (.d (.int .i64 0))) hp:=fact bf 3000 azH
theorem awK:∃hp,aC aG 268 (List.map V.d [(.str ⟨#[97]⟩)]) [] (.ret (.d (.bool true))) hp:=fact bf 3000 avg
theorem auO:∃hp,aC aG 268 (List.map V.d [(.str ⟨#[98]⟩)]) [] (.ret (.d (.bool true))) hp:=fact bf 3000 axm
theorem azp:∃hp,aC aG 268 (List.map V.d [(.str ⟨#[99]⟩)]) [] (.ret (.d (.bool true))) hp:=fact bf 3000 ayk
theorem asJ:∃hp,aC aG 268 (List.map V.d [(.str ⟨#[114,48]⟩)]) [] (.ret (.d (.bool true))) hp:=fact bf 3000 ayz
theorem avd:∃hp,aC aG 268 (List.map V.d [(.str ⟨#[114,49]⟩)]) [] (.ret (.d (.bool true))) hp:=fact bf 3000 axx
theorem azz:∃hp,aC aG 268 (List.map V.d [(.str ⟨#[114,50]⟩)]) [] (.ret (.d (.bool true))) hp:=fact bf 3000 ayO
theorem ayS:∃hp,aC aG 268 (List.map V.d [(.str ⟨#[105,48]⟩)]) [] (.ret (.d (.bool true))) hp:=fact bf 3000 azf
theorem aws:∃hp,aC aG 268 (List.map V.d [(.str ⟨#[105,49]⟩)]) [] (.ret (.d (.bool true))) hp:=fact bf 3000 asz
theorem av5:∃hp,aC aG 165 (List.map V.d [(.str ⟨#[114,48]⟩),(.int .u8 114),(.int .i64 1)]) [] (.ret (.d (.int .i64 0))) hp:=fact bf 3000 azm
theorem axb:∃hp,aC aG 165 (List.map V.d [(.str ⟨#[114,48]⟩),(.int .u8 114),(.int .i64 2)]) [] (.ret (.d (.int .i64 0))) hp:=fact bf 3000 awS
theorem avy:∃hp,aC aG 165 (List.map V.d [(.str ⟨#[114,48]⟩),(.int .u8 114),(.int .i64 3)]) [] (.ret (.d (.int .i64 0))) hp:=fact bf 3000 atA
theorem azs:∃hp,aC aG 165 (List.map V.d [(.str ⟨#[114,49]⟩),(.int .u8 114),(.int .i64 2)]) [] (.ret (.d (.int .i64 1))) hp:=fact bf 3000 atQ
theorem ay2:∃hp,aC aG 165 (List.map V.d [(.str ⟨#[114,49]⟩),(.int .u8 114),(.int .i64 3)]) [] (.ret (.d (.int .i64 1))) hp:=fact bf 3000 ay7
theorem auJ:∃hp,aC aG 165 (List.map V.d [(.str ⟨#[114,50]⟩),(.int .u8 114),(.int .i64 3)]) [] (.ret (.d (.int .i64 2))) hp:=fact bf 3000 aww
theorem azc:∃hp,aC aG 165 (List.map V.d [(.str ⟨#[105,48]⟩),(.int .u8 114),(.int .i64 0)]) [] (.ret (.d (.int .i64 (-1)))) hp:=fact bf 3000 avk
theorem aun:∃hp,aC aG 165 (List.map V.d [(.str ⟨#[105,48]⟩),(.int .u8 114),(.int .i64 1)]) [] (.ret (.d (.int .i64 (-1)))) hp:=fact bf 3000 awm
theorem ayM:∃hp,aC aG 165 (List.map V.d [(.str ⟨#[105,48]⟩),(.int .u8 114),(.int .i64 2)]) [] (.ret (.d (.int .i64 (-1)))) hp:=fact bf 3000 avH
theorem axk:∃hp,aC aG 165 (List.map V.d [(.str ⟨#[105,48]⟩),(.int .u8 114),(.int .i64 3)]) [] (.ret (.d (.int .i64 (-1)))) hp:=fact bf 3000 as4
theorem avj:∃hp,aC aG 165 (List.map V.d [(.str ⟨#[105,48]⟩),(.int .u8 105),(.int .i64 1)]) [] (.ret (.d (.int .i64 0))) hp:=fact bf 3000 awj
theorem awF:∃hp,aC aG 165 (List.map V.d [(.str ⟨#[105,48]⟩),(.int .u8 105),(.int .i64 2)]) [] (.ret (.d (.int .i64 0))) hp:=fact bf 3000 axw
theorem avq:∃hp,aC aG 165 (List.map V.d [(.str ⟨#[105,49]⟩),(.int .u8 114),(.int .i64 0)]) [] (.ret (.d (.int .i64 (-1)))) hp:=fact bf 3000 avJ
theorem as5:∃hp,aC aG 165 (List.map V.d [(.str ⟨#[105,49]⟩),(.int .u8 114),(.int .i64 1)]) [] (.ret (.d (.int .i64 (-1)))) hp:=fact bf 3000 awH
theorem awt:∃hp,aC aG 165 (List.map V.d [(.str ⟨#[105,49]⟩),(.int .u8 114),(.int .i64 2)]) [] (.ret (.d (.int .i64 (-1)))) hp:=fact bf 3000 awY
theorem axY:∃hp,aC aG 165 (List.map V.d [(.str ⟨#[105,49]⟩),(.int .u8 114),(.int .i64 3)]) [] (.ret (.d (.int .i64 (-1)))) hp:=fact bf 3000 awU
theorem avv:∃hp,aC aG 165 (List.map V.d [(.str ⟨#[105,49]⟩),(.int .u8 105),(.int .i64 2)]) [] (.ret (.d (.int .i64 1))) hp:=fact bf 3000 atv
theorem afZ:mO aG aik:=(.cons (.cons axF rfl .nil) (.cons (.cons kf0 rfl (.cons kf1 rfl (.cons kf2 rfl (.cons kf3 rfl (.cons kf4 rfl (.cons kf5 rfl (.cons kf6 rfl (.cons kf7 rfl (.cons kf8 rfl (.cons kf9 rfl .nil)))))))))) (.cons (.cons ayh rfl (.cons asB rfl (.cons auG rfl .nil))) (.cons (.cons azu rfl (.cons avY rfl (.cons awC rfl (.cons axe rfl (.cons avC rfl (.cons auf rfl (.cons ato rfl (.cons awE rfl (.cons axd rfl .nil))))))))) (.cons (.cons awK rfl (.cons auO rfl (.cons azp rfl (.cons asJ rfl (.cons avd rfl (.cons azz rfl (.cons ayS rfl (.cons aws rfl .nil)))))))) (.cons (.cons av5 rfl (.cons axb rfl (.cons avy rfl (.cons azs rfl (.cons ay2 rfl (.cons auJ rfl (.cons azc rfl (.cons aun rfl (.cons ayM rfl (.cons axk rfl (.cons avj rfl (.cons awF rfl (.cons avq rfl (.cons as5 rfl (.cons awt rfl (.cons axY rfl (.cons avv rfl .nil))))))))))))))))) .nil))))))
theorem kOk:K.Ok:=nY.knows
theorem au8:yX K:=aio afZ
theorem DX{f:Nat}{args:List V}{hp hp':List O}{r:CR}{w:Nat}(e:ah K (.fn (.func f) [] []) args none hp=some (r,false,hp',w)):aC aG f args hp r hp':=by obtain⟨k,hk⟩:=mF.1 e;have:=(CB kOk au8 k).func _ _ _ _ _ _ _ _ _ hk;simp only[List.nil_append,List.append_nil]at this;exact(fK (C:=aG) (k:=Yu aik)).1 this
end Mw
namespace Go.Proofs.YtdjnccgeajpegaaGreatDoor
theorem alQ:SL 8:=fun v nums hv=>by obtain⟨H,w,e⟩:=Mw.s8 (v:=v) (nums:=nums) hv;exact⟨H,Mw.DX e⟩
end Go.Proofs.YtdjnccgeajpegaaGreatDoor
