/- DependProofs answers true for every list of numbers: its tied card holds; no condition beyond the card's own. -/
import Derived.Test.YtdjnccgeajpegaaGreatDoorKb
import Derived.Test.YtdjnccgeajpegaaGreatDoorKt
import Derived.Test.YtdjnccgeajpegaaGreatDoorKn2
import Derived.Test.YtdjnccgeajpegaaGreatDoorQl
import Derived.Test.YtdjnccgeajpegaaGreatDoorQj
import Derived.Test.YtdjnccgeajpegaaGreatDoorQk
import Derived.Test.YtdjnccgeajpegaaGreatDoorQe
import Derived.Test.YtdjnccgeajpegaaGreatDoorXc
import Derived.Test.YtdjnccgeajpegaaGreatDoorLa
set_option linter.unusedVariables false
set_option linter.unusedSimpArgs false
namespace Mw
open Go Go.Proofs
theorem kf0:∃ hp,FuncOk cfg0 188 (List.map V.d [(.int .i64 0),(.int .i64 1)]) [] (.ret (.d (.agg [(.str ⟨#[48]⟩),(.str ⟨#[49]⟩)]))) hp:=fact tabAOk 3000 kt0
theorem kf1:∃ hp,FuncOk cfg0 188 (List.map V.d [(.int .i64 1),(.int .i64 1)]) [] (.ret (.d (.agg [(.str ⟨#[49]⟩),(.str ⟨#[49]⟩)]))) hp:=fact tabAOk 3000 kt1
theorem kf2:∃ hp,FuncOk cfg0 188 (List.map V.d [(.int .i64 2),(.int .i64 1)]) [] (.ret (.d (.agg [(.str ⟨#[50]⟩),(.str ⟨#[49]⟩)]))) hp:=fact tabAOk 3000 kt2
theorem kf3:∃ hp,FuncOk cfg0 188 (List.map V.d [(.int .i64 3),(.int .i64 1)]) [] (.ret (.d (.agg [(.str ⟨#[51]⟩),(.str ⟨#[49]⟩)]))) hp:=fact tabAOk 3000 kt3
theorem kf4:∃ hp,FuncOk cfg0 188 (List.map V.d [(.int .i64 4),(.int .i64 1)]) [] (.ret (.d (.agg [(.str ⟨#[52]⟩),(.str ⟨#[49]⟩)]))) hp:=fact tabAOk 3000 kt4
theorem kf5:∃ hp,FuncOk cfg0 188 (List.map V.d [(.int .i64 5),(.int .i64 1)]) [] (.ret (.d (.agg [(.str ⟨#[53]⟩),(.str ⟨#[49]⟩)]))) hp:=fact tabAOk 3000 kt5
theorem kf6:∃ hp,FuncOk cfg0 188 (List.map V.d [(.int .i64 1),(.int .i64 2)]) [] (.ret (.d (.agg [(.str ⟨#[49]⟩),(.str ⟨#[50]⟩)]))) hp:=fact tabAOk 3000 kt6
theorem kf7:∃ hp,FuncOk cfg0 188 (List.map V.d [(.int .i64 1),(.int .i64 3)]) [] (.ret (.d (.agg [(.str ⟨#[49]⟩),(.str ⟨#[51]⟩)]))) hp:=fact tabAOk 3000 kt7
theorem kf8:∃ hp,FuncOk cfg0 188 (List.map V.d [(.int .i64 2),(.int .i64 2)]) [] (.ret (.d (.agg [(.str ⟨#[49]⟩),(.str ⟨#[49]⟩)]))) hp:=fact tabAOk 3000 kt8
theorem kf9:∃ hp,FuncOk cfg0 188 (List.map V.d [(.int .i64 2),(.int .i64 3)]) [] (.ret (.d (.agg [(.str ⟨#[50]⟩),(.str ⟨#[51]⟩)]))) hp:=fact tabAOk 3000 kt9
theorem kf10:∃ hp,FuncOk cfg0 189 (List.map V.d [(.int .i64 0)]) [] (.ret (.d (.str ⟨#[48]⟩))) hp:=fact tabAOk 3000 kt10
theorem kf11:∃ hp,FuncOk cfg0 189 (List.map V.d [(.int .i64 1)]) [] (.ret (.d (.str ⟨#[49]⟩))) hp:=fact tabAOk 3000 kt11
theorem kf12:∃ hp,FuncOk cfg0 189 (List.map V.d [(.int .i64 2)]) [] (.ret (.d (.str ⟨#[50]⟩))) hp:=fact tabAOk 3000 kt12
theorem kf13:∃ hp,FuncOk cfg0 266 (List.map V.d [(.agg [(.str ⟨#[48]⟩),(.str ⟨#[49]⟩)])]) [] (.ret (.d (.int .i64 0))) hp:=fact tabAOk 3000 kt13
theorem kf14:∃ hp,FuncOk cfg0 266 (List.map V.d [(.agg [(.str ⟨#[49]⟩),(.str ⟨#[49]⟩)])]) [] (.ret (.d (.int .i64 0))) hp:=fact tabAOk 3000 kt14
theorem kf15:∃ hp,FuncOk cfg0 266 (List.map V.d [(.agg [(.str ⟨#[50]⟩),(.str ⟨#[49]⟩)])]) [] (.ret (.d (.int .i64 0))) hp:=fact tabAOk 3000 kt15
theorem kf16:∃ hp,FuncOk cfg0 266 (List.map V.d [(.agg [(.str ⟨#[51]⟩),(.str ⟨#[49]⟩)])]) [] (.ret (.d (.int .i64 0))) hp:=fact tabAOk 3000 kt16
theorem kf17:∃ hp,FuncOk cfg0 266 (List.map V.d [(.agg [(.str ⟨#[52]⟩),(.str ⟨#[49]⟩)])]) [] (.ret (.d (.int .i64 0))) hp:=fact tabAOk 3000 kt17
theorem kf18:∃ hp,FuncOk cfg0 266 (List.map V.d [(.agg [(.str ⟨#[53]⟩),(.str ⟨#[49]⟩)])]) [] (.ret (.d (.int .i64 0))) hp:=fact tabAOk 3000 kt18
theorem kf19:∃ hp,FuncOk cfg0 266 (List.map V.d [(.agg [(.str ⟨#[49]⟩),(.str ⟨#[50]⟩)])]) [] (.ret (.d (.int .i64 0))) hp:=fact tabAOk 3000 kt19
theorem kf20:∃ hp,FuncOk cfg0 266 (List.map V.d [(.agg [(.str ⟨#[49]⟩),(.str ⟨#[51]⟩)])]) [] (.ret (.d (.int .i64 0))) hp:=fact tabAOk 3000 kt20
theorem kf21:∃ hp,FuncOk cfg0 266 (List.map V.d [(.agg [(.str ⟨#[50]⟩),(.str ⟨#[51]⟩)])]) [] (.ret (.d (.int .i64 0))) hp:=fact tabAOk 3000 kt21
theorem kf22:∃ hp,FuncOk cfg0 268 (List.map V.d [(.str ⟨#[97]⟩)]) [] (.ret (.d (.bool true))) hp:=fact tabAOk 3000 kt22
theorem kf23:∃ hp,FuncOk cfg0 268 (List.map V.d [(.str ⟨#[98]⟩)]) [] (.ret (.d (.bool true))) hp:=fact tabAOk 3000 kt23
theorem kf24:∃ hp,FuncOk cfg0 268 (List.map V.d [(.str ⟨#[99]⟩)]) [] (.ret (.d (.bool true))) hp:=fact tabAOk 3000 kt24
theorem kf25:∃ hp,FuncOk cfg0 268 (List.map V.d [(.str ⟨#[114,48]⟩)]) [] (.ret (.d (.bool true))) hp:=fact tabAOk 3000 kt25
theorem kf26:∃ hp,FuncOk cfg0 268 (List.map V.d [(.str ⟨#[114,49]⟩)]) [] (.ret (.d (.bool true))) hp:=fact tabAOk 3000 kt26
theorem kf27:∃ hp,FuncOk cfg0 268 (List.map V.d [(.str ⟨#[114,50]⟩)]) [] (.ret (.d (.bool true))) hp:=fact tabAOk 3000 kt27
theorem kf28:∃ hp,FuncOk cfg0 268 (List.map V.d [(.str ⟨#[105,48]⟩)]) [] (.ret (.d (.bool true))) hp:=fact tabAOk 3000 kt28
theorem kf29:∃ hp,FuncOk cfg0 268 (List.map V.d [(.str ⟨#[105,49]⟩)]) [] (.ret (.d (.bool true))) hp:=fact tabAOk 3000 kt29
theorem kf30:∃ hp,FuncOk cfg0 165 (List.map V.d [(.str ⟨#[114,48]⟩),(.int .u8 114),(.int .i64 1)]) [] (.ret (.d (.int .i64 0))) hp:=fact tabAOk 3000 kt30
theorem kf31:∃ hp,FuncOk cfg0 165 (List.map V.d [(.str ⟨#[114,48]⟩),(.int .u8 114),(.int .i64 2)]) [] (.ret (.d (.int .i64 0))) hp:=fact tabAOk 3000 kt31
theorem kf32:∃ hp,FuncOk cfg0 165 (List.map V.d [(.str ⟨#[114,48]⟩),(.int .u8 114),(.int .i64 3)]) [] (.ret (.d (.int .i64 0))) hp:=fact tabAOk 3000 kt32
theorem kf33:∃ hp,FuncOk cfg0 165 (List.map V.d [(.str ⟨#[114,49]⟩),(.int .u8 114),(.int .i64 2)]) [] (.ret (.d (.int .i64 1))) hp:=fact tabAOk 3000 kt33
theorem kf34:∃ hp,FuncOk cfg0 165 (List.map V.d [(.str ⟨#[114,49]⟩),(.int .u8 114),(.int .i64 3)]) [] (.ret (.d (.int .i64 1))) hp:=fact tabAOk 3000 kt34
theorem kf35:∃ hp,FuncOk cfg0 165 (List.map V.d [(.str ⟨#[114,50]⟩),(.int .u8 114),(.int .i64 3)]) [] (.ret (.d (.int .i64 2))) hp:=fact tabAOk 3000 kt35
theorem kf36:∃ hp,FuncOk cfg0 165 (List.map V.d [(.str ⟨#[105,48]⟩),(.int .u8 114),(.int .i64 0)]) [] (.ret (.d (.int .i64 (-1)))) hp:=fact tabAOk 3000 kt36
theorem kf37:∃ hp,FuncOk cfg0 165 (List.map V.d [(.str ⟨#[105,48]⟩),(.int .u8 114),(.int .i64 1)]) [] (.ret (.d (.int .i64 (-1)))) hp:=fact tabAOk 3000 kt37
theorem kf38:∃ hp,FuncOk cfg0 165 (List.map V.d [(.str ⟨#[105,48]⟩),(.int .u8 114),(.int .i64 2)]) [] (.ret (.d (.int .i64 (-1)))) hp:=fact tabAOk 3000 kt38
theorem kf39:∃ hp,FuncOk cfg0 165 (List.map V.d [(.str ⟨#[105,48]⟩),(.int .u8 114),(.int .i64 3)]) [] (.ret (.d (.int .i64 (-1)))) hp:=fact tabAOk 3000 kt39
theorem kf40:∃ hp,FuncOk cfg0 165 (List.map V.d [(.str ⟨#[105,48]⟩),(.int .u8 105),(.int .i64 1)]) [] (.ret (.d (.int .i64 0))) hp:=fact tabAOk 3000 kt40
theorem kf41:∃ hp,FuncOk cfg0 165 (List.map V.d [(.str ⟨#[105,48]⟩),(.int .u8 105),(.int .i64 2)]) [] (.ret (.d (.int .i64 0))) hp:=fact tabAOk 3000 kt41
theorem kf42:∃ hp,FuncOk cfg0 165 (List.map V.d [(.str ⟨#[105,49]⟩),(.int .u8 114),(.int .i64 0)]) [] (.ret (.d (.int .i64 (-1)))) hp:=fact tabAOk 3000 kt42
theorem kf43:∃ hp,FuncOk cfg0 165 (List.map V.d [(.str ⟨#[105,49]⟩),(.int .u8 114),(.int .i64 1)]) [] (.ret (.d (.int .i64 (-1)))) hp:=fact tabAOk 3000 kt43
theorem kf44:∃ hp,FuncOk cfg0 165 (List.map V.d [(.str ⟨#[105,49]⟩),(.int .u8 114),(.int .i64 2)]) [] (.ret (.d (.int .i64 (-1)))) hp:=fact tabAOk 3000 kt44
theorem kf45:∃ hp,FuncOk cfg0 165 (List.map V.d [(.str ⟨#[105,49]⟩),(.int .u8 114),(.int .i64 3)]) [] (.ret (.d (.int .i64 (-1)))) hp:=fact tabAOk 3000 kt45
theorem kf46:∃ hp,FuncOk cfg0 165 (List.map V.d [(.str ⟨#[105,49]⟩),(.int .u8 105),(.int .i64 2)]) [] (.ret (.d (.int .i64 1))) hp:=fact tabAOk 3000 kt46
theorem tabKOk:TabOk cfg0 tabK:=(.cons (.cons fn16 rfl .nil) (.cons (.cons kf0 rfl (.cons kf1 rfl (.cons kf2 rfl (.cons kf3 rfl (.cons kf4 rfl (.cons kf5 rfl (.cons kf6 rfl (.cons kf7 rfl (.cons kf8 rfl (.cons kf9 rfl .nil)))))))))) (.cons (.cons kf10 rfl (.cons kf11 rfl (.cons kf12 rfl .nil))) (.cons (.cons kf13 rfl (.cons kf14 rfl (.cons kf15 rfl (.cons kf16 rfl (.cons kf17 rfl (.cons kf18 rfl (.cons kf19 rfl (.cons kf20 rfl (.cons kf21 rfl .nil))))))))) (.cons (.cons kf22 rfl (.cons kf23 rfl (.cons kf24 rfl (.cons kf25 rfl (.cons kf26 rfl (.cons kf27 rfl (.cons kf28 rfl (.cons kf29 rfl .nil)))))))) (.cons (.cons kf30 rfl (.cons kf31 rfl (.cons kf32 rfl (.cons kf33 rfl (.cons kf34 rfl (.cons kf35 rfl (.cons kf36 rfl (.cons kf37 rfl (.cons kf38 rfl (.cons kf39 rfl (.cons kf40 rfl (.cons kf41 rfl (.cons kf42 rfl (.cons kf43 rfl (.cons kf44 rfl (.cons kf45 rfl (.cons kf46 rfl .nil))))))))))))))))) .nil))))))
end Mw
namespace Mw
open Go Go.Proofs
set_option maxRecDepth 20000
set_option maxHeartbeats 8000000
theorem s9a {v:V} {nums:List Int} (hv:IsInts v nums):∃ (h0 h1 h2 h3 h4 h5:List O) (w0 w1 w2 w3 w4 w5:Nat) (t:List Stp) (s u a b:Nat) (x y:Stp) (c d:Nat × List (Int × List Int)),
  callL K (.fn (.func 12) [] []) [v] none []=some (.ret (.ptr (.heap 0) 0),false,h0,w0) ∧
  callL K (.fn (.func 13) [] []) [.ptr (.heap 0) 0,.d (.int .i64 3)] none h0=some (.ret (.d (encT t)),false,h1,w1) ∧
  callL K (.fn (.func 20) [] []) [.ptr (.heap 0) 0,.d (.int .i64 ((t.length:Int) - 1))] none h1=some (.ret (.d (.int .i64 s)),false,h2,w2) ∧
  callL K (.fn (.func 20) [] []) [.ptr (.heap 0) 0,.d (.int .i64 ((t.length:Int) - 1))] none h2=some (.ret (.d (.int .i64 u)),false,h3,w3) ∧
  callL K (.fn (.func 20) [] []) [.ptr (.heap 0) 0,.d (.int .i64 x.fr.length)] none h3=some (.ret (.d (.int .i64 a)),false,h4,w4) ∧
  callL K (.fn (.func 20) [] []) [.ptr (.heap 0) 0,.d (.int .i64 y.fr.length)] none h4=some (.ret (.d (.int .i64 b)),false,h5,w5) ∧
  (w2=1∧w3=1∧w4=1∧w5=1∧h2.length=h1.length∧h3.length=h1.length∧h4.length=h1.length∧h5.length=h1.length) ∧
  TaskOk t∧t.length≤3∧t[s]?=some x∧t[u]?=some y∧acc x a=some c∧acc y b=some d:=by
 obtain ⟨st0,w0,e0⟩:=s12 (hp:=[]) hv
 obtain ⟨k1,st1,t,w1,e1,ht,h3,hk1,hk1'⟩:=s13 (hp:=[rodO v 0 st0]) (l:=0) (k:=0) (st:=st0) (most:=3) hv (by simp) (by omega) (by omega) (by omega) (by omega)
 have h3':t.length≤3:=by omega
 have hpos:=ht.pos
 obtain ⟨st2,s,e2,s0,s1⟩:=s20 (hp:=[rodO v 0 st0]) (l:=0) (k:=k1) (st:=st1) (n:=(t.length:Int) - 1) hv (by simp) (by omega) (by omega) (by omega)
 obtain ⟨st3,u,e3,u0,u1⟩:=s20 (hp:=[rodO v 0 st0]) (l:=0) (k:=k1+1) (st:=st2) (n:=(t.length:Int) - 1) hv (by simp) (by omega) (by omega) (by omega)
 obtain ⟨s,rfl⟩:∃ n:Nat,s=n:=⟨s.toNat,by omega⟩
 obtain ⟨u,rfl⟩:∃ n:Nat,u=n:=⟨u.toNat,by omega⟩
 obtain ⟨x,hx⟩:∃ x,t[s]?=some x:=⟨_,List.getElem?_eq_getElem (by omega)⟩
 obtain ⟨y,hy⟩:∃ y,t[u]?=some y:=⟨_,List.getElem?_eq_getElem (by omega)⟩
 have fx:=(ht.ok x (List.mem_of_getElem? hx)).few
 have fy:=(ht.ok y (List.mem_of_getElem? hy)).few
 obtain ⟨st4,a,e4,a0,a1⟩:=s20 (hp:=[rodO v 0 st0]) (l:=0) (k:=k1+1+1) (st:=st3) (n:=(x.fr.length:Int)) hv (by simp) (by omega) (by omega) (by omega)
 obtain ⟨st5,b,e5,b0,b1⟩:=s20 (hp:=[rodO v 0 st0]) (l:=0) (k:=k1+1+1+1) (st:=st4) (n:=(y.fr.length:Int)) hv (by simp) (by omega) (by omega) (by omega)
 obtain ⟨a,rfl⟩:∃ n:Nat,a=n:=⟨a.toNat,by omega⟩
 obtain ⟨b,rfl⟩:∃ n:Nat,b=n:=⟨b.toNat,by omega⟩
 obtain ⟨c,hc⟩:∃ c,acc x a=some c:=⟨_,List.getElem?_eq_getElem (by simp; omega)⟩
 obtain ⟨d,hd⟩:∃ c,acc y b=some c:=⟨_,List.getElem?_eq_getElem (by simp; omega)⟩
 exact ⟨_,_,_,_,_,_,_,_,_,_,_,_,t,s,u,a,b,x,y,c,d,e0,e1,e2,e3,e4,e5,by simp,ht,h3',hx,hy,hc,hd⟩
theorem s9 {v:V} {nums:List Int} (hv:IsInts v nums):∃ H w,callL K (.fn (.func 9) [] []) [v] none []=some (.ret (.d (.bool true)),false,H,w):=by
 obtain ⟨h0,h1,h2,h3,h4,h5,w0,w1,w2,w3,w4,w5,t,s,u,a,b,x,y,c,d,e0,e1,e2,e3,e4,e5,⟨rfl,rfl,rfl,rfl,l2,l3,l4,l5⟩,ht,ht3,hs,hu,hc,hd⟩:=s9a hv
 obtain ⟨dv,rfl⟩:∃ dv,v=.d dv:=by rcases hv with rfl | ⟨rfl,_⟩<;>exact ⟨_,rfl⟩
 have hx:=ht.ok x (List.mem_of_getElem? hs)
 have hy:=ht.ok y (List.mem_of_getElem? hu)
 have hco:=acc_ok hx hc
 have hdo:=acc_ok hy hd
 have slt:=(gS.1 hs).1
 have ste:=(gS.1 hs).2
 have ult:=(gS.1 hu).1
 have ute:=(gS.1 hu).2
 have wl:wr .i64 ((t.length:Int) - 1)=(t.length:Int) - 1:=wrap_id (by omega) (by omega)
 have hf:∀ l,lenV (V.d (frD l))=some l.length:=fun l=>by cases l<;>simp [frD]
 have hfx:=hf x.fr
 have hfy:=hf y.fr
 have cx:=cFr x.fr
 simp only [lenV] at hfx hfy
 have e53:=fun H=>s53 H hx hc
 have e53':=fun H=>s53 H hy hd
 simp only [encS,encC] at e53 e53'
 have hmeet:=s30 ht ht3 h5 hs hu hc hd
 have e:=k9 [] [] [.d dv] none []
 have go:∀ (H1:List O) (m1:Nat) (r1 r2:D) (em:Int),callL K (.fn (.func 30) [] []) [.d (encT t),.d (.int .i64 s),.d (.int .i64 a),.d (.int .i64 u),.d (.int .i64 b)] none h5=some (.ret (.tuple [.d r1,.d r2,.d (.int .i64 em)]),false,H1,m1) →
   True:=fun _ _ _ _ _ _=>trivial
 clear go
 rcases hmeet with ⟨H1,m1,e30,hno⟩ | ⟨H1,m1,p,q,e30,hp,hq,hpq⟩
 ·obtain ⟨H2,m2,g0,g1,f,e32,hf2⟩:=s32 ht ht3 H1 hs hu hc hd hco hdo
  obtain ⟨H3,m3,g2,g3,g4,g,e34,hg⟩:=s34 ht ht3 H2 hs hu hc hd hco hdo
  simp only [encT] at e1 e30 e32 e34
  by_cases hcd:c.1=d.1
  ·have hff:f=0∨f=14:=by rw [hf2,if_pos hcd]; split<;>simp
   have hgg:g=0∨g=14:=by rw [hg,if_pos hcd]; split<;>simp
   have e48:=fun H n=>s48 H n
   clear hf2 hg
   rcases hff with rfl | rfl<;>rcases hgg with rfl | rfl <;>
   ·simp (maxSteps:=1000000) [c9,x9_0,r9_0,x9_1,r9_1,x9_2,r9_2,x9_3,r9_3,x9_4,r9_4,x9_5,r9_5,x9_6,r9_6,x9_7,r9_7,x9_8,r9_8,x9_10,r9_10,x9_12,r9_12,x9_13,r9_13,e0,e1,e2,e3,e4,e5,e30,e32,e34,wl,slt,ste,ult,ute,encS,hfx,hfy,e53,e53',hcd,e48,l2,l3,l4,l5] at e
    exact ⟨_,_,e⟩
  ·have hff:f=9:=by rw [hf2,if_neg hcd]
   have hgg:g=9:=by rw [hg,if_neg hcd]
   subst hff; subst hgg
   have hcd':¬ ((c.1:Int)=d.1):=by omega
   simp (maxSteps:=1000000) [c9,x9_0,r9_0,x9_1,r9_1,x9_2,r9_2,x9_3,r9_3,x9_4,r9_4,x9_5,r9_5,x9_6,r9_6,x9_7,r9_7,x9_8,r9_8,x9_9,r9_9,e0,e1,e2,e3,e4,e5,e30,e32,e34,wl,slt,ste,ult,ute,encS,hfx,hfy,e53,e53',hcd',l2,l3,l4,l5] at e
   exact ⟨_,_,e⟩
 ·obtain ⟨H2,m2,g0,g1,f,e32,hf2⟩:=s32 ht ht3 H1 hs hu hc hd hco hdo
  obtain ⟨H3,m3,g2,g3,g4,g,e34,hg⟩:=s34 ht ht3 H2 hs hu hc hd hco hdo
  have hp':=mem_allAt.1 hp
  have hq':=mem_allAt.1 hq
  obtain ⟨n1,n2⟩:=no_meet hco hdo hp' hq' hpq
  have hpq3:=hpq
  simp only [pl,Prod.mk.injEq] at hpq3
  obtain ⟨hcd,hpq2⟩:=hpq3
  have hpq4:numC d.1 c.2 p=numC d.1 d.2 q:=by rw [← hcd]; rw [← hcd] at hpq2; exact hpq2
  have st86:K.P.stoodInHeld 86=false:=by kernel_rfl
  have gd86:K.P.eqGuardType K.P.depth 86=false:=by kernel_rfl
  rw [if_pos hcd,n1] at hf2
  rw [if_pos hcd,n2] at hg
  simp only [Bool.false_eq_true,if_false] at hf2 hg
  subst hf2; subst hg
  obtain ⟨H4,m4,e54⟩:=s54 H3 ht ht3 hs hp'
  obtain ⟨H5,m5,e54'⟩:=s54 H4 ht ht3 hu hq'
  obtain ⟨j1,k1⟩:=allAt_at hx.sz hp'
  obtain ⟨j2,k2⟩:=allAt_at hy.sz hq'
  have x1:=allI_at (m:=0) hs j1
  have x2:=allI_at (m:=0) hu j2
  have v1:numAt x.ss p+baseI t s=((base t s+(numAt x.ss p).toNat:Nat):Int):=by rw [baseI_eq t s ht.ok]; omega
  have v2:numAt y.ss q+baseI t u=((base t u+(numAt y.ss q).toNat:Nat):Int):=by rw [baseI_eq t u ht.ok]; omega
  rw [v1] at e54
  rw [v2] at e54'
  generalize base t s+(numAt x.ss p).toNat=N1 at *
  generalize base t u+(numAt y.ss q).toNat=N2 at *
  have lt1:=(gS.1 x1).1
  have lt2:=(gS.1 x2).1
  have y1:=(gS.1 x1).2
  have y2:=(gS.1 x2).2
  have hall:=allI_len ht ht3
  obtain ⟨m6,e15⟩:=s15 H5 ht ht3
  have htot:baseI t t.length=((allI 0 t).length:Int):=by rw [baseI_eq t t.length ht.ok,allI_total]
  have b1:(0:Int)≤N1∧(N1:Int)≤baseI t t.length - 1:=by omega
  have b2:(0:Int)≤N2∧(N2:Int)≤baseI t t.length - 1:=by omega
  have e51:=s51 H5 ht ht3 N1
  have e51':=s51 H5 ht ht3 N2
  rw [decide_eq_true b1] at e51
  rw [decide_eq_true b2] at e51'
  have ta:=touch_at (p:=p) hc
  have tb:=touch_at (p:=q) hd
  have ea:=(gS.1 ta).2
  have eb:=(gS.1 tb).2
  have la:=(gS.1 ta).1
  have lb:=(gS.1 tb).1
  have e48:=fun H n=>s48 H n
  simp only [encT] at e1 e30 e32 e34 e54 e54' e15 e51 e51'
  simp only [tableD] at e15
  simp only [keyD,pl] at ta tb ea eb
  simp (maxSteps:=2000000) [c9,x9_0,r9_0,x9_1,r9_1,x9_2,r9_2,x9_3,r9_3,x9_4,r9_4,x9_5,r9_5,x9_6,r9_6,x9_7,r9_7,x9_8,r9_8,x9_10,r9_10,x9_12,r9_12,x9_14,r9_14,x9_15,r9_15,x9_16,r9_16,e0,e1,e2,e3,e4,e5,e30,e32,e34,wl,slt,ste,ult,ute,encS,hfx,hfy,e53,e53',hcd,e48,l2,l3,l4,l5,e54,e54',e51,e51',e15,x1,x2,lt1,lt2,y1,y2,rowD,ea,eb,la,lb,st86,gd86,hpq4] at e
  exact ⟨_,_,e⟩
end Mw
namespace Mw
open Go Go.Proofs
theorem kOk:K.Ok:=cfg_ok.knows
theorem kOrc:OrcOk K:=orcEOk tabKOk
theorem func_of_callL {f:Nat} {args:List V} {hp hp':List O} {r:CR} {w:Nat} (e:callL K (.fn (.func f) [] []) args none hp=some (r,false,hp',w)):FuncOk cfg0 f args hp r hp':=by
 obtain ⟨k,hk⟩:=callL_iff.1 e
 have:=(callOk kOk kOrc k).func _ _ _ _ _ _ _ _ _ hk
 simp only [List.nil_append,List.append_nil] at this
 exact (FuncOk_knows (C:=cfg0) (k:=orcE tabK)).1 this
end Mw
namespace Go.Proofs.YtdjnccgeajpegaaGreatDoor
theorem true9:True1 9:=fun v nums hv=>by
 obtain ⟨H,w,e⟩:=Mw.s9 (v:=v) (nums:=nums) hv
 exact ⟨H,Mw.func_of_callL e⟩
end Go.Proofs.YtdjnccgeajpegaaGreatDoor
