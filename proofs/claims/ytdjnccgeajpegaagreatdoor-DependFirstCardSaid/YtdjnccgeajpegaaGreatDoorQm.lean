/- DependFirst's tied card holds; no condition beyond the card's own. -/
import Derived.Test.YtdjnccgeajpegaaGreatDoorQl
import Derived.Test.YtdjnccgeajpegaaGreatDoorQi
import Derived.Test.YtdjnccgeajpegaaGreatDoorQf
import Derived.Test.YtdjnccgeajpegaaGreatDoorXc
import Derived.Test.YtdjnccgeajpegaaGreatDoorKc
import Derived.Test.YtdjnccgeajpegaaGreatDoorQj
import Derived.Test.YtdjnccgeajpegaaGreatDoorQd
set_option linter.unusedVariables false
set_option linter.unusedSimpArgs false
set_option maxRecDepth 20000
set_option maxHeartbeats 8000000
namespace Mw
open Go Go.Proofs
def rV:List Oper:=acF
theorem axS(s:St):aj K 8 (rg 8 9) s=oK 21778071482940061661655974875633165778160 (jy K (ah K) 8 rV acF s):=ayR s
theorem aiP:rV[2]?=some ⟨(some 89),.move (.tmp 88),0,"",#[],none⟩:=rfl
theorem aeD:rV[6]?=some ⟨(some 93),.move (.tmp 92),0,"",#[],none⟩:=rfl
theorem abB:rV[11]?=some ⟨(some 98),.move (.tmp 97),0,"",#[],none⟩:=rfl
theorem acn:rV[16]?=some ⟨(some 103),.move (.tmp 102),0,"",#[],none⟩:=rfl
theorem Gh:rV[20]?=some ⟨(some 107),.move (.tmp 106),0,"",#[],none⟩:=rfl
theorem RF:rV[27]?=some ⟨(some 114),.move (.tmp 113),0,"",#[],none⟩:=rfl
theorem SQ:rV[35]?=some ⟨(some 122),.move (.tmp 121),0,"",#[],none⟩:=rfl
theorem Rj:rV[40]?=some ⟨(some 127),.move (.tmp 126),0,"",#[],none⟩:=rfl
theorem QN:rV[43]?=some ⟨(some 130),.move (.tmp 129),0,"",#[],(some (40,false))⟩:=rfl
def V7:List Oper:=Jq
theorem acW(s:St):aj K 8 (rg 8 26) s=oK 842498333348457493583344221469363458551160763204392890034487827600 (jy K (ah K) 8 V7 Jq s):=amz s
theorem QK:V7[2]?=some ⟨(some 206),.move (.tmp 205),0,"",#[],none⟩:=rfl
theorem SB:V7[7]?=some ⟨(some 211),.move (.tmp 210),0,"",#[],(some (2,true))⟩:=rfl
def IX:List Oper:=Jw
theorem aef(s:St):aj K 8 (rg 8 28) s=oK 4 (jy K (ah K) 8 IX Jw s):=amW s
theorem SA:IX[2]?=some ⟨(some 222),.move (.tmp 221),0,"",#[],none⟩:=rfl
theorem RZ:IX[6]?=some ⟨(some 226),.move (.tmp 225),0,"",#[],(some (2,false))⟩:=rfl
theorem JQ:IX[11]?=some ⟨(some 231),.move (.tmp 230),0,"",#[],(some (2,false))⟩:=rfl
theorem Ic:IX[20]?=some ⟨(some 240),.move (.tmp 239),0,"",#[],none⟩:=rfl
def B8(c1:List D)(s u kd:Nat)(pn a c e:Int)(VS dv:D)(e4:Int)(N:Nat)(H:List O)(w:Nat):St:=
 St.mk [(4,.ptr (.slot 4 0) 0),(5,.d (.int .i64 (s:Nat))),(6,.d (.int .i64 (u:Nat))),(7,.d (.int .i64 (kd:Nat))),(8,.d (.int .i64 pn)),(9,.d (.int .i64 0)),(10,.d (.int .i64 a)),(11,.d (.int .i64 c)),(12,.d (.int .i64 e)),(13,.d VS),(14,.d (.int .i64 0)),(15,.d dv),(16,.d (.int .i64 e4)),(17,.d (.int .i64 (N:Nat)))] (Mem.mk [(4,0,.cells (c1.map .d) false)] H w) [] none false none
def C8(c1:List D)(s u kd:Nat)(a c e:Int)(VS dv:D)(e4:Int)(N:Nat)(H:List O)(w:Nat):St:=
 St.mk [(4,.ptr (.slot 4 0) 0),(5,.d (.int .i64 (s:Nat))),(6,.d (.int .i64 (u:Nat))),(7,.d (.int .i64 (kd:Nat))),(10,.d (.int .i64 a)),(11,.d (.int .i64 c)),(12,.d (.int .i64 e)),(13,.d VS),(15,.d dv),(16,.d (.int .i64 e4)),(17,.d (.int .i64 (N:Nat))),(134,.d (.bool false))] (Mem.mk [(4,0,.cells (c1.map .d) false)] H w) [] none false none
def D8(c1:List D)(kd:Nat)(a c e:Int)(H:List O)(w:Nat):St:=
 St.mk [(4,.ptr (.slot 4 0) 0),(7,.d (.int .i64 (kd:Nat))),(10,.d (.int .i64 a)),(11,.d (.int .i64 c)),(12,.d (.int .i64 e)),(219,.d (.bool false))] (Mem.mk [(4,0,.cells (c1.map .d) false)] H w) [] none false none
theorem zS{C:aY}{call:bK}{f:Nat}{all:List Oper}:∀(l1 l2:List Oper) (s:St),jy C call f all (l1++l2) s=andThen (jy C call f all l2) (jy C call f all l1 s)
 |[],l2,s=>rfl| o :: r,l2,s=>by
  have ih:=zS (C:=C) (call:=call) (f:=f) (all:=all) r l2;simp only[List.cons_append,jy];cases gU all s o with
  |none=>rfl| some w =>
   cases w with
   | true =>
    simp only[jy.goOn];cases opS C call f o s with
    |none=>rfl|some x=>obtain⟨y,s1⟩:=x;cases y<;>first|exact ih s1|rfl
   |false=>simp only[jy.goOn,ih]
theorem BP{t:Nat}{v:V}{r:List (Nat×V)}:∀{b:List (Nat×V)},(∀x∈b,x.1<t)→ins t v (b++r)=b++ins t v r
 |[],_=>rfl|(k,u)::b,h=>by
  have hk:k<t:=h (k,u) (by simp);have h1:(k==t)=false:=by simp;omega
  have h2:Nat.ble k t=true:=Nat.ble_eq_true_of_le (by omega);rw[List.cons_append,ins,h1,h2,BP fun x hx=>h x (by simp[hx])];rfl
theorem wL{t:Nat}{r:List (Nat×V)}:∀{b:List (Nat×V)},(∀x∈b,x.1<t)→look t (b++r)=look t r
 |[],_=>rfl|(k,u)::b,h=>by
  have hk:k<t:=h (k,u) (by simp);have h1:(k==t)=false:=by simp;omega
  rw[List.cons_append,look,h1,wL fun x hx=>h x (by simp[hx])];rfl
theorem fU{t:Nat}{v:V}{r:List (Nat×V)}:∀{b:List (Nat×V)},look t b=some v→look t (b++r)=some v
 |[],h=>by cases h|(k,u)::b,h=>by
  rw[List.cons_append,look]at *;cases hk:k==t with
  |true=>rw[hk]at h;exact h|false=>rw[hk]at h;exact fU h
theorem acT{m:Nat}{r:List (Nat×V)}:∀b:List (Nat×V),cO m (b++r)=cO m b++cO m r
 |[]=>rfl|(k,u)::b=>by rw[List.cons_append,cO,cO,acT b];cases m.testBit k<;>rfl
theorem sJ{b:List (Nat×V)}{f t:Nat}(h:(b.all fun x=>Nat.blt x.1 f)=true)(ht:f≤t):∀x∈b,x.1<t:=fun x hx=>by have:=Nat.le_of_ble_eq_true (List.all_eq_true.1 h x hx);omega
def agQ:List Oper:=[mv 87 9,
 bk 88 .neq 30 87 0,
 mv 89 88,
 og 90 2 false (.move (.tmp 14)),
 og 91 2 false (.binOp .neq 30 (.tmp 90) (.const (.int .i64 (0))) 30),
 oa 92 (.pick (.tmp 89) (.const (.bool true)) (.tmp 91)),
 mv 93 92,
 og 94 6 false (.move (.tmp 12)),
 og 95 6 false (.call ⟨.value (.func 48),#[.tmp 94],#[30]⟩),
 og 96 6 false (.unOp .not 4 (.tmp 95)),
 oa 97 (.pick (.tmp 93) (.const (.bool true)) (.tmp 96)),
 mv 98 97]
def ah7:List Oper:=[og 99 11 false (.move (.tmp 16)),
 og 100 11 false (.call ⟨.value (.func 48),#[.tmp 99],#[30]⟩),
 og 101 11 false (.unOp .not 4 (.tmp 100)),
 oa 102 (.pick (.tmp 98) (.const (.bool true)) (.tmp 101)),
 mv 103 102,
 og 104 16 false (.move (.tmp 8)),
 og 105 16 false (.binOp .lss 3 (.tmp 104) (.const (.int .i64 (0))) 3),
 oa 106 (.pick (.tmp 103) (.const (.bool true)) (.tmp 105)),
 mv 107 106,
 og 108 20 false (.move (.tmp 8)),
 og 109 20 false (.binOp .gtr 3 (.tmp 108) (.const (.int .i64 (0))) 3),
 og 110 20 false (.move (.tmp 12))]
def ach:List Oper:=[og 111 20 false (.binOp .eql 30 (.tmp 110) (.const (.int .i64 (0))) 30),
 og 112 20 false (.binOp .neq 4 (.tmp 109) (.tmp 111) 4),
 oa 113 (.pick (.tmp 107) (.const (.bool true)) (.tmp 112)),
 mv 114 113,
 og 115 27 false (.move (.tmp 8)),
 og 116 27 false (.binOp .gtr 3 (.tmp 115) (.const (.int .i64 (0))) 3),
 og 117 27 false (.move (.tmp 13)),
 og 118 27 false (.call ⟨.builtin .len,#[.tmp 117],#[74]⟩),
 og 119 27 false (.binOp .gtr 3 (.tmp 118) (.const (.int .i64 (0))) 3),
 og 120 27 false (.binOp .neq 4 (.tmp 116) (.tmp 119) 4),
 oa 121 (.pick (.tmp 114) (.const (.bool true)) (.tmp 120)),
 mv 122 121]
def aap:List Oper:=[og 123 35 false (.move (.tmp 13)),
 og 124 35 false (.call ⟨.builtin .len,#[.tmp 123],#[74]⟩),
 og 125 35 false (.binOp .gtr 3 (.tmp 124) (.const (.int .i64 (100))) 3),
 oa 126 (.pick (.tmp 122) (.const (.bool true)) (.tmp 125)),
 mv 127 126,
 og 128 40 false (.move (.tmp 8)),
 og 129 40 false (.binOp .eql 3 (.tmp 128) (.const (.int .i64 (0))) 3),
 og 130 40 false (.move (.tmp 129)),
 og 131 43 true (.move (.tmp 16)),
 og 132 43 true (.binOp .eql 30 (.tmp 131) (.const (.int .i64 (0))) 30),
 og 133 40 false (.pick (.tmp 130) (.tmp 132) (.const (.bool false))),
 oa 134 (.pick (.tmp 127) (.const (.bool true)) (.tmp 133))]
theorem aex:acF=agQ++(ah7++(ach++aap)):=rfl
section
variable{c1:List D}{s u kd:Nat}{pn a c e e4:Int}{VS dv:D}{vs:List (List Int)}{N:Nat}{H:List O}{w:Nat}
theorem afC(hp:List O):ah K (.fn (.func 48) [] []) [.d (.int .i64 14)] none hp=some (.ret (.d (.bool true)),false,hp,0):=by rw[s48];simp
theorem ahU(hp:List O):ah K (.fn (.func 48) [] []) [.d (.int .i64 0)] none hp=some (.ret (.d (.bool true)),false,hp,0):=by rw[s48];simp
end
section
variable{c1:List D}{pn e e4:Int}{VS:D}{n:Nat}{g:Bool}{H:List O}{w:Nat}{b:List (Nat×V)}
def aj6(pn e e4:Int)(VS:D)(n:Nat)(g:Bool):List (Nat×V):=[(87,.d (.int .i64 0)),(88,.d (.bool false)),(89,.d (.bool false)),(90,.d (.int .i64 0)),(91,.d (.bool false)),(92,.d (.bool false)),(93,.d (.bool false)),(94,.d (.int .i64 e)),(95,.d (.bool true)),(96,.d (.bool false)),(97,.d (.bool false)),(98,.d (.bool false))]
theorem asU(hb:(b.all fun x=>Nat.blt x.1 87)=true)(l9:look 9 b=some (.d (.int .i64 0)))(l12:look 12 b=some (.d (.int .i64 e)))(l14:look 14 b=some (.d (.int .i64 0)))(he:∀hp,ah K (.fn (.func 48) [] []) [.d (.int .i64 e)] none hp=some (.ret (.d (.bool true)),false,hp,0)):jy K (ah K) 8 rV agQ (St.mk b (Mem.mk [(4,0,.cells (c1.map .d) false)] H w) [] none false none)=some (.normal,St.mk (b++aj6 pn e e4 VS n g) (Mem.mk [(4,0,.cells (c1.map .d) false)] H w) [] none false none):=by
 have hi:∀{t:Nat} {v:V} (r:List (Nat×V)),87≤t→ins t v (b++r)=b++ins t v r:=fun r h=>BP (sJ hb h);have hi0:∀{t:Nat} {v:V},87≤t→ins t v b=b++[(t,v)]:=fun {t v} h=>by have:=hi (v:=v) [] h;rwa[List.append_nil]at this
 have hh:∀{t:Nat} (r:List (Nat×V)),87≤t→look t (b++r)=look t r:=fun r h=>wL (sJ hb h);have m9:=fun r=>fU (r:=r) l9;have m12:=fun r=>fU (r:=r) l12;have m14:=fun r=>fU (r:=r) l14;simp[aj6,agQ,hi,hi0,hh,l9,m9,l12,m12,l14,m14,aiP,aeD,he]
def akL(pn e e4:Int)(VS:D)(n:Nat)(g:Bool):List (Nat×V):=[(99,.d (.int .i64 e4)),(100,.d (.bool true)),(101,.d (.bool false)),(102,.d (.bool false)),(103,.d (.bool false)),(104,.d (.int .i64 pn)),(105,.d (.bool false)),(106,.d (.bool false)),(107,.d (.bool false)),(108,.d (.int .i64 pn)),(109,.d (.bool g)),(110,.d (.int .i64 e))]
theorem avO(hb:(b.all fun x=>Nat.blt x.1 99)=true)(l8:look 8 b=some (.d (.int .i64 pn)))(l12:look 12 b=some (.d (.int .i64 e)))(l16:look 16 b=some (.d (.int .i64 e4)))(l98:look 98 b=some (.d (.bool false)))(he4:∀hp,ah K (.fn (.func 48) [] []) [.d (.int .i64 e4)] none hp=some (.ret (.d (.bool true)),false,hp,0))(p1:¬(pn<0))(hg:decide (0<pn)=g):jy K (ah K) 8 rV ah7 (St.mk b (Mem.mk [(4,0,.cells (c1.map .d) false)] H w) [] none false none)=some (.normal,St.mk (b++akL pn e e4 VS n g) (Mem.mk [(4,0,.cells (c1.map .d) false)] H w) [] none false none):=by
 have hi:∀{t:Nat} {v:V} (r:List (Nat×V)),99≤t→ins t v (b++r)=b++ins t v r:=fun r h=>BP (sJ hb h);have hi0:∀{t:Nat} {v:V},99≤t→ins t v b=b++[(t,v)]:=fun {t v} h=>by have:=hi (v:=v) [] h;rwa[List.append_nil]at this
 have hh:∀{t:Nat} (r:List (Nat×V)),99≤t→look t (b++r)=look t r:=fun r h=>wL (sJ hb h);have m8:=fun r=>fU (r:=r) l8;have m12:=fun r=>fU (r:=r) l12;have m16:=fun r=>fU (r:=r) l16;have m98:=fun r=>fU (r:=r) l98;simp[akL,ah7,hi,hi0,hh,l8,m8,l12,m12,l16,m16,l98,m98,abB,acn,Gh,he4,p1,←hg]
def ahZ(pn e e4:Int)(VS:D)(n:Nat)(g:Bool):List (Nat×V):=[(111,.d (.bool g)),(112,.d (.bool false)),(113,.d (.bool false)),(114,.d (.bool false)),(115,.d (.int .i64 pn)),(116,.d (.bool g)),(117,.d VS),(118,.d (.int .i64 (n:Nat))),(119,.d (.bool g)),(120,.d (.bool false)),(121,.d (.bool false)),(122,.d (.bool false))]
theorem axz(hb:(b.all fun x=>Nat.blt x.1 111)=true)(l8:look 8 b=some (.d (.int .i64 pn)))(l13:look 13 b=some (.d VS))(l107:look 107 b=some (.d (.bool false)))(l109:look 109 b=some (.d (.bool g)))(l110:look 110 b=some (.d (.int .i64 e)))(hge:decide (e=0)=g)(hg:decide (0<pn)=g)(hl:lenV (.d VS)=some n)(hgn:decide (0<(n:Int))=g):jy K (ah K) 8 rV ach (St.mk b (Mem.mk [(4,0,.cells (c1.map .d) false)] H w) [] none false none)=some (.normal,St.mk (b++ahZ pn e e4 VS n g) (Mem.mk [(4,0,.cells (c1.map .d) false)] H w) [] none false none):=by
 have hi:∀{t:Nat} {v:V} (r:List (Nat×V)),111≤t→ins t v (b++r)=b++ins t v r:=fun r h=>BP (sJ hb h);have hi0:∀{t:Nat} {v:V},111≤t→ins t v b=b++[(t,v)]:=fun {t v} h=>by have:=hi (v:=v) [] h;rwa[List.append_nil]at this
 have hh:∀{t:Nat} (r:List (Nat×V)),111≤t→look t (b++r)=look t r:=fun r h=>wL (sJ hb h);have m8:=fun r=>fU (r:=r) l8;have m13:=fun r=>fU (r:=r) l13;have m107:=fun r=>fU (r:=r) l107;have m109:=fun r=>fU (r:=r) l109;have m110:=fun r=>fU (r:=r) l110;simp only[lenV]at hl;cases g
 ·have g1:¬(0<pn):=by simpa using hg
  have g2:¬(e=0):=by simpa using hge
  have g3:¬(0<n):=by have:=of_decide_eq_false hgn;omega
  simp[ahZ,ach,hi,hi0,hh,l8,m8,l13,m13,l107,m107,l109,m109,l110,m110,Gh,RF,hl,g1,g2,g3]
 ·have g1:0<pn:=by simpa using hg
  have g2:e=0:=by simpa using hge
  have g3:0<n:=by have:=of_decide_eq_true hgn;omega
  simp[ahZ,ach,hi,hi0,hh,l8,m8,l13,m13,l107,m107,l109,m109,l110,m110,Gh,RF,hl,g1,g2,g3]
def ae2(pn e e4:Int)(VS:D)(n:Nat)(g:Bool):List (Nat×V):=[(123,.d VS),(124,.d (.int .i64 (n:Nat))),(125,.d (.bool false)),(126,.d (.bool false)),(127,.d (.bool false)),(128,.d (.int .i64 pn)),(129,.d (.bool (!g))),(130,.d (.bool (!g))),(131,bif g then .tuple []else .d (.int .i64 e4)),(132,bif g then .tuple []else .d (.bool false)),(133,.d (.bool false)),(134,.d (.bool false))]
theorem azo(hb:(b.all fun x=>Nat.blt x.1 123)=true)(l8:look 8 b=some (.d (.int .i64 pn)))(l13:look 13 b=some (.d VS))(l16:look 16 b=some (.d (.int .i64 e4)))(l122:look 122 b=some (.d (.bool false)))(hl:lenV (.d VS)=some n)(hn:n≤100)(hp0:decide (pn=0)=!g)(h4:g=false→e4≠0):jy K (ah K) 8 rV aap (St.mk b (Mem.mk [(4,0,.cells (c1.map .d) false)] H w) [] none false none)=some (.normal,St.mk (b++ae2 pn e e4 VS n g) (Mem.mk [(4,0,.cells (c1.map .d) false)] H w) [] none false none):=by
 have hi:∀{t:Nat} {v:V} (r:List (Nat×V)),123≤t→ins t v (b++r)=b++ins t v r:=fun r h=>BP (sJ hb h);have hi0:∀{t:Nat} {v:V},123≤t→ins t v b=b++[(t,v)]:=fun {t v} h=>by have:=hi (v:=v) [] h;rwa[List.append_nil]at this
 have hh:∀{t:Nat} (r:List (Nat×V)),123≤t→look t (b++r)=look t r:=fun r h=>wL (sJ hb h);have m8:=fun r=>fU (r:=r) l8;have m13:=fun r=>fU (r:=r) l13;have m16:=fun r=>fU (r:=r) l16;have m122:=fun r=>fU (r:=r) l122;simp only[lenV]at hl;have q1:¬(100<n):=by omega
 have q3:¬((100:Int)<n):=by omega
 cases g
 ·have g1:pn=0:=by simpa using hp0
  have g2:¬(e4=0):=h4 rfl;simp[ae2,aap,hi,hi0,hh,l8,m8,l13,m13,l16,m16,l122,m122,SQ,Rj,QN,hl,q1,q3,g1,g2]
 ·have g1:¬(pn=0):=by simpa using hp0
  simp[ae2,aap,hi,hi0,hh,l8,m8,l13,m13,l16,m16,l122,m122,SQ,Rj,QN,hl,q1,q3,g1]
end
section
variable{c1:List D}{s u kd:Nat}{pn a c e e4:Int}{VS dv:D}{n N:Nat}{g:Bool}{H:List O}{w:Nat}
theorem r9(he:∀hp,ah K (.fn (.func 48) [] []) [.d (.int .i64 e)] none hp=some (.ret (.d (.bool true)),false,hp,0))(he4:∀hp,ah K (.fn (.func 48) [] []) [.d (.int .i64 e4)] none hp=some (.ret (.d (.bool true)),false,hp,0))(p1:¬(pn<0))(hg:decide (0<pn)=g)(hge:decide (e=0)=g)(hl:lenV (.d VS)=some n)(hgn:decide (0<(n:Int))=g)(hn:n≤100)(hp0:decide (pn=0)=!g)(h4:g=false→e4≠0):∃w',aj K 8 (rg 8 9) (B8 c1 s u kd pn a c e VS dv e4 N H w)=some (.normal,C8 c1 s u kd a c e VS dv e4 N H w'):=by refine⟨w,?_⟩;rw[axS,aex,zS,B8,asU (pn:=pn) (e:=e) (e4:=e4) (VS:=VS) (n:=n) (g:=g) rfl rfl rfl rfl he];show oK _ (jy K (ah K) 8 rV (_++_) _)=_;rw[zS,avO (pn:=pn) (e:=e) (e4:=e4) (VS:=VS) (n:=n) (g:=g) rfl rfl rfl rfl rfl he4 p1 hg];show oK _ (jy K (ah K) 8 rV (_++_) _)=_;rw[zS,axz (pn:=pn) (e:=e) (e4:=e4) (VS:=VS) (n:=n) (g:=g) rfl rfl rfl rfl rfl rfl hge hg hl hgn];show oK _ (jy K (ah K) 8 rV _ _)=_;rw[azo (pn:=pn) (e:=e) (e4:=e4) (VS:=VS) (n:=n) (g:=g) rfl rfl rfl rfl rfl hl hn hp0 h4];kernel_rfl
theorem r9A:∃w',aj K 8 (rg 8 9) (B8 c1 s u kd 0 a c 14 .nils dv 14 N H w)=some (.normal,C8 c1 s u kd a c 14 .nils dv 14 N H w'):=
 r9 (n:=0) (g:=false) afC afC (by omega) (by simp) (by simp) rfl (by simp) (by omega) (by simp) (by simp)
theorem r9B(hp:0<pn)(hl:lenV (.d VS)=some n)(h0:0<n)(h1:n≤100) :
  ∃w',aj K 8 (rg 8 9) (B8 c1 s u kd pn a c 0 VS dv 14 N H w)=some (.normal,C8 c1 s u kd a c 0 VS dv 14 N H w'):=
 r9 (g:=true) ahU afC (by omega) (by simpa using hp) (by simp) hl (by simp;omega) h1 (by simp;omega) (by simp)
theorem r9C(hp:0<pn)(hl:lenV (.d VS)=some n)(h0:0<n)(h1:n≤100) :
  ∃w',aj K 8 (rg 8 9) (B8 c1 s u kd pn a c 0 VS dv 0 N H w)=some (.normal,C8 c1 s u kd a c 0 VS dv 0 N H w'):=
 r9 (g:=true) ahU ahU (by omega) (by simpa using hp) (by simp) hl (by simp;omega) h1 (by simp;omega) (by simp)
end
section
variable{c1:List D}{s u kd:Nat}{pn a c e e4:Int}{VS dv:D}{vs:List (List Int)}{N:Nat}{H:List O}{w:Nat}
theorem i9(p:Code):aj K 8 (.cond (.tmp 134) p .skip) (C8 c1 s u kd a c e VS dv e4 N H w)=some (.normal,C8 c1 s u kd a c e VS dv e4 N H w):=by simp[C8]
theorem r11:aj K 8 (rg 8 11) (C8 c1 s u kd a c e (E8 vs) dv e4 N H w)=some (.normal,S8 c1 s u kd a c e vs dv e4 N 0 [] H w):=by simp[C8,S8,amK]
theorem akb(k:Nat):∃w',aj K 8 (rg 8 26) (S8 c1 s u kd a c e vs dv 14 N k [(138,.d (.bool false))] H w)=some (.normal,D8 c1 kd a c e H w'):=by simp[S8,D8,acW,Jq,QK,SB]
theorem avR(k:Nat){SG:D}{m1 m2:Nat}(h1:lenV (.d dv)=some N)(e50:CK 50 [.d dv] H (.d SG) H m1)
  (e47:CK 47 [.d (E8 vs),.d (.list 1 [SG])] H (.d (.bool true)) H m2)(hc:D.isCell SG=true)(hc1:D.cells SG=[SG]) :
  ∃w',aj K 8 (rg 8 26) (S8 c1 s u kd a c e vs dv 0 N k [(138,.d (.bool false))] H w)=some (.normal,D8 c1 kd a c e H w'):=by
 simp only[lenV]at h1;simp only[D.isCell]at hc;simp only[D.cells]at hc1;simp only[S8];generalize E8 vs=VS at *;simp[D8,acW,Jq,QK,SB,h1,e50,e47,hc,hc1]
theorem i26(p:Code):aj K 8 (.cond (.tmp 219) p .skip) (D8 c1 kd a c e H w)=some (.normal,D8 c1 kd a c e H w):=by simp[D8]
theorem awR:∃w',aj K 8 (rg 8 28) (D8 c1 kd a c 14 H w)=some (.normal,St.mk [(2,.d (.bool true))] (Mem.mk [(4,0,.cells (c1.map .d) false)] H w') [] none false none):=by simp[D8,aef,Jw,SA,RZ,JQ,Ic]
theorem avb{T1 T2 M:D}{m0 m1 m2 m3:Nat}(e51:CK 51 [.d (.agg [T1,T2]),.d (.int .i64 a)] H (.d (.bool true)) H m0)
  (e51':ah K (.fn (.func 51) [] []) [.d (.agg [T1,T2]),.d (.int .i64 c)] none H=some (.ret (.d (.bool true)),false,H,m1))(e15:CK 15 [.d (.agg [T1,T2])] H (.d M) H m2)
  (e52:CK 52 [.d M,.d (.int .i64 a),.d (.int .i64 c),.d (.int .i64 kd)] H (.d (.bool true)) H m3) :
  ∃w',aj K 8 (rg 8 28) (D8 [T1,T2] kd a c 0 H w)=some (.normal,St.mk [(2,.d (.bool true))] (Mem.mk [(4,0,.cells ([T1,T2].map .d) false)] H w') [] none false none):=by
 simp[D8,aef,Jw,SA,RZ,JQ,Ic,e51,e51',e15,e52]
end
noncomputable def c8b:Code:=.seq (.seq (rg 8 9) (.cond (.tmp 134) (.seq (rg 8 10) (.ret)) (.skip))) (.seq (.seq (rg 8 11) (.block 0 (.loop UB))) (.seq (.seq (rg 8 26) (.cond (.tmp 219) (.seq (rg 8 27) (.ret)) (.skip))) (.seq (rg 8 28) (.ret))))
theorem ao1:c8=.seq (rg 8 0) (.seq (rg 8 1) (.seq (rg 8 2) (.seq (.region 3 (lQ K.P 8 3) true) (.seq (rg 8 4) (.seq (rg 8 5) (.seq (rg 8 6) (.seq (rg 8 7) (.seq (.region 8 (lQ K.P 8 8) true) c8b)))))))):=rfl
section
variable{c1:List D}{s u kd:Nat}{pn a c e e4:Int}{dv:D}{vs:List (List Int)}{N:Nat}{H:List O}{w:Nat}
theorem Yz(hA:Asc vs)(hS:∀v∈vs,Sg N v)(hN:N≤2)(hf:s=u→∀v∈vs,LM v=1)
  (h9:∀w,∃w',aj K 8 (rg 8 9) (B8 c1 s u kd pn a c e (E8 vs) dv e4 N H w)=some (.normal,C8 c1 s u kd a c e (E8 vs) dv e4 N H w'))
  (h26:∀w,∃w',aj K 8 (rg 8 26) (S8 c1 s u kd a c e vs dv e4 N vs.length [(138,.d (.bool false))] H w)=some (.normal,D8 c1 kd a c e H w'))
  (h28:∀w,∃w',aj K 8 (rg 8 28) (D8 c1 kd a c e H w)=some (.normal,St.mk [(2,.d (.bool true))] (Mem.mk [(4,0,.cells (c1.map .d) false)] H w') [] none false none)) :
  ∃w',aj K 8 c8b (B8 c1 s u kd pn a c e (E8 vs) dv e4 N H w)=some (.ret,St.mk [(2,.d (.bool true))] (Mem.mk [(4,0,.cells (c1.map .d) false)] H w') [] none false none):=by
 obtain⟨w1,h9⟩:=h9 w;obtain⟨w2,hl⟩:=adS (c1:=c1) (kd:=kd) (a:=a) (c:=c) (e:=e) (dv:=dv) (e4:=e4) (H:=H) hA hS hN hf vs.length 0 w1 (by omega);obtain⟨w3,h26⟩:=h26 w2;obtain⟨w4,h28⟩:=h28 w3;refine⟨w4,?_⟩;unfold c8b;simp only[mr,h9,andThen,i9,r11,jB,hl,outOf,beq_self_eq_true,cond_true,h26,i26,h28,EF]
end
def wQ(x:Nat×Stp×List Int):List (Nat×Int):=gX x::jQ x
theorem RS(x:Nat×Stp×List Int):dQ x.2.1 x.2.2=(wQ x).map bM:=by rw[F8];rfl
def XW(ks:List (Nat×Int))(b:Nat×Int)(v:List (Nat×Int))(j:Nat)(tl:List (Nat×V))(H:List O)(w:Nat):St:=
 St.mk ([(9,.d (.list 2 (ks.map bM))),(10,.d (.list 2 (bM b::v.map bM))),(11,.d (.int .i64 (j:Nat)))]++tl) (Mem.mk [] H w) [] none false none
def Yw(b:Nat×Int)(v:List (Nat×Int))(ks:List (Nat×Int))(j:Nat)(tl:List (Nat×V))(H:List O)(w:Nat):St:=
 St.mk ([(9,.d (.list 2 (bM b::v.map bM))),(10,.d (.list 2 (ks.map bM))),(12,.d (.int .i64 (j:Nat)))]++tl) (Mem.mk [] H w) [] none false none
def QU(r:Bool)(H:List O)(w:Nat):St:=St.mk [(8,.d (.bool r))] (Mem.mk [] H w) [] none false none
theorem ah2{ks:List (Nat×Int)}{b z:Nat×Int}{v:List (Nat×Int)}{j:Nat}(hz:ks[j]?=some z)(hn:ks.length≤100)(H:List O)(w:Nat) :
  aj K 52 En (XW ks b v j [] H w)=if z=b then some (.ret,QU true H w)else some (.normal,XW ks b v (j+1) [] H w):=by
 have hlt:=(gS.1 hz).1;have hz2:=(gS.1 hz).2;have w1:wr .i64 ((j:Int)+1)=(j:Int)+1:=wI;have gd:K.P.eqGuardType K.P.depth 86=false:=by kernel_rfl
 have gs:K.P.stoodInHeld 86=false:=by kernel_rfl
 obtain⟨a,e⟩:=z;obtain⟨c,d⟩:=b;by_cases hb:(a:Int)=c
 ·by_cases hd:e=d
  ·have hac:a=c:=by omega
   subst hac;subst hd;simp[XW,QU,QM,SK,PS,J9,Nu,hlt,hz2,bM,gd,gs,w1]
  ·have h1:(e==d)=false:=by simpa using hd
   simp[XW,QU,QM,SK,PS,J9,Nu,hlt,hz2,bM,gd,gs,w1,hb,hd,h1]
 ·have hb':¬a=c:=by omega
  have h1:((a:Int)==c)=false:=by simpa using hb
  simp[XW,QU,QM,SK,PS,J9,Nu,hlt,hz2,bM,gd,gs,w1,hb',h1]
theorem agK{ks:List (Nat×Int)}{b z:Nat×Int}{v:List (Nat×Int)}{j:Nat}(hz:ks[j]?=some z)(hn:ks.length≤100)(H:List O)(w:Nat) :
  aj K 52 Eu (Yw b v ks j [] H w)=if z=b then some (.ret,QU true H w)else some (.normal,Yw b v ks (j+1) [] H w):=by
 have hlt:=(gS.1 hz).1;have hz2:=(gS.1 hz).2;have w1:wr .i64 ((j:Int)+1)=(j:Int)+1:=wI;have gd:K.P.eqGuardType K.P.depth 86=false:=by kernel_rfl
 have gs:K.P.stoodInHeld 86=false:=by kernel_rfl
 obtain⟨a,e⟩:=z;obtain⟨c,d⟩:=b;by_cases hb:(a:Int)=c
 ·by_cases hd:e=d
  ·have hac:a=c:=by omega
   subst hac;subst hd;simp[Yw,QU,RX,Gl,NK,MN,LG,hlt,hz2,bM,gd,gs,w1]
  ·have h1:(e==d)=false:=by simpa using hd
   simp[Yw,QU,RX,Gl,NK,MN,LG,hlt,hz2,bM,gd,gs,w1,hb,hd,h1]
 ·have hb':¬a=c:=by omega
  have h1:((a:Int)==c)=false:=by simpa using hb
  simp[Yw,QU,RX,Gl,NK,MN,LG,hlt,hz2,bM,gd,gs,w1,hb',h1]
theorem ae8{ks:List (Nat×Int)}{b:Nat×Int}{v:List (Nat×Int)}(H:List O)(w:Nat):aj K 52 En (XW ks b v ks.length [] H w)=some (.exit 1,XW ks b v ks.length [(39,.d (.bool false))] H w):=by simp[XW,QM,SK]
theorem aeT{ks:List (Nat×Int)}{b:Nat×Int}{v:List (Nat×Int)}(H:List O)(w:Nat):aj K 52 Eu (Yw b v ks ks.length [] H w)=some (.exit 3,Yw b v ks ks.length [(53,.d (.bool false))] H w):=by simp[Yw,RX,Gl]
theorem XL{ks:List (Nat×Int)}{b:Nat×Int}{v:List (Nat×Int)}(hn:ks.length≤100)(H:List O)(w:Nat) :
  ∀(m j:Nat) (t:List (Nat×Int)),t.length=m→ks.drop j=t→j≤ks.length→
   aj K 52 (.loop En) (XW ks b v j [] H w)=if b∈t then some (.ret,QU true H w)else some (.exit 1,XW ks b v ks.length [(39,.d (.bool false))] H w)
 |0,j,t,hm,ht,hi=>by
  have ht0:t=[]:=List.eq_nil_of_length_eq_zero hm;subst ht0;have hie:j=ks.length:=by have:=List.drop_eq_nil_iff.1 ht;omega
  subst hie;rw[af,ae8];simp
 | m+1,j,t,hm,ht,hi=>by
  match t,hm,ht with
  | x :: r,hm,ht =>
   have hx:ks[j]?=some x:=by have:=congrArg List.head? ht;simpa[List.head?_drop]using this
   have hlt:=(gS.1 hx).1;have hr:ks.drop (j+1)=r:=by have:=congrArg List.tail ht;simpa[List.tail_drop]using this
   rw[af,ah2 hx hn];by_cases h:x=b
   ·subst h;simp
   ·have h':¬b=x:=fun e=>h e.symm;rw[if_neg h];show aj K 52 (.loop En) _=_;rw[XL hn H w m (j+1) r (by simpa using hm) hr (by omega)];simp[h']
theorem Xl{ks:List (Nat×Int)}{b:Nat×Int}{v:List (Nat×Int)}(hn:ks.length≤100)(H:List O)(w:Nat) :
  ∀(m j:Nat) (t:List (Nat×Int)),t.length=m→ks.drop j=t→j≤ks.length→
   aj K 52 (.loop Eu) (Yw b v ks j [] H w)=if b∈t then some (.ret,QU true H w)else some (.exit 3,Yw b v ks ks.length [(53,.d (.bool false))] H w)
 |0,j,t,hm,ht,hi=>by
  have ht0:t=[]:=List.eq_nil_of_length_eq_zero hm;subst ht0;have hie:j=ks.length:=by have:=List.drop_eq_nil_iff.1 ht;omega
  subst hie;rw[af,aeT];simp
 | m+1,j,t,hm,ht,hi=>by
  match t,hm,ht with
  | x :: r,hm,ht =>
   have hx:ks[j]?=some x:=by have:=congrArg List.head? ht;simpa[List.head?_drop]using this
   have hlt:=(gS.1 hx).1;have hr:ks.drop (j+1)=r:=by have:=congrArg List.tail ht;simpa[List.tail_drop]using this
   rw[af,agK hx hn];by_cases h:x=b
   ·subst h;simp
   ·have h':¬b=x:=fun e=>h e.symm;rw[if_neg h];show aj K 52 (.loop Eu) _=_;rw[Xl hn H w m (j+1) r (by simpa using hm) hr (by omega)];simp[h']
theorem s52{I:List (Nat×Stp×List Int)}(hl:I.length≤1000){m n:Nat}{x y:Nat×Stp×List Int}(hm:I[m]?=some x)(hn:I[n]?=some y)(hfx:x.2.1.fr.length≤3)(hfy:y.2.1.fr.length≤3)(hlt:m<n)(H:List O) :
  (∃w,ah K (.fn (.func 52) [] []) [.d (.list 1 (I.map kX)),.d (.int .i64 m),.d (.int .i64 n),.d (.int .i64 1)] none H=some (.ret (.d (.bool (decide (gX x∈jQ y)))),false,H,w))∧
  (∃w,ah K (.fn (.func 52) [] []) [.d (.list 1 (I.map kX)),.d (.int .i64 m),.d (.int .i64 n),.d (.int .i64 2)] none H=some (.ret (.d (.bool (decide (gX y∈jQ x)))),false,H,w))∧
  (∃w,ah K (.fn (.func 52) [] []) [.d (.list 1 (I.map kX)),.d (.int .i64 m),.d (.int .i64 n),.d (.int .i64 3)] none H=some (.ret (.d (.bool (decide (gX x=gX y)))),false,H,w)):=by
 have hm1:=(gS.1 hm).1;have hm2:=(gS.1 hm).2;have hn1:=(gS.1 hn).1;have hn2:=(gS.1 hn).2;have rx:kX x=.list 2 (bM (gX x)::(jQ x).map bM):=by simp only[kX,RS];rfl
 have ry:kX y=.list 2 (bM (gX y)::(jQ y).map bM):=by simp only[kX,RS];rfl
 have hng:¬((n:Int)≤(m:Int)):=by omega
 have gd:K.P.eqGuardType K.P.depth 86=false:=by kernel_rfl
 have gs:K.P.stoodInHeld 86=false:=by kernel_rfl
 have z1:((1:Nat):Int)=1:=rfl;refine⟨?_,?_,?_⟩
 ·have e:=Xl (ks:=wQ y) (b:=gX x) (v:=jQ x) (by simp[wQ,jQ];omega) H 0 (jQ y).length 1 (jQ y) rfl rfl (by simp[wQ]);simp only[Yw,z1,List.append_nil,wQ,List.map_cons,bM]at e;simp only[bM]at rx ry;by_cases h:gX x∈jQ y
  ·rw[if_pos h]at e;simp[k52,c52,Bz,Cb,C9,CU,Bo,QT,Xd,XO,hm1,hm2,hn1,hn2,rx,ry,hlt,hng,e,h,QU]
  ·rw[if_neg h]at e;simp[k52,c52,Bz,Cb,C9,CU,Bo,QT,Xd,XO,hm1,hm2,hn1,hn2,rx,ry,hlt,hng,e,h,QU]
 ·have e:=XL (ks:=wQ x) (b:=gX y) (v:=jQ y) (by simp[wQ,jQ];omega) H 0 (jQ x).length 1 (jQ x) rfl rfl (by simp[wQ]);simp only[XW,z1,List.append_nil,wQ,List.map_cons,bM]at e;simp only[bM]at rx ry;by_cases h:gX y∈jQ x
  ·rw[if_pos h]at e;simp[k52,c52,Bz,Cb,C9,CU,Bo,QT,adg,Y9,hm1,hm2,hn1,hn2,rx,ry,hlt,hng,e,h,QU]
  ·rw[if_neg h]at e;simp[k52,c52,Bz,Cb,C9,CU,Bo,QT,adg,Y9,hm1,hm2,hn1,hn2,rx,ry,hlt,hng,e,h,QU]
 ·simp only[bM]at rx ry;have hd:decide (gX x=gX y)=(decide (((gX x).1:Int)=(gX y).1)&&decide ((gX x).2=(gX y).2)):=by
   by_cases h:gX x=gX y
   ·simp[h]
   ·rw[decide_eq_false h];by_cases h1:((gX x).1:Int)=(gX y).1
    ·have h2:¬(gX x).2=(gX y).2:=fun h2=>h (Prod.ext (by omega) h2);simp[h2]
    ·rw[decide_eq_false h1];rfl
  by_cases h1:((gX x).1:Int)=(gX y).1
  ·by_cases h2:(gX x).2=(gX y).2
   ·simp[k52,c52,Bz,Cb,C9,CU,Bo,Wi,hm1,hm2,hn1,hn2,rx,ry,hlt,hng,gd,gs,h1,h2,hd]
   ·have h3:((gX x).2==(gX y).2)=false:=by simpa using h2
    simp[k52,c52,Bz,Cb,C9,CU,Bo,Wi,hm1,hm2,hn1,hn2,rx,ry,hlt,hng,gd,gs,h1,h2,h3,hd]
  ·have h3:(((gX x).1:Int)==(gX y).1)=false:=by simpa using h1
   simp[k52,c52,Bz,Cb,C9,CU,Bo,Wi,hm1,hm2,hn1,hn2,rx,ry,hlt,hng,gd,gs,h1,h3,hd]
theorem ER(z:Nat×Int):∀(ks f:List (Nat×Int)),z∈ks.foldl vw f↔z∈f∨z∈ks
 |[],f=>by simp| k :: ks,f=>by
  rw[List.foldl_cons,ER z ks (vw f k)];have:z∈vw f k↔z∈f∨z=k:=by
   unfold vw;split
   ·rename_i h;constructor
    ·exact .inl
    ·rintro(h'|rfl)
     ·exact h'
     ·exact h
   ·simp
  rw[this];simp only[List.mem_cons,or_assoc]
theorem Ef(z:Nat×Int)(ks:List (Nat×Int)):z∈rD ks↔z∈ks:=by have:=ER z ks [];simpa[rD]using this
theorem afT{t:List Stp}{kd s:Nat}{v:List Int}(h:∃n m,jS kd s s (allI 0 t) n m∧Za (allI 0 t) (n,m) v):LM v=1:=by obtain⟨n,m,⟨x,y,hx,hy,hnm,hxs,hys,_⟩,x',y',hx',hy',rfl⟩:=h;simp only at hx' hy';rw[hx]at hx';cases hx';rw[hy]at hy';cases hy';have hp:=Jd t 0;rw[List.pairwise_iff_getElem]at hp;obtain⟨nl,ne⟩:=gS.1 hx;obtain⟨ml,me⟩:=gS.1 hy;have h1:=hp n m nl ml hnm (by rw[ne,me,hxs,hys]);rw[ne,me]at h1;obtain⟨xs,xt,xp⟩:=x;obtain⟨ys,yt,yp⟩:=y;obtain⟨_,a1,a2⟩:=iR.1 (List.mem_of_getElem? hx);obtain⟨_,b1,b2⟩:=iR.1 (List.mem_of_getElem? hy);simp only at hxs hys h1 ⊢;subst hxs;rw[hys]at b1;rw[a1]at b1;cases b1;exact Si _ _ (by rw[(gZ.1 a2).len,(gZ.1 b2).len]) h1
theorem agd{vs:List (List Int)}(hA:Asc vs){w:List Int}(h:∀v∈vs,v=w)(hne:vs≠[]):vs=[w]:=by
 match vs,hne with
 |[a],_=>rw[h a (by simp)]|a::b::r,_=>have h1:=hA 0 a b rfl rfl;have ha:=h a (by simp);have hb:=h b (by simp);rw[ha,hb,EK]at h1;omega
theorem s8a{v:V}{nums:List Int}(hv:dn v nums):∃(h0 h1 h2 h3 h4:List O) (w0 w1 w2 w3 w4:Nat) (t:List Stp) (s u kd:Nat) (x y:Stp),
  ah K (.fn (.func 12) [] []) [v] none []=some (.ret (.ptr (.heap 0) 0),false,h0,w0)∧
  ah K (.fn (.func 13) [] []) [.ptr (.heap 0) 0,.d (.int .i64 3)] none h0=some (.ret (.d (dw t)),false,h1,w1)∧
  ah K (.fn (.func 20) [] []) [.ptr (.heap 0) 0,.d (.int .i64 ((t.length:Int)-1))] none h1=some (.ret (.d (.int .i64 s)),false,h2,w2)∧
  ah K (.fn (.func 20) [] []) [.ptr (.heap 0) 0,.d (.int .i64 ((t.length:Int)-1))] none h2=some (.ret (.d (.int .i64 u)),false,h3,w3)∧
  ah K (.fn (.func 21) [] []) [.ptr (.heap 0) 0,.d (.int .i64 1),.d (.int .i64 3)] none h3=some (.ret (.d (.int .i64 kd)),false,h4,w4)∧
  (w2=1∧w3=1∧w4=1∧h2.length=h1.length∧h3.length=h1.length∧h4.length=h1.length)∧
  dL t∧t.length≤3∧t[s]?=some x∧t[u]?=some y∧(kd=1∨kd=2∨kd=3):=by
 obtain⟨st0,w0,e0⟩:=s12 (hp:=[]) hv;obtain⟨k1,st1,t,w1,e1,ht,h3,hk1,hk1'⟩:=s13 (hp:=[aW v 0 st0]) (l:=0) (k:=0) (st:=st0) (most:=3) hv (by simp) (by omega) (by omega) (by omega) (by omega);have h3':t.length≤3:=by omega
 have hpos:=ht.pos;obtain⟨st2,s,e2,s0,s1⟩:=s20 (hp:=[aW v 0 st0]) (l:=0) (k:=k1) (st:=st1) (n:=(t.length:Int)-1) hv (by simp) (by omega) (by omega) (by omega);obtain⟨st3,u,e3,u0,u1⟩:=s20 (hp:=[aW v 0 st0]) (l:=0) (k:=k1+1) (st:=st2) (n:=(t.length:Int)-1) hv (by simp) (by omega) (by omega) (by omega);obtain⟨st4,kd,e4,a0,a1⟩:=Yn (hp:=[aW v 0 st0]) (l:=0) (k:=k1+1+1) (st:=st3) (lo:=1) (hi:=3) hv (by simp) (by omega) (by omega) (by omega) (by omega) (by omega);obtain⟨s,rfl⟩:∃n:Nat,s=n:=⟨s.toNat,by omega⟩
 obtain⟨u,rfl⟩:∃n:Nat,u=n:=⟨u.toNat,by omega⟩
 obtain⟨kd,rfl⟩:∃n:Nat,kd=n:=⟨kd.toNat,by omega⟩
 obtain⟨x,hx⟩:∃x,t[s]?=some x:=⟨_,List.getElem?_eq_getElem (by omega)⟩
 obtain⟨y,hy⟩:∃y,t[u]?=some y:=⟨_,List.getElem?_eq_getElem (by omega)⟩
 exact⟨_,_,_,_,_,_,_,_,_,_,t,s,u,kd,x,y,e0,e1,e2,e3,e4,by simp,ht,h3',hx,hy,by omega⟩
theorem s8{v:V}{nums:List Int}(hv:dn v nums):∃H w,ah K (.fn (.func 8) [] []) [v] none []=some (.ret (.d (.bool true)),false,H,w):=by
 obtain⟨h0,h1,h2,h3,h4,w0,w1,w2,w3,w4,t,s,u,kd,x,y,e0,e1,e2,e3,eF,⟨rfl,rfl,rfl,l2,l3,l4⟩,ht,ht3,hs,hu,hkd⟩:=s8a hv;obtain⟨dv,rfl⟩:∃dv,v=.d dv:=by rcases hv with rfl|⟨rfl,_⟩<;>exact⟨_,rfl⟩
 have hx:=ht.ok x (List.mem_of_getElem? hs);have hy:=ht.ok y (List.mem_of_getElem? hu);have fx:=hx.sz.few;have fy:=hy.sz.few;have slt:=(gS.1 hs).1;have ste:=(gS.1 hs).2;have ult:=(gS.1 hu).1;have ute:=(gS.1 hu).2;have wl:wr .i64 ((t.length:Int)-1)=(t.length:Int)-1:=wI;obtain⟨H1,m1,pn,e24,hpn⟩:=s24 ht ht3 h4 slt ult hkd;obtain⟨H2,m2,h26⟩:=s26 ht ht3 H1 slt ult hkd;obtain⟨H3,m3,vs,e42,hA,hvs,hvn⟩:=s42 ht ht3 H2 hs hu hkd;have h44:=s44 ht ht3 H3 hs hu hkd;have hS:∀v∈vs,Sg (min x.ss.length y.ss.length) v:=fun v h=>(hvs v h).1;have hF:s=u→∀v∈vs,LM v=1:=fun h v hv=>by subst h;exact afT (hvs v hv).2
 have hlV:=VI vs;have h9:=hA.few (by omega) hS;have hlx:lenV (.d (fC x.ss))=some x.ss.length:=by cases x.ss<;>simp[fC]
 have hly:lenV (.d (fC y.ss))=some y.ss.length:=by cases y.ss<;>simp[fC]
 have czx:D.isCell (fC x.ss)=true:=by cases x.ss<;>rfl
 have czy:D.isCell (fC y.ss)=true:=by cases y.ss<;>rfl
 have z0:((0:Nat):Int)=0:=rfl;simp only[D.isCell]at czx czy;simp only[lenV]at hlx hly;have hmin:min (x.ss.length:Int) y.ss.length=((min x.ss.length y.ss.length:Nat):Int):=by omega
 have hmin2:(if y.ss.length<x.ss.length then(y.ss.length:Int)else(x.ss.length:Int))=((min x.ss.length y.ss.length:Nat):Int):=by split<;>omega
 have hNle:min x.ss.length y.ss.length≤2:=by omega
 generalize hN:min x.ss.length y.ss.length=N at *
 suffices hT:∃(a c e e4:Int) (dd:D) (H4:List O) (m4:Nat),
   (∃w,ah K (.fn (.func 26) [] []) [.d (dw t),.d (.int .i64 (s:Nat)),.d (.int .i64 (u:Nat)),.d (.int .i64 (kd:Nat))] none H1=some (.ret (.tuple [.d (.int .i64 a),.d (.int .i64 c),.d (.int .i64 e)]),false,H2,w))∧
   ah K (.fn (.func 44) [] []) [.d (dw t),.d (.int .i64 (s:Nat)),.d (.int .i64 (u:Nat)),.d (.int .i64 (kd:Nat))] none H3=some (.ret (.tuple [.d dd,.d (.int .i64 e4)]),false,H4,m4)∧
   ∀w,∃w',aj K 8 c8b (B8 [.list 2 ax,bC t] s u kd pn a c e (E8 vs) dd e4 N H4 w)=some (.ret,St.mk [(2,.d (.bool true))] (Mem.mk [(4,0,.cells (([.list 2 ax,bC t]:List D).map .d) false)] H4 w') [] none false none) by
  obtain⟨a,c,e,e4,dd,H4,m4,⟨w26,e26⟩,e44,hT⟩:=hT;obtain⟨f,hT⟩:∃f:Nat→Nat,∀w,aj K 8 c8b (B8 [.list 2 ax,bC t] s u kd pn a c e (E8 vs) dd e4 N H4 w)=some (.ret,St.mk [(2,.d (.bool true))] (Mem.mk [(4,0,.cells (([.list 2 ax,bC t]:List D).map .d) false)] H4 (f w)) [] none false none):=⟨fun w=>(hT w).choose,fun w=>(hT w).choose_spec⟩
  have e:=k8 [] [] [.d dv] none [];rw[ao1]at e;clear hF hS hA hvs hvn h26 h44 hpn;generalize E8 vs=VS at *;generalize((pn:Nat):Int)=PN at *;generalize c8b=R at *;simp only[B8,List.map_cons,List.map_nil,bC]at hT;simp only[dw]at e1 e24 e26 e42 e44;simp(maxSteps:=2000000) [awW,asq,azx,au6,axf,aye,axT,atf,atN,e0,e1,e2,e3,eF,e24,e26,e42,e44,wl,slt,ste,ult,ute,encS,hlx,hly,czx,czy,hmin,hmin2,hT,l2,l3,l4]at e;exact⟨_,_,e⟩
 rcases h26 with ⟨hno,e26⟩|⟨a,c,hac,e26⟩
 ·have h0:pn=0:=hpn.2 hno;subst h0;have hv0:vs=[]:=by
   cases vs with
   |nil=>rfl|cons v r=>obtain⟨_,n,m,hd,_⟩:=hvs v (by simp);exact absurd hd (hno n m)
  subst hv0;rcases h44 with ⟨H4,m4,e44⟩|⟨_,_,_,_,⟨n,m,hd⟩,_⟩
  rotate_left 1
  ·exact absurd hd (hno n m)
  exact⟨0,0,14,14,.nils,H4,m4,⟨m2,e26⟩,e44,fun w=>Yz hA hS hNle hF (fun w=>r9A) (fun w=>akb _) (fun w=>awR)⟩
 ·have hvn:=hvn ⟨a,c,hac⟩;have h0:(0:Int)<pn:=by have:pn≠0:=fun h=>(hpn.1 h) a c hac;omega
  have hvl:0<vs.length:=by
   cases vs with
   |nil=>exact absurd rfl hvn|cons _ _=>simp
  have hall:=AQ ht ht3;obtain⟨X,Y,hX,hY,hlt,hXs,hYu,p,hp1,hp2⟩:=hac;have few:∀z∈allI 0 t,z.2.1.fr.length≤3:=by rintro⟨k,s,p⟩ hz;obtain⟨_,hk,_⟩:=iR.1 hz;exact(ht.ok s (List.mem_of_getElem? hk)).few
  have htot:gB t t.length=((allI 0 t).length:Int):=by rw[wK t t.length ht.ok,uK]
  have al:=(gS.1 hX).1;have cl:=(gS.1 hY).1;have b1:(0:Int)≤a∧(a:Int)≤gB t t.length-1:=by omega
  have b2:(0:Int)≤c∧(c:Int)≤gB t t.length-1:=by omega
  have e52:∀H,∃w,ah K (.fn (.func 52) [] []) [.d (.list 1 ((allI 0 t).map kX)),.d (.int .i64 a),.d (.int .i64 c),.d (.int .i64 kd)] none H=some (.ret (.d (.bool true)),false,H,w):=by
   intro H;obtain⟨g1,g2,g3⟩:=s52 (I:=allI 0 t) (by omega) hX hY (few _ (List.mem_of_getElem? hX)) (few _ (List.mem_of_getElem? hY)) hlt H;rcases hkd with rfl|rfl|rfl
   ·simp only[oN,jH,show(1:Nat)≠2 by omega,if_true,if_false,List.mem_singleton,Ef]at hp1 hp2;subst hp1;rw[decide_eq_true hp2]at g1;exact g1
   ·simp only[oN,jH,show(2:Nat)≠1 by omega,if_true,if_false,List.mem_singleton,Ef]at hp1 hp2;subst hp2;rw[decide_eq_true hp1]at g2;exact g2
   ·simp only[oN,jH,show(3:Nat)≠1 by omega,show(3:Nat)≠2 by omega,if_true,if_false,List.mem_singleton]at hp1 hp2;rw[decide_eq_true (hp1.symm.trans hp2)]at g3;exact g3
  have r28:∀H w,∃w',aj K 8 (rg 8 28) (D8 [.list 2 ax,bC t] kd a c 0 H w)=some (.normal,St.mk [(2,.d (.bool true))] (Mem.mk [(4,0,.cells (([.list 2 ax,bC t]:List D).map .d) false)] H w') [] none false none):=by intro H w;obtain⟨m5,e15⟩:=s15 H ht ht3;obtain⟨m6,e52⟩:=e52 H;have e51:=s51 H ht ht3 a;have e51':=s51 H ht ht3 c;rw[decide_eq_true b1]at e51;rw[decide_eq_true b2]at e51';exact avb e51 e51' e15 e52
  rcases h44 with ⟨H4,m4,e44⟩|⟨H4,m4,ds,e44,_,hds,hdl⟩
  ·exact⟨a,c,0,14,.nils,H4,m4,⟨m2,e26⟩,e44,fun w=>Yz hA hS hNle hF (fun w=>r9B h0 hlV hvl (by omega)) (fun w=>akb _) (fun w=>r28 _ _)⟩
  ·have hone:vs=[vk ds]:=agd hA (fun v hv=>by
    obtain⟨_,n,m,hd,x',y',hx',hy',rfl⟩:=hvs v hv;obtain⟨x2,y2,hx2,hy2,rfl⟩:=hds n m hd;simp only at hx' hy' hx2 hy2;rw[hx2]at hx';cases hx';rw[hy2]at hy';cases hy'
    rfl) hvn
   obtain⟨m7,e50⟩:=s50 (ds:=ds) (by omega) H4;obtain⟨m8,e47⟩:=s47 (p:=vk ds) (by simp[vk];omega) H4;have hVS:E8 vs=.list 1 [bF (vk ds)]:=by rw[hone];rfl
   have hc1:D.cells (bF (vk ds))=[bF (vk ds)]:=by cases ds<;>rfl
   have hld:lenV (.d (bF ds))=some N:=by rw[←hdl];cases ds<;>simp[bF]
   exact⟨a,c,0,0,bF ds,H4,m4,⟨m2,e26⟩,e44,fun w=>Yz hA hS hNle hF (fun w=>r9C h0 hlV hvl (by omega)) (fun w=>avR _ hld e50 (by rw[hVS];exact e47) (uy _) hc1) (fun w=>r28 _ _)⟩
end Mw
