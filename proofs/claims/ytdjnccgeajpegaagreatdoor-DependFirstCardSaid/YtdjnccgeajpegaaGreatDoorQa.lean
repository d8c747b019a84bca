/- DependFirst's tied card holds; no condition beyond the card's own. -/
import Derived.Test.YtdjnccgeajpegaaGreatDoorXa
import Derived.Test.YtdjnccgeajpegaaGreatDoorKc
set_option linter.unusedVariables false
set_option linter.unusedSimpArgs false
set_option maxRecDepth 10000
set_option maxHeartbeats 1000000
namespace Mw
open Go Go.Proofs
def IA(n:Int):List Oper:=[⟨(some 5),.move (.tmp 0),0,"",#[],none⟩,
 ⟨(some 6),.nilCheck (.tmp 5),0,"",#[],none⟩,
 ⟨(some 7),.fieldAddr 96 (.tmp 6) 1,0,"",#[],none⟩,
 ⟨(some 8),.load 3 (.tmp 7),0,"",#[],none⟩,
 ⟨(some 9),.binOp .add 3 (.tmp 8) (.const (.int .i64 (1))) 3,0,"",#[],none⟩,
 ⟨(some 10),.convert 3 94 (.tmp 9),0,"",#[],none⟩,
 ⟨(some 11),.binOp .mul 94 (.tmp 10) (.const (.int .u64 n)) 94,0,"",#[],none⟩,
 ⟨(some 3),.assign (.tmp 11),0,"",#[],none⟩]
def JW(n:Int):List Oper:=[⟨(some 22),.move (.tmp 3),0,"",#[],none⟩,
 ⟨(some 23),.move (.tmp 0),0,"",#[],none⟩,
 ⟨(some 24),.nilCheck (.tmp 23),0,"",#[],none⟩,
 ⟨(some 25),.fieldAddr 96 (.tmp 24) 0,0,"",#[],none⟩,
 ⟨(some 26),.load 22 (.tmp 25),0,"",#[],none⟩,
 ⟨(some 27),.move (.tmp 0),0,"",#[],none⟩,
 ⟨(some 28),.nilCheck (.tmp 27),0,"",#[],none⟩,
 ⟨(some 29),.fieldAddr 96 (.tmp 28) 1,0,"",#[],none⟩,
 ⟨(some 30),.load 3 (.tmp 29),0,"",#[],none⟩,
 ⟨(some 31),.indexAddr 22 (.tmp 26) (.tmp 30),0,"",#[],none⟩,
 ⟨(some 32),.load 3 (.tmp 31),0,"",#[],none⟩,
 ⟨(some 33),.convert 3 94 (.tmp 32),0,"",#[],none⟩,
 ⟨(some 34),.binOp .mul 94 (.tmp 33) (.const (.int .u64 n)) 94,0,"",#[],none⟩,
 ⟨(some 35),.binOp .add 94 (.tmp 22) (.tmp 34) 94,0,"",#[],none⟩,
 ⟨(some 3),.assign (.tmp 35),0,"",#[],none⟩]
def JD(n:Int):List Oper:=[⟨(some 43),.move (.tmp 0),0,"",#[],none⟩,
 ⟨(some 44),.move (.tmp 0),0,"",#[],none⟩,
 ⟨(some 45),.nilCheck (.tmp 44),0,"",#[],none⟩,
 ⟨(some 46),.fieldAddr 96 (.tmp 45) 2,0,"",#[],none⟩,
 ⟨(some 47),.load 94 (.tmp 46),0,"",#[],none⟩,
 ⟨(some 48),.move (.tmp 3),0,"",#[],none⟩,
 ⟨(some 49),.binOp .xor 94 (.tmp 47) (.tmp 48) 94,0,"",#[],none⟩,
 ⟨(some 50),.binOp .mul 94 (.tmp 49) (.const (.int .u64 n)) 94,0,"",#[],none⟩,
 ⟨(some 51),.nilCheck (.tmp 43),0,"",#[],none⟩,
 ⟨(some 52),.fieldAddr 96 (.tmp 51) 2,0,"",#[],none⟩,
 ⟨none,.store 94 (.tmp 52) (.tmp 50),0,"",#[],none⟩]
def Ir(n:Int):List Oper:=[⟨(some 66),.move (.tmp 0),0,"",#[],none⟩,
 ⟨(some 67),.nilCheck (.tmp 66),0,"",#[],none⟩,
 ⟨(some 68),.fieldAddr 96 (.tmp 67) 2,0,"",#[],none⟩,
 ⟨(some 69),.load 94 (.tmp 68),0,"",#[],none⟩,
 ⟨(some 70),.binOp .mul 94 (.tmp 69) (.const (.int .u64 n)) 94,0,"",#[],none⟩,
 ⟨(some 4),.assign (.tmp 70),0,"",#[],none⟩]
theorem s73{hp:List O}{l:Nat}{v:V}{nums:List Int}{k st:Int}(hv:dn v nums)(hl:l<hp.length)(h:hp[l]=aW v k st)(hk0:0≤k)(hk:k<1099511627776) :
  ∃st' out,ah K (.fn (.func 73) [] []) [.ptr (.heap l) 0] none hp=some (.ret (.d (.int .u64 out)),false,hp.set l (aW v (k+1) st'),1 <<< l)∧0≤out:=by
 have hw:wr .i64 (k+1)=k+1:=wI;have h0:¬(k<0):=by omega
 unfold aW at *;have e:=k73 [] [] [.ptr (.heap l) 0] none hp;obtain⟨n1,y1⟩:∃n1:Int,∀s:St,aj K 73 (rg 73 1) s=oK 9 (jy K (ah K) 73 (IA n1) (IA n1) s):=⟨13503953896175478587,apw⟩
 obtain⟨n3,y3⟩:∃n3:Int,∀s:St,aj K 73 (.region 3 (lQ K.P 73 3) true) s=J6 s.m.hp.length 9 [(4,8)] (bg K (ah K) 73 (JW n3) (JW n3) s):=⟨4354685564936845355,alS⟩
 obtain⟨n5,y5⟩:∃n5:Int,∀s:St,aj K 73 (rg 73 5) s=oK 1 (jy K (ah K) 73 (JD n5) (JD n5) s):=⟨11912009170470909681,amf⟩
 obtain⟨n7,y7⟩:∃n7:Int,∀s:St,aj K 73 (rg 73 7) s=oK 16 (jy K (ah K) 73 (Ir n7) (Ir n7) s):=⟨5840696475078001361,alR⟩
 rcases hv with rfl|⟨rfl,rfl⟩
 ·by_cases hlt:k<nums.length
  ·have hlt':k.toNat<nums.length:=by omega
   simp[c73,VJ,V6,Y8,WS,Wh,y1,IA,y3,JW,y5,JD,y7,Ir,h,hl,hw,hlt,hlt',hk0]at e;exact⟨_,_,e,Fh _ (GN _ _)⟩
  ·simp[c73,VJ,V6,Y8,WS,Wh,y1,IA,y3,JW,y5,JD,y7,Ir,h,hl,hw,hlt]at e;exact⟨_,_,e,Fh _ (GN _ _)⟩
 ·simp[c73,VJ,V6,Y8,WS,Wh,y1,IA,y3,JW,y5,JD,y7,Ir,h,hl,hw,h0]at e;exact⟨_,_,e,Fh _ (GN _ _)⟩
theorem amQ{a n:Int}(ha:0≤a)(hn:0<n):0≤au .rem a n∧au .rem a n<n:=by rw[uj];exact⟨Int.tmod_nonneg _ ha,Int.tmod_lt_of_pos _ hn⟩
theorem s20{hp:List O}{l:Nat}{v:V}{nums:List Int}{k st n:Int}(hv:dn v nums)(hl:l<hp.length)(hk0:0≤k)(hk:k<1099511627776)(hn:n≤1099511627776) :
  ∃st' r,ah K (.fn (.func 20) [] []) [.ptr (.heap l) 0,.d (.int .i64 n)] none (hp.set l (aW v k st))=some (.ret (.d (.int .i64 r)),false,hp.set l (aW v (k+1) st'),1 <<< l)∧0≤r∧(r≤n∨n<1∧r=0):=by
 obtain⟨st',out,h1,h2⟩:=s73 (hp:=hp.set l (aW v k st)) (k:=k) (st:=st) hv (by simpa using hl) (by simp) hk0 hk;have e:=k20 [] [] [.ptr (.heap l) 0,.d (.int .i64 n)] none (hp.set l (aW v k st));by_cases hlt:n<1
 ·simp[c20,adZ,adt,aei,aej,h1,hlt]at e;exact⟨_,_,e,by omega,.inr ⟨hlt,rfl⟩⟩
 ·have hA:au .add (wr .u64 n) 1=n+1:=by rw[Ie (by omega) (by omega),uj];show IntKind.wrap .u64 (n+1)=n+1;rw[←qO,Ie (by omega) (by omega)]
  obtain⟨hr0,hr1⟩:=amQ h2 (show 0<n+1 by omega);have hR:dN .rem .u64 out (n+1)=some (.int .u64 (au .rem out (n+1))):=afF (by omega);have hW:wr .i64 (au .rem out (n+1))=au .rem out (n+1):=wI;simp[c20,adZ,adt,aei,aej,anO,h1,hlt,hA,hR,hW]at e;exact⟨_,_,e,hr0,.inl (by omega)⟩
theorem Yn{hp:List O}{l:Nat}{v:V}{nums:List Int}{k st lo hi:Int}(hv:dn v nums)(hl:l<hp.length)(hk0:0≤k)(hk:k<1099511627776)(h1:0≤lo)(h2:lo≤hi)(h3:hi≤1000) :
  ∃st' r,ah K (.fn (.func 21) [] []) [.ptr (.heap l) 0,.d (.int .i64 lo),.d (.int .i64 hi)] none (hp.set l (aW v k st))=some (.ret (.d (.int .i64 r)),false,hp.set l (aW v (k+1) st'),1 <<< l)∧lo≤r∧r≤hi:=by
 obtain⟨st',r,e1,r0,r1⟩:=s20 (n:=hi-lo) (st:=st) hv hl hk0 hk (by omega);have e:=k21 [] [] [.ptr (.heap l) 0,.d (.int .i64 lo),.d (.int .i64 hi)] none (hp.set l (aW v k st));have hw:wr .i64 (hi-lo)=hi-lo:=wI;have hw2:wr .i64 (lo+r)=lo+r:=wI;simp[c21,amE,anc,e1,hw,hw2]at e;exact⟨_,_,e,by omega,by omega⟩
theorem zy{hp:List O}{l:Nat}{v:V}{nums:List Int}{k st n:Int}(hv:dn v nums)(hl:l<hp.length)(hk0:0≤k)(hk:k<1099511627776)(h1:0≤n)(h3:n≤1000) :
  ∃st' b,ah K (.fn (.func 129) [] []) [.ptr (.heap l) 0,.d (.int .i64 n)] none (hp.set l (aW v k st))=some (.ret (.d (.bool b)),false,hp.set l (aW v (k+1) st'),1 <<< l):=by
 obtain⟨st',r,e1,r0,r1⟩:=s20 (n:=n-1) (st:=st) hv hl hk0 hk (by omega);have e:=aup [] [] [.ptr (.heap l) 0,.d (.int .i64 n)] none (hp.set l (aW v k st));have hw:wr .i64 (n-1)=n-1:=wI;simp[alU,afw,aij,e1,hw]at e;exact⟨_,_,e⟩
theorem s58{hp:List O}{l:Nat}{v:V}{nums xs:List Int}{k st:Int}(hv:dn v nums)(hl:l<hp.length)(hk0:0≤k)(hk:k<1099511627776)(h1:0<xs.length)(h3:xs.length≤1000) :
  ∃st' r,ah K (.fn (.func 58) [] []) [.ptr (.heap l) 0,.d (.list 1 (ints xs))] none (hp.set l (aW v k st))=some (.ret (.d (.int .i64 r)),false,hp.set l (aW v (k+1) st'),1 <<< l)∧r∈xs:=by
 obtain⟨st',r,e1,r0,r1⟩:=s20 (n:=(xs.length:Int)-1) (st:=st) hv hl hk0 hk (by omega);have e:=k58 [] [] [.ptr (.heap l) 0,.d (.list 1 (ints xs))] none (hp.set l (aW v k st));have hw:wr .i64 ((xs.length:Int)-1)=(xs.length:Int)-1:=wI;have hr:r.toNat<xs.length:=by omega
 simp[c58,amd,alp,e1,hw,r0,hr]at e;exact⟨_,_,e,List.getElem_mem hr⟩
@[simp] theorem ints_set(cs:List Int)(i:Nat)(x:Int):(ints cs).set i (.int .i64 x)=ints (cs.set i x):=by simp[ints]
theorem Yr(n:Nat):List.replicate n (D.int .i64 0)=ints (List.replicate n 0):=by simp[ints]
def rP:List Int→List Int→Int
 |c::cs,s::ss=>min 0 (c*(s-1))+rP cs ss|_,_=>0
def hiA:List Int→List Int→Int
 |c::cs,s::ss=>max 0 (c*(s-1))+hiA cs ss|_,_=>0
theorem Sz:∀(cs ss:List Int) (i:Nat) (v:Int) (h:i<cs.length) (h':i<ss.length),cs[i]=0→rP (cs.set i v) ss=rP cs ss+min 0 (v*(ss[i] - 1))
 |c::cs,s::ss,0,v,_,_,h=>by simp at h;subst h;simp[rP];omega|c::cs,s::ss,i+1,v,h1,h2,h=>by simp only[List.set_cons_succ,rP,List.getElem_cons_succ];rw[Sz cs ss i v (by simpa using h1) (by simpa using h2) (by simpa using h)];omega
theorem Ry:∀(cs ss:List Int) (i:Nat) (v:Int) (h:i<cs.length) (h':i<ss.length),cs[i]=0→hiA (cs.set i v) ss=hiA cs ss+max 0 (v*(ss[i] - 1))
 |c::cs,s::ss,0,v,_,_,h=>by simp at h;subst h;simp[hiA];omega|c::cs,s::ss,i+1,v,h1,h2,h=>by simp only[List.set_cons_succ,hiA,List.getElem_cons_succ];rw[Ry cs ss i v (by simpa using h1) (by simpa using h2) (by simpa using h)];omega
theorem BD:∀(n:Nat) (ss:List Int),rP (List.replicate n 0) ss=0
 |0,ss=>by cases ss<;>rfl|n+1,[]=>rfl|n+1,s::ss=>by simp[List.replicate_succ,rP,BD n ss]
theorem Il:∀(n:Nat) (ss:List Int),hiA (List.replicate n 0) ss=0
 |0,ss=>by cases ss<;>rfl|n+1,[]=>rfl|n+1,s::ss=>by simp[List.replicate_succ,hiA,Il n ss]
theorem bW:∀(cs ss:List Int),rP cs ss≤0
 |[],_=>by simp[rP]|_::_,[]=>by simp[rP]|c::cs,s::ss=>by have:=bW cs ss;simp only[rP];omega
theorem bY:∀(cs ss:List Int),0≤hiA cs ss
 |[],_=>by simp[hiA]|_::_,[]=>by simp[hiA]|c::cs,s::ss=>by have:=bY cs ss;simp only[hiA];omega
structure Df(cs ss:List Int)(c ρ size:Int):Prop where
 len:cs.length=ss.length
 coef:∀x∈cs,x=0∨x=1∨x=-1
 room:0≤ρ
 const:c=-(rP cs ss)
 sum:ρ=size-1-(hiA cs ss-rP cs ss)
abbrev adP(l:Nat)(ss cs:List Int)(hp:List O)(c ρ k:Int)(t:List (Nat×V)):St:=
 {tm:=(0,.ptr (.heap l) 0)::(1,.d (.list 1 (ints ss)))::(6,.ptr (.slot 6 0) 0)::(7,.ptr (.slot 7 0) 0)::(8,.d (.int .i64 ρ))::(9,.d (.int .i64 k))::t,
  m:={ob:=[(6,0,.cells [.d (.int .i64 0),.d .nils] false),(7,0,.cells [.d (.int .i64 c),.sl (.slot 14 0) 1 ss.length 0 ss.length] false),(14,0,.vec 1 (ints cs) false false)],hp:=hp,wl:=1 <<< l},df:=[] }
theorem avF{hp:List O}{l:Nat}{v:V}{nums ss:List Int}{size:Int}(hv:dn v nums)(hl:l<hp.length)(hs:∀s∈ss,1≤s∧s≤4)(h0:0<ss.length)(h2:ss.length≤10) :
  ∀(j:Nat) (k st c ρ:Int) (cs:List Int),j≤2→Df cs ss c ρ size→size≤10→0≤k→k+2*j<1099511627776→∃k' st' c' ρ' cs',aj K 186 (.loop KH) (adP l ss cs (hp.set l (aW v k st)) c ρ j []) =
   some (.exit 0,adP l ss cs' (hp.set l (aW v k' st')) c' ρ' 0 [(26,.d (.bool false))])∧Df cs' ss c' ρ' size∧k≤k'∧k'≤k+2*j:=by
 intro j;induction j with
 |zero=>intro k st c ρ cs hj hI hz hk hk';refine⟨k,st,c,ρ,cs,?_,hI,by omega,by omega⟩;rw[af];simp[uF,rq]| succ j ih =>
  intro k st c ρ cs hj hI hz hk hk';rw[af];obtain⟨st1,r,e1,r0,r1⟩:=s20 (n:=(ss.length:Int)-1) (st:=st) (k:=k) hv hl hk (by omega) (by omega);have hw1:wr .i64 ((ss.length:Int)-1)=(ss.length:Int)-1:=wI;have hr:r.toNat<ss.length:=by omega
  have hr1:r.toNat+1≤ss.length:=hr;have hrc:r.toNat<cs.length:=by rw[hI.len];exact hr
  obtain⟨hs1,hs4⟩:=hs ss[r.toNat] (List.getElem_mem hr);have hw2:wr .i64 (ss[r.toNat] - 1)=ss[r.toNat] - 1:=wI;have hw3:wr .i64 (j:Int)=(j:Int):=wI;have hA:rP cs ss≤0:=bW cs ss;have hB:0≤hiA cs ss:=bY cs ss;have hj0:(0:Int)<(j:Int)+1:=by omega
  have hn0:(0:Int)<(ss.length:Int):=by omega
  by_cases hc:cs[r.toNat]=0
  ·by_cases hf:ρ<ss[r.toNat] - 1
   ·obtain⟨k',st',c',ρ',cs',h1,h3,h4,h5⟩:=ih (k+1) st1 c ρ cs (by omega) hI hz (by omega) (by omega);refine⟨k',st',c',ρ',cs',?_,h3,by omega,by omega⟩;simp[uF,rq,Gn,EU,EW,GX,FH,zT,zX,Af,Ak,e1,hw1,hw2,hw3,hr,hr1,hrc,r0,hc,hf,hj0,h0,hI.len,h1]
   ·have hw4:wr .i64 (ρ-(ss[r.toNat] - 1))=ρ-(ss[r.toNat] - 1):=lT (by have:=hI.room;have:=hI.sum;omega) (by have:=hI.room;have:=hI.sum;omega);obtain⟨st2,b,e2⟩:=zy (n:=4) (st:=st1) (k:=k+1) hv hl (by omega) (by omega) (by omega) (by omega);have hR:=hI.room;have hL:=Sz cs ss r.toNat
    have hH:=Ry cs ss r.toNat
    cases b with
    | false =>
     have hI':Df (cs.set r.toNat 1) ss c (ρ-(ss[r.toNat] - 1)) size:=by
      refine⟨by simp[hI.len],?_,by omega,?_,?_⟩
      ·intro x hx;rcases List.mem_or_eq_of_mem_set hx with h|h
       ·exact hI.coef x h
       ·subst h;simp
      ·rw[hL 1 hrc hr hc,hI.const];omega
      ·rw[hL 1 hrc hr hc,hH 1 hrc hr hc,hI.sum];omega
     obtain⟨k',st',c',ρ',cs',h1,h3,h4,h5⟩:=ih (k+1+1) st2 c (ρ-(ss[r.toNat] - 1)) (cs.set r.toNat 1) (by omega) hI' hz (by omega) (by omega);refine⟨k',st',c',ρ',cs',?_,h3,by omega,by omega⟩;simp[uF,rq,Gn,EU,EW,GX,FH,zT,zX,Af,Ak,e1,e2,hw1,hw2,hw3,hw4,hr,hr1,hrc,r0,hc,hf,hj0,h0,hI.len,h1]
    | true =>
     have hcb:c+(ss[r.toNat] - 1)≤100∧0≤c:=by have:=hI.const;have:=hI.sum;have hA:rP cs ss≤0:=bW cs ss;have hB:0≤hiA cs ss:=bY cs ss;omega
     have hw5:wr .i64 (c+(ss[r.toNat] - 1))=c+(ss[r.toNat] - 1):=wI;have hI':Df (cs.set r.toNat (-1)) ss (c+(ss[r.toNat] - 1)) (ρ-(ss[r.toNat] - 1)) size:=by
      refine⟨by simp[hI.len],?_,by omega,?_,?_⟩
      ·intro x hx;rcases List.mem_or_eq_of_mem_set hx with h|h
       ·exact hI.coef x h
       ·subst h;simp
      ·rw[hL (-1) hrc hr hc,hI.const];omega
      ·rw[hL (-1) hrc hr hc,hH (-1) hrc hr hc,hI.sum];omega
     obtain⟨k',st',c',ρ',cs',h1,h3,h4,h5⟩:=ih (k+1+1) st2 (c+(ss[r.toNat] - 1)) (ρ-(ss[r.toNat] - 1)) (cs.set r.toNat (-1)) (by omega) hI' hz (by omega) (by omega);refine⟨k',st',c',ρ',cs',?_,h3,by omega,by omega⟩;simp[uF,rq,Gn,EU,EW,GX,FH,zT,zX,Af,Ak,e1,e2,hw1,hw2,hw3,hw4,hw5,hr,hr1,hrc,r0,hc,hf,hj0,h0,hI.len,h1]
  ·obtain⟨k',st',c',ρ',cs',h1,h3,h4,h5⟩:=ih (k+1) st1 c ρ cs (by omega) hI hz (by omega) (by omega);refine⟨k',st',c',ρ',cs',?_,h3,by omega,by omega⟩;simp[uF,rq,Gn,EU,EW,GX,FH,zT,zX,Af,Ak,e1,hw1,hw2,hw3,hr,hr1,hrc,r0,hc,hj0,h0,hI.len,h1]
structure jM(c:Int)(cs ss:List Int)(size:Int):Prop where
 len:cs.length=ss.length
 coef:∀x∈cs,x=0∨x=1∨x=-1
 lo:0≤c+rP cs ss
 hi:c+hiA cs ss≤size-1
@[simp] theorem ajL(n:Nat):List.replicate n (D.int .i64 0)=ints (List.replicate n 0):=Yr n
@[simp] theorem ajI(n:Nat)(cs:List Int):(ints cs).take n=ints (cs.take n):=by simp[ints]
theorem axa{hp:List O}{l:Nat}{v:V}{nums ss:List Int}{k st size:Int}(hv:dn v nums)(hl:l<hp.length)(hs:∀s∈ss,1≤s∧s≤4)(h0:0<ss.length)(h2:ss.length≤10)(hk:0≤k)(hk':k<1099511620000)(hz1:1≤size)(hz:size≤10) :
  ∃k' st' c cs,ah K (.fn (.func 186) [] []) [.ptr (.heap l) 0,.d (.list 1 (ints ss)),.d (.int .i64 size)] none (hp.set l (aW v k st)) =
   some (.ret (.d (.agg [.int .i64 c,.list 1 (ints cs)])),false,hp.set l (aW v k' st'),1 <<< l)∧jM c cs ss size∧k≤k'∧k'≤k+6:=by
 have e:=amZ [] [] [.ptr (.heap l) 0,.d (.list 1 (ints ss)),.d (.int .i64 size)] none (hp.set l (aW v k st));obtain⟨st1,r,e1,r0,r1⟩:=s20 (n:=2) (st:=st) (k:=k) hv hl hk (by omega) (by omega);obtain⟨j,rfl⟩:∃j:Nat,r=j:=⟨r.toNat,by omega⟩
 have hw:wr .i64 (size-1)=size-1:=wI;have hI:Df (List.replicate ss.length 0) ss 0 (size-1) size:=by refine⟨by simp,?_,by omega,by simp[BD],by simp[BD,Il]⟩;intro x hx;rw[List.mem_replicate]at hx;exact .inl hx.2
 obtain⟨k',st',c',ρ',cs',h1,h3,h4,h5⟩:=avF (size:=size) hv hl hs h0 h2 j (k+1) st1 0 (size-1) (List.replicate ss.length 0) (by omega) hI hz (by omega) (by omega);obtain⟨st2,q,e2,q0,q1⟩:=s20 (n:=ρ') (st:=st') (k:=k') hv hl (by omega) (by omega) (by have:=h3.sum;have:=bW cs' ss;have:=bY cs' ss;omega);have hA:=bW cs' ss;have hB:=bY cs' ss;have hS:=h3.sum;have hR:=h3.room;have hC:=h3.const;have hw2:wr .i64 (c'+q)=c'+q:=wI;have hlen:ss.length≤4294967296:=by omega
 have hlen8:ss.length*8≤4294967296:=by omega
 have htk:cs'.take ss.length=cs':=by rw[List.take_of_length_le];rw[h3.len];exact Nat.le_refl _
 simp[abz,OE,Pe,Ku,Ox,rq,FV,FX,hw,hlen,hlen8,e1,h1,e2,hw2,h3.len,htk]at e;refine⟨_,_,_,_,e,⟨h3.len,h3.coef,?_,?_⟩,by omega,by omega⟩<;>omega
def fC:List Int→D
 |[]=>.nils|x::xs=>.list 1 (ints (x::xs))
theorem alm{hp:List O}{l:Nat}{v:V}{nums:List Int}{k st size:Int}(hv:dn v nums)(hl:l<hp.length)(hk:0≤k)(hk':k<1099511620000)(hz1:1≤size)(hz:size≤10) :
  ∃k' st' c cs,ah K (.fn (.func 186) [] []) [.ptr (.heap l) 0,.d .nils,.d (.int .i64 size)] none (hp.set l (aW v k st)) =
   some (.ret (.d (.agg [.int .i64 c,.list 1 (ints cs)])),false,hp.set l (aW v k' st'),1 <<< l)∧jM c cs [] size∧k≤k'∧k'≤k+6:=by
 have e:=amZ [] [] [.ptr (.heap l) 0,.d .nils,.d (.int .i64 size)] none (hp.set l (aW v k st));obtain⟨st1,r,e1,r0,r1⟩:=s20 (n:=2) (st:=st) (k:=k) hv hl hk (by omega) (by omega);have hw:wr .i64 (size-1)=size-1:=wI;obtain⟨st2,q,e2,q0,q1⟩:=s20 (n:=size-1) (st:=st1) (k:=k+1) hv hl (by omega) (by omega) (by omega);have hw2:wr .i64 q=q:=wI;have i0:([]:List D)=ints []:=rfl;by_cases hr:0<r
 ·simp[abz,OE,Pe,Ku,Ox,rq,FV,FX,af,uF,hw,hr,e1,e2,hw2]at e;refine⟨_,_,q,[],e,⟨rfl,by simp,?_,?_⟩,by omega,by omega⟩<;>simp[rP,hiA]<;>omega
 ·simp[abz,OE,Pe,Ku,Ox,rq,FV,FX,af,uF,hw,hr,e1,e2,hw2]at e;refine⟨_,_,q,[],e,⟨rfl,by simp,?_,?_⟩,by omega,by omega⟩<;>simp[rP,hiA]<;>omega
structure eX(ss:List Int):Prop where
 within:∀s∈ss,1≤s∧s≤4
 few:ss.length≤2
theorem Xc{hp:List O}{l:Nat}{v:V}{nums ss:List Int}{k st size:Int}(hv:dn v nums)(hl:l<hp.length)(hs:eX ss)(hk:0≤k)(hk':k<1099511620000)(hz1:1≤size)(hz:size≤10) :
  ∃k' st' c cs,ah K (.fn (.func 186) [] []) [.ptr (.heap l) 0,.d (fC ss),.d (.int .i64 size)] none (hp.set l (aW v k st)) =
   some (.ret (.d (.agg [.int .i64 c,.list 1 (ints cs)])),false,hp.set l (aW v k' st'),1 <<< l)∧jM c cs ss size∧k≤k'∧k'≤k+6:=by
 cases ss with
 |nil=>exact alm hv hl hk hk' hz1 hz|cons s ss=>exact axa hv hl hs.within (by simp) (by have:=hs.few;omega) hk hk' hz1 hz
def ny(x:Int×List Int):D:=.agg [.int .i64 x.1,.list 1 (ints x.2)]
def ax:List D:=[.agg [.str ⟨#[97]⟩,.list 1 [.int .i64 5]],.agg [.str ⟨#[98]⟩,.list 1 [.int .i64 4,.int .i64 4]],.agg [.str ⟨#[99]⟩,.nils]]
def dI:Nat→List Int
 |0=>[5]|1=>[4,4]|_=>[]
def lS:List (Int×List Int)→D
 |[]=>.nils|x::xs=>.list 2 ((x::xs).map ny)
def dJ(a:Nat)(x:List (Int×List Int)):D:=.agg [.int .i64 a,lS x]
structure dP(a:Nat)(x:List (Int×List Int))(ss:List Int):Prop where
 arr:a<3
 len:x.length=(dI a).length
 ok:∀i (h:i<x.length) (h':i<(dI a).length),jM x[i].1 x[i].2 ss (dI a)[i]
theorem ahq{hp:List O}{l:Nat}{v:V}{nums ss:List Int}{k st:Int}(hv:dn v nums)(hl:l<hp.length)(hs:eX ss)(hk:0≤k)(hk':k<1099511610000) :
  ∃k' st' x,ah K (.fn (.func 128) [] []) [.ptr (.heap l) 0,.d (.list 2 ax),.d (fC ss),.d (.int .i64 0)] none (hp.set l (aW v k st)) =
   some (.ret (.d (dJ 0 x)),false,hp.set l (aW v k' st'),1 <<< l)∧dP 0 x ss∧k≤k'∧k'≤k+12:=by
 have e:=aiB [] [] [.ptr (.heap l) 0,.d (.list 2 ax),.d (fC ss),.d (.int .i64 0)] none (hp.set l (aW v k st));obtain⟨k1,st1,c,cs,e1,h1,h2,h3⟩:=Xc (size:=5) (st:=st) (k:=k) hv hl hs hk (by omega) (by omega) (by omega);have hw:wr .i64 1=1:=wI;simp[acv,Ko,O9,Mc,Nv,Pn,NS,Qz,af,Ov,ax,hw,e1]at e;refine⟨k1,st1,[(c,cs)],?_,⟨by omega,rfl,?_⟩,by omega,by omega⟩
 ·simpa[dJ,lS,ny,ax]using e
 ·intro i hi hi';have:i=0:=by simp at hi;omega
  subst this;exact h1
theorem ahN{hp:List O}{l:Nat}{v:V}{nums ss:List Int}{k st:Int}(hv:dn v nums)(hl:l<hp.length)(hs:eX ss)(hk:0≤k)(hk':k<1099511610000) :
  ∃k' st' x,ah K (.fn (.func 128) [] []) [.ptr (.heap l) 0,.d (.list 2 ax),.d (fC ss),.d (.int .i64 1)] none (hp.set l (aW v k st)) =
   some (.ret (.d (dJ 1 x)),false,hp.set l (aW v k' st'),1 <<< l)∧dP 1 x ss∧k≤k'∧k'≤k+12:=by
 have e:=aiB [] [] [.ptr (.heap l) 0,.d (.list 2 ax),.d (fC ss),.d (.int .i64 1)] none (hp.set l (aW v k st));obtain⟨k1,st1,c,cs,e1,h1,h2,h3⟩:=Xc (size:=4) (st:=st) (k:=k) hv hl hs hk (by omega) (by omega) (by omega);obtain⟨k2,st2,d,ds,e2,h4,h5,h6⟩:=Xc (size:=4) (st:=st1) (k:=k1) hv hl hs (by omega) (by omega) (by omega) (by omega);have hw:wr .i64 1=1:=wI;simp[acv,Ko,O9,Mc,Nv,Pn,NS,Qz,af,Ov,ax,hw,hw2,e1,e2]at e;refine⟨k2,st2,[(c,cs),(d,ds)],?_,⟨by omega,rfl,?_⟩,by omega,by omega⟩
 ·simpa[dJ,lS,ny,ax]using e
 ·intro i hi hi';rcases i with _|_|i
  ·exact h1
  ·exact h4
  ·simp at hi;omega
theorem aiU{hp:List O}{l:Nat}{v:V}{ss:List Int}{k st:Int}(hk:0≤k)(hk':k<1099511610000) :
  ∃k' st' x,ah K (.fn (.func 128) [] []) [.ptr (.heap l) 0,.d (.list 2 ax),.d (fC ss),.d (.int .i64 2)] none (hp.set l (aW v k st)) =
   some (.ret (.d (dJ 2 x)),false,hp.set l (aW v k' st'),0)∧dP 2 x ss∧k≤k'∧k'≤k+12:=by
 have e:=aiB [] [] [.ptr (.heap l) 0,.d (.list 2 ax),.d (fC ss),.d (.int .i64 2)] none (hp.set l (aW v k st));simp[acv,Ko,O9,Mc,Nv,Pn,NS,Qz,af,Ov,ax]at e;refine⟨k,st,[],?_,⟨by omega,rfl,?_⟩,by omega,by omega⟩
 ·simpa[dJ,lS,ny,ax]using e
 ·intro i hi hi';simp at hi
theorem zo{hp:List O}{l:Nat}{v:V}{nums ss:List Int}{k st a:Int}(hv:dn v nums)(hl:l<hp.length)(hs:eX ss)(hk:0≤k)(hk':k<1099511610000)(ha0:0≤a)(ha:a≤2) :
  ∃k' st' n x w,ah K (.fn (.func 128) [] []) [.ptr (.heap l) 0,.d (.list 2 ax),.d (fC ss),.d (.int .i64 a)] none (hp.set l (aW v k st)) =
   some (.ret (.d (dJ n x)),false,hp.set l (aW v k' st'),w)∧dP n x ss∧k≤k'∧k'≤k+12∧w ||| 1 <<< l=1 <<< l:=by
 obtain rfl|rfl|rfl:a=0∨a=1∨a=2:=by omega
 ·obtain⟨k',st',x,e,h1,h2,h3⟩:=ahq (st:=st) hv hl hs hk hk';exact⟨k',st',0,x,_,e,h1,h2,h3,by simp⟩
 ·obtain⟨k',st',x,e,h1,h2,h3⟩:=ahN (st:=st) hv hl hs hk hk';exact⟨k',st',1,x,_,e,h1,h2,h3,by simp⟩
 ·obtain⟨k',st',x,e,h1,h2,h3⟩:=aiU (l:=l) (hp:=hp) (v:=v) (ss:=ss) (st:=st) hk hk';exact⟨k',st',2,x,_,e,h1,h2,h3,by simp⟩
theorem UH(hp:List O)(n lo hi:Int)(h1:lo≤n)(h2:n≤hi):ah K (.fn (.func 109) [] []) [.d (.int .i64 n),.d (.int .i64 lo),.d (.int .i64 hi)] none hp=some (.ret (.d (.bool true)),false,hp,0):=by rw[avV];simp[c109,ahY,ais,h1,h2]
theorem auY(hp:List O)(i n:Int)(h1:1≤n)(h2:n≤12):ah K (.fn (.func 207) [] []) [.d (.int .i64 i),.d (.int .i64 n)] none hp=some (.ret (.d (.int .i64 0)),false,hp,0):=by rw[aw3];simp[aoM,afK,ahu,aeH,ahl,UH hp n 1 12 h1 h2]
theorem ao6(hp:List O)(i n:Int)(h1:-99≤n)(h2:n≤99):ah K (.fn (.func 270) [] []) [.d (.int .i64 i),.d (.int .i64 n)] none hp=some (.ret (.d (.int .i64 0)),false,hp,0):=by rw[asQ];simp[ank,afR,aeK,ahd,afi,UH hp n (-99) 99 h1 h2]
theorem avt(hp:List O)(xs:List Int)(f:FuncId)(hn:xs.length≤1000)(h:∀(i:Nat) (hi:i<xs.length),ah K (.fn (.func f) [] []) [.d (.int .i64 i),.d (.int .i64 xs[i])] none hp=some (.ret (.d (.int .i64 0)),false,hp,0))(am:∀a b,ay K (.fn (.func f) a b)=4) :
  ah K (.fn (.func 206) [] []) [.d (.list 1 (ints xs)),.fn (.func f) [] []] none hp=some (.ret (.d (.int .i64 0)),false,hp,0):=by
 let st:Nat→List (Nat×V)→St:=fun i t=>{tm:=(1,.fn (.func f) [] [])::(8,.d (.list 1 (ints xs)))::(9,.d (.int .i64 xs.length))::(10,.d (.int .i64 i))::t,m:={ob:=[],hp:=hp,wl:=0},df:=[],rc:=none}
 have h0:aj K 206 (.loop FK) (st 0 [])=some (.exit 0,st xs.length [(11,.d (.bool false))]):=by
  apply Aw (fun i=>st i []) xs.length (by simp)
  ·intro i hi;simp[st,AB,CV,Xb,XU,ZK,VB,Yt,hi,EG hi (by omega),h i hi,am]
  ·simp[st,AB,CV]
 have z0:((0:Nat):Int)=0:=rfl;simp only[st,z0]at h0;rw[afW];simp[c206,NG,Px,OD,h0]
theorem an7(hp:List O)(f:FuncId):ah K (.fn (.func 206) [] []) [.d .nils,.fn (.func f) [] []] none hp=some (.ret (.d (.int .i64 0)),false,hp,0):=by rw[afW];simp[c206,af,AB,NG,Px,CV,OD]
theorem adN(hp:List O)(l:Nat)(xs:List Int)(f:FuncId)(hl:l<hp.length)(hv:hp[l]=.vec 1 (ints xs) false true)(hn:xs.length≤1000)(h:∀(i:Nat) (hi:i<xs.length),ah K (.fn (.func f) [] []) [.d (.int .i64 i),.d (.int .i64 xs[i])] none hp=some (.ret (.d (.int .i64 0)),false,hp,0))(am:∀a b,ay K (.fn (.func f) a b)=4) :
  ah K (.fn (.func 206) [] []) [.sl (.heap l) 1 xs.length 0 xs.length,.fn (.func f) [] []] none hp=some (.ret (.d (.int .i64 0)),false,hp,0):=by
 let st:Nat→List (Nat×V)→St:=fun i t=>{tm:=(1,.fn (.func f) [] [])::(8,.sl (.heap l) 1 xs.length 0 xs.length)::(9,.d (.int .i64 xs.length))::(10,.d (.int .i64 i))::t,m:={ob:=[],hp:=hp,wl:=0},df:=[],rc:=none}
 have h0:aj K 206 (.loop FK) (st 0 [])=some (.exit 0,st xs.length [(11,.d (.bool false))]):=by
  apply Aw (fun i=>st i []) xs.length (by simp)
  ·intro i hi;have hi1:i+1≤xs.length:=hi;simp[st,AB,CV,Xb,XU,ZK,VB,Yt,hl,hv,hi,hi1,EG hi (by omega),h i hi,am]
  ·simp[st,AB,CV]
 have z0:((0:Nat):Int)=0:=rfl;simp only[st,z0]at h0;rw[afW];simp[c206,NG,Px,OD,h0]
theorem ou(x:Int)(xs:List Int):fC (x::xs)=.list 1 (ints (x::xs)):=rfl
theorem ani(hp:List O)(ss:List Int)(h4:ss.length≤4)(h:∀s∈ss,1≤s∧s≤12):ah K (.fn (.func 172) [] []) [.d (fC ss)] none hp=some (.ret (.d (.int .i64 0)),false,hp,0):=by
 rw[atx];have h4':¬((4:Int)<ss.length):=by omega
 cases ss with
 |nil=>simp[afS,WX,WG,X8,YH,fC,an7]|cons x xs=>
  have e:=avt hp (x::xs) 207 (by omega) (fun i hi=>auY hp i _ (h _ (List.getElem_mem hi)).1 (h _ (List.getElem_mem hi)).2) aeX;have h4'':¬(4<xs.length+1):=by simp at h4;omega
  simp only[eu]at e;have h4':¬((4:Int)<xs.length+1):=by simp at h4;omega
  simp[afS,WX,WG,X8,YH,fC,e,h4',h4'']
theorem aoR(hp:List O)(xs:List Int)(n:Int)(h:(xs.length:Int)=n):ah K (.fn (.func 108) [] []) [.d (.list 1 (ints xs)),.d (.int .i64 n)] none hp=some (.ret (.d (.int .i64 0)),false,hp,0):=by rw[axD];simp[apj,aiQ,ae7,agR,agH,agL,agv,h]
theorem s81(hp:List O)(x:Int)(xs:List Int)(h:xs.length≤1000):ah K (.fn (.func 81) [] []) [.d (.list 1 (ints (x::xs)))] none hp=some (.ret (.sl (.heap hp.length) 1 (xs.length+1) 0 (xs.length+1)),false,hp++[.vec 1 (ints (x::xs)) false true],0):=by
 rw[k81];have h1:xs.length+1≤4294967296:=by omega
 have h2:(xs.length+1)*8≤4294967296:=by omega
 simp[c81,ad9,ady,adu,adq,h1,h2]
theorem auq(hp:List O):ah K (.fn (.func 81) [] []) [.d (.list 1 [])] none hp=some (.ret (.ex 1 []),false,hp,0):=by rw[k81];simp[c81,ad9,ady,adu,adq]
theorem afU{h0:List O}  {pa pb:Loc}
 (hpa:pa.isHeap=true)(hpb:pb.isHeap=true):∃w,ah K (.fn (.func 209) [] []) [.d (.nils),.fn (.func 210) [] [.ptr pa 0,.ptr pb 0]] none h0=some (.ret (.d (.int .i64 0)),false,h0,w):=by
 simp only[Loc.isHeap]at hpa hpb;have e:=aaI [] [] [.d (.nils),.fn (.func 210) [] [.ptr pa 0,.ptr pb 0]] none h0;simp[ZG,Gq,FC,GV,Gw,Hg,GH,EX,GL,GR,af,Fe,hw1,hw2,hw3,hpa,hpb]at e;exact⟨_,e⟩
theorem agD{h0 h1:List O}{w1:Nat}{n0:Int}{x0:D}  {pa pb:Loc}
 (e0:ah K (.fn (.func 210) [] [.ptr pa 0,.ptr pb 0]) [.d (.int .i64 0),.d (.agg [.int .i64 n0,x0])] none h0=some (.ret (.d (.int .i64 0)),false,h1,w1))(cx0:D.isCell x0=true)
 (hpa:pa.isHeap=true)(hpb:pb.isHeap=true):∃w,ah K (.fn (.func 209) [] []) [.d (.list 2 [.agg [.int .i64 n0,x0]]),.fn (.func 210) [] [.ptr pa 0,.ptr pb 0]] none h0=some (.ret (.d (.int .i64 0)),false,h1,w):=by
 simp only[Loc.isHeap]at hpa hpb;simp only[D.isCell]at cx0;have e:=aaI [] [] [.d (.list 2 [.agg [.int .i64 n0,x0]]),.fn (.func 210) [] [.ptr pa 0,.ptr pb 0]] none h0;simp[ZG,Gq,FC,GV,Gw,Hg,GH,EX,GL,GR,af,Fe,hw1,hw2,hw3,hpa,hpb,e0,cx0]at e;exact⟨_,e⟩
theorem ahc{h0 h1 h2:List O}{w1 w2:Nat}{n0 n1:Int}{x0 x1:D}  {pa pb:Loc}
 (e0:ah K (.fn (.func 210) [] [.ptr pa 0,.ptr pb 0]) [.d (.int .i64 0),.d (.agg [.int .i64 n0,x0])] none h0=some (.ret (.d (.int .i64 0)),false,h1,w1))
 (e1:ah K (.fn (.func 210) [] [.ptr pa 0,.ptr pb 0]) [.d (.int .i64 1),.d (.agg [.int .i64 n1,x1])] none h1=some (.ret (.d (.int .i64 0)),false,h2,w2))(cx0:D.isCell x0=true)(cx1:D.isCell x1=true)
 (hpa:pa.isHeap=true)(hpb:pb.isHeap=true):∃w,ah K (.fn (.func 209) [] []) [.d (.list 2 [.agg [.int .i64 n0,x0],.agg [.int .i64 n1,x1]]),.fn (.func 210) [] [.ptr pa 0,.ptr pb 0]] none h0=some (.ret (.d (.int .i64 0)),false,h2,w):=by
 simp only[Loc.isHeap]at hpa hpb;simp only[D.isCell]at cx0 cx1;have e:=aaI [] [] [.d (.list 2 [.agg [.int .i64 n0,x0],.agg [.int .i64 n1,x1]]),.fn (.func 210) [] [.ptr pa 0,.ptr pb 0]] none h0;simp[ZG,Gq,FC,GV,Gw,Hg,GH,EX,GL,GR,af,Fe,hw1,hw2,hw3,hpa,hpb,e0,e1,cx0,cx1]at e;exact⟨_,e⟩
theorem aft{h0 h1 h2 h3:List O}{w1 w2 w3:Nat}{n0 n1 n2:Int}{x0 x1 x2:D}  {pa pb:Loc}
 (e0:ah K (.fn (.func 210) [] [.ptr pa 0,.ptr pb 0]) [.d (.int .i64 0),.d (.agg [.int .i64 n0,x0])] none h0=some (.ret (.d (.int .i64 0)),false,h1,w1))
 (e1:ah K (.fn (.func 210) [] [.ptr pa 0,.ptr pb 0]) [.d (.int .i64 1),.d (.agg [.int .i64 n1,x1])] none h1=some (.ret (.d (.int .i64 0)),false,h2,w2))
 (e2:ah K (.fn (.func 210) [] [.ptr pa 0,.ptr pb 0]) [.d (.int .i64 2),.d (.agg [.int .i64 n2,x2])] none h2=some (.ret (.d (.int .i64 0)),false,h3,w3))(cx0:D.isCell x0=true)(cx1:D.isCell x1=true)(cx2:D.isCell x2=true)
 (hpa:pa.isHeap=true)(hpb:pb.isHeap=true):∃w,ah K (.fn (.func 209) [] []) [.d (.list 2 [.agg [.int .i64 n0,x0],.agg [.int .i64 n1,x1],.agg [.int .i64 n2,x2]]),.fn (.func 210) [] [.ptr pa 0,.ptr pb 0]] none h0=some (.ret (.d (.int .i64 0)),false,h3,w):=by
 simp only[Loc.isHeap]at hpa hpb;simp only[D.isCell]at cx0 cx1 cx2;have e:=aaI [] [] [.d (.list 2 [.agg [.int .i64 n0,x0],.agg [.int .i64 n1,x1],.agg [.int .i64 n2,x2]]),.fn (.func 210) [] [.ptr pa 0,.ptr pb 0]] none h0;simp[ZG,Gq,FC,GV,Gw,Hg,GH,EX,GL,GR,af,Fe,hw1,hw2,hw3,hpa,hpb,e0,e1,e2,cx0,cx1,cx2]at e;exact⟨_,e⟩
theorem agI{h0 h1:List O}{w1:Nat}{t0 o0 z0:Int}{p0 q0 m0:ByteArray}{s0 x0 f0 a0:D}  {pa:Loc}
 (e0:ah K (.fn (.func 174) [] [.ptr pa 0]) [.d (.int .i64 0),.d (.agg [s0,.int .i64 t0,x0,f0,.int .i64 o0,.str p0,.str q0,.str m0,.int .i64 z0,a0])] none h0=some (.ret (.d (.int .i64 0)),false,h1,w1))(cs0:D.isCell s0=true)(cx0:D.isCell x0=true)(cf0:D.isCell f0=true)(ca0:D.isCell a0=true)
 (hpa:pa.isHeap=true):∃w,ah K (.fn (.func 173) [] []) [.d (.list 10 [.agg [s0,.int .i64 t0,x0,f0,.int .i64 o0,.str p0,.str q0,.str m0,.int .i64 z0,a0]]),.fn (.func 174) [] [.ptr pa 0]] none h0=some (.ret (.d (.int .i64 0)),false,h1,w):=by
 simp only[Loc.isHeap]at hpa;simp only[D.isCell]at cs0 cx0 cf0 ca0;have e:=afb [] [] [.d (.list 10 [.agg [s0,.int .i64 t0,x0,f0,.int .i64 o0,.str p0,.str q0,.str m0,.int .i64 z0,a0]]),.fn (.func 174) [] [.ptr pa 0]] none h0;simp[c173,Pv,PK,Lj,QC,KT,P7,Ky,NZ,Ny,af,Nj,hw1,hw2,hw3,hpa,e0,cs0,cx0,cf0,ca0]at e;exact⟨_,e⟩
theorem agc{h0 h1 h2:List O}{w1 w2:Nat}{t0 o0 z0 t1 o1 z1:Int}{p0 q0 m0 p1 q1 m1:ByteArray}{s0 x0 f0 a0 s1 x1 f1 a1:D}  {pa:Loc}
 (e0:ah K (.fn (.func 174) [] [.ptr pa 0]) [.d (.int .i64 0),.d (.agg [s0,.int .i64 t0,x0,f0,.int .i64 o0,.str p0,.str q0,.str m0,.int .i64 z0,a0])] none h0=some (.ret (.d (.int .i64 0)),false,h1,w1))
 (e1:ah K (.fn (.func 174) [] [.ptr pa 0]) [.d (.int .i64 1),.d (.agg [s1,.int .i64 t1,x1,f1,.int .i64 o1,.str p1,.str q1,.str m1,.int .i64 z1,a1])] none h1=some (.ret (.d (.int .i64 0)),false,h2,w2))(cs0:D.isCell s0=true)(cx0:D.isCell x0=true)(cf0:D.isCell f0=true)(ca0:D.isCell a0=true)(cs1:D.isCell s1=true)(cx1:D.isCell x1=true)(cf1:D.isCell f1=true)(ca1:D.isCell a1=true)
 (hpa:pa.isHeap=true):∃w,ah K (.fn (.func 173) [] []) [.d (.list 10 [.agg [s0,.int .i64 t0,x0,f0,.int .i64 o0,.str p0,.str q0,.str m0,.int .i64 z0,a0],.agg [s1,.int .i64 t1,x1,f1,.int .i64 o1,.str p1,.str q1,.str m1,.int .i64 z1,a1]]),.fn (.func 174) [] [.ptr pa 0]] none h0=some (.ret (.d (.int .i64 0)),false,h2,w):=by
 simp only[Loc.isHeap]at hpa;simp only[D.isCell]at cs0 cx0 cf0 ca0 cs1 cx1 cf1 ca1;have e:=afb [] [] [.d (.list 10 [.agg [s0,.int .i64 t0,x0,f0,.int .i64 o0,.str p0,.str q0,.str m0,.int .i64 z0,a0],.agg [s1,.int .i64 t1,x1,f1,.int .i64 o1,.str p1,.str q1,.str m1,.int .i64 z1,a1]]),.fn (.func 174) [] [.ptr pa 0]] none h0;simp[c173,Pv,PK,Lj,QC,KT,P7,Ky,NZ,Ny,af,Nj,hw1,hw2,hw3,hpa,e0,e1,cs0,cx0,cf0,ca0,cs1,cx1,cf1,ca1]at e;exact⟨_,e⟩
theorem afa{h0 h1 h2 h3:List O}{w1 w2 w3:Nat}{t0 o0 z0 t1 o1 z1 t2 o2 z2:Int}{p0 q0 m0 p1 q1 m1 p2 q2 m2:ByteArray}{s0 x0 f0 a0 s1 x1 f1 a1 s2 x2 f2 a2:D}  {pa:Loc}
 (e0:ah K (.fn (.func 174) [] [.ptr pa 0]) [.d (.int .i64 0),.d (.agg [s0,.int .i64 t0,x0,f0,.int .i64 o0,.str p0,.str q0,.str m0,.int .i64 z0,a0])] none h0=some (.ret (.d (.int .i64 0)),false,h1,w1))
 (e1:ah K (.fn (.func 174) [] [.ptr pa 0]) [.d (.int .i64 1),.d (.agg [s1,.int .i64 t1,x1,f1,.int .i64 o1,.str p1,.str q1,.str m1,.int .i64 z1,a1])] none h1=some (.ret (.d (.int .i64 0)),false,h2,w2))
 (e2:ah K (.fn (.func 174) [] [.ptr pa 0]) [.d (.int .i64 2),.d (.agg [s2,.int .i64 t2,x2,f2,.int .i64 o2,.str p2,.str q2,.str m2,.int .i64 z2,a2])] none h2=some (.ret (.d (.int .i64 0)),false,h3,w3))(cs0:D.isCell s0=true)(cx0:D.isCell x0=true)(cf0:D.isCell f0=true)(ca0:D.isCell a0=true)(cs1:D.isCell s1=true)(cx1:D.isCell x1=true)(cf1:D.isCell f1=true)(ca1:D.isCell a1=true)(cs2:D.isCell s2=true)(cx2:D.isCell x2=true)(cf2:D.isCell f2=true)(ca2:D.isCell a2=true)
 (hpa:pa.isHeap=true):∃w,ah K (.fn (.func 173) [] []) [.d (.list 10 [.agg [s0,.int .i64 t0,x0,f0,.int .i64 o0,.str p0,.str q0,.str m0,.int .i64 z0,a0],.agg [s1,.int .i64 t1,x1,f1,.int .i64 o1,.str p1,.str q1,.str m1,.int .i64 z1,a1],.agg [s2,.int .i64 t2,x2,f2,.int .i64 o2,.str p2,.str q2,.str m2,.int .i64 z2,a2]]),.fn (.func 174) [] [.ptr pa 0]] none h0=some (.ret (.d (.int .i64 0)),false,h3,w):=by
 simp only[Loc.isHeap]at hpa;simp only[D.isCell]at cs0 cx0 cf0 ca0 cs1 cx1 cf1 ca1 cs2 cx2 cf2 ca2;have e:=afb [] [] [.d (.list 10 [.agg [s0,.int .i64 t0,x0,f0,.int .i64 o0,.str p0,.str q0,.str m0,.int .i64 z0,a0],.agg [s1,.int .i64 t1,x1,f1,.int .i64 o1,.str p1,.str q1,.str m1,.int .i64 z1,a1],.agg [s2,.int .i64 t2,x2,f2,.int .i64 o2,.str p2,.str q2,.str m2,.int .i64 z2,a2]]),.fn (.func 174) [] [.ptr pa 0]] none h0;simp[c173,Pv,PK,Lj,QC,KT,P7,Ky,NZ,Ny,af,Nj,hw1,hw2,hw3,hpa,e0,e1,e2,cs0,cx0,cf0,ca0,cs1,cx1,cf1,ca1,cs2,cx2,cf2,ca2]at e;exact⟨_,e⟩
theorem aoa:K.orc 117=some UG:=by kernel_rfl
@[simp] theorem aAq(a b:List V):ay K (.fn (.func 117) a b)=0:=by kernel_rfl
theorem azn(hp:List O)(l:Nat)(xs:List Int)(c:Int)(hl:l<hp.length)(hv:hp[l]=.vec 1 (ints xs) false true)(h1:1≤xs.length)(h2:xs.length≤1000) :
  ah K (.fn (.func 117) [] []) [.sl (.heap l) 1 xs.length 0 xs.length,.d (.int .i64 0),.vl [.d (.int .i64 c)]] none hp=some (.ret (.sl (.heap l) 1 (xs.length+1) 0 (xs.length+1)),false,hp.set l (.vec 1 (ints (c::xs)) false true),1 <<< l):=by
 apply aF aoa;have h3:xs.length≤100000000:=by omega
 simp[UG,nM,hl,hv,h1,h3]
theorem akv(hp:List O)(c:Int):ah K (.fn (.func 117) [] []) [.ex 1 [],.d (.int .i64 0),.vl [.d (.int .i64 c)]] none hp=some (.ret (.sl (.heap hp.length) 1 1 0 1),false,hp++[.vec 1 [.int .i64 c] false true],0):=by apply aF aoa;simp[UG,nM,wU]
theorem avn(hp:List O){c:Int}{cs ss:List Int}(hlen:cs.length=ss.length)(hs:ss.length≤10)(h1:-99≤c∧c≤99)(h2:∀x∈cs,-99≤x∧x≤99):∃J w,ah K (.fn (.func 241) [] []) [.d (.agg [.int .i64 c,.list 1 (ints cs)]),.d (fC ss)] none hp=some (.ret (.d (.int .i64 0)),false,hp++J,w):=by
 have e:=ayX [] [] [.d (.agg [.int .i64 c,.list 1 (ints cs)]),.d (fC ss)] none hp
 match ss,cs,hlen,h2 with
 | [],[],_,_ =>
  have e1:=aoR hp [] 0 rfl;have e2:=auq hp;have e3:=akv hp c
  have e4:=adN (hp++[.vec 1 [.int .i64 c] false true]) hp.length [c] 270 (by simp) (by simp) (by simp) (fun i hi=>by
   have:i=0:=by simp at hi;omega
   subst this
   exact ao6 _ _ _ h1.1 h1.2) Zd
  simp only[List.length_cons,List.length_nil,Nat.zero_add,jI]at e4 e1;simp[ahC,Zk,YX,V5,WT,V8,fC,e1,e2,e3,e4]at e;exact⟨_,_,e⟩
 | s :: ss,x :: xs,hlen,h2 =>
  have e1:=aoR hp (x::xs) ((ss.length:Int)+1) (by simp at hlen ⊢;omega);have e2:=s81 hp x xs (by simp at hlen hs;omega);have e3:=azn (hp++[.vec 1 (ints (x::xs)) false true]) hp.length (x::xs) c (by simp) (by simp) (by simp) (by simp at hlen hs ⊢;omega)
  have e4:=adN (hp++[.vec 1 (ints (c::x::xs)) false true]) hp.length (c::x::xs) 270 (by simp) (by simp) (by simp at hlen hs ⊢;omega) (fun i hi=>by
   have hm:(c::x::xs)[i]∈c::x::xs:=List.getElem_mem hi;have hb:-99≤(c::x::xs)[i]∧(c::x::xs)[i]≤99:=by
    rcases List.mem_cons.1 hm with h|h
    ·rw[h];exact h1
    ·exact h2 _ h
   exact ao6 _ _ _ hb.1 hb.2) Zd
  simp only[List.length_cons,eu,Uo]at e1 e2 e3 e4;simp[ahC,Zk,YX,V5,WT,V8,fC,e1,e2,e3,e4]at e;exact⟨_,_,e⟩
theorem ah3(hp:List O)(c x a:Int)(hc0:0≤c)(hc:c≤10)(hx:x=0∨x=1∨x=-1)(ha1:1≤a)(ha:a≤4):ah K (.fn (.func 242) [] []) [.d (.agg [.int .i64 c,.list 1 [.int .i64 x]]),.d (.list 1 [.int .i64 a])] none hp=some (.ret (.tuple [.d (.int .i64 (c+rP [x] [a])),.d (.int .i64 (c+hiA [x] [a]))]),false,hp,0):=by
 have hb:-3≤x*(a-1)∧x*(a-1)≤3:=by rcases hx with rfl|rfl|rfl<;>omega
 have hw1:wr .i64 (a-1)=a-1:=wI;have hw2:wr .i64 (x*(a-1))=x*(a-1):=wI;have hw3:wr .i64 1=1:=wI;have hw4:∀y:Int,-3≤y→y≤3→wr .i64 (c+y)=c+y:=fun y h1 h2=>wI;rw[ahT];simp[abr,OB,QH,MO,P6,PV,KP,Qr,Pj,O4,af,OC,hw1,hw2,hw3];refine⟨?_,?_⟩<;>(rw[lT (by split<;>omega) (by split<;>omega)];simp only[rP,hiA];split<;>omega)
theorem afz(hp:List O)(c x y a b:Int)(hc0:0≤c)(hc:c≤10)(hx:x=0∨x=1∨x=-1)(hy:y=0∨y=1∨y=-1)(ha1:1≤a)(ha:a≤4)(hb1:1≤b)(hb:b≤4):ah K (.fn (.func 242) [] []) [.d (.agg [.int .i64 c,.list 1 [.int .i64 x,.int .i64 y]]),.d (.list 1 [.int .i64 a,.int .i64 b])] none hp=some (.ret (.tuple [.d (.int .i64 (c+rP [x,y] [a,b])),.d (.int .i64 (c+hiA [x,y] [a,b]))]),false,hp,0):=by
 have hx':-3≤x*(a-1)∧x*(a-1)≤3:=by rcases hx with rfl|rfl|rfl<;>omega
 have hy':-3≤y*(b-1)∧y*(b-1)≤3:=by rcases hy with rfl|rfl|rfl<;>omega
 have hw1:wr .i64 (a-1)=a-1:=wI;have hw2:wr .i64 (x*(a-1))=x*(a-1):=wI;have hv1:wr .i64 (b-1)=b-1:=wI;have hv2:wr .i64 (y*(b-1))=y*(b-1):=wI;have hw3:wr .i64 1=1:=wI;have hw4:wr .i64 2=2:=wI;rw[ahT];simp[abr,OB,QH,MO,P6,PV,KP,Qr,Pj,O4,af,OC,hw1,hw2,hw3,hw4,hv1,hv2];have hA:wr .i64 (c+if x*(a-1)<0 then x*(a-1)else 0)=c+if x*(a-1)<0 then x*(a-1)else 0:=lT (by split<;>omega) (by split<;>omega);have hB:wr .i64 (c+if 0<x*(a-1)then x*(a-1)else 0)=c+if 0<x*(a-1)then x*(a-1)else 0:=lT (by split<;>omega) (by split<;>omega);rw[hA,hB];refine⟨?_,?_⟩<;>(rw[lT (by split<;>split<;>omega) (by split<;>split<;>omega)];simp only[rP,hiA];split<;>split<;>omega)
theorem aht(hp:List O)(c:Int):ah K (.fn (.func 242) [] []) [.d (.agg [.int .i64 c,.list 1 []]),.d .nils] none hp=some (.ret (.tuple [.d (.int .i64 (c+rP [] [])),.d (.int .i64 (c+hiA [] []))]),false,hp,0):=by rw[ahT];simp[abr,OB,QH,MO,P6,PV,KP,Qr,Pj,O4,af,OC,rP,hiA]
theorem asC(hp:List O){c:Int}{cs ss:List Int}{size:Int}(h:jM c cs ss size)(hs:eX ss)(hz:size≤5):ah K (.fn (.func 242) [] []) [.d (.agg [.int .i64 c,.list 1 (ints cs)]),.d (fC ss)] none hp=some (.ret (.tuple [.d (.int .i64 (c+rP cs ss)),.d (.int .i64 (c+hiA cs ss))]),false,hp,0):=by
 have hA:=bW cs ss;have hB:=bY cs ss;have h1:=h.lo;have h2:=h.hi
 match ss,cs,h.len,h,hs with
 |[],[],_,h,hs=>exact aht hp c|[a],[x],_,h,hs=>exact ah3 hp c x a (by omega) (by omega) (h.coef x (by simp)) (hs.within a (by simp)).1 (hs.within a (by simp)).2|[a,b],[x,y],_,h,hs=>exact afz hp c x y a b (by omega) (by omega) (h.coef x (by simp)) (h.coef y (by simp)) (hs.within a (by simp)).1 (hs.within a (by simp)).2 (hs.within b (by simp)).1 (hs.within b (by simp)).2|_::_::_::_,_,_,_,hs=>have:=hs.few;simp at this
end Mw
