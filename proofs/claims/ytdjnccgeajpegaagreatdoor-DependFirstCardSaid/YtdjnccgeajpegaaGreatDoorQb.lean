/- DependFirst's tied card holds; no condition beyond the card's own. -/
import Derived.Test.YtdjnccgeajpegaaGreatDoorXa
import Derived.Test.YtdjnccgeajpegaaGreatDoorQa
import Derived.Test.YtdjnccgeajpegaaGreatDoorXb
set_option linter.unusedVariables false
set_option linter.unusedSimpArgs false
set_option maxRecDepth 10000
set_option maxHeartbeats 1000000
namespace Mw
open Go Go.Proofs
theorem afu(hp:List O)(a b:Nat){i:Nat}{c:Int}{cs ss own:List Int}{ro ro':Bool}(ha:hp[a]?=some (.cells [.d (fC ss)] ro))(hb:hp[b]?=some (.cells [.d (fC own)] ro'))(hs:eX ss)(hi:i<own.length)(h5:own[i]≤5)(h:jM c cs ss own[i]) :
  ∃J w,ah K (.fn (.func 240) [] [.ptr (.heap a) 0,.ptr (.heap b) 0]) [.d (.int .i64 i),.d (.agg [.int .i64 c,.list 1 (ints cs)])] none hp=some (.ret (.d (.int .i64 0)),false,hp++J,w):=by
 have hA:=bW cs ss;have hB:=bY cs ss;have h1:=h.lo;have h2:=h.hi;obtain⟨J,w,e1⟩:=avn hp (c:=c) h.len (by have:=hs.few;omega) ⟨by omega,by omega⟩ (fun x hx=>by rcases h.coef x hx with rfl|rfl|rfl<;>omega);have e2:=asC (hp++J) h hs h5;have ha':(hp++J)[a]?=some (.cells [.d (fC ss)] ro):=by rw[List.getElem?_append_left (gS.1 ha).1];exact ha
 have hb':(hp++J)[b]?=some (.cells [.d (fC own)] ro'):=by rw[List.getElem?_append_left (gS.1 hb).1];exact hb
 have e:=avh [] [.ptr (.heap a) 0,.ptr (.heap b) 0] [.d (.int .i64 i),.d (.agg [.int .i64 c,.list 1 (ints cs)])] none hp;have h3:¬(c+rP cs ss<0):=by omega
 have h4:¬(own[i]≤c+hiA cs ss):=by omega
 obtain⟨o,os,rfl⟩:∃o os,own=o::os:=by
  cases own with
  |nil=>simp at hi|cons o os=>exact⟨o,os,rfl⟩
 have e0:(ints (o::os))[i]?=some (.int .i64 (o::os)[i]):=XM hi;rw[eu]at e0;simp only[ou]at hb hb';simp[aoP,aiC,ag2,afD,afB,aiI,ahS,aeA,agw,ha,hb,ha',hb',e0,e1,e2,h3,h4]at e;exact⟨_,_,e⟩
theorem aw1(hp:List O)(a b:Nat){ss own:List Int}{ro ro':Bool}(ha:hp[a]?=some (.cells [.d (fC ss)] ro))(hb:hp[b]?=some (.cells [.d (fC own)] ro'))(hs:eX ss)(x:List (Int×List Int))(hx:x.length=own.length)(h2:own.length≤2)(h5:∀s∈own,s≤5)
  (h:∀i (h:i<x.length) (h':i<own.length),jM x[i].1 x[i].2 ss own[i]) :
  ∃J w,ah K (.fn (.func 239) [] []) [.d (lS x),.fn (.func 240) [] [.ptr (.heap a) 0,.ptr (.heap b) 0]] none hp=some (.ret (.d (.int .i64 0)),false,hp++J,w):=by
 have e:=asG [] [] [.d (lS x),.fn (.func 240) [] [.ptr (.heap a) 0,.ptr (.heap b) 0]] none hp
 match x,own,hx,h2,hb,h5,h with
 |[],[],_,_,hb,h5,h=>simp[abn,NH,Lm,KO,Qa,NY,L8,Qe,OH,Qc,af,MS,lS]at e;exact⟨[],_,by simpa[lS]using e⟩|[p],[s],_,_,hb,h5,h=>obtain⟨J,w,e1⟩:=afu hp a b (i:=0) ha hb hs (by simp) (h5 _ (by simp)) (h 0 (by simp) (by simp));simp only[List.getElem_cons_zero,show((0:Nat):Int)=0 from rfl]at e1;simp[abn,NH,Lm,KO,Qa,NY,L8,Qe,OH,Qc,af,MS,lS,ny,hw1,e1]at e;exact⟨J,_,by simpa[lS,ny]using e⟩
 |[p,q],[s,t],_,_,hb,h5,h=>
  obtain⟨J,w,e1⟩:=afu hp a b (i:=0) ha hb hs (by simp) (h5 _ (by simp)) (h 0 (by simp) (by simp));have ha':(hp++J)[a]?=some (.cells [.d (fC ss)] ro):=by rw[List.getElem?_append_left (gS.1 ha).1];exact ha
  have hb':(hp++J)[b]?=some (.cells [.d (fC [s,t])] ro'):=by rw[List.getElem?_append_left (gS.1 hb).1];exact hb
  obtain⟨J2,w2,e2⟩:=afu (hp++J) a b (i:=1) ha' hb' hs (by simp) (h5 _ (by simp)) (h 1 (by simp) (by simp));simp only[List.getElem_cons_zero,List.getElem_cons_succ,show((0:Nat):Int)=0 from rfl,show((1:Nat):Int)=1 from rfl]at e1 e2;simp[abn,NH,Lm,KO,Qa,NY,L8,Qe,OH,Qc,af,MS,lS,ny,hw1,hw2,e1,e2]at e;exact⟨J++J2,_,by simpa[lS,ny]using e⟩
 |_::_::_::_,_::_::_::_,_,h2,_,_,_=>simp at h2
theorem GI:fC []=.nils:=rfl
theorem abm(hp:List O)(x:List (Int×List Int))(n:Int)(h:(x.length:Int)=n):ah K (.fn (.func 238) [] []) [.d (lS x),.d (.int .i64 n)] none hp=some (.ret (.d (.int .i64 0)),false,hp,0):=by
 rw[as3];cases x with
 |nil=>simp at h;simp[ae9,WL,WC,YL,Zn,WI,Va,lS,←h]|cons p x=>simp at h;simp[ae9,WL,WC,YL,Zn,WI,Va,lS,←h]
theorem AP(n:Nat):(dI n).length≤2∧∀s∈dI n,s≤5:=by
 match n with
 |0=>simp[dI]|1=>simp[dI]|_+2=>simp[dI]
theorem aoH(hp:List O){n:Nat}{x:List (Int×List Int)}{ss:List Int}(st:D)(hst:st.isCell=true)(hs:eX ss)(h:dP n x ss) :
  ∃J w,ah K (.fn (.func 208) [] []) [.d (.agg [.list 2 ax,st]),.d (dJ n x),.d (fC ss)] none hp=some (.ret (.d (.int .i64 0)),false,hp++J,w):=by
 have e:=avL [] [] [.d (.agg [.list 2 ax,st]),.d (dJ n x),.d (fC ss)] none hp;have hal:ax.length=3:=rfl;have hw:wr .i64 2=2:=wI;have hx:(lS x).isCell=true:=by cases x<;>rfl
 have hz:(fC ss).isCell=true:=by cases ss<;>rfl
 have hz2:(fC ss).cells=[fC ss]:=by cases ss<;>rfl
 simp only[D.isCell]at hst hx hz;simp only[D.cells]at hz2;obtain⟨J,w,e1⟩:=aw1 (hp++[.cells [.d (fC ss)] false,.cells [.d (fC (dI n))] false]) hp.length (hp.length+1) (ss:=ss) (own:=dI n) (ro:=false) (ro':=false) (by simp) (by simp) hs x h.len (AP n).1 (AP n).2 h.ok;have e2:=fun(hp:List O) (m:Int) (hm:(x.length:Int)=m)=>abm hp x m hm;have e3:=UH hp n 0 2 (by omega) (by have:=h.arr;omega);have hlen:=h.len
 match n,h.arr with
 |0,_=>have e4:=fun hp=>abm hp x 1 (by rw[hlen];rfl);have e3':=fun hp:List O=>UH hp 0 0 2 (by omega) (by omega);simp only[dI,GI,ou,eu,jI]at e1;simp[c208,PZ,OA,MW,MH,LP,LC,J8,Ol,dJ,ax,hst,hx,hz,hz2,hw,e3',e4,e1]at e;exact⟨_,_,e⟩
 |1,_=>have e4:=fun hp=>abm hp x 2 (by rw[hlen];rfl);have e3':=fun hp:List O=>UH hp 1 0 2 (by omega) (by omega);simp only[dI,GI,ou,eu,jI]at e1;simp[c208,PZ,OA,MW,MH,LP,LC,J8,Ol,dJ,ax,hst,hx,hz,hz2,hw,e3',e4,e1]at e;exact⟨_,_,e⟩
 |2,_=>have e4:=fun hp=>abm hp x 0 (by rw[hlen];rfl);have e3':=fun hp:List O=>UH hp 2 0 2 (by omega) (by omega);simp only[dI,GI,ou,eu,jI]at e1;simp[c208,PZ,OA,MW,MH,LP,LC,J8,Ol,dJ,ax,hst,hx,hz,hz2,hw,e3',e4,e1]at e;exact⟨_,_,e⟩
theorem PW{h0:List O}  {pa pb:Loc}
 (hpa:pa.isHeap=true)(hpb:pb.isHeap=true):∃w,ah K (.fn (.func 243) [] []) [.d (.nils),.fn (.func 244) [] [.ptr pa 0,.ptr pb 0]] none h0=some (.ret (.d (.int .i64 0)),false,h0,w):=by
 simp only[Loc.isHeap]at hpa hpb;have e:=afs [] [] [.d (.nils),.fn (.func 244) [] [.ptr pa 0,.ptr pb 0]] none h0;simp[abP,ML,Qo,OJ,Oc,PL,Qn,L6,MZ,MR,af,P9,hw1,hw2,hw3,hpa,hpb]at e;exact⟨_,e⟩
theorem agX{h0 h1:List O}{w1:Nat}{o0 z0:Int}{p0 q0 m0:ByteArray}{a0:D}  {pa pb:Loc}
 (e0:ah K (.fn (.func 244) [] [.ptr pa 0,.ptr pb 0]) [.d (.int .i64 0),.d (.agg [.int .i64 o0,.str p0,.str q0,.str m0,.int .i64 z0,a0])] none h0=some (.ret (.d (.int .i64 0)),false,h1,w1))(ca0:D.isCell a0=true)
 (hpa:pa.isHeap=true)(hpb:pb.isHeap=true):∃w,ah K (.fn (.func 243) [] []) [.d (.list 6 [.agg [.int .i64 o0,.str p0,.str q0,.str m0,.int .i64 z0,a0]]),.fn (.func 244) [] [.ptr pa 0,.ptr pb 0]] none h0=some (.ret (.d (.int .i64 0)),false,h1,w):=by
 simp only[Loc.isHeap]at hpa hpb;simp only[D.isCell]at ca0;have e:=afs [] [] [.d (.list 6 [.agg [.int .i64 o0,.str p0,.str q0,.str m0,.int .i64 z0,a0]]),.fn (.func 244) [] [.ptr pa 0,.ptr pb 0]] none h0;simp[abP,ML,Qo,OJ,Oc,PL,Qn,L6,MZ,MR,af,P9,hw1,hw2,hw3,hpa,hpb,e0,ca0]at e;exact⟨_,e⟩
theorem ahm{h0 h1 h2:List O}{w1 w2:Nat}{o0 z0 o1 z1:Int}{p0 q0 m0 p1 q1 m1:ByteArray}{a0 a1:D}  {pa pb:Loc}
 (e0:ah K (.fn (.func 244) [] [.ptr pa 0,.ptr pb 0]) [.d (.int .i64 0),.d (.agg [.int .i64 o0,.str p0,.str q0,.str m0,.int .i64 z0,a0])] none h0=some (.ret (.d (.int .i64 0)),false,h1,w1))
 (e1:ah K (.fn (.func 244) [] [.ptr pa 0,.ptr pb 0]) [.d (.int .i64 1),.d (.agg [.int .i64 o1,.str p1,.str q1,.str m1,.int .i64 z1,a1])] none h1=some (.ret (.d (.int .i64 0)),false,h2,w2))(ca0:D.isCell a0=true)(ca1:D.isCell a1=true)
 (hpa:pa.isHeap=true)(hpb:pb.isHeap=true):∃w,ah K (.fn (.func 243) [] []) [.d (.list 6 [.agg [.int .i64 o0,.str p0,.str q0,.str m0,.int .i64 z0,a0],.agg [.int .i64 o1,.str p1,.str q1,.str m1,.int .i64 z1,a1]]),.fn (.func 244) [] [.ptr pa 0,.ptr pb 0]] none h0=some (.ret (.d (.int .i64 0)),false,h2,w):=by
 simp only[Loc.isHeap]at hpa hpb;simp only[D.isCell]at ca0 ca1;have e:=afs [] [] [.d (.list 6 [.agg [.int .i64 o0,.str p0,.str q0,.str m0,.int .i64 z0,a0],.agg [.int .i64 o1,.str p1,.str q1,.str m1,.int .i64 z1,a1]]),.fn (.func 244) [] [.ptr pa 0,.ptr pb 0]] none h0;simp[abP,ML,Qo,OJ,Oc,PL,Qn,L6,MZ,MR,af,P9,hw1,hw2,hw3,hpa,hpb,e0,e1,ca0,ca1]at e;exact⟨_,e⟩
def dK(op:Int)(p q name:ByteArray)(size:Int)(args:D):D:=.agg [.int .i64 op,.str p,.str q,.str name,.int .i64 size,args]
def yB(a:D):Prop:=a=.nils∨∃l,a=.list 6 l
def e0:ByteArray:=⟨#[]⟩
def gu(op:Int)(a b:D):D:=dK op e0 e0 e0 0 (.list 6 [a,b])
def bI(n:ByteArray):D:=dK 1 e0 e0 n 0 .nils
def jF(p q:ByteArray):D:=dK 0 p q e0 0 .nils
theorem ayQ(hp:List O)(op:Int)(o1 o2:Int)(p1 q1 n1 p2 q2 n2:ByteArray)(z1 z2:Int)(a1 a2:D)(h1:yB a1)(h2:yB a2):ah K (.fn (.func 113) [] []) [.d (.int .i64 op),.d (dK o1 p1 q1 n1 z1 a1),.d (dK o2 p2 q2 n2 z2 a2)] none hp=some (.ret (.d (gu op (dK o1 p1 q1 n1 z1 a1) (dK o2 p2 q2 n2 z2 a2))),false,hp,0):=by rw[axH];rcases h1 with rfl|⟨l1,rfl⟩<;>rcases h2 with rfl|⟨l2,rfl⟩<;>simp[alz,agj,aeP,dK,gu,e0]
theorem tX(hp:List O)(n:ByteArray):ah K (.fn (.func 114) [] []) [.d (.str n)] none hp=some (.ret (.d (bI n)),false,hp,0):=by rw[avW];simp[akj,afV,afe,dK,bI,e0]
theorem Jj(hp:List O)(p q:ByteArray):ah K (.fn (.func 187) [] []) [.d (.agg [.str p,.str q])] none hp=some (.ret (.d (jF p q)),false,hp,0):=by rw[axu];simp[alH,afY,aiA,dK,jF,e0]
theorem agr(hp:List O)(xs:List Int)(h:xs.length≤1000):ah K (.fn (.func 146) [] []) [.d (.list 1 (ints xs))] none hp=some (.ret (.d (.list 1 (ints xs))),false,hp,0):=by
 rw[azd];cases xs with
 |nil=>simp[c146,V4,ZA]|cons x xs=>
  have h1:xs.length+1≤4294967296:=by simp at h;omega
  have h2:(xs.length+1)*8≤4294967296:=by simp at h;omega
  have h3:(ints xs).take xs.length=ints xs:=by rw[List.take_of_length_le];simp
  simp[c146,V4,ZA,h1,h2,List.take_succ_cons]
def rn:Nat→ByteArray
 |0=>⟨#[114,48]⟩|1=>⟨#[114,49]⟩|_=>⟨#[114,50]⟩
def Ht:Nat→ByteArray
 |0=>⟨#[105,48]⟩|_=>⟨#[105,49]⟩
def lits:List (ByteArray×ByteArray):=[(⟨#[48]⟩,⟨#[49]⟩),(⟨#[49]⟩,⟨#[49]⟩),(⟨#[50]⟩,⟨#[49]⟩),(⟨#[51]⟩,⟨#[49]⟩),(⟨#[52]⟩,⟨#[49]⟩),(⟨#[53]⟩,⟨#[49]⟩),(⟨#[49]⟩,⟨#[50]⟩),(⟨#[49]⟩,⟨#[51]⟩),(⟨#[50]⟩,⟨#[51]⟩)]
def oh(a:D):D:=dK 2 e0 e0 e0 0 (.list 6 [a])
inductive bG (cells loops:Nat):Nat→D→Prop
 |lit {p q:ByteArray} (h:(p,q)∈lits) (n:Nat):bG cells loops n (jF p q)
 |ref {k:Nat} (h:k<cells) (n:Nat):bG cells loops n (bI (rn k))
 |ind {k:Nat} (h:k<loops) (n:Nat):bG cells loops n (bI (Ht k))
 |two {op:Int} {n:Nat} {a b:D} (h:op=3∨op=4∨op=5∨op=6) (ha:bG cells loops n a) (hb:bG cells loops n b):bG cells loops (n+1) (gu op a b)
 |neg {n:Nat} {a:D} (ha:bG cells loops n a):bG cells loops (n+1) (oh a)
theorem bG.up{c l n m:Nat}{d:D}(h:bG c l n d)(hm:n≤m):bG c l m d:=by
 induction h generalizing m with
 |lit h=>exact .lit h m|ref h=>exact .ref h m|ind h=>exact .ind h m|two h _ _ iha ihb=>
  obtain⟨j,rfl⟩:∃j,m=j+1:=⟨m-1,by omega⟩
  exact .two h (iha (by omega)) (ihb (by omega))
 |neg _ iha=>
  obtain⟨j,rfl⟩:∃j,m=j+1:=⟨m-1,by omega⟩
  exact .neg (iha (by omega))
theorem bG.form{c l n:Nat}{d:D}(h:bG c l n d):∃o p q m z a,d=dK o p q m z a∧yB a:=by
 cases h with
 |lit h=>exact⟨_,_,_,_,_,_,rfl,.inl rfl⟩|ref h=>exact⟨_,_,_,_,_,_,rfl,.inl rfl⟩|ind h=>exact⟨_,_,_,_,_,_,rfl,.inl rfl⟩|two h _ _=>exact⟨_,_,_,_,_,_,rfl,.inr ⟨_,rfl⟩⟩|neg _=>exact⟨_,_,_,_,_,_,rfl,.inr ⟨_,rfl⟩⟩
theorem KW{p q:Int}(h:(q=1∧0≤p∧p≤5)∨(1≤p∧p≤2∧1≤q∧q≤3))(hp:List O):∃a b,ah K (.fn (.func 188) [] []) [.d (.int .i64 p),.d (.int .i64 q)] none hp=some (.ret (.d (.agg [.str a,.str b])),false,hp,0)∧(a,b)∈lits:=by
 have key:(p=0∧q=1)∨(p=1∧q=1)∨(p=2∧q=1)∨(p=3∧q=1)∨(p=4∧q=1)∨(p=5∧q=1)∨(p=1∧q=2)∨(p=1∧q=3)∨(p=2∧q=2)∨(p=2∧q=3):=by omega
 rcases key with ⟨rfl,rfl⟩|⟨rfl,rfl⟩|⟨rfl,rfl⟩|⟨rfl,rfl⟩|⟨rfl,rfl⟩|⟨rfl,rfl⟩|⟨rfl,rfl⟩|⟨rfl,rfl⟩|⟨rfl,rfl⟩|⟨rfl,rfl⟩
 ·exact⟨_,_,abE hp,by simp[lits]⟩
 ·exact⟨_,_,ab5 hp,by simp[lits]⟩
 ·exact⟨_,_,Z9 hp,by simp[lits]⟩
 ·exact⟨_,_,ZV hp,by simp[lits]⟩
 ·exact⟨_,_,Z5 hp,by simp[lits]⟩
 ·exact⟨_,_,aaf hp,by simp[lits]⟩
 ·exact⟨_,_,aah hp,by simp[lits]⟩
 ·exact⟨_,_,abQ hp,by simp[lits]⟩
 ·exact⟨_,_,aaS hp,by simp[lits]⟩
 ·exact⟨_,_,U7 hp,by simp[lits]⟩
theorem DU(hp:List O)(e:Int):ah K (.fn (.func 236) [] []) [.d (.bool false),.d (.int .i64 e)] none hp=some (.ret (.tuple []),false,hp,0):=by rw[aty];simp[c236,afv,agf]
theorem JS(hp:List O)(n lo hi:Int)(h1:lo≤n)(h2:n≤hi):ah K (.fn (.func 264) [] []) [.d (.int .i64 n),.d (.int .i64 lo),.d (.int .i64 hi)] none hp=some (.ret (.d (.bool true)),false,hp,0):=by rw[avc];simp[ann,aff,afy,h1,h2]
theorem aid(hp:List O):ah K (.fn (.func 265) [] []) [.d (.int .i64 0)] none hp=some (.ret (.d (.agg [.int .i64 0,.int .i64 0])),false,hp,0):=by rw[LZ];simp[Jv,uQ,vg,vG,uZ,uO,uU,vJ,vF,uY,uS,qA,qg,oV,pR,qp,oW,qB,qw,qy,qc]
theorem aiO(hp:List O):ah K (.fn (.func 269) [] []) [.d (.int .i64 0)] none hp=some (.ret (.d (.agg [.int .i64 0,.int .i64 0])),false,hp,0):=by rw[Lh];simp[IB,ve,uV,vP,uI,vM,vH,uM,uP]
theorem aeE(hp:List O):ah K (.fn (.func 265) [] []) [.d (.int .i64 1)] none hp=some (.ret (.d (.agg [.int .i64 0,.int .i64 0])),false,hp,0):=by rw[LZ];simp[Jv,uQ,vg,vG,uZ,uO,uU,vJ,vF,uY,uS,qA,qg,oV,pR,qp,oW,qB,qw,qy,qc]
theorem aix(hp:List O):ah K (.fn (.func 269) [] []) [.d (.int .i64 1)] none hp=some (.ret (.d (.agg [.int .i64 0,.int .i64 0])),false,hp,0):=by rw[Lh];simp[IB,ve,uV,vP,uI,vM,vH,uM,uP]
theorem aiu(hp:List O):ah K (.fn (.func 265) [] []) [.d (.int .i64 2)] none hp=some (.ret (.d (.agg [.int .i64 1,.int .i64 1])),false,hp,0):=by rw[LZ];simp[Jv,uQ,vg,vG,uZ,uO,uU,vJ,vF,uY,uS,qA,qg,oV,pR,qp,oW,qB,qw,qy,qc]
theorem afj(hp:List O):ah K (.fn (.func 269) [] []) [.d (.int .i64 2)] none hp=some (.ret (.d (.agg [.int .i64 0,.int .i64 0])),false,hp,0):=by rw[Lh];simp[IB,ve,uV,vP,uI,vM,vH,uM,uP]
theorem ahE(hp:List O):ah K (.fn (.func 265) [] []) [.d (.int .i64 3)] none hp=some (.ret (.d (.agg [.int .i64 2,.int .i64 2])),false,hp,0):=by rw[LZ];simp[Jv,uQ,vg,vG,uZ,uO,uU,vJ,vF,uY,uS,qA,qg,oV,pR,qp,oW,qB,qw,qy,qc]
theorem agW(hp:List O):ah K (.fn (.func 269) [] []) [.d (.int .i64 3)] none hp=some (.ret (.d (.agg [.int .i64 0,.int .i64 0])),false,hp,0):=by rw[Lh];simp[IB,ve,uV,vP,uI,vM,vH,uM,uP]
theorem afl(hp:List O):ah K (.fn (.func 265) [] []) [.d (.int .i64 4)] none hp=some (.ret (.d (.agg [.int .i64 2,.int .i64 2])),false,hp,0):=by rw[LZ];simp[Jv,uQ,vg,vG,uZ,uO,uU,vJ,vF,uY,uS,qA,qg,oV,pR,qp,oW,qB,qw,qy,qc]
theorem aiS(hp:List O):ah K (.fn (.func 269) [] []) [.d (.int .i64 4)] none hp=some (.ret (.d (.agg [.int .i64 0,.int .i64 0])),false,hp,0):=by rw[Lh];simp[IB,ve,uV,vP,uI,vM,vH,uM,uP]
theorem ahe(hp:List O):ah K (.fn (.func 265) [] []) [.d (.int .i64 5)] none hp=some (.ret (.d (.agg [.int .i64 2,.int .i64 2])),false,hp,0):=by rw[LZ];simp[Jv,uQ,vg,vG,uZ,uO,uU,vJ,vF,uY,uS,qA,qg,oV,pR,qp,oW,qB,qw,qy,qc]
theorem af7(hp:List O):ah K (.fn (.func 269) [] []) [.d (.int .i64 5)] none hp=some (.ret (.d (.agg [.int .i64 0,.int .i64 0])),false,hp,0):=by rw[Lh];simp[IB,ve,uV,vP,uI,vM,vH,uM,uP]
theorem aeW(hp:List O):ah K (.fn (.func 265) [] []) [.d (.int .i64 6)] none hp=some (.ret (.d (.agg [.int .i64 2,.int .i64 2])),false,hp,0):=by rw[LZ];simp[Jv,uQ,vg,vG,uZ,uO,uU,vJ,vF,uY,uS,qA,qg,oV,pR,qp,oW,qB,qw,qy,qc]
theorem ah0(hp:List O):ah K (.fn (.func 269) [] []) [.d (.int .i64 6)] none hp=some (.ret (.d (.agg [.int .i64 0,.int .i64 0])),false,hp,0):=by rw[Lh];simp[IB,ve,uV,vP,uI,vM,vH,uM,uP]
theorem RJ:K.P.eqGuardType K.P.depth 309=false:=by kernel_rfl
theorem aak:K.P.eqGuardType K.P.depth 42=false:=by kernel_rfl
theorem abj:K.P.stoodInHeld 42=false:=by kernel_rfl
theorem U2{p q:ByteArray}(h:(p,q)∈lits):(∀hp,ah K (.fn (.func 266) [] []) [.d (.agg [.str p,.str q])] none hp=some (.ret (.d (.int .i64 0)),false,hp,0))∧∃b:UInt8,p.data[0]?=some b∧¬((b.toNat:Int)=45):=by
 simp only[lits,List.mem_cons,List.mem_nil_iff,or_false,pI]at h;rcases h with ⟨rfl,rfl⟩|⟨rfl,rfl⟩|⟨rfl,rfl⟩|⟨rfl,rfl⟩|⟨rfl,rfl⟩|⟨rfl,rfl⟩|⟨rfl,rfl⟩|⟨rfl,rfl⟩|⟨rfl,rfl⟩
 all_goals exact⟨fun hp=>by simp,_,rfl,by decide⟩
theorem Yh(hp:List O){p q:ByteArray}(h:(p,q)∈lits):ah K (.fn (.func 237) [] []) [.d (jF p q)] none hp=some (.ret (.tuple []),false,hp,0):=by have e1:=fun hp e=>DU hp e;have e2:=fun hp=>JS hp 0 0 14 (by omega) (by omega);have e3:=fun hp=>JS hp 0 0 0 (by omega) (by omega);obtain⟨e4,b,e5,e6⟩:=U2 h;rw[abV];simp[XG,FN,Gm,FT,F5,Gv,Gu,EY,Gf,FW,Gy,zF,zV,zN,Ai,zY,zQ,Ac,zI,zD,Aa,zO,Ae,zZ,zL,jF,dK,e0,e1,e2,e3,e4,e5,e6,aid,aiO,iF,RJ,aak,abj]
theorem Be(hp:List O){n:ByteArray}(h:∀hp,ah K (.fn (.func 268) [] []) [.d (.str n)] none hp=some (.ret (.d (.bool true)),false,hp,0)):ah K (.fn (.func 237) [] []) [.d (bI n)] none hp=some (.ret (.tuple []),false,hp,0):=by have e1:=fun hp e=>DU hp e;have e2:=fun hp=>JS hp 1 0 14 (by omega) (by omega);have e3:=fun hp=>JS hp 0 0 0 (by omega) (by omega);rw[abV];simp[XG,FN,Gm,FT,F5,Gv,Gu,EY,Gf,FW,Gy,zF,zV,zN,Ai,zY,zQ,Ac,zI,zD,Aa,zO,Ae,zZ,zL,bI,dK,e0,e1,e2,e3,h,aeE,aix,iF,RJ,aak,abj]
theorem Vx(hp:List O)(a:D):ah K (.fn (.func 237) [] []) [.d (oh a)] none hp=some (.ret (.tuple []),false,hp,0):=by have e1:=fun hp e=>DU hp e;have e2:=fun hp=>JS hp 2 0 14 (by omega) (by omega);have e3:=fun hp=>JS hp 0 0 0 (by omega) (by omega);rw[abV];simp[XG,FN,Gm,FT,F5,Gv,Gu,EY,Gf,FW,Gy,zF,zV,zN,Ai,zY,zQ,Ac,zI,zD,Aa,zO,Ae,zZ,zL,oh,dK,e0,e1,e2,e3,aiu,afj,iF,RJ,aak,abj]
theorem VZ(hp:List O)(op:Int)(hop:op=3∨op=4∨op=5∨op=6)(a b:D):ah K (.fn (.func 237) [] []) [.d (gu op a b)] none hp=some (.ret (.tuple []),false,hp,0):=by
 have e1:=fun hp e=>DU hp e;have e2:=fun hp=>JS hp op 0 14 (by omega) (by omega);have e3:=fun hp=>JS hp 0 0 0 (by omega) (by omega);rw[abV];rcases hop with rfl|rfl|rfl|rfl
 all_goals
  simp[XG,FN,Gm,FT,F5,Gv,Gu,EY,Gf,FW,Gy,zF,zV,zN,Ai,zY,zQ,Ac,zI,zD,Aa,zO,Ae,zZ,zL,gu,dK,e0,e1,e2,e3,ahE,agW,afl,aiS,ahe,af7,aeW,ah0,iF,RJ,aak,abj]
theorem aa1(k:Nat)(hp:List O):ah K (.fn (.func 268) [] []) [.d (.str (rn k))] none hp=some (.ret (.d (.bool true)),false,hp,0):=by
 match k with
 |0=>simp[rn]|1=>simp[rn]|_+2=>simp[rn]
theorem X9(k:Nat)(hp:List O):ah K (.fn (.func 268) [] []) [.d (.str (Ht k))] none hp=some (.ret (.d (.bool true)),false,hp,0):=by
 match k with
 |0=>simp[Ht]|_+1=>simp[Ht]
theorem awi{c l n:Nat}{d:D}(h:bG c l n d):∀(hp:List O) (m:Int),0≤m→m+n≤20→ah K (.fn (.func 205) [] []) [.d d,.d (.int .i64 m)] none hp=some (.ret (.tuple []),false,hp,0):=by
 induction h with
 | @lit p q h n=>
  intro hp m h0 h1;have e1:=fun hp=>Yh hp h;have e2:=fun hp=>DU hp 7;have h3:¬((30:Int)≤m):=by omega
  rw[TJ];simp only[jF,dK,e0]at e1;simp[OU,xE,xH,yA,xZ,x9,yw,yh,yE,af,yD,jF,dK,e0,e1,e2,h3]
 | @ref k h n=>
  intro hp m h0 h1;have e1:=fun hp=>Be hp (aa1 k);have e2:=fun hp=>DU hp 7;have h3:¬((30:Int)≤m):=by omega
  rw[TJ];simp only[bI,dK,e0]at e1;simp[OU,xE,xH,yA,xZ,x9,yw,yh,yE,af,yD,bI,dK,e0,e1,e2,h3]
 | @ind k h n=>
  intro hp m h0 h1;have e1:=fun hp=>Be hp (X9 k);have e2:=fun hp=>DU hp 7;have h3:¬((30:Int)≤m):=by omega
  rw[TJ];simp only[bI,dK,e0]at e1;simp[OU,xE,xH,yA,xZ,x9,yw,yh,yE,af,yD,bI,dK,e0,e1,e2,h3]
 | @two op n a b hop ha hb iha ihb=>
  intro hp m h0 h1;have e1:=fun hp=>VZ hp op hop a b;have e2:=fun hp=>DU hp 7;have h3:¬((30:Int)≤m):=by omega
  have hw:wr .i64 (m+1)=m+1:=wI;have e3:=fun hp=>iha hp (m+1) (by omega) (by omega);have e4:=fun hp=>ihb hp (m+1) (by omega) (by omega);obtain⟨o1,p1,q1,n1,z1,a1,rfl,i1⟩:=ha.form;obtain⟨o2,p2,q2,n2,z2,a2,rfl,i2⟩:=hb.form;have c1:a1.isCell=true:=by rcases i1 with rfl|⟨l,rfl⟩<;>rfl
  have c2:a2.isCell=true:=by rcases i2 with rfl|⟨l,rfl⟩<;>rfl
  simp only[D.isCell]at c1 c2;rw[TJ];simp only[gu,dK,e0]at e1 e3 e4;simp[OU,xE,xH,yA,xZ,x9,yw,yh,yE,af,yD,gu,dK,e0,e1,e2,e3,e4,h3,hw,hw1,hw2,c1,c2]
 | @neg n a ha iha=>
  intro hp m h0 h1;have e1:=fun hp=>Vx hp a;have e2:=fun hp=>DU hp 7;have h3:¬((30:Int)≤m):=by omega
  have hw:wr .i64 (m+1)=m+1:=wI;have e3:=fun hp=>iha hp (m+1) (by omega) (by omega);obtain⟨o1,p1,q1,n1,z1,a1,rfl,i1⟩:=ha.form;have c1:a1.isCell=true:=by rcases i1 with rfl|⟨l,rfl⟩<;>rfl
  simp only[D.isCell]at c1;rw[TJ];simp only[oh,dK,e0]at e1 e3;simp[OU,xE,xH,yA,xZ,x9,yw,yh,yE,af,yD,oh,dK,e0,e1,e2,e3,h3,hw,hw1,c1]
theorem avT(hp:List O):ah K (.fn (.func 204) [] []) [.d .nili] none hp=some (.ret (.d (.int .i64 0)),false,hp,0):=by
 obtain⟨u,hu⟩:∃u,K.P.underlying 271=some u:=Option.isSome_iff_exists.1 (by kernel_rfl);have hz:aU K 271=some .nili:=by kernel_rfl
 rw[avw];simp[akS,ag8,af0,ae0,ah1,aie,hu,hz]
theorem alL(hp:List O)(l:Nat)(o:V)(hl:l<hp.length)(h:hp[l]=.cells [o] false):ah K (.fn (.func 203) [] []) [.ptr (.heap l) 0] (some none) hp=some (.ret (.tuple []),false,hp.set l (.cells [.d (.int .i64 0)] false),1 <<< l):=by rw[ati];simp[c203,aeR,hl,h,avT]
theorem axU{c l n:Nat}{d:D}(h:bG c l n d)(hn:n≤20)(hp:List O):∃J w,ah K (.fn (.func 171) [] []) [.d d] none hp=some (.ret (.d (.int .i64 0)),false,hp++J,w):=by
 have e:=akF [] [] [.d d] none hp;have e1:=fun hp=>awi h hp 0 (by omega) (by omega);have e2:=alL (hp++[.cells [.d (.int .i64 0)] false]) hp.length (.d (.int .i64 0)) (by simp) (by simp);obtain⟨o1,p1,q1,n1,z1,a1,rfl,i1⟩:=h.form;have c1:a1.isCell=true:=by rcases i1 with rfl|⟨l,rfl⟩<;>rfl
 simp only[D.isCell]at c1;simp only[dK]at e e1;simp at e2;simp[c171,U9,XY,VP,XI,e1,e2,c1]at e;exact⟨_,_,by simpa[dK]using e⟩
theorem alT{k c:Nat}(h:k<c)(hc:c≤3):∃v:Int,(∀hp,ah K (.fn (.func 165) [] []) [.d (.str (rn k)),.d (.int .u8 114),.d (.int .i64 c)] none hp=some (.ret (.d (.int .i64 v)),false,hp,0))∧¬v<0:=by
 have key:(k=0∧c=1)∨(k=0∧c=2)∨(k=0∧c=3)∨(k=1∧c=2)∨(k=1∧c=3)∨(k=2∧c=3):=by omega
 rcases key with ⟨rfl,rfl⟩|⟨rfl,rfl⟩|⟨rfl,rfl⟩|⟨rfl,rfl⟩|⟨rfl,rfl⟩|⟨rfl,rfl⟩
 ·exact⟨0,fun hp=>by simp[rn],by omega⟩
 ·exact⟨0,fun hp=>by simp[rn],by omega⟩
 ·exact⟨0,fun hp=>by simp[rn],by omega⟩
 ·exact⟨1,fun hp=>by simp[rn],by omega⟩
 ·exact⟨1,fun hp=>by simp[rn],by omega⟩
 ·exact⟨2,fun hp=>by simp[rn],by omega⟩
theorem agx{k c:Nat}(h:k<2)(hc:c≤3)(hp:List O):ah K (.fn (.func 165) [] []) [.d (.str (Ht k)),.d (.int .u8 114),.d (.int .i64 c)] none hp=some (.ret (.d (.int .i64 (-1))),false,hp,0):=by
 have key:(k=0∨k=1)∧(c=0∨c=1∨c=2∨c=3):=by omega
 rcases key with ⟨rfl|rfl,rfl|rfl|rfl|rfl⟩<;>simp[Ht]
theorem apq{k c:Nat}(h:k<c)(hc:c≤2):∃v:Int,(∀hp,ah K (.fn (.func 165) [] []) [.d (.str (Ht k)),.d (.int .u8 105),.d (.int .i64 c)] none hp=some (.ret (.d (.int .i64 v)),false,hp,0))∧¬v<0:=by
 have key:(k=0∧c=1)∨(k=0∧c=2)∨(k=1∧c=2):=by omega
 rcases key with ⟨rfl,rfl⟩|⟨rfl,rfl⟩|⟨rfl,rfl⟩
 ·exact⟨0,fun hp=>by simp[Ht],by omega⟩
 ·exact⟨0,fun hp=>by simp[Ht],by omega⟩
 ·exact⟨1,fun hp=>by simp[Ht],by omega⟩
theorem ahf(hp:List O)(a b:Nat){o z:Int}{p q m:ByteArray}{e:D}{c l i:Int}{ro ro':Bool}(he:e.isCell=true)(ha:hp[a]?=some (.cells [.d (.int .i64 c)] ro))(hb:hp[b]?=some (.cells [.d (.int .i64 l)] ro'))
  (ih:∃J w,ah K (.fn (.func 211) [] []) [.d (dK o p q m z e),.d (.int .i64 c),.d (.int .i64 l)] none hp=some (.ret (.d (.int .i64 0)),false,hp++J,w)) :
  ∃J w,ah K (.fn (.func 244) [] [.ptr (.heap a) 0,.ptr (.heap b) 0]) [.d (.int .i64 i),.d (dK o p q m z e)] none hp=some (.ret (.d (.int .i64 0)),false,hp++J,w):=by
 obtain⟨J,w,e1⟩:=ih;simp only[D.isCell]at he;have e0:=atj [] [.ptr (.heap a) 0,.ptr (.heap b) 0] [.d (.int .i64 i),.d (dK o p q m z e)] none hp;simp only[dK]at e0 e1;simp[akd,aiT,af5,ha,hb,e1,he]at e0;exact⟨_,_,by simpa[dK]using e0⟩
theorem att{c l n:Nat}{d:D}(h:bG c l n d)(hc:c≤3)(hl:l≤2):∀(hp:List O),∃J w,ah K (.fn (.func 211) [] []) [.d d,.d (.int .i64 c),.d (.int .i64 l)] none hp=some (.ret (.d (.int .i64 0)),false,hp++J,w):=by
 induction h with
 | @lit p q h n=>intro hp;have e:=VA [] [] [.d (jF p q),.d (.int .i64 c),.d (.int .i64 l)] none hp;obtain⟨w,e1⟩:=PW (h0:=hp++[.cells [.d (.int .i64 c)] false,.cells [.d (.int .i64 l)] false]) (pa:=.heap hp.length) (pb:=.heap (hp.length+1)) rfl rfl;simp[UL,Dn,Bq,BX,Di,CZ,BB,Dh,BV,BF,BZ,xB,wR,vW,xu,vV,wJ,jF,dK,e0,iF,e1]at e;exact⟨_,_,by simpa[jF,dK,e0]using e⟩
 | @ref k h n=>intro hp;have e:=VA [] [] [.d (bI (rn k)),.d (.int .i64 c),.d (.int .i64 l)] none hp;obtain⟨v,e2,hv⟩:=alT h hc;obtain⟨w,e1⟩:=PW (h0:=hp++[.cells [.d (.int .i64 c)] false,.cells [.d (.int .i64 l)] false]) (pa:=.heap hp.length) (pb:=.heap (hp.length+1)) rfl rfl;simp[UL,Dn,Bq,BX,Di,CZ,BB,Dh,BV,BF,BZ,xB,wR,vW,xu,vV,wJ,bI,dK,e0,iF,e1,e2,hv]at e;exact⟨_,_,by simpa[bI,dK,e0]using e⟩
 | @ind k h n=>intro hp;have e:=VA [] [] [.d (bI (Ht k)),.d (.int .i64 c),.d (.int .i64 l)] none hp;obtain⟨v,e2,hv⟩:=apq h hl;have e3:=fun hp=>agx (k:=k) (by omega) hc hp;obtain⟨w,e1⟩:=PW (h0:=hp++[.cells [.d (.int .i64 c)] false,.cells [.d (.int .i64 l)] false]) (pa:=.heap hp.length) (pb:=.heap (hp.length+1)) rfl rfl;simp[UL,Dn,Bq,BX,Di,CZ,BB,Dh,BV,BF,BZ,xB,wR,vW,xu,vV,wJ,bI,dK,e0,iF,e1,e2,e3,hv]at e;exact⟨_,_,by simpa[bI,dK,e0]using e⟩
 | @two op n a b hop ha hb iha ihb =>
  intro hp;have e:=VA [] [] [.d (gu op a b),.d (.int .i64 c),.d (.int .i64 l)] none hp;obtain⟨o1,p1,q1,n1,z1,a1,rfl,i1⟩:=ha.form;obtain⟨o2,p2,q2,n2,z2,a2,rfl,i2⟩:=hb.form;have c1:a1.isCell=true:=by rcases i1 with rfl|⟨l,rfl⟩<;>rfl
  have c2:a2.isCell=true:=by rcases i2 with rfl|⟨l,rfl⟩<;>rfl
  obtain⟨J1,w1,e1⟩:=ahf (hp++[.cells [.d (.int .i64 c)] false,.cells [.d (.int .i64 l)] false]) hp.length (hp.length+1) (i:=0) (ro:=false) (ro':=false) c1 (by simp) (by simp) (iha _);obtain⟨J2,w2,e2⟩:=ahf (hp++[.cells [.d (.int .i64 c)] false,.cells [.d (.int .i64 l)] false]++J1) hp.length (hp.length+1) (i:=1) (ro:=false) (ro':=false) c2 (by simp) (by simp) (ihb _);obtain⟨w,e3⟩:=ahm e1 e2 c1 c2 rfl rfl;rcases hop with rfl|rfl|rfl|rfl
  all_goals
   simp[UL,Dn,Bq,BX,Di,CZ,BB,Dh,BV,BF,BZ,xB,wR,vW,xu,vV,wJ,gu,dK,e0,iF,e3]at e;exact⟨_,_,by simpa[gu,dK,e0]using e⟩
 | @neg n a ha iha=>
  intro hp;have e:=VA [] [] [.d (oh a),.d (.int .i64 c),.d (.int .i64 l)] none hp;obtain⟨o1,p1,q1,n1,z1,a1,rfl,i1⟩:=ha.form;have c1:a1.isCell=true:=by rcases i1 with rfl|⟨l,rfl⟩<;>rfl
  obtain⟨J1,w1,e1⟩:=ahf (hp++[.cells [.d (.int .i64 c)] false,.cells [.d (.int .i64 l)] false]) hp.length (hp.length+1) (i:=0) (ro:=false) (ro':=false) c1 (by simp) (by simp) (iha _);obtain⟨w,e3⟩:=agX e1 c1 rfl rfl;simp[UL,Dn,Bq,BX,Di,CZ,BB,Dh,BV,BF,BZ,xB,wR,vW,xu,vV,wJ,oh,dK,e0,iF,e3]at e;exact⟨_,_,by simpa[oh,dK,e0]using e⟩
theorem lq{c l n m:Nat}{a b:D}(op:Int)(ha:bG c l n a)(hb:bG c l m b)(hp:List O):ah K (.fn (.func 113) [] []) [.d (.int .i64 op),.d a,.d b] none hp=some (.ret (.d (gu op a b)),false,hp,0):=by obtain⟨o1,p1,q1,n1,z1,a1,rfl,i1⟩:=ha.form;obtain⟨o2,p2,q2,n2,z2,a2,rfl,i2⟩:=hb.form;exact ayQ hp op _ _ _ _ _ _ _ _ _ _ _ _ i1 i2
def e9:Nat→List (Nat×Nat×O)
 |0=>[]|i+1=>[(9,i,.cells [.d (.int .i64 1),.d (.str e0),.d (.str e0),.d (.str (rn i)),.d (.int .i64 0),.d .nils] false)]
abbrev lN(l:Nat)(cells loops i:Int)(j:Nat)(o:Int)(p q m:ByteArray)(z:Int)(a:D)(hp:List O)(t:List (Nat×V)):St:=
 {tm:=(0,.ptr (.heap l) 0)::(1,.d (.int .i64 cells))::(2,.d (.int .i64 loops))::(6,.ptr (.slot 6 0) 0)::(7,.ptr (.slot 7 0) 0)::(8,.d (.int .i64 i))::t,
  m:={ob:=(6,0,.cells [.d (.int .i64 0),.d (.str e0),.d (.str e0),.d (.str e0),.d (.int .i64 0),.d .nils] false)::(7,0,.cells [.d (.int .i64 o),.d (.str p),.d (.str q),.d (.str m),.d (.int .i64 z),.d a] false)::e9 j,hp:=hp,wl:=1 <<< l},df:=[] }
theorem Fq:iF .add ⟨#[114]⟩ ⟨#[48]⟩=some (.str ⟨#[114,48]⟩):=rfl
theorem Ho:iF .add ⟨#[114]⟩ ⟨#[49]⟩=some (.str ⟨#[114,49]⟩):=rfl
theorem G5:iF .add ⟨#[114]⟩ ⟨#[50]⟩=some (.str ⟨#[114,50]⟩):=rfl
theorem aez:iF .add ⟨#[105]⟩ ⟨#[48]⟩=some (.str ⟨#[105,48]⟩):=rfl
theorem agz:iF .add ⟨#[105]⟩ ⟨#[49]⟩=some (.str ⟨#[105,49]⟩):=rfl
theorem O3{hp:List O}{l n cells:Nat}{v:V}{nums:List Int}{k st loops:Int}{o:Int}{p q m:ByteArray}{z:Int}{a:D}(hv:dn v nums)(hl:l<hp.length)(hk:0≤k)(hk':k<1099511610000)(hc:0<cells)(hb:bG cells loops.toNat n (dK o p q m z a)) :
  ∃k' st' o' p' q' m' z' a',aj K 131 iM (lN l cells loops 0 0 o p q m z a (hp.set l (aW v k st)) [])=some (.normal,lN l cells loops 1 1 o' p' q' m' z' a' (hp.set l (aW v k' st')) [])∧bG cells loops.toNat (n+2) (dK o' p' q' m' z' a')∧k≤k'∧k'≤k+3:=by
 have hw:wr .i64 1=1:=wI;obtain⟨st1,r,e1,r0,r1⟩:=s20 (n:=4) (st:=st) (k:=k) hv hl hk (by omega) (by omega);have hR:bG cells loops.toNat n (bI (rn 0)):=.ref hc n;have hlt:(0:Int)<cells:=by omega
 by_cases h0:r=0
 ·subst h0;have e2:=lq 4 hb hR;simp only[dK,bI,rn,e0,gu]at e2;refine⟨k+1,st1,4,e0,e0,e0,0,.list 6 [dK o p q m z a,bI (rn 0)],?_,(bG.two (by simp) hb hR).up (by omega),by omega,by omega⟩;simp[kG,kP,lF,lG,lK,lM,lH,lI,ji,jl,jh,jg,e9,e1,e2,hc,hlt,Fq,hw,tX,e0,rn,bI,dK]
 ·by_cases h1:r=1
  ·subst h1;obtain⟨st2,x,e2,x0,x1⟩:=Yn (lo:=1) (hi:=2) (st:=st1) (k:=k+1) hv hl (by omega) (by omega) (by omega) (by omega) (by omega);obtain⟨st3,y,e3,y0,y1⟩:=Yn (lo:=1) (hi:=3) (st:=st2) (k:=k+1+1) hv hl (by omega) (by omega) (by omega) (by omega) (by omega);obtain⟨c,d,-,hcd⟩:=KW (p:=x) (q:=y) (.inr ⟨x0,x1,y0,y1⟩) [];have e4:∀hp,∃c d,ah K (.fn (.func 188) [] []) [.d (.int .i64 x),.d (.int .i64 y)] none hp=some (.ret (.d (.agg [.str c,.str d])),false,hp,0)∧(c,d)∈lits:=KW (.inr ⟨x0,x1,y0,y1⟩);obtain⟨c,d,e4,hcd⟩:=e4 (hp.set l (aW v (k+1+1+1) st3));have hL:bG cells loops.toNat n (jF c d):=.lit hcd n;have e5:=lq 5 hL hR;have hM:bG cells loops.toNat (n+1) (gu 5 (jF c d) (bI (rn 0))):=.two (by simp) hL hR;have e6:=lq 3 hM (hb.up (Nat.le_succ n));simp only[dK,bI,rn,e0,gu,jF]at e5 e6;refine⟨k+1+1+1,st3,3,e0,e0,e0,0,.list 6 [gu 5 (jF c d) (bI (rn 0)),dK o p q m z a],?_,.two (by simp) hM (hb.up (Nat.le_succ n)),by omega,by omega⟩;simp[kG,kP,lF,lG,lK,lM,lH,lI,ji,jl,jh,jg,e9,e1,e2,e3,e4,e5,e6,hc,hlt,Fq,hw,tX,Jj,e0,rn,bI,dK,jF,gu]
  ·by_cases h2:r=2
   ·subst h2;have hN:bG cells loops.toNat (n+1) (oh (bI (rn 0))):=.neg hR;have e2:=lq 3 (hb.up (Nat.le_succ n)) hN;simp only[dK,bI,rn,e0,gu,oh]at e2;refine⟨k+1,st1,3,e0,e0,e0,0,.list 6 [dK o p q m z a,oh (bI (rn 0))],?_,.two (by simp) (hb.up (Nat.le_succ n)) hN,by omega,by omega⟩;simp[kG,kP,lF,lG,lK,lM,lH,lI,ji,jl,jh,jg,e9,e1,e2,hc,hlt,Fq,hw,tX,e0,rn,bI,dK,oh]
   ·have e2:=lq 3 hR hb;simp only[dK,bI,rn,e0,gu]at e2;refine⟨k+1,st1,3,e0,e0,e0,0,.list 6 [bI (rn 0),dK o p q m z a],?_,(bG.two (by simp) hR hb).up (by omega),by omega,by omega⟩;simp[kG,kP,lF,lG,lK,lM,lH,lI,ji,jl,jh,jg,e9,e1,e2,h0,h1,h2,hc,hlt,Fq,hw,tX,e0,rn,bI,dK]
theorem WE{hp:List O}{l n cells:Nat}{v:V}{nums:List Int}{k st loops:Int}{o:Int}{p q m:ByteArray}{z:Int}{a:D}(hv:dn v nums)(hl:l<hp.length)(hk:0≤k)(hk':k<1099511610000)(hc:1<cells)(hb:bG cells loops.toNat n (dK o p q m z a)) :
  ∃k' st' o' p' q' m' z' a',aj K 131 iM (lN l cells loops 1 1 o p q m z a (hp.set l (aW v k st)) [])=some (.normal,lN l cells loops 2 2 o' p' q' m' z' a' (hp.set l (aW v k' st')) [])∧bG cells loops.toNat (n+2) (dK o' p' q' m' z' a')∧k≤k'∧k'≤k+3:=by
 have hw:wr .i64 2=2:=wI;obtain⟨st1,r,e1,r0,r1⟩:=s20 (n:=4) (st:=st) (k:=k) hv hl hk (by omega) (by omega);have hR:bG cells loops.toNat n (bI (rn 1)):=.ref hc n;have hlt:(1:Int)<cells:=by omega
 by_cases h0:r=0
 ·subst h0;have e2:=lq 4 hb hR;simp only[dK,bI,rn,e0,gu]at e2;refine⟨k+1,st1,4,e0,e0,e0,0,.list 6 [dK o p q m z a,bI (rn 1)],?_,(bG.two (by simp) hb hR).up (by omega),by omega,by omega⟩;simp[kG,kP,lF,lG,lK,lM,lH,lI,ji,jl,jh,jg,e9,e1,e2,hc,hlt,Ho,hw,tX,e0,rn,bI,dK]
 ·by_cases h1:r=1
  ·subst h1;obtain⟨st2,x,e2,x0,x1⟩:=Yn (lo:=1) (hi:=2) (st:=st1) (k:=k+1) hv hl (by omega) (by omega) (by omega) (by omega) (by omega);obtain⟨st3,y,e3,y0,y1⟩:=Yn (lo:=1) (hi:=3) (st:=st2) (k:=k+1+1) hv hl (by omega) (by omega) (by omega) (by omega) (by omega);obtain⟨c,d,-,hcd⟩:=KW (p:=x) (q:=y) (.inr ⟨x0,x1,y0,y1⟩) [];have e4:∀hp,∃c d,ah K (.fn (.func 188) [] []) [.d (.int .i64 x),.d (.int .i64 y)] none hp=some (.ret (.d (.agg [.str c,.str d])),false,hp,0)∧(c,d)∈lits:=KW (.inr ⟨x0,x1,y0,y1⟩);obtain⟨c,d,e4,hcd⟩:=e4 (hp.set l (aW v (k+1+1+1) st3));have hL:bG cells loops.toNat n (jF c d):=.lit hcd n;have e5:=lq 5 hL hR;have hM:bG cells loops.toNat (n+1) (gu 5 (jF c d) (bI (rn 1))):=.two (by simp) hL hR;have e6:=lq 3 hM (hb.up (Nat.le_succ n));simp only[dK,bI,rn,e0,gu,jF]at e5 e6;refine⟨k+1+1+1,st3,3,e0,e0,e0,0,.list 6 [gu 5 (jF c d) (bI (rn 1)),dK o p q m z a],?_,.two (by simp) hM (hb.up (Nat.le_succ n)),by omega,by omega⟩;simp[kG,kP,lF,lG,lK,lM,lH,lI,ji,jl,jh,jg,e9,e1,e2,e3,e4,e5,e6,hc,hlt,Ho,hw,tX,Jj,e0,rn,bI,dK,jF,gu]
  ·by_cases h2:r=2
   ·subst h2;have hN:bG cells loops.toNat (n+1) (oh (bI (rn 1))):=.neg hR;have e2:=lq 3 (hb.up (Nat.le_succ n)) hN;simp only[dK,bI,rn,e0,gu,oh]at e2;refine⟨k+1,st1,3,e0,e0,e0,0,.list 6 [dK o p q m z a,oh (bI (rn 1))],?_,.two (by simp) (hb.up (Nat.le_succ n)) hN,by omega,by omega⟩;simp[kG,kP,lF,lG,lK,lM,lH,lI,ji,jl,jh,jg,e9,e1,e2,hc,hlt,Ho,hw,tX,e0,rn,bI,dK,oh]
   ·have e2:=lq 3 hR hb;simp only[dK,bI,rn,e0,gu]at e2;refine⟨k+1,st1,3,e0,e0,e0,0,.list 6 [bI (rn 1),dK o p q m z a],?_,(bG.two (by simp) hR hb).up (by omega),by omega,by omega⟩;simp[kG,kP,lF,lG,lK,lM,lH,lI,ji,jl,jh,jg,e9,e1,e2,h0,h1,h2,hc,hlt,Ho,hw,tX,e0,rn,bI,dK]
theorem ahA{hp:List O}{l n cells:Nat}{v:V}{nums:List Int}{k st loops:Int}{o:Int}{p q m:ByteArray}{z:Int}{a:D}(hv:dn v nums)(hl:l<hp.length)(hk:0≤k)(hk':k<1099511610000)(hc:2<cells)(hb:bG cells loops.toNat n (dK o p q m z a)) :
  ∃k' st' o' p' q' m' z' a',aj K 131 iM (lN l cells loops 2 2 o p q m z a (hp.set l (aW v k st)) [])=some (.normal,lN l cells loops 3 3 o' p' q' m' z' a' (hp.set l (aW v k' st')) [])∧bG cells loops.toNat (n+2) (dK o' p' q' m' z' a')∧k≤k'∧k'≤k+3:=by
 have hw:wr .i64 3=3:=wI;obtain⟨st1,r,e1,r0,r1⟩:=s20 (n:=4) (st:=st) (k:=k) hv hl hk (by omega) (by omega);have hR:bG cells loops.toNat n (bI (rn 2)):=.ref hc n;have hlt:(2:Int)<cells:=by omega
 by_cases h0:r=0
 ·subst h0;have e2:=lq 4 hb hR;simp only[dK,bI,rn,e0,gu]at e2;refine⟨k+1,st1,4,e0,e0,e0,0,.list 6 [dK o p q m z a,bI (rn 2)],?_,(bG.two (by simp) hb hR).up (by omega),by omega,by omega⟩;simp[kG,kP,lF,lG,lK,lM,lH,lI,ji,jl,jh,jg,e9,e1,e2,hc,hlt,G5,hw,tX,e0,rn,bI,dK]
 ·by_cases h1:r=1
  ·subst h1;obtain⟨st2,x,e2,x0,x1⟩:=Yn (lo:=1) (hi:=2) (st:=st1) (k:=k+1) hv hl (by omega) (by omega) (by omega) (by omega) (by omega);obtain⟨st3,y,e3,y0,y1⟩:=Yn (lo:=1) (hi:=3) (st:=st2) (k:=k+1+1) hv hl (by omega) (by omega) (by omega) (by omega) (by omega);obtain⟨c,d,-,hcd⟩:=KW (p:=x) (q:=y) (.inr ⟨x0,x1,y0,y1⟩) [];have e4:∀hp,∃c d,ah K (.fn (.func 188) [] []) [.d (.int .i64 x),.d (.int .i64 y)] none hp=some (.ret (.d (.agg [.str c,.str d])),false,hp,0)∧(c,d)∈lits:=KW (.inr ⟨x0,x1,y0,y1⟩);obtain⟨c,d,e4,hcd⟩:=e4 (hp.set l (aW v (k+1+1+1) st3));have hL:bG cells loops.toNat n (jF c d):=.lit hcd n;have e5:=lq 5 hL hR;have hM:bG cells loops.toNat (n+1) (gu 5 (jF c d) (bI (rn 2))):=.two (by simp) hL hR;have e6:=lq 3 hM (hb.up (Nat.le_succ n));simp only[dK,bI,rn,e0,gu,jF]at e5 e6;refine⟨k+1+1+1,st3,3,e0,e0,e0,0,.list 6 [gu 5 (jF c d) (bI (rn 2)),dK o p q m z a],?_,.two (by simp) hM (hb.up (Nat.le_succ n)),by omega,by omega⟩;simp[kG,kP,lF,lG,lK,lM,lH,lI,ji,jl,jh,jg,e9,e1,e2,e3,e4,e5,e6,hc,hlt,G5,hw,tX,Jj,e0,rn,bI,dK,jF,gu]
  ·by_cases h2:r=2
   ·subst h2;have hN:bG cells loops.toNat (n+1) (oh (bI (rn 2))):=.neg hR;have e2:=lq 3 (hb.up (Nat.le_succ n)) hN;simp only[dK,bI,rn,e0,gu,oh]at e2;refine⟨k+1,st1,3,e0,e0,e0,0,.list 6 [dK o p q m z a,oh (bI (rn 2))],?_,.two (by simp) (hb.up (Nat.le_succ n)) hN,by omega,by omega⟩;simp[kG,kP,lF,lG,lK,lM,lH,lI,ji,jl,jh,jg,e9,e1,e2,hc,hlt,G5,hw,tX,e0,rn,bI,dK,oh]
   ·have e2:=lq 3 hR hb;simp only[dK,bI,rn,e0,gu]at e2;refine⟨k+1,st1,3,e0,e0,e0,0,.list 6 [bI (rn 2),dK o p q m z a],?_,(bG.two (by simp) hR hb).up (by omega),by omega,by omega⟩;simp[kG,kP,lF,lG,lK,lM,lH,lI,ji,jl,jh,jg,e9,e1,e2,h0,h1,h2,hc,hlt,G5,hw,tX,e0,rn,bI,dK]
end Mw
