/- DependFirst's tied card holds; no condition beyond the card's own. -/
import Derived.Test.YtdjnccgeajpegaaGreatDoorQb
import Derived.Test.YtdjnccgeajpegaaGreatDoorXb
set_option linter.unusedVariables false
set_option linter.unusedSimpArgs false
set_option maxRecDepth 10000
set_option maxHeartbeats 2000000
namespace Mw
open Go Go.Proofs
theorem aku{hp:List O}{l cells:Nat}{v:V}{nums:List Int}{loops:Int}(hv:dn v nums)(hl:l<hp.length)(hc:cells≤3){k st:Int}{n:Nat}{o:Int}{p q m:ByteArray}{z:Int}{a:D}(hk:0≤k)(hk':k<1099511600000)(hb:bG cells loops.toNat n (dK o p q m z a)) :
  ∃k' st' o' p' q' m' z' a',aj K 131 (.loop iM) (lN l cells loops 0 0 o p q m z a (hp.set l (aW v k st)) [])=some (.exit 0,lN l cells loops cells cells o' p' q' m' z' a' (hp.set l (aW v k' st')) [(16,.d (.bool false))])∧bG cells loops.toNat (n+6) (dK o' p' q' m' z' a')∧k≤k'∧k'≤k+9:=by
 have hend:∀(k st:Int) (o:Int) (p q m:ByteArray) (z:Int) (a:D),aj K 131 iM (lN l cells loops cells cells o p q m z a (hp.set l (aW v k st)) [])=some (.exit 0,lN l cells loops cells cells o p q m z a (hp.set l (aW v k st)) [(16,.d (.bool false))]):=by intro k st o p q m z a;simp[kG,kP]
 match cells,hc,hb,hend with
 |0,_,hb,hend=>refine⟨k,st,o,p,q,m,z,a,?_,hb.up (by omega),by omega,by omega⟩;rw[af];exact congrArg (andThen (aj K 131 (.loop iM))) (hend k st o p q m z a)|1,_,hb,hend=>obtain⟨k1,st1,o1,p1,q1,m1,z1,a1,e1,h1,i1,j1⟩:=O3 (st:=st) hv hl hk (by omega) (by omega) hb;refine⟨k1,st1,o1,p1,q1,m1,z1,a1,?_,h1.up (by omega),by omega,by omega⟩;rw[af,e1];refine(af (C:=K) (f:=131) (p:=iM) (s:=lN l ((1:Nat):Int) loops ((1:Nat):Int) 1 o1 p1 q1 m1 z1 a1 (hp.set l (aW v k1 st1)) [])).trans ?_;exact congrArg (andThen (aj K 131 (.loop iM))) (hend k1 st1 o1 p1 q1 m1 z1 a1)
 |2,_,hb,hend=>obtain⟨k1,st1,o1,p1,q1,m1,z1,a1,e1,h1,i1,j1⟩:=O3 (st:=st) hv hl hk (by omega) (by omega) hb;obtain⟨k2,st2,o2,p2,q2,m2,z2,a2,e2,h2,i2,j2⟩:=WE (st:=st1) (k:=k1) hv hl (by omega) (by omega) (by omega) h1;refine⟨k2,st2,o2,p2,q2,m2,z2,a2,?_,h2.up (by omega),by omega,by omega⟩;rw[af,e1];show aj K 131 (.loop iM) _=_;rw[af,e2];refine(af (C:=K) (f:=131) (p:=iM) (s:=lN l ((2:Nat):Int) loops ((2:Nat):Int) 2 o2 p2 q2 m2 z2 a2 (hp.set l (aW v k2 st2)) [])).trans ?_;exact congrArg (andThen (aj K 131 (.loop iM))) (hend k2 st2 o2 p2 q2 m2 z2 a2)
 |3,_,hb,hend=>obtain⟨k1,st1,o1,p1,q1,m1,z1,a1,e1,h1,i1,j1⟩:=O3 (st:=st) hv hl hk (by omega) (by omega) hb;obtain⟨k2,st2,o2,p2,q2,m2,z2,a2,e2,h2,i2,j2⟩:=WE (st:=st1) (k:=k1) hv hl (by omega) (by omega) (by omega) h1;obtain⟨k3,st3,o3,p3,q3,m3,z3,a3,e3,h3,i3,j3⟩:=ahA (st:=st2) (k:=k2) hv hl (by omega) (by omega) (by omega) h2;refine⟨k3,st3,o3,p3,q3,m3,z3,a3,?_,h3.up (by omega),by omega,by omega⟩;rw[af,e1];show aj K 131 (.loop iM) _=_;rw[af,e2];show aj K 131 (.loop iM) _=_;rw[af,e3];refine(af (C:=K) (f:=131) (p:=iM) (s:=lN l ((3:Nat):Int) loops ((3:Nat):Int) 3 o3 p3 q3 m3 z3 a3 (hp.set l (aW v k3 st3)) [])).trans ?_;exact congrArg (andThen (aj K 131 (.loop iM))) (hend k3 st3 o3 p3 q3 m3 z3 a3)
abbrev sA(b:Bool)(l:Nat)(cells loops:Int)(j:Nat)(o:Int)(p q m:ByteArray)(z:Int)(a:D)(hp:List O):St:=
 {tm:=(0,.ptr (.heap l) 0)::(1,.d (.int .i64 cells))::(if b then[(6,.ptr (.slot 6 0) 0),(7,.ptr (.slot 7 0) 0)]else[(2,.d (.int .i64 loops)),(6,.ptr (.slot 6 0) 0),(7,.ptr (.slot 7 0) 0),(57,.d (.bool false))]),
  m:={ob:=(6,0,.cells [.d (.int .i64 0),.d (.str e0),.d (.str e0),.d (.str e0),.d (.int .i64 0),.d .nils] false)::(7,0,.cells [.d (.int .i64 o),.d (.str p),.d (.str q),.d (.str m),.d (.int .i64 z),.d a] false)::e9 j,hp:=hp,wl:=1 <<< l},df:=[] }
theorem a131{hp:List O}{l cells:Nat}{v:V}{nums:List Int}{loops:Int}(hv:dn v nums)(hl:l<hp.length)(h0:0≤loops)(h2:loops≤2){k st:Int}{n j:Nat}{o:Int}{p q m:ByteArray}{z:Int}{a:D}(hk:0≤k)(hk':k<1099511600000)(hb:bG cells loops.toNat n (dK o p q m z a)) :
  ∃b k' st' o' p' q' m' z' a',aj K 131 (.seq (rg 131 14) (.cond (.tmp 57) (.region 15 (lQ K.P 131 15) true) (.skip))) (lN l cells loops cells j o p q m z a (hp.set l (aW v k st)) [(16,.d (.bool false))])=some (.normal,sA b l cells loops j o' p' q' m' z' a' (hp.set l (aW v k' st')))∧bG cells loops.toNat (n+1) (dK o' p' q' m' z' a')∧k≤k'∧k'≤k+3:=by
 by_cases hz:0<loops
 ·obtain⟨st1,b,e1⟩:=zy (n:=2) (st:=st) (k:=k) hv hl hk (by omega) (by omega) (by omega);cases b with
  |false=>refine⟨false,k+1,st1,o,p,q,m,z,a,?_,hb.up (by omega),by omega,by omega⟩;simp[Ag,zK,e0,e1,hz]| true =>
   obtain⟨st2,op,e2,hop⟩:=s58 (xs:=[3,5,4]) (st:=st1) (k:=k+1) hv hl (by omega) (by omega) (by simp) (by simp);obtain⟨st3,r,e3,r0,r1⟩:=s20 (n:=loops-1) (st:=st2) (k:=k+1+1) hv hl (by omega) (by omega) (by omega);have hw:wr .i64 (loops-1)=loops-1:=wI;have hR:bG cells loops.toNat n (bI (Ht r.toNat)):=.ind (by omega) n;have hop':op=3∨op=4∨op=5∨op=6:=by simp at hop;omega
   have e4:=lq op hb hR;obtain rfl|rfl:r=0∨r=1:=by omega
   ·simp only[dK,bI,Ht,e0,gu,Int.toNat_zero]at e4;refine⟨true,k+1+1+1,st3,op,e0,e0,e0,0,.list 6 [dK o p q m z a,bI (Ht 0)],?_,.two hop' hb hR,by omega,by omega⟩;simp only[eu,jI]at e2;simp[Ag,zK,e0,e1,e2,e3,e4,hz,hw,aez,tX,Ht,bI,dK]
   ·simp only[dK,bI,Ht,e0,gu,Int.toNat_one]at e4;refine⟨true,k+1+1+1,st3,op,e0,e0,e0,0,.list 6 [dK o p q m z a,bI (Ht 1)],?_,.two hop' hb hR,by omega,by omega⟩;simp only[eu,jI]at e2;simp[Ag,zK,e0,e1,e2,e3,e4,hz,hw,agz,tX,Ht,bI,dK]
 ·refine⟨false,k,st,o,p,q,m,z,a,?_,hb.up (by omega),by omega,by omega⟩;simp[Ag,zK,e0,hz]
theorem yB.cell{a:D}(h:yB a):a.isCell=true:=by rcases h with rfl|⟨l,rfl⟩<;>rfl
theorem bG.args{c l n:Nat}{o:Int}{p q m:ByteArray}{z:Int}{a:D}(h:bG c l n (dK o p q m z a)):yB a:=by obtain⟨_,_,_,_,_,a',e,ha⟩:=h.form;simp[dK]at e;obtain⟨-,-,-,-,-,rfl⟩:=e;exact ha
theorem qX{hp:List O}{l cells:Nat}{v:V}{nums:List Int}{loops:Nat}(hv:dn v nums)(hl:l<hp.length)(hc:cells≤3)(h2:loops≤2){k st:Int}(hk:0≤k)(hk':k<1099511500000) :
  ∃k' st' d,ah K (.fn (.func 131) [] []) [.ptr (.heap l) 0,.d (.int .i64 cells),.d (.int .i64 loops)] none (hp.set l (aW v k st))=some (.ret (.d d),false,hp.set l (aW v k' st'),1 <<< l)∧bG cells loops 10 d∧k≤k'∧k'≤k+20:=by
 have e:=aw6 [] [] [.ptr (.heap l) 0,.d (.int .i64 cells),.d (.int .i64 loops)] none (hp.set l (aW v k st));obtain⟨st1,r,e1,r0,r1⟩:=s20 (n:=5) (st:=st) (k:=k) hv hl hk (by omega) (by omega);obtain⟨c,d,e2,hcd⟩:=KW (p:=r) (q:=1) (.inl ⟨rfl,r0,by omega⟩) (hp.set l (aW v (k+1) st1));have hL:bG cells loops 0 (dK 0 c d e0 0 .nils):=.lit hcd 0;obtain⟨k3,st3,o3,p3,q3,m3,z3,a3,e3,h3,i3,j3⟩:=aku (cells:=cells) (loops:=loops) (st:=st1) (k:=k+1) hv hl hc (by omega) (by omega) (by simpa using hL);obtain⟨b,k4,st4,o4,p4,q4,m4,z4,a4,e4,h4,i4,j4⟩:=a131 (cells:=cells) (loops:=loops) (st:=st3) (k:=k3) (j:=cells) hv hl (by omega) (by omega) (by omega) (by omega) h3;obtain⟨st5,b5,e5⟩:=zy (n:=9) (st:=st4) (k:=k4) hv hl (by omega) (by omega) (by omega) (by omega);have h4':bG cells loops 7 (dK o4 p4 q4 m4 z4 a4):=by simpa using h4
 have hca:=h4'.args.cell;simp only[D.isCell]at hca;simp only[lN,e0]at e3;rw[show e9 0=[]from rfl]at e3;simp only[lN,sA,e0]at e4;by_cases hz:0<cells
 ·have hR:bG cells loops 7 (bI (rn 0)):=.ref hz 7;have e6:=lq 6 h4' hR;simp only[dK,bI,rn,e0,gu]at e6;have hT:bG cells loops 8 (gu 6 (dK o4 p4 q4 m4 z4 a4) (bI (rn 0))):=.two (by simp) h4' hR;cases b5 with
  | true =>
   refine⟨k4+1,st5,gu 6 (dK o4 p4 q4 m4 z4 a4) (bI (rn 0)),?_,hT.up (by omega),by omega,by omega⟩;cases b
   ·simp[c131,AY,Aq,CY,wZ,xg,xh,hca,e1,e2,e3,e4,e5,e6,Jj,tX,hz,jF,bI,rn,dK,gu,e0]at e;simpa[gu,dK,e0,bI,rn]using e
   ·simp[c131,AY,Aq,CY,wZ,xg,xh,hca,e1,e2,e3,e4,e5,e6,Jj,tX,hz,jF,bI,rn,dK,gu,e0]at e;simpa[gu,dK,e0,bI,rn]using e
  | false =>
   refine⟨k4+1,st5,dK o4 p4 q4 m4 z4 a4,?_,h4'.up (by omega),by omega,by omega⟩;cases b
   ·simp[c131,AY,Aq,CY,wZ,xg,xh,hca,e1,e2,e3,e4,e5,Jj,hz,jF,dK,e0]at e;simpa[dK]using e
   ·simp[c131,AY,Aq,CY,wZ,xg,xh,hca,e1,e2,e3,e4,e5,Jj,hz,jF,dK,e0]at e;simpa[dK]using e
 ·refine⟨k4+1,st5,dK o4 p4 q4 m4 z4 a4,?_,h4'.up (by omega),by omega,by omega⟩;cases b5<;>cases b
  all_goals
   simp[c131,AY,Aq,CY,wZ,xg,xh,hca,e1,e2,e3,e4,e5,Jj,hz,jF,dK,e0]at e;simpa[dK]using e
theorem GU(hp:List O)(n:Nat)(x:List (Int×List Int))(hx:x.length≤2)(h:∀p∈x,p.2.length≤1000):ah K (.fn (.func 130) [] []) [.d (dJ n x)] none hp=some (.ret (.d (dJ n x)),false,hp,0):=by
 have hw:wr .i64 1=1:=wI;rw[atl]
 match x,hx,h with
 |[],_,_=>simp[c130,KR,PY,KZ,OO,O7,LX,KY,af,P5,dJ,lS,ny]|[p],_,h=>have e1:=fun hp=>agr hp p.2 (h p (by simp));simp[c130,KR,PY,KZ,OO,O7,LX,KY,af,P5,dJ,lS,ny,hw,e1]
 |[p,q],_,h=>have e1:=fun hp=>agr hp p.2 (h p (by simp));have e2:=fun hp=>agr hp q.2 (h q (by simp));simp[c130,KR,PY,KZ,OO,O7,LX,KY,af,P5,dJ,lS,ny,hw,hw2,e1,e2]
 |_::_::_::_,hx,_=>simp at hx
theorem Ug{h0 h1 h2 h3 h4 h5 h6:List O}{l:Nat}{w1 w2 w3 w4 w5 w6:Nat}{ta tn o z:Int}{tx a:D}{p q n:ByteArray}
 (eP:CK 58 [.ptr (.heap l) 0,.d (.list 1 [.int .i64 0,.int .i64 1,.int .i64 1,.int .i64 2,.int .i64 2])] h0 (.d (.int .i64 0)) h1 w1)
 (eA:CK 20 [.ptr (.heap l) 0,.d (.int .i64 2)] h1 (.d (.int .i64 ta)) h2 w2)
 (eT:CK 128 [.ptr (.heap l) 0,.d (.list 2 ax),.d (.nils),.d (.int .i64 ta)] h2 (.d (.agg [.int .i64 tn,tx])) h3 w3)
 (eM:CK 20 [.ptr (.heap l) 0,.d (.int .i64 2)] h3 (.d (.int .i64 0)) h4 w4)
 (eO:CK 129 [.ptr (.heap l) 0,.d (.int .i64 3)] h4 (.d (.bool false)) h5 w5)
 (eB:CK 131 [.ptr (.heap l) 0,.d (.int .i64 0),.d (.int .i64 0)] h5 (.d (.agg [.int .i64 o,.str p,.str q,.str n,.int .i64 z,a])) h6 w6)
 (xtx:(tx).isCell=true)(xa:(a).isCell=true) :
 ∃w,ah K (.fn (.func 63) [] []) [.ptr (.heap l) 0,.d (.list 2 ax)] none h0=some (.ret (.d (.agg [.nils,.int .i64 tn,tx,.nils,.int .i64 o,.str p,.str q,.str n,.int .i64 z,a])),false,h6,w):=by
 simp only[D.isCell]at xtx xa;have e:=Hq [] [] [.ptr (.heap l) 0,.d (.list 2 ax)] none h0;have hA:ax.length=3:=rfl;simp[Fz,ku,jV,kF,kD,jU,kC,jW,jZ,jX,jY,iJ,iG,iD,iH,iE,iI,af,kz,kE,hA,hw0,hw1,hw2,eP,eA,eT,eM,eO,eB,xtx,xa]at e;exact⟨_,e⟩
theorem Tv{h0 h1 h2 h3 h4 h5 h6:List O}{l:Nat}{w1 w2 w3 w4 w5 w6:Nat}{ta tn o z:Int}{tx a:D}{p q n:ByteArray}
 (eP:CK 58 [.ptr (.heap l) 0,.d (.list 1 [.int .i64 0,.int .i64 1,.int .i64 1,.int .i64 2,.int .i64 2])] h0 (.d (.int .i64 0)) h1 w1)
 (eA:CK 20 [.ptr (.heap l) 0,.d (.int .i64 2)] h1 (.d (.int .i64 ta)) h2 w2)
 (eT:CK 128 [.ptr (.heap l) 0,.d (.list 2 ax),.d (.nils),.d (.int .i64 ta)] h2 (.d (.agg [.int .i64 tn,tx])) h3 w3)
 (eM:CK 20 [.ptr (.heap l) 0,.d (.int .i64 2)] h3 (.d (.int .i64 0)) h4 w4)
 (eO:CK 129 [.ptr (.heap l) 0,.d (.int .i64 3)] h4 (.d (.bool true)) h5 w5)
 (eK:∀hp,ah K (.fn (.func 130) [] []) [.d (.agg [.int .i64 tn,tx])] none hp=some (.ret (.d (.agg [.int .i64 tn,tx])),false,hp,0))
 (eB:CK 131 [.ptr (.heap l) 0,.d (.int .i64 1),.d (.int .i64 0)] h5 (.d (.agg [.int .i64 o,.str p,.str q,.str n,.int .i64 z,a])) h6 w6)
 (xtx:(tx).isCell=true)(xa:(a).isCell=true) :
 ∃w,ah K (.fn (.func 63) [] []) [.ptr (.heap l) 0,.d (.list 2 ax)] none h0=some (.ret (.d (.agg [.nils,.int .i64 tn,tx,.list 2 [.agg [.int .i64 tn,tx]],.int .i64 o,.str p,.str q,.str n,.int .i64 z,a])),false,h6,w):=by
 simp only[D.isCell]at xtx xa;have e:=Hq [] [] [.ptr (.heap l) 0,.d (.list 2 ax)] none h0;have hA:ax.length=3:=rfl;simp[Fz,ku,jV,kF,kD,jU,kC,jW,jZ,jX,jY,iJ,iG,iD,iH,iE,iI,af,kz,kE,hA,hw0,hw1,hw2,eP,eA,eT,eM,eO,eK,eB,xtx,xa]at e;exact⟨_,e⟩
theorem TV{h0 h1 h2 h3 h4 h5 h6 h7 h8:List O}{l:Nat}{w1 w2 w3 w4 w5 w6 w7 w8:Nat}{ta tn o z fa0 fn0:Int}{tx a fx0:D}{p q n:ByteArray}
 (eP:CK 58 [.ptr (.heap l) 0,.d (.list 1 [.int .i64 0,.int .i64 1,.int .i64 1,.int .i64 2,.int .i64 2])] h0 (.d (.int .i64 0)) h1 w1)
 (eA:CK 20 [.ptr (.heap l) 0,.d (.int .i64 2)] h1 (.d (.int .i64 ta)) h2 w2)
 (eT:CK 128 [.ptr (.heap l) 0,.d (.list 2 ax),.d (.nils),.d (.int .i64 ta)] h2 (.d (.agg [.int .i64 tn,tx])) h3 w3)
 (eM:CK 20 [.ptr (.heap l) 0,.d (.int .i64 2)] h3 (.d (.int .i64 1)) h4 w4)
 (eF0:CK 20 [.ptr (.heap l) 0,.d (.int .i64 2)] h4 (.d (.int .i64 fa0)) h5 w5)
 (eC0:CK 128 [.ptr (.heap l) 0,.d (.list 2 ax),.d (.nils),.d (.int .i64 fa0)] h5 (.d (.agg [.int .i64 fn0,fx0])) h6 w6)
 (eO:CK 129 [.ptr (.heap l) 0,.d (.int .i64 3)] h6 (.d (.bool false)) h7 w7)
 (eB:CK 131 [.ptr (.heap l) 0,.d (.int .i64 1),.d (.int .i64 0)] h7 (.d (.agg [.int .i64 o,.str p,.str q,.str n,.int .i64 z,a])) h8 w8)
 (xtx:(tx).isCell=true)(xa:(a).isCell=true)(xfx0:(fx0).isCell=true) :
 ∃w,ah K (.fn (.func 63) [] []) [.ptr (.heap l) 0,.d (.list 2 ax)] none h0=some (.ret (.d (.agg [.nils,.int .i64 tn,tx,.list 2 [.agg [.int .i64 fn0,fx0]],.int .i64 o,.str p,.str q,.str n,.int .i64 z,a])),false,h8,w):=by
 simp only[D.isCell]at xtx xa xfx0;have e:=Hq [] [] [.ptr (.heap l) 0,.d (.list 2 ax)] none h0;have hA:ax.length=3:=rfl;simp[Fz,ku,jV,kF,kD,jU,kC,jW,jZ,jX,jY,iJ,iG,iD,iH,iE,iI,af,kz,kE,hA,hw0,hw1,hw2,eP,eA,eT,eM,eF0,eC0,eO,eB,xtx,xa,xfx0]at e;exact⟨_,e⟩
theorem TQ{h0 h1 h2 h3 h4 h5 h6 h7 h8:List O}{l:Nat}{w1 w2 w3 w4 w5 w6 w7 w8:Nat}{ta tn o z fa0 fn0:Int}{tx a fx0:D}{p q n:ByteArray}
 (eP:CK 58 [.ptr (.heap l) 0,.d (.list 1 [.int .i64 0,.int .i64 1,.int .i64 1,.int .i64 2,.int .i64 2])] h0 (.d (.int .i64 0)) h1 w1)
 (eA:CK 20 [.ptr (.heap l) 0,.d (.int .i64 2)] h1 (.d (.int .i64 ta)) h2 w2)
 (eT:CK 128 [.ptr (.heap l) 0,.d (.list 2 ax),.d (.nils),.d (.int .i64 ta)] h2 (.d (.agg [.int .i64 tn,tx])) h3 w3)
 (eM:CK 20 [.ptr (.heap l) 0,.d (.int .i64 2)] h3 (.d (.int .i64 1)) h4 w4)
 (eF0:CK 20 [.ptr (.heap l) 0,.d (.int .i64 2)] h4 (.d (.int .i64 fa0)) h5 w5)
 (eC0:CK 128 [.ptr (.heap l) 0,.d (.list 2 ax),.d (.nils),.d (.int .i64 fa0)] h5 (.d (.agg [.int .i64 fn0,fx0])) h6 w6)
 (eO:CK 129 [.ptr (.heap l) 0,.d (.int .i64 3)] h6 (.d (.bool true)) h7 w7)
 (eK:∀hp,ah K (.fn (.func 130) [] []) [.d (.agg [.int .i64 tn,tx])] none hp=some (.ret (.d (.agg [.int .i64 tn,tx])),false,hp,0))
 (eB:CK 131 [.ptr (.heap l) 0,.d (.int .i64 2),.d (.int .i64 0)] h7 (.d (.agg [.int .i64 o,.str p,.str q,.str n,.int .i64 z,a])) h8 w8)
 (xtx:(tx).isCell=true)(xa:(a).isCell=true)(xfx0:(fx0).isCell=true) :
 ∃w,ah K (.fn (.func 63) [] []) [.ptr (.heap l) 0,.d (.list 2 ax)] none h0=some (.ret (.d (.agg [.nils,.int .i64 tn,tx,.list 2 [.agg [.int .i64 fn0,fx0],.agg [.int .i64 tn,tx]],.int .i64 o,.str p,.str q,.str n,.int .i64 z,a])),false,h8,w):=by
 simp only[D.isCell]at xtx xa xfx0;have e:=Hq [] [] [.ptr (.heap l) 0,.d (.list 2 ax)] none h0;have hA:ax.length=3:=rfl;simp[Fz,ku,jV,kF,kD,jU,kC,jW,jZ,jX,jY,iJ,iG,iD,iH,iE,iI,af,kz,kE,hA,hw0,hw1,hw2,eP,eA,eT,eM,eF0,eC0,eO,eK,eB,xtx,xa,xfx0]at e;exact⟨_,e⟩
theorem UX{h0 h1 h2 h3 h4 h5 h6 h7 h8 h9 h10:List O}{l:Nat}{w1 w2 w3 w4 w5 w6 w7 w8 w9 w10:Nat}{ta tn o z fa0 fa1 fn0 Gg:Int}{tx a fx0 fx1:D}{p q n:ByteArray}
 (eP:CK 58 [.ptr (.heap l) 0,.d (.list 1 [.int .i64 0,.int .i64 1,.int .i64 1,.int .i64 2,.int .i64 2])] h0 (.d (.int .i64 0)) h1 w1)
 (eA:CK 20 [.ptr (.heap l) 0,.d (.int .i64 2)] h1 (.d (.int .i64 ta)) h2 w2)
 (eT:CK 128 [.ptr (.heap l) 0,.d (.list 2 ax),.d (.nils),.d (.int .i64 ta)] h2 (.d (.agg [.int .i64 tn,tx])) h3 w3)
 (eM:CK 20 [.ptr (.heap l) 0,.d (.int .i64 2)] h3 (.d (.int .i64 2)) h4 w4)
 (eF0:CK 20 [.ptr (.heap l) 0,.d (.int .i64 2)] h4 (.d (.int .i64 fa0)) h5 w5)
 (eC0:CK 128 [.ptr (.heap l) 0,.d (.list 2 ax),.d (.nils),.d (.int .i64 fa0)] h5 (.d (.agg [.int .i64 fn0,fx0])) h6 w6)
 (eF1:CK 20 [.ptr (.heap l) 0,.d (.int .i64 2)] h6 (.d (.int .i64 fa1)) h7 w7)
 (eC1:CK 128 [.ptr (.heap l) 0,.d (.list 2 ax),.d (.nils),.d (.int .i64 fa1)] h7 (.d (.agg [.int .i64 Gg,fx1])) h8 w8)
 (eO:CK 129 [.ptr (.heap l) 0,.d (.int .i64 3)] h8 (.d (.bool false)) h9 w9)
 (eB:CK 131 [.ptr (.heap l) 0,.d (.int .i64 2),.d (.int .i64 0)] h9 (.d (.agg [.int .i64 o,.str p,.str q,.str n,.int .i64 z,a])) h10 w10)
 (xtx:(tx).isCell=true)(xa:(a).isCell=true)(xfx0:(fx0).isCell=true)(xfx1:(fx1).isCell=true) :
 ∃w,ah K (.fn (.func 63) [] []) [.ptr (.heap l) 0,.d (.list 2 ax)] none h0=some (.ret (.d (.agg [.nils,.int .i64 tn,tx,.list 2 [.agg [.int .i64 fn0,fx0],.agg [.int .i64 Gg,fx1]],.int .i64 o,.str p,.str q,.str n,.int .i64 z,a])),false,h10,w):=by
 simp only[D.isCell]at xtx xa xfx0 xfx1;have e:=Hq [] [] [.ptr (.heap l) 0,.d (.list 2 ax)] none h0;have hA:ax.length=3:=rfl;simp[Fz,ku,jV,kF,kD,jU,kC,jW,jZ,jX,jY,iJ,iG,iD,iH,iE,iI,af,kz,kE,hA,hw0,hw1,hw2,eP,eA,eT,eM,eF0,eC0,eF1,eC1,eO,eB,xtx,xa,xfx0,xfx1]at e;exact⟨_,e⟩
theorem Tf{h0 h1 h2 h3 h4 h5 h6 h7 h8 h9 h10:List O}{l:Nat}{w1 w2 w3 w4 w5 w6 w7 w8 w9 w10:Nat}{ta tn o z fa0 fa1 fn0 Gg:Int}{tx a fx0 fx1:D}{p q n:ByteArray}
 (eP:CK 58 [.ptr (.heap l) 0,.d (.list 1 [.int .i64 0,.int .i64 1,.int .i64 1,.int .i64 2,.int .i64 2])] h0 (.d (.int .i64 0)) h1 w1)
 (eA:CK 20 [.ptr (.heap l) 0,.d (.int .i64 2)] h1 (.d (.int .i64 ta)) h2 w2)
 (eT:CK 128 [.ptr (.heap l) 0,.d (.list 2 ax),.d (.nils),.d (.int .i64 ta)] h2 (.d (.agg [.int .i64 tn,tx])) h3 w3)
 (eM:CK 20 [.ptr (.heap l) 0,.d (.int .i64 2)] h3 (.d (.int .i64 2)) h4 w4)
 (eF0:CK 20 [.ptr (.heap l) 0,.d (.int .i64 2)] h4 (.d (.int .i64 fa0)) h5 w5)
 (eC0:CK 128 [.ptr (.heap l) 0,.d (.list 2 ax),.d (.nils),.d (.int .i64 fa0)] h5 (.d (.agg [.int .i64 fn0,fx0])) h6 w6)
 (eF1:CK 20 [.ptr (.heap l) 0,.d (.int .i64 2)] h6 (.d (.int .i64 fa1)) h7 w7)
 (eC1:CK 128 [.ptr (.heap l) 0,.d (.list 2 ax),.d (.nils),.d (.int .i64 fa1)] h7 (.d (.agg [.int .i64 Gg,fx1])) h8 w8)
 (eO:CK 129 [.ptr (.heap l) 0,.d (.int .i64 3)] h8 (.d (.bool true)) h9 w9)
 (eK:∀hp,ah K (.fn (.func 130) [] []) [.d (.agg [.int .i64 tn,tx])] none hp=some (.ret (.d (.agg [.int .i64 tn,tx])),false,hp,0))
 (eB:CK 131 [.ptr (.heap l) 0,.d (.int .i64 3),.d (.int .i64 0)] h9 (.d (.agg [.int .i64 o,.str p,.str q,.str n,.int .i64 z,a])) h10 w10)
 (xtx:(tx).isCell=true)(xa:(a).isCell=true)(xfx0:(fx0).isCell=true)(xfx1:(fx1).isCell=true) :
 ∃w,ah K (.fn (.func 63) [] []) [.ptr (.heap l) 0,.d (.list 2 ax)] none h0=some (.ret (.d (.agg [.nils,.int .i64 tn,tx,.list 2 [.agg [.int .i64 fn0,fx0],.agg [.int .i64 Gg,fx1],.agg [.int .i64 tn,tx]],.int .i64 o,.str p,.str q,.str n,.int .i64 z,a])),false,h10,w):=by
 simp only[D.isCell]at xtx xa xfx0 xfx1;have e:=Hq [] [] [.ptr (.heap l) 0,.d (.list 2 ax)] none h0;have hA:ax.length=3:=rfl;simp[Fz,ku,jV,kF,kD,jU,kC,jW,jZ,jX,jY,iJ,iG,iD,iH,iE,iI,af,kz,kE,hA,hw0,hw1,hw2,eP,eA,eT,eM,eF0,eC0,eF1,eC1,eO,eK,eB,xtx,xa,xfx0,xfx1]at e;exact⟨_,e⟩
theorem TI{h0 h1 h2 h3 h4 h5 h6 h7:List O}{l:Nat}{w1 w2 w3 w4 w5 w6 w7:Nat}{ta tn o z s0:Int}{tx a:D}{p q n:ByteArray}
 (eP:CK 58 [.ptr (.heap l) 0,.d (.list 1 [.int .i64 0,.int .i64 1,.int .i64 1,.int .i64 2,.int .i64 2])] h0 (.d (.int .i64 1)) h1 w1)
 (eS0:CK 21 [.ptr (.heap l) 0,.d (.int .i64 1),.d (.int .i64 4)] h1 (.d (.int .i64 s0)) h2 w2)
 (eA:CK 20 [.ptr (.heap l) 0,.d (.int .i64 2)] h2 (.d (.int .i64 ta)) h3 w3)
 (eT:CK 128 [.ptr (.heap l) 0,.d (.list 2 ax),.d (.list 1 [.int .i64 s0]),.d (.int .i64 ta)] h3 (.d (.agg [.int .i64 tn,tx])) h4 w4)
 (eM:CK 20 [.ptr (.heap l) 0,.d (.int .i64 2)] h4 (.d (.int .i64 0)) h5 w5)
 (eO:CK 129 [.ptr (.heap l) 0,.d (.int .i64 3)] h5 (.d (.bool false)) h6 w6)
 (eB:CK 131 [.ptr (.heap l) 0,.d (.int .i64 0),.d (.int .i64 1)] h6 (.d (.agg [.int .i64 o,.str p,.str q,.str n,.int .i64 z,a])) h7 w7)
 (xtx:(tx).isCell=true)(xa:(a).isCell=true) :
 ∃w,ah K (.fn (.func 63) [] []) [.ptr (.heap l) 0,.d (.list 2 ax)] none h0=some (.ret (.d (.agg [.list 1 [.int .i64 s0],.int .i64 tn,tx,.nils,.int .i64 o,.str p,.str q,.str n,.int .i64 z,a])),false,h7,w):=by
 simp only[D.isCell]at xtx xa;have e:=Hq [] [] [.ptr (.heap l) 0,.d (.list 2 ax)] none h0;have hA:ax.length=3:=rfl;simp[Fz,ku,jV,kF,kD,jU,kC,jW,jZ,jX,jY,iJ,iG,iD,iH,iE,iI,af,kz,kE,hA,hw0,hw1,hw2,eP,eS0,eA,eT,eM,eO,eB,xtx,xa]at e;exact⟨_,e⟩
theorem TP{h0 h1 h2 h3 h4 h5 h6 h7:List O}{l:Nat}{w1 w2 w3 w4 w5 w6 w7:Nat}{ta tn o z s0:Int}{tx a:D}{p q n:ByteArray}
 (eP:CK 58 [.ptr (.heap l) 0,.d (.list 1 [.int .i64 0,.int .i64 1,.int .i64 1,.int .i64 2,.int .i64 2])] h0 (.d (.int .i64 1)) h1 w1)
 (eS0:CK 21 [.ptr (.heap l) 0,.d (.int .i64 1),.d (.int .i64 4)] h1 (.d (.int .i64 s0)) h2 w2)
 (eA:CK 20 [.ptr (.heap l) 0,.d (.int .i64 2)] h2 (.d (.int .i64 ta)) h3 w3)
 (eT:CK 128 [.ptr (.heap l) 0,.d (.list 2 ax),.d (.list 1 [.int .i64 s0]),.d (.int .i64 ta)] h3 (.d (.agg [.int .i64 tn,tx])) h4 w4)
 (eM:CK 20 [.ptr (.heap l) 0,.d (.int .i64 2)] h4 (.d (.int .i64 0)) h5 w5)
 (eO:CK 129 [.ptr (.heap l) 0,.d (.int .i64 3)] h5 (.d (.bool true)) h6 w6)
 (eK:∀hp,ah K (.fn (.func 130) [] []) [.d (.agg [.int .i64 tn,tx])] none hp=some (.ret (.d (.agg [.int .i64 tn,tx])),false,hp,0))
 (eB:CK 131 [.ptr (.heap l) 0,.d (.int .i64 1),.d (.int .i64 1)] h6 (.d (.agg [.int .i64 o,.str p,.str q,.str n,.int .i64 z,a])) h7 w7)
 (xtx:(tx).isCell=true)(xa:(a).isCell=true) :
 ∃w,ah K (.fn (.func 63) [] []) [.ptr (.heap l) 0,.d (.list 2 ax)] none h0=some (.ret (.d (.agg [.list 1 [.int .i64 s0],.int .i64 tn,tx,.list 2 [.agg [.int .i64 tn,tx]],.int .i64 o,.str p,.str q,.str n,.int .i64 z,a])),false,h7,w):=by
 simp only[D.isCell]at xtx xa;have e:=Hq [] [] [.ptr (.heap l) 0,.d (.list 2 ax)] none h0;have hA:ax.length=3:=rfl;simp[Fz,ku,jV,kF,kD,jU,kC,jW,jZ,jX,jY,iJ,iG,iD,iH,iE,iI,af,kz,kE,hA,hw0,hw1,hw2,eP,eS0,eA,eT,eM,eO,eK,eB,xtx,xa]at e;exact⟨_,e⟩
theorem Ua{h0 h1 h2 h3 h4 h5 h6 h7 h8 h9:List O}{l:Nat}{w1 w2 w3 w4 w5 w6 w7 w8 w9:Nat}{ta tn o z s0 fa0 fn0:Int}{tx a fx0:D}{p q n:ByteArray}
 (eP:CK 58 [.ptr (.heap l) 0,.d (.list 1 [.int .i64 0,.int .i64 1,.int .i64 1,.int .i64 2,.int .i64 2])] h0 (.d (.int .i64 1)) h1 w1)
 (eS0:CK 21 [.ptr (.heap l) 0,.d (.int .i64 1),.d (.int .i64 4)] h1 (.d (.int .i64 s0)) h2 w2)
 (eA:CK 20 [.ptr (.heap l) 0,.d (.int .i64 2)] h2 (.d (.int .i64 ta)) h3 w3)
 (eT:CK 128 [.ptr (.heap l) 0,.d (.list 2 ax),.d (.list 1 [.int .i64 s0]),.d (.int .i64 ta)] h3 (.d (.agg [.int .i64 tn,tx])) h4 w4)
 (eM:CK 20 [.ptr (.heap l) 0,.d (.int .i64 2)] h4 (.d (.int .i64 1)) h5 w5)
 (eF0:CK 20 [.ptr (.heap l) 0,.d (.int .i64 2)] h5 (.d (.int .i64 fa0)) h6 w6)
 (eC0:CK 128 [.ptr (.heap l) 0,.d (.list 2 ax),.d (.list 1 [.int .i64 s0]),.d (.int .i64 fa0)] h6 (.d (.agg [.int .i64 fn0,fx0])) h7 w7)
 (eO:CK 129 [.ptr (.heap l) 0,.d (.int .i64 3)] h7 (.d (.bool false)) h8 w8)
 (eB:CK 131 [.ptr (.heap l) 0,.d (.int .i64 1),.d (.int .i64 1)] h8 (.d (.agg [.int .i64 o,.str p,.str q,.str n,.int .i64 z,a])) h9 w9)
 (xtx:(tx).isCell=true)(xa:(a).isCell=true)(xfx0:(fx0).isCell=true) :
 ∃w,ah K (.fn (.func 63) [] []) [.ptr (.heap l) 0,.d (.list 2 ax)] none h0=some (.ret (.d (.agg [.list 1 [.int .i64 s0],.int .i64 tn,tx,.list 2 [.agg [.int .i64 fn0,fx0]],.int .i64 o,.str p,.str q,.str n,.int .i64 z,a])),false,h9,w):=by
 simp only[D.isCell]at xtx xa xfx0;have e:=Hq [] [] [.ptr (.heap l) 0,.d (.list 2 ax)] none h0;have hA:ax.length=3:=rfl;simp[Fz,ku,jV,kF,kD,jU,kC,jW,jZ,jX,jY,iJ,iG,iD,iH,iE,iI,af,kz,kE,hA,hw0,hw1,hw2,eP,eS0,eA,eT,eM,eF0,eC0,eO,eB,xtx,xa,xfx0]at e;exact⟨_,e⟩
theorem Uu{h0 h1 h2 h3 h4 h5 h6 h7 h8 h9:List O}{l:Nat}{w1 w2 w3 w4 w5 w6 w7 w8 w9:Nat}{ta tn o z s0 fa0 fn0:Int}{tx a fx0:D}{p q n:ByteArray}
 (eP:CK 58 [.ptr (.heap l) 0,.d (.list 1 [.int .i64 0,.int .i64 1,.int .i64 1,.int .i64 2,.int .i64 2])] h0 (.d (.int .i64 1)) h1 w1)
 (eS0:CK 21 [.ptr (.heap l) 0,.d (.int .i64 1),.d (.int .i64 4)] h1 (.d (.int .i64 s0)) h2 w2)
 (eA:CK 20 [.ptr (.heap l) 0,.d (.int .i64 2)] h2 (.d (.int .i64 ta)) h3 w3)
 (eT:CK 128 [.ptr (.heap l) 0,.d (.list 2 ax),.d (.list 1 [.int .i64 s0]),.d (.int .i64 ta)] h3 (.d (.agg [.int .i64 tn,tx])) h4 w4)
 (eM:CK 20 [.ptr (.heap l) 0,.d (.int .i64 2)] h4 (.d (.int .i64 1)) h5 w5)
 (eF0:CK 20 [.ptr (.heap l) 0,.d (.int .i64 2)] h5 (.d (.int .i64 fa0)) h6 w6)
 (eC0:CK 128 [.ptr (.heap l) 0,.d (.list 2 ax),.d (.list 1 [.int .i64 s0]),.d (.int .i64 fa0)] h6 (.d (.agg [.int .i64 fn0,fx0])) h7 w7)
 (eO:CK 129 [.ptr (.heap l) 0,.d (.int .i64 3)] h7 (.d (.bool true)) h8 w8)
 (eK:∀hp,ah K (.fn (.func 130) [] []) [.d (.agg [.int .i64 tn,tx])] none hp=some (.ret (.d (.agg [.int .i64 tn,tx])),false,hp,0))
 (eB:CK 131 [.ptr (.heap l) 0,.d (.int .i64 2),.d (.int .i64 1)] h8 (.d (.agg [.int .i64 o,.str p,.str q,.str n,.int .i64 z,a])) h9 w9)
 (xtx:(tx).isCell=true)(xa:(a).isCell=true)(xfx0:(fx0).isCell=true) :
 ∃w,ah K (.fn (.func 63) [] []) [.ptr (.heap l) 0,.d (.list 2 ax)] none h0=some (.ret (.d (.agg [.list 1 [.int .i64 s0],.int .i64 tn,tx,.list 2 [.agg [.int .i64 fn0,fx0],.agg [.int .i64 tn,tx]],.int .i64 o,.str p,.str q,.str n,.int .i64 z,a])),false,h9,w):=by
 simp only[D.isCell]at xtx xa xfx0;have e:=Hq [] [] [.ptr (.heap l) 0,.d (.list 2 ax)] none h0;have hA:ax.length=3:=rfl;simp[Fz,ku,jV,kF,kD,jU,kC,jW,jZ,jX,jY,iJ,iG,iD,iH,iE,iI,af,kz,kE,hA,hw0,hw1,hw2,eP,eS0,eA,eT,eM,eF0,eC0,eO,eK,eB,xtx,xa,xfx0]at e;exact⟨_,e⟩
theorem U5{h0 h1 h2 h3 h4 h5 h6 h7 h8 h9 h10 h11:List O}{l:Nat}{w1 w2 w3 w4 w5 w6 w7 w8 w9 w10 w11:Nat}{ta tn o z s0 fa0 fa1 fn0 Gg:Int}{tx a fx0 fx1:D}{p q n:ByteArray}
 (eP:CK 58 [.ptr (.heap l) 0,.d (.list 1 [.int .i64 0,.int .i64 1,.int .i64 1,.int .i64 2,.int .i64 2])] h0 (.d (.int .i64 1)) h1 w1)
 (eS0:CK 21 [.ptr (.heap l) 0,.d (.int .i64 1),.d (.int .i64 4)] h1 (.d (.int .i64 s0)) h2 w2)
 (eA:CK 20 [.ptr (.heap l) 0,.d (.int .i64 2)] h2 (.d (.int .i64 ta)) h3 w3)
 (eT:CK 128 [.ptr (.heap l) 0,.d (.list 2 ax),.d (.list 1 [.int .i64 s0]),.d (.int .i64 ta)] h3 (.d (.agg [.int .i64 tn,tx])) h4 w4)
 (eM:CK 20 [.ptr (.heap l) 0,.d (.int .i64 2)] h4 (.d (.int .i64 2)) h5 w5)
 (eF0:CK 20 [.ptr (.heap l) 0,.d (.int .i64 2)] h5 (.d (.int .i64 fa0)) h6 w6)
 (eC0:CK 128 [.ptr (.heap l) 0,.d (.list 2 ax),.d (.list 1 [.int .i64 s0]),.d (.int .i64 fa0)] h6 (.d (.agg [.int .i64 fn0,fx0])) h7 w7)
 (eF1:CK 20 [.ptr (.heap l) 0,.d (.int .i64 2)] h7 (.d (.int .i64 fa1)) h8 w8)
 (eC1:CK 128 [.ptr (.heap l) 0,.d (.list 2 ax),.d (.list 1 [.int .i64 s0]),.d (.int .i64 fa1)] h8 (.d (.agg [.int .i64 Gg,fx1])) h9 w9)
 (eO:CK 129 [.ptr (.heap l) 0,.d (.int .i64 3)] h9 (.d (.bool false)) h10 w10)
 (eB:CK 131 [.ptr (.heap l) 0,.d (.int .i64 2),.d (.int .i64 1)] h10 (.d (.agg [.int .i64 o,.str p,.str q,.str n,.int .i64 z,a])) h11 w11)
 (xtx:(tx).isCell=true)(xa:(a).isCell=true)(xfx0:(fx0).isCell=true)(xfx1:(fx1).isCell=true) :
 ∃w,ah K (.fn (.func 63) [] []) [.ptr (.heap l) 0,.d (.list 2 ax)] none h0=some (.ret (.d (.agg [.list 1 [.int .i64 s0],.int .i64 tn,tx,.list 2 [.agg [.int .i64 fn0,fx0],.agg [.int .i64 Gg,fx1]],.int .i64 o,.str p,.str q,.str n,.int .i64 z,a])),false,h11,w):=by
 simp only[D.isCell]at xtx xa xfx0 xfx1;have e:=Hq [] [] [.ptr (.heap l) 0,.d (.list 2 ax)] none h0;have hA:ax.length=3:=rfl;simp[Fz,ku,jV,kF,kD,jU,kC,jW,jZ,jX,jY,iJ,iG,iD,iH,iE,iI,af,kz,kE,hA,hw0,hw1,hw2,eP,eS0,eA,eT,eM,eF0,eC0,eF1,eC1,eO,eB,xtx,xa,xfx0,xfx1]at e;exact⟨_,e⟩
theorem UO{h0 h1 h2 h3 h4 h5 h6 h7 h8 h9 h10 h11:List O}{l:Nat}{w1 w2 w3 w4 w5 w6 w7 w8 w9 w10 w11:Nat}{ta tn o z s0 fa0 fa1 fn0 Gg:Int}{tx a fx0 fx1:D}{p q n:ByteArray}
 (eP:CK 58 [.ptr (.heap l) 0,.d (.list 1 [.int .i64 0,.int .i64 1,.int .i64 1,.int .i64 2,.int .i64 2])] h0 (.d (.int .i64 1)) h1 w1)
 (eS0:CK 21 [.ptr (.heap l) 0,.d (.int .i64 1),.d (.int .i64 4)] h1 (.d (.int .i64 s0)) h2 w2)
 (eA:CK 20 [.ptr (.heap l) 0,.d (.int .i64 2)] h2 (.d (.int .i64 ta)) h3 w3)
 (eT:CK 128 [.ptr (.heap l) 0,.d (.list 2 ax),.d (.list 1 [.int .i64 s0]),.d (.int .i64 ta)] h3 (.d (.agg [.int .i64 tn,tx])) h4 w4)
 (eM:CK 20 [.ptr (.heap l) 0,.d (.int .i64 2)] h4 (.d (.int .i64 2)) h5 w5)
 (eF0:CK 20 [.ptr (.heap l) 0,.d (.int .i64 2)] h5 (.d (.int .i64 fa0)) h6 w6)
 (eC0:CK 128 [.ptr (.heap l) 0,.d (.list 2 ax),.d (.list 1 [.int .i64 s0]),.d (.int .i64 fa0)] h6 (.d (.agg [.int .i64 fn0,fx0])) h7 w7)
 (eF1:CK 20 [.ptr (.heap l) 0,.d (.int .i64 2)] h7 (.d (.int .i64 fa1)) h8 w8)
 (eC1:CK 128 [.ptr (.heap l) 0,.d (.list 2 ax),.d (.list 1 [.int .i64 s0]),.d (.int .i64 fa1)] h8 (.d (.agg [.int .i64 Gg,fx1])) h9 w9)
 (eO:CK 129 [.ptr (.heap l) 0,.d (.int .i64 3)] h9 (.d (.bool true)) h10 w10)
 (eK:∀hp,ah K (.fn (.func 130) [] []) [.d (.agg [.int .i64 tn,tx])] none hp=some (.ret (.d (.agg [.int .i64 tn,tx])),false,hp,0))
 (eB:CK 131 [.ptr (.heap l) 0,.d (.int .i64 3),.d (.int .i64 1)] h10 (.d (.agg [.int .i64 o,.str p,.str q,.str n,.int .i64 z,a])) h11 w11)
 (xtx:(tx).isCell=true)(xa:(a).isCell=true)(xfx0:(fx0).isCell=true)(xfx1:(fx1).isCell=true) :
 ∃w,ah K (.fn (.func 63) [] []) [.ptr (.heap l) 0,.d (.list 2 ax)] none h0=some (.ret (.d (.agg [.list 1 [.int .i64 s0],.int .i64 tn,tx,.list 2 [.agg [.int .i64 fn0,fx0],.agg [.int .i64 Gg,fx1],.agg [.int .i64 tn,tx]],.int .i64 o,.str p,.str q,.str n,.int .i64 z,a])),false,h11,w):=by
 simp only[D.isCell]at xtx xa xfx0 xfx1;have e:=Hq [] [] [.ptr (.heap l) 0,.d (.list 2 ax)] none h0;have hA:ax.length=3:=rfl;simp[Fz,ku,jV,kF,kD,jU,kC,jW,jZ,jX,jY,iJ,iG,iD,iH,iE,iI,af,kz,kE,hA,hw0,hw1,hw2,eP,eS0,eA,eT,eM,eF0,eC0,eF1,eC1,eO,eK,eB,xtx,xa,xfx0,xfx1]at e;exact⟨_,e⟩
theorem Ti{h0 h1 h2 h3 h4 h5 h6 h7 h8:List O}{l:Nat}{w1 w2 w3 w4 w5 w6 w7 w8:Nat}{ta tn o z s0 s1:Int}{tx a:D}{p q n:ByteArray}
 (eP:CK 58 [.ptr (.heap l) 0,.d (.list 1 [.int .i64 0,.int .i64 1,.int .i64 1,.int .i64 2,.int .i64 2])] h0 (.d (.int .i64 2)) h1 w1)
 (eS0:CK 21 [.ptr (.heap l) 0,.d (.int .i64 1),.d (.int .i64 4)] h1 (.d (.int .i64 s0)) h2 w2)
 (eS1:CK 21 [.ptr (.heap l) 0,.d (.int .i64 1),.d (.int .i64 4)] h2 (.d (.int .i64 s1)) h3 w3)
 (eA:CK 20 [.ptr (.heap l) 0,.d (.int .i64 2)] h3 (.d (.int .i64 ta)) h4 w4)
 (eT:CK 128 [.ptr (.heap l) 0,.d (.list 2 ax),.d (.list 1 [.int .i64 s0,.int .i64 s1]),.d (.int .i64 ta)] h4 (.d (.agg [.int .i64 tn,tx])) h5 w5)
 (eM:CK 20 [.ptr (.heap l) 0,.d (.int .i64 2)] h5 (.d (.int .i64 0)) h6 w6)
 (eO:CK 129 [.ptr (.heap l) 0,.d (.int .i64 3)] h6 (.d (.bool false)) h7 w7)
 (eB:CK 131 [.ptr (.heap l) 0,.d (.int .i64 0),.d (.int .i64 2)] h7 (.d (.agg [.int .i64 o,.str p,.str q,.str n,.int .i64 z,a])) h8 w8)
 (xtx:(tx).isCell=true)(xa:(a).isCell=true) :
 ∃w,ah K (.fn (.func 63) [] []) [.ptr (.heap l) 0,.d (.list 2 ax)] none h0=some (.ret (.d (.agg [.list 1 [.int .i64 s0,.int .i64 s1],.int .i64 tn,tx,.nils,.int .i64 o,.str p,.str q,.str n,.int .i64 z,a])),false,h8,w):=by
 simp only[D.isCell]at xtx xa;have e:=Hq [] [] [.ptr (.heap l) 0,.d (.list 2 ax)] none h0;have hA:ax.length=3:=rfl;simp[Fz,ku,jV,kF,kD,jU,kC,jW,jZ,jX,jY,iJ,iG,iD,iH,iE,iI,af,kz,kE,hA,hw0,hw1,hw2,eP,eS0,eS1,eA,eT,eM,eO,eB,xtx,xa]at e;exact⟨_,e⟩
theorem Uc{h0 h1 h2 h3 h4 h5 h6 h7 h8:List O}{l:Nat}{w1 w2 w3 w4 w5 w6 w7 w8:Nat}{ta tn o z s0 s1:Int}{tx a:D}{p q n:ByteArray}
 (eP:CK 58 [.ptr (.heap l) 0,.d (.list 1 [.int .i64 0,.int .i64 1,.int .i64 1,.int .i64 2,.int .i64 2])] h0 (.d (.int .i64 2)) h1 w1)
 (eS0:CK 21 [.ptr (.heap l) 0,.d (.int .i64 1),.d (.int .i64 4)] h1 (.d (.int .i64 s0)) h2 w2)
 (eS1:CK 21 [.ptr (.heap l) 0,.d (.int .i64 1),.d (.int .i64 4)] h2 (.d (.int .i64 s1)) h3 w3)
 (eA:CK 20 [.ptr (.heap l) 0,.d (.int .i64 2)] h3 (.d (.int .i64 ta)) h4 w4)
 (eT:CK 128 [.ptr (.heap l) 0,.d (.list 2 ax),.d (.list 1 [.int .i64 s0,.int .i64 s1]),.d (.int .i64 ta)] h4 (.d (.agg [.int .i64 tn,tx])) h5 w5)
 (eM:CK 20 [.ptr (.heap l) 0,.d (.int .i64 2)] h5 (.d (.int .i64 0)) h6 w6)
 (eO:CK 129 [.ptr (.heap l) 0,.d (.int .i64 3)] h6 (.d (.bool true)) h7 w7)
 (eK:∀hp,ah K (.fn (.func 130) [] []) [.d (.agg [.int .i64 tn,tx])] none hp=some (.ret (.d (.agg [.int .i64 tn,tx])),false,hp,0))
 (eB:CK 131 [.ptr (.heap l) 0,.d (.int .i64 1),.d (.int .i64 2)] h7 (.d (.agg [.int .i64 o,.str p,.str q,.str n,.int .i64 z,a])) h8 w8)
 (xtx:(tx).isCell=true)(xa:(a).isCell=true) :
 ∃w,ah K (.fn (.func 63) [] []) [.ptr (.heap l) 0,.d (.list 2 ax)] none h0=some (.ret (.d (.agg [.list 1 [.int .i64 s0,.int .i64 s1],.int .i64 tn,tx,.list 2 [.agg [.int .i64 tn,tx]],.int .i64 o,.str p,.str q,.str n,.int .i64 z,a])),false,h8,w):=by
 simp only[D.isCell]at xtx xa;have e:=Hq [] [] [.ptr (.heap l) 0,.d (.list 2 ax)] none h0;have hA:ax.length=3:=rfl;simp[Fz,ku,jV,kF,kD,jU,kC,jW,jZ,jX,jY,iJ,iG,iD,iH,iE,iI,af,kz,kE,hA,hw0,hw1,hw2,eP,eS0,eS1,eA,eT,eM,eO,eK,eB,xtx,xa]at e;exact⟨_,e⟩
theorem UE{h0 h1 h2 h3 h4 h5 h6 h7 h8 h9 h10:List O}{l:Nat}{w1 w2 w3 w4 w5 w6 w7 w8 w9 w10:Nat}{ta tn o z s0 s1 fa0 fn0:Int}{tx a fx0:D}{p q n:ByteArray}
 (eP:CK 58 [.ptr (.heap l) 0,.d (.list 1 [.int .i64 0,.int .i64 1,.int .i64 1,.int .i64 2,.int .i64 2])] h0 (.d (.int .i64 2)) h1 w1)
 (eS0:CK 21 [.ptr (.heap l) 0,.d (.int .i64 1),.d (.int .i64 4)] h1 (.d (.int .i64 s0)) h2 w2)
 (eS1:CK 21 [.ptr (.heap l) 0,.d (.int .i64 1),.d (.int .i64 4)] h2 (.d (.int .i64 s1)) h3 w3)
 (eA:CK 20 [.ptr (.heap l) 0,.d (.int .i64 2)] h3 (.d (.int .i64 ta)) h4 w4)
 (eT:CK 128 [.ptr (.heap l) 0,.d (.list 2 ax),.d (.list 1 [.int .i64 s0,.int .i64 s1]),.d (.int .i64 ta)] h4 (.d (.agg [.int .i64 tn,tx])) h5 w5)
 (eM:CK 20 [.ptr (.heap l) 0,.d (.int .i64 2)] h5 (.d (.int .i64 1)) h6 w6)
 (eF0:CK 20 [.ptr (.heap l) 0,.d (.int .i64 2)] h6 (.d (.int .i64 fa0)) h7 w7)
 (eC0:CK 128 [.ptr (.heap l) 0,.d (.list 2 ax),.d (.list 1 [.int .i64 s0,.int .i64 s1]),.d (.int .i64 fa0)] h7 (.d (.agg [.int .i64 fn0,fx0])) h8 w8)
 (eO:CK 129 [.ptr (.heap l) 0,.d (.int .i64 3)] h8 (.d (.bool false)) h9 w9)
 (eB:CK 131 [.ptr (.heap l) 0,.d (.int .i64 1),.d (.int .i64 2)] h9 (.d (.agg [.int .i64 o,.str p,.str q,.str n,.int .i64 z,a])) h10 w10)
 (xtx:(tx).isCell=true)(xa:(a).isCell=true)(xfx0:(fx0).isCell=true) :
 ∃w,ah K (.fn (.func 63) [] []) [.ptr (.heap l) 0,.d (.list 2 ax)] none h0=some (.ret (.d (.agg [.list 1 [.int .i64 s0,.int .i64 s1],.int .i64 tn,tx,.list 2 [.agg [.int .i64 fn0,fx0]],.int .i64 o,.str p,.str q,.str n,.int .i64 z,a])),false,h10,w):=by
 simp only[D.isCell]at xtx xa xfx0;have e:=Hq [] [] [.ptr (.heap l) 0,.d (.list 2 ax)] none h0;have hA:ax.length=3:=rfl;simp[Fz,ku,jV,kF,kD,jU,kC,jW,jZ,jX,jY,iJ,iG,iD,iH,iE,iI,af,kz,kE,hA,hw0,hw1,hw2,eP,eS0,eS1,eA,eT,eM,eF0,eC0,eO,eB,xtx,xa,xfx0]at e;exact⟨_,e⟩
theorem UA{h0 h1 h2 h3 h4 h5 h6 h7 h8 h9 h10:List O}{l:Nat}{w1 w2 w3 w4 w5 w6 w7 w8 w9 w10:Nat}{ta tn o z s0 s1 fa0 fn0:Int}{tx a fx0:D}{p q n:ByteArray}
 (eP:CK 58 [.ptr (.heap l) 0,.d (.list 1 [.int .i64 0,.int .i64 1,.int .i64 1,.int .i64 2,.int .i64 2])] h0 (.d (.int .i64 2)) h1 w1)
 (eS0:CK 21 [.ptr (.heap l) 0,.d (.int .i64 1),.d (.int .i64 4)] h1 (.d (.int .i64 s0)) h2 w2)
 (eS1:CK 21 [.ptr (.heap l) 0,.d (.int .i64 1),.d (.int .i64 4)] h2 (.d (.int .i64 s1)) h3 w3)
 (eA:CK 20 [.ptr (.heap l) 0,.d (.int .i64 2)] h3 (.d (.int .i64 ta)) h4 w4)
 (eT:CK 128 [.ptr (.heap l) 0,.d (.list 2 ax),.d (.list 1 [.int .i64 s0,.int .i64 s1]),.d (.int .i64 ta)] h4 (.d (.agg [.int .i64 tn,tx])) h5 w5)
 (eM:CK 20 [.ptr (.heap l) 0,.d (.int .i64 2)] h5 (.d (.int .i64 1)) h6 w6)
 (eF0:CK 20 [.ptr (.heap l) 0,.d (.int .i64 2)] h6 (.d (.int .i64 fa0)) h7 w7)
 (eC0:CK 128 [.ptr (.heap l) 0,.d (.list 2 ax),.d (.list 1 [.int .i64 s0,.int .i64 s1]),.d (.int .i64 fa0)] h7 (.d (.agg [.int .i64 fn0,fx0])) h8 w8)
 (eO:CK 129 [.ptr (.heap l) 0,.d (.int .i64 3)] h8 (.d (.bool true)) h9 w9)
 (eK:∀hp,ah K (.fn (.func 130) [] []) [.d (.agg [.int .i64 tn,tx])] none hp=some (.ret (.d (.agg [.int .i64 tn,tx])),false,hp,0))
 (eB:CK 131 [.ptr (.heap l) 0,.d (.int .i64 2),.d (.int .i64 2)] h9 (.d (.agg [.int .i64 o,.str p,.str q,.str n,.int .i64 z,a])) h10 w10)
 (xtx:(tx).isCell=true)(xa:(a).isCell=true)(xfx0:(fx0).isCell=true) :
 ∃w,ah K (.fn (.func 63) [] []) [.ptr (.heap l) 0,.d (.list 2 ax)] none h0=some (.ret (.d (.agg [.list 1 [.int .i64 s0,.int .i64 s1],.int .i64 tn,tx,.list 2 [.agg [.int .i64 fn0,fx0],.agg [.int .i64 tn,tx]],.int .i64 o,.str p,.str q,.str n,.int .i64 z,a])),false,h10,w):=by
 simp only[D.isCell]at xtx xa xfx0;have e:=Hq [] [] [.ptr (.heap l) 0,.d (.list 2 ax)] none h0;have hA:ax.length=3:=rfl;simp[Fz,ku,jV,kF,kD,jU,kC,jW,jZ,jX,jY,iJ,iG,iD,iH,iE,iI,af,kz,kE,hA,hw0,hw1,hw2,eP,eS0,eS1,eA,eT,eM,eF0,eC0,eO,eK,eB,xtx,xa,xfx0]at e;exact⟨_,e⟩
theorem Tq{h0 h1 h2 h3 h4 h5 h6 h7 h8 h9 h10 h11 h12:List O}{l:Nat}{w1 w2 w3 w4 w5 w6 w7 w8 w9 w10 w11 w12:Nat}{ta tn o z s0 s1 fa0 fa1 fn0 Gg:Int}{tx a fx0 fx1:D}{p q n:ByteArray}
 (eP:CK 58 [.ptr (.heap l) 0,.d (.list 1 [.int .i64 0,.int .i64 1,.int .i64 1,.int .i64 2,.int .i64 2])] h0 (.d (.int .i64 2)) h1 w1)
 (eS0:CK 21 [.ptr (.heap l) 0,.d (.int .i64 1),.d (.int .i64 4)] h1 (.d (.int .i64 s0)) h2 w2)
 (eS1:CK 21 [.ptr (.heap l) 0,.d (.int .i64 1),.d (.int .i64 4)] h2 (.d (.int .i64 s1)) h3 w3)
 (eA:CK 20 [.ptr (.heap l) 0,.d (.int .i64 2)] h3 (.d (.int .i64 ta)) h4 w4)
 (eT:CK 128 [.ptr (.heap l) 0,.d (.list 2 ax),.d (.list 1 [.int .i64 s0,.int .i64 s1]),.d (.int .i64 ta)] h4 (.d (.agg [.int .i64 tn,tx])) h5 w5)
 (eM:CK 20 [.ptr (.heap l) 0,.d (.int .i64 2)] h5 (.d (.int .i64 2)) h6 w6)
 (eF0:CK 20 [.ptr (.heap l) 0,.d (.int .i64 2)] h6 (.d (.int .i64 fa0)) h7 w7)
 (eC0:CK 128 [.ptr (.heap l) 0,.d (.list 2 ax),.d (.list 1 [.int .i64 s0,.int .i64 s1]),.d (.int .i64 fa0)] h7 (.d (.agg [.int .i64 fn0,fx0])) h8 w8)
 (eF1:CK 20 [.ptr (.heap l) 0,.d (.int .i64 2)] h8 (.d (.int .i64 fa1)) h9 w9)
 (eC1:CK 128 [.ptr (.heap l) 0,.d (.list 2 ax),.d (.list 1 [.int .i64 s0,.int .i64 s1]),.d (.int .i64 fa1)] h9 (.d (.agg [.int .i64 Gg,fx1])) h10 w10)
 (eO:CK 129 [.ptr (.heap l) 0,.d (.int .i64 3)] h10 (.d (.bool false)) h11 w11)
 (eB:CK 131 [.ptr (.heap l) 0,.d (.int .i64 2),.d (.int .i64 2)] h11 (.d (.agg [.int .i64 o,.str p,.str q,.str n,.int .i64 z,a])) h12 w12)
 (xtx:(tx).isCell=true)(xa:(a).isCell=true)(xfx0:(fx0).isCell=true)(xfx1:(fx1).isCell=true) :
 ∃w,ah K (.fn (.func 63) [] []) [.ptr (.heap l) 0,.d (.list 2 ax)] none h0=some (.ret (.d (.agg [.list 1 [.int .i64 s0,.int .i64 s1],.int .i64 tn,tx,.list 2 [.agg [.int .i64 fn0,fx0],.agg [.int .i64 Gg,fx1]],.int .i64 o,.str p,.str q,.str n,.int .i64 z,a])),false,h12,w):=by
 simp only[D.isCell]at xtx xa xfx0 xfx1;have e:=Hq [] [] [.ptr (.heap l) 0,.d (.list 2 ax)] none h0;have hA:ax.length=3:=rfl;simp[Fz,ku,jV,kF,kD,jU,kC,jW,jZ,jX,jY,iJ,iG,iD,iH,iE,iI,af,kz,kE,hA,hw0,hw1,hw2,eP,eS0,eS1,eA,eT,eM,eF0,eC0,eF1,eC1,eO,eB,xtx,xa,xfx0,xfx1]at e;exact⟨_,e⟩
theorem TK{h0 h1 h2 h3 h4 h5 h6 h7 h8 h9 h10 h11 h12:List O}{l:Nat}{w1 w2 w3 w4 w5 w6 w7 w8 w9 w10 w11 w12:Nat}{ta tn o z s0 s1 fa0 fa1 fn0 Gg:Int}{tx a fx0 fx1:D}{p q n:ByteArray}
 (eP:CK 58 [.ptr (.heap l) 0,.d (.list 1 [.int .i64 0,.int .i64 1,.int .i64 1,.int .i64 2,.int .i64 2])] h0 (.d (.int .i64 2)) h1 w1)
 (eS0:CK 21 [.ptr (.heap l) 0,.d (.int .i64 1),.d (.int .i64 4)] h1 (.d (.int .i64 s0)) h2 w2)
 (eS1:CK 21 [.ptr (.heap l) 0,.d (.int .i64 1),.d (.int .i64 4)] h2 (.d (.int .i64 s1)) h3 w3)
 (eA:CK 20 [.ptr (.heap l) 0,.d (.int .i64 2)] h3 (.d (.int .i64 ta)) h4 w4)
 (eT:CK 128 [.ptr (.heap l) 0,.d (.list 2 ax),.d (.list 1 [.int .i64 s0,.int .i64 s1]),.d (.int .i64 ta)] h4 (.d (.agg [.int .i64 tn,tx])) h5 w5)
 (eM:CK 20 [.ptr (.heap l) 0,.d (.int .i64 2)] h5 (.d (.int .i64 2)) h6 w6)
 (eF0:CK 20 [.ptr (.heap l) 0,.d (.int .i64 2)] h6 (.d (.int .i64 fa0)) h7 w7)
 (eC0:CK 128 [.ptr (.heap l) 0,.d (.list 2 ax),.d (.list 1 [.int .i64 s0,.int .i64 s1]),.d (.int .i64 fa0)] h7 (.d (.agg [.int .i64 fn0,fx0])) h8 w8)
 (eF1:CK 20 [.ptr (.heap l) 0,.d (.int .i64 2)] h8 (.d (.int .i64 fa1)) h9 w9)
 (eC1:CK 128 [.ptr (.heap l) 0,.d (.list 2 ax),.d (.list 1 [.int .i64 s0,.int .i64 s1]),.d (.int .i64 fa1)] h9 (.d (.agg [.int .i64 Gg,fx1])) h10 w10)
 (eO:CK 129 [.ptr (.heap l) 0,.d (.int .i64 3)] h10 (.d (.bool true)) h11 w11)
 (eK:∀hp,ah K (.fn (.func 130) [] []) [.d (.agg [.int .i64 tn,tx])] none hp=some (.ret (.d (.agg [.int .i64 tn,tx])),false,hp,0))
 (eB:CK 131 [.ptr (.heap l) 0,.d (.int .i64 3),.d (.int .i64 2)] h11 (.d (.agg [.int .i64 o,.str p,.str q,.str n,.int .i64 z,a])) h12 w12)
 (xtx:(tx).isCell=true)(xa:(a).isCell=true)(xfx0:(fx0).isCell=true)(xfx1:(fx1).isCell=true) :
 ∃w,ah K (.fn (.func 63) [] []) [.ptr (.heap l) 0,.d (.list 2 ax)] none h0=some (.ret (.d (.agg [.list 1 [.int .i64 s0,.int .i64 s1],.int .i64 tn,tx,.list 2 [.agg [.int .i64 fn0,fx0],.agg [.int .i64 Gg,fx1],.agg [.int .i64 tn,tx]],.int .i64 o,.str p,.str q,.str n,.int .i64 z,a])),false,h12,w):=by
 simp only[D.isCell]at xtx xa xfx0 xfx1;have e:=Hq [] [] [.ptr (.heap l) 0,.d (.list 2 ax)] none h0;have hA:ax.length=3:=rfl;simp[Fz,ku,jV,kF,kD,jU,kC,jW,jZ,jX,jY,iJ,iG,iD,iH,iE,iI,af,kz,kE,hA,hw0,hw1,hw2,eP,eS0,eS1,eA,eT,eM,eF0,eC0,eF1,eC1,eO,eK,eB,xtx,xa,xfx0,xfx1]at e;exact⟨_,e⟩
end Mw
