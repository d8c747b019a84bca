/- DependFirst's tied card holds; no condition beyond the card's own. -/
import Derived.Test.YtdjnccgeajpegaaGreatDoorQd
import Derived.Test.YtdjnccgeajpegaaGreatDoorXb
import Derived.Test.YtdjnccgeajpegaaGreatDoorXa
set_option linter.unusedVariables false
set_option linter.unusedSimpArgs false
set_option maxRecDepth 10000
set_option maxHeartbeats 4000000
namespace Mw
open Go Go.Proofs
theorem ajR{n:ByteArray}(h:∀hp,ah K (.fn (.func 268) [] []) [.d (.str n)] none hp=some (.ret (.d (.bool true)),false,hp,0))(hp:List O):∃J w,ah K (.fn (.func 171) [] []) [.d (bI n)] none hp=some (.ret (.d (.int .i64 0)),false,hp++J,w):=by
 have e1:∀hp,ah K (.fn (.func 205) [] []) [.d (bI n),.d (.int .i64 0)] none hp=some (.ret (.tuple []),false,hp,0):=by intro hp;have e1:=fun hp=>Be hp h;have e2:=fun hp=>DU hp 7;rw[TJ];simp only[bI,dK,e0]at e1;simp[OU,xE,xH,yA,xZ,x9,yw,yh,yE,af,yD,bI,dK,e0,e1,e2]
 have e:=akF [] [] [.d (bI n)] none hp;have e2:=alL (hp++[.cells [.d (.int .i64 0)] false]) hp.length (.d (.int .i64 0)) (by simp) (by simp);simp only[bI,dK]at e e1;simp at e2;simp[c171,U9,XY,VP,XI,e1,e2]at e;exact⟨_,_,by simpa[bI,dK]using e⟩
theorem ahn(hp:List O)(a m:Nat){nm:ByteArray}{ss:List Int}{es:List (D×V)}{i:Int}(ha:hp[a]?=some (.cells [.map (.heap m)] false))(hm:hp[m]?=some (.map es))(hf:findKey K 9 (.str nm) es=some none)
  (h268:∀hp,ah K (.fn (.func 268) [] []) [.d (.str nm)] none hp=some (.ret (.d (.bool true)),false,hp,0))(h4:ss.length≤4)(hs:∀s∈ss,1≤s∧s≤12) :
  ∃J w,ah K (.fn (.func 170) [] [.ptr (.heap a) 0]) [.d (.int .i64 i),.d (.agg [.str nm,fC ss])] none hp=some (.ret (.d (.int .i64 0)),false,hp.set m (.map (es++[(.str nm,.d (.bool true))]))++J,w):=by
 obtain⟨J,w,e1⟩:=ajR h268 hp;have e:=ayc [] [.ptr (.heap a) 0] [.d (.int .i64 i),.d (.agg [.str nm,fC ss])] none hp;have c1:(fC ss).isCell=true:=by cases ss<;>rfl
 simp only[D.isCell]at c1;have e2:=fun hp=>ani hp ss h4 hs;have hml:m<hp.length:=(gS.1 hm).1;simp only[bI,dK,e0]at e1;have ha':=jc (J:=J) ha;have hm':=jc (J:=J) hm;simp[alP,afE,ait,afg,afd,aeB,agh,agy,ag1,e1,e2,c1,ha,hm,hf,ha',hm',List.set_append_left,hml]at e;exact⟨_,_,e⟩
theorem asx{h0 h1 h2 h3:List O}{w1 w2 w3 a:Nat}
  (e0:ah K (.fn (.func 170) [] [.ptr (.heap a) 0]) [.d (.int .i64 0),.d (.agg [.str ⟨#[97]⟩,.list 1 [.int .i64 5]])] none h0=some (.ret (.d (.int .i64 0)),false,h1,w1))
  (e1:ah K (.fn (.func 170) [] [.ptr (.heap a) 0]) [.d (.int .i64 1),.d (.agg [.str ⟨#[98]⟩,.list 1 [.int .i64 4,.int .i64 4]])] none h1=some (.ret (.d (.int .i64 0)),false,h2,w2))
  (e2:ah K (.fn (.func 170) [] [.ptr (.heap a) 0]) [.d (.int .i64 2),.d (.agg [.str ⟨#[99]⟩,.nils])] none h2=some (.ret (.d (.int .i64 0)),false,h3,w3)) :
  ∃w,ah K (.fn (.func 169) [] []) [.d (.list 2 ax),.fn (.func 170) [] [.ptr (.heap a) 0]] none h0=some (.ret (.d (.int .i64 0)),false,h3,w):=by
 have e:=auh [] [] [.d (.list 2 ax),.fn (.func 170) [] [.ptr (.heap a) 0]] none h0;simp[anK,afP,agU,agq,aev,agP,aiD,ahK,aiL,aeV,af,ahy,ax,hw1,hw2,hw3,e0,e1,e2]at e;exact⟨_,by simpa[ax]using e⟩
theorem Sm{h J:List O}{m:Nat}{o:O}(hm:m<h.length):(h++J).set m o=h.set m o++J:=by rw[List.set_append_left _ _ hm]
theorem azA(hp:List O)(a m:Nat)(hne:a≠m)(ha:hp[a]?=some (.cells [.map (.heap m)] false))(hm:hp[m]?=some (.map [])) :
  ∃o J w,ah K (.fn (.func 169) [] []) [.d (.list 2 ax),.fn (.func 170) [] [.ptr (.heap a) 0]] none hp=some (.ret (.d (.int .i64 0)),false,hp.set m o++J,w):=by
 have hml:m<hp.length:=(gS.1 hm).1;have gs:∀(J:List O) (o:O),(hp.set m o++J)[m]?=some o:=fun J o=>by rw[List.getElem?_append_left (by simpa using hml)];simp[hml]
 have ga:∀(J:List O) (o:O),(hp.set m o++J)[a]?=some (.cells [.map (.heap m)] false):=fun J o=>jc (by rw[List.getElem?_set_ne (Ne.symm hne)];exact ha)
 obtain⟨J1,w1,e1⟩:=ahn hp a m (nm:=⟨#[97]⟩) (ss:=[5]) (i:=0) ha hm (by simp) (by simp) (by simp) (by simp);obtain⟨J2,w2,e2⟩:=ahn _ a m (nm:=⟨#[98]⟩) (es:=[]++[(.str ⟨#[97]⟩,.d (.bool true))]) (ss:=[4,4]) (i:=1) (ga J1 _) (gs J1 _) (by simp) (by simp) (by simp) (by simp);rw[Sm (by simpa using hml),List.set_set,List.append_assoc]at e2;obtain⟨J3,w3,e3⟩:=ahn _ a m (nm:=⟨#[99]⟩) (es:=([]++[(.str ⟨#[97]⟩,.d (.bool true))])++[(.str ⟨#[98]⟩,.d (.bool true))]) (ss:=[]) (i:=2) (ga (J1++J2) _) (gs (J1++J2) _) (by simp) (by simp) (by simp) (by simp);rw[Sm (by simpa using hml),List.set_set,List.append_assoc]at e3;obtain⟨w,e⟩:=asx e1 e2 e3;rw[List.append_assoc (hp.set m _)]at e;exact⟨_,_,w,e⟩
theorem atL(hp:List O)(l:Nat){t:List Stp}{ro:Bool}(hl:hp[l]?=some (.cells [.d (.list 2 ax),.d (.list 10 (t.map encS))] ro))(h:dL t)(hn:t.length≤3) :
  ∃r:Int,ah K (.fn (.func 176) [] []) [.ptr (.heap l) 0] none hp=some (.ret (.d (.int .i64 r)),false,hp,0)∧0≤r∧r≤48:=by
 have key:∀s∈t,(∀hp,ah K (.fn (.func 110) [] []) [.d (fC s.ss)] none hp=some (.ret (.d (.int .i64 (bD s.ss))),false,hp,0))∧1≤bD s.ss∧bD s.ss≤16:=fun s hs=>⟨fun hp=>azD hp (h.ok s hs).sz,(cZ (h.ok s hs).sz).1,(cZ (h.ok s hs).sz).2⟩
 match t,hn,h,hl,key with
 |[],_,h,_,_=>exact absurd h.pos (by simp)|[c],_,h,hl,key=>obtain⟨a1,a2,a3,a4⟩:=fG c (h.ok c (by simp));obtain⟨k1,k2,k3⟩:=key c (by simp);exact⟨_,aew hl (k1 _) k2 k3 a1 a2 a3 a4,by omega,by omega⟩
 |[c,d],_,h,hl,key=>obtain⟨a1,a2,a3,a4⟩:=fG c (h.ok c (by simp));obtain⟨b1,b2,b3,b4⟩:=fG d (h.ok d (by simp));obtain⟨k1,k2,k3⟩:=key c (by simp);obtain⟨l1,l2,l3⟩:=key d (by simp);exact⟨_,aeC hl (k1 _) k2 k3 (l1 _) l2 l3 a1 a2 a3 a4 b1 b2 b3 b4,by omega,by omega⟩
 |[c,d,f],_,h,hl,key=>obtain⟨a1,a2,a3,a4⟩:=fG c (h.ok c (by simp));obtain⟨b1,b2,b3,b4⟩:=fG d (h.ok d (by simp));obtain⟨f1,f2,f3,f4⟩:=fG f (h.ok f (by simp));obtain⟨k1,k2,k3⟩:=key c (by simp);obtain⟨l1,l2,l3⟩:=key d (by simp);obtain⟨m1,m2,m3⟩:=key f (by simp);exact⟨_,air hl (k1 _) k2 k3 (l1 _) l2 l3 (m1 _) m2 m3 a1 a2 a3 a4 b1 b2 b3 b4 f1 f2 f3 f4,by omega,by omega⟩
 |_::_::_::_::_,hn,_,_,_=>simp at hn
theorem auw(hp:List O){t:List Stp}(h:dL t)(hn:t.length≤3) :
  ∃J w,ah K (.fn (.func 120) [] []) [.d (dw t)] none hp=some (.ret (.d (.int .i64 0)),false,hp++J,w):=by
 have e:=azy [] [] [.d (dw t)] none hp;have hlen:¬((12:Int)<t.length):=by omega
 have hlen':¬(12<t.length):=by omega
 have hal:ax.length=3:=rfl;obtain⟨o,J1,w1,e1⟩:=azA (hp++[.cells [.d (.list 2 ax),.d (.list 10 (t.map encS))] false,.map [],.cells [.map (.heap (hp.length+1))] false]) (hp.length+2) (hp.length+1) (by omega) (by simp) (by simp);simp at e1;obtain⟨J2,w2,e2⟩:=as7 (hp++.cells [.d (.list 2 ax),.d (.list 10 (t.map encS))] false::o::.cells [.map (.heap (hp.length+1))] false::J1) hp.length (st:=.list 10 (t.map encS)) (ro:=false) rfl (by simp) h hn;obtain⟨r,e3,r0,r1⟩:=atL (hp++.cells [.d (.list 2 ax),.d (.list 10 (t.map encS))] false::o::.cells [.map (.heap (hp.length+1))] false::J1++J2++[.cells [.d (.list 2 ax),.d (.list 10 (t.map encS))] false]) (hp++.cells [.d (.list 2 ax),.d (.list 10 (t.map encS))] false::o::.cells [.map (.heap (hp.length+1))] false::J1++J2).length (ro:=false) (by simp) h hn;have hr:¬(2000<r):=by omega
 simp at e2 e3;simp[ajM,af2,af4,aeF,afq,agC,aif,ahI,afo,ahk,afh,acH,acs,ZQ,dw,hlen,hlen',hal,e1,e2,e3,hr]at e;exact⟨_,_,e⟩
def iU:Int→List Int→List Int→Int
 |c,x::xs,i::is=>iU (c+x*i) xs is|c,_,_=>c
def lg(n:Nat)(x:List (Int×List Int))(at':List Int):Int:=match n,x with
 |0,[p]=>iU p.1 p.2 at'|1,[p,q]=>iU (iU p.1 p.2 at'*4+q.1) q.2 at'|_,_=>0
inductive jw:List Int→List Int→Prop
 |nil:jw [] []
 |cons {i s:Int} {is ss:List Int} (h0:0≤i) (h1:i<s) (h:jw is ss):jw (i::is) (s::ss)
theorem jw.len{is ss:List Int}(h:jw is ss):is.length=ss.length:=by
 induction h with
 |nil=>rfl|cons _ _ _ ih=>simp[ih]
theorem Dx{x i s:Int}(hx:x=0∨x=1∨x=-1)(h0:0≤i)(h1:i<s):min 0 (x*(s-1))≤x*i∧x*i≤max 0 (x*(s-1)):=by rcases hx with rfl|rfl|rfl<;>omega
theorem dV{cs is ss:List Int}(h:jw is ss):∀(c:Int),cs.length=ss.length→(∀x∈cs,x=0∨x=1∨x=-1)→c+rP cs ss≤iU c cs is∧iU c cs is≤c+hiA cs ss:=by
 induction h generalizing cs with
 |nil=>
  intro c hl _;have:cs=[]:=by simpa using hl
  subst this;simp[rP,hiA,iU]
 | @cons i s is ss h0 h1 h ih =>
  intro c hl hc
  match cs,hl with
  |x::cs,hl=>have:=ih (cs:=cs) (c+x*i) (by simpa using hl) (fun y hy=>hc y (by simp[hy]));have hm:=Dx (hc x (by simp)) h0 h1;simp only[rP,hiA,iU];omega
theorem ZC(hp:List O)(T:Nat){rest:List V}{ro:Bool}{c dummy:Int}(hT:hp[T]?=some (.cells (.d (.list 2 ax)::rest) ro))
  (hA0:jM c [] [] 5)(hs:eX [])(hi:jw [] [])(V0:V)(hV:V0=.d (.list 1 [])∨V0=.d .nils) :
  ah K (.fn (.func 133) [] []) [.ptr (.heap T) 0,.d (dJ 0 [(c,[])]),V0] none hp=some (.ret (.d (.agg [.int .i64 0,.int .i64 (lg 0 [(c,[])] [])])),false,hp,0):=by
 have hb0:=dV hi c hA0.len hA0.coef;have h10:=hA0.lo;have h20:=hA0.hi;have hl0:=bW [] [];have hh0:=bY [] [];simp only[rP,hiA,iU]at hb0 h10 h20 hl0 hh0;have wc0:wr .i64 (c)=c:=wI;rw[He];rcases hV with rfl|rfl<;>simp[DZ,pW,pq,pY,oU,pM,pO,o9,pU,pG,pX,lY,lV,lU,lZ,af,pV,pK,hT,dJ,lS,ny,ax,lg,iU,w0,w1,w2,w3,wc0]
theorem YG(hp:List O)(T:Nat){rest:List V}{ro:Bool}{c x i a dummy:Int}(hT:hp[T]?=some (.cells (.d (.list 2 ax)::rest) ro))
  (hA0:jM c [x] [a] 5)(hs:eX [a])(hi:jw [i] [a]) :
  ah K (.fn (.func 133) [] []) [.ptr (.heap T) 0,.d (dJ 0 [(c,[x])]),.d (.list 1 [.int .i64 i])] none hp=some (.ret (.d (.agg [.int .i64 0,.int .i64 (lg 0 [(c,[x])] [i])])),false,hp,0):=by
 have hb0:=dV hi c hA0.len hA0.coef;have h10:=hA0.lo;have h20:=hA0.hi;have hl0:=bW [x] [a];have hh0:=bY [x] [a];have hm00:=Dx (hA0.coef x (by simp)) (show 0≤i by cases hi with|cons h0 h1 h=>exact h0) (show i<a by cases hi with|cons h0 h1 h=>exact h1);have hz0:=hs.within a (by simp);simp only[rP,hiA,iU]at hb0 h10 h20 hl0 hh0;have hp00:-3≤x*(a-1)∧x*(a-1)≤3:=by rcases hA0.coef x (by simp)with h|h|h<;>rw[h]<;>omega
 have wp00:wr .i64 (x*i)=x*i:=wI;have wc0:wr .i64 (c)=c:=wI;have ws00:wr .i64 (c+x*i)=c+x*i:=wI;rw[He];simp[DZ,pW,pq,pY,oU,pM,pO,o9,pU,pG,pX,lY,lV,lU,lZ,af,pV,pK,hT,dJ,lS,ny,ax,lg,iU,w0,w1,w2,w3,wp00,wc0,ws00]
theorem Zc(hp:List O)(T:Nat){rest:List V}{ro:Bool}{c x y i j a b dummy:Int}(hT:hp[T]?=some (.cells (.d (.list 2 ax)::rest) ro))
  (hA0:jM c [x,y] [a,b] 5)(hs:eX [a,b])(hi:jw [i,j] [a,b]) :
  ah K (.fn (.func 133) [] []) [.ptr (.heap T) 0,.d (dJ 0 [(c,[x,y])]),.d (.list 1 [.int .i64 i,.int .i64 j])] none hp=some (.ret (.d (.agg [.int .i64 0,.int .i64 (lg 0 [(c,[x,y])] [i,j])])),false,hp,0):=by
 have hb0:=dV hi c hA0.len hA0.coef;have h10:=hA0.lo;have h20:=hA0.hi;have hl0:=bW [x,y] [a,b];have hh0:=bY [x,y] [a,b];have hm00:=Dx (hA0.coef x (by simp)) (show 0≤i by cases hi with|cons h0 h1 h=>exact h0) (show i<a by cases hi with|cons h0 h1 h=>exact h1);have hm01:=Dx (hA0.coef y (by simp)) (show 0≤j by cases hi with|cons h0 h1 h=>cases h with|cons h0 h1 h=>exact h0) (show j<b by cases hi with|cons h0 h1 h=>cases h with|cons h0 h1 h=>exact h1);have hz0:=hs.within a (by simp);have hz1:=hs.within b (by simp);simp only[rP,hiA,iU]at hb0 h10 h20 hl0 hh0;have hp00:-3≤x*(a-1)∧x*(a-1)≤3:=by rcases hA0.coef x (by simp)with h|h|h<;>rw[h]<;>omega
 have wp00:wr .i64 (x*i)=x*i:=wI;have hp01:-3≤y*(b-1)∧y*(b-1)≤3:=by rcases hA0.coef y (by simp)with h|h|h<;>rw[h]<;>omega
 have wp01:wr .i64 (y*j)=y*j:=wI;have wc0:wr .i64 (c)=c:=wI;have ws00:wr .i64 (c+x*i)=c+x*i:=wI;have ws01:wr .i64 (c+x*i+y*j)=c+x*i+y*j:=wI;rw[He];simp[DZ,pW,pq,pY,oU,pM,pO,o9,pU,pG,pX,lY,lV,lU,lZ,af,pV,pK,hT,dJ,lS,ny,ax,lg,iU,w0,w1,w2,w3,wp00,wp01,wc0,ws00,ws01]
theorem Ym(hp:List O)(T:Nat){rest:List V}{ro:Bool}{c d dummy:Int}(hT:hp[T]?=some (.cells (.d (.list 2 ax)::rest) ro))
  (hA0:jM c [] [] 4)    (hA1:jM d [] [] 4)(hs:eX [])(hi:jw [] [])(V0:V)(hV:V0=.d (.list 1 [])∨V0=.d .nils) :
  ah K (.fn (.func 133) [] []) [.ptr (.heap T) 0,.d (dJ 1 [(c,[]),(d,[])]),V0] none hp=some (.ret (.d (.agg [.int .i64 1,.int .i64 (lg 1 [(c,[]),(d,[])] [])])),false,hp,0):=by
 have hb0:=dV hi c hA0.len hA0.coef;have h10:=hA0.lo;have h20:=hA0.hi;have hl0:=bW [] [];have hh0:=bY [] [];have hb1:=dV hi d hA1.len hA1.coef;have h11:=hA1.lo;have h21:=hA1.hi;have hl1:=bW [] [];have hh1:=bY [] [];simp only[rP,hiA,iU]at hb0 h10 h20 hl0 hh0 hb1 h11 h21 hl1 hh1;have wc0:wr .i64 (c)=c:=wI;have wm:wr .i64 (c*4)=c*4:=wI;have wc1:wr .i64 (c*4+d)=c*4+d:=wI;rw[He];rcases hV with rfl|rfl<;>simp[DZ,pW,pq,pY,oU,pM,pO,o9,pU,pG,pX,lY,lV,lU,lZ,af,pV,pK,hT,dJ,lS,ny,ax,lg,iU,w0,w1,w2,w3,wc0,wm,wc1]
theorem YI(hp:List O)(T:Nat){rest:List V}{ro:Bool}{c d x u i a dummy:Int}(hT:hp[T]?=some (.cells (.d (.list 2 ax)::rest) ro))
  (hA0:jM c [x] [a] 4)    (hA1:jM d [u] [a] 4)(hs:eX [a])(hi:jw [i] [a]) :
  ah K (.fn (.func 133) [] []) [.ptr (.heap T) 0,.d (dJ 1 [(c,[x]),(d,[u])]),.d (.list 1 [.int .i64 i])] none hp=some (.ret (.d (.agg [.int .i64 1,.int .i64 (lg 1 [(c,[x]),(d,[u])] [i])])),false,hp,0):=by
 have hb0:=dV hi c hA0.len hA0.coef;have h10:=hA0.lo;have h20:=hA0.hi;have hl0:=bW [x] [a];have hh0:=bY [x] [a];have hm00:=Dx (hA0.coef x (by simp)) (show 0≤i by cases hi with|cons h0 h1 h=>exact h0) (show i<a by cases hi with|cons h0 h1 h=>exact h1);have hb1:=dV hi d hA1.len hA1.coef;have h11:=hA1.lo;have h21:=hA1.hi;have hl1:=bW [u] [a];have hh1:=bY [u] [a];have hm10:=Dx (hA1.coef u (by simp)) (show 0≤i by cases hi with|cons h0 h1 h=>exact h0) (show i<a by cases hi with|cons h0 h1 h=>exact h1);have hz0:=hs.within a (by simp);simp only[rP,hiA,iU]at hb0 h10 h20 hl0 hh0 hb1 h11 h21 hl1 hh1;have hp00:-3≤x*(a-1)∧x*(a-1)≤3:=by rcases hA0.coef x (by simp)with h|h|h<;>rw[h]<;>omega
 have wp00:wr .i64 (x*i)=x*i:=wI;have hp10:-3≤u*(a-1)∧u*(a-1)≤3:=by rcases hA1.coef u (by simp)with h|h|h<;>rw[h]<;>omega
 have wp10:wr .i64 (u*i)=u*i:=wI;have wc0:wr .i64 (c)=c:=wI;have ws00:wr .i64 (c+x*i)=c+x*i:=wI;have wm:wr .i64 ((c+x*i)*4)=(c+x*i)*4:=wI;have wc1:wr .i64 ((c+x*i)*4+d)=(c+x*i)*4+d:=wI;have ws10:wr .i64 ((c+x*i)*4+d+u*i)=(c+x*i)*4+d+u*i:=wI;rw[He];simp[DZ,pW,pq,pY,oU,pM,pO,o9,pU,pG,pX,lY,lV,lU,lZ,af,pV,pK,hT,dJ,lS,ny,ax,lg,iU,w0,w1,w2,w3,wp00,wp10,wc0,ws00,wm,wc1,ws10]
theorem YD(hp:List O)(T:Nat){rest:List V}{ro:Bool}{c d x y u v i j a b dummy:Int}(hT:hp[T]?=some (.cells (.d (.list 2 ax)::rest) ro))
  (hA0:jM c [x,y] [a,b] 4)    (hA1:jM d [u,v] [a,b] 4)(hs:eX [a,b])(hi:jw [i,j] [a,b]) :
  ah K (.fn (.func 133) [] []) [.ptr (.heap T) 0,.d (dJ 1 [(c,[x,y]),(d,[u,v])]),.d (.list 1 [.int .i64 i,.int .i64 j])] none hp=some (.ret (.d (.agg [.int .i64 1,.int .i64 (lg 1 [(c,[x,y]),(d,[u,v])] [i,j])])),false,hp,0):=by
 have hb0:=dV hi c hA0.len hA0.coef;have h10:=hA0.lo;have h20:=hA0.hi;have hl0:=bW [x,y] [a,b];have hh0:=bY [x,y] [a,b];have hm00:=Dx (hA0.coef x (by simp)) (show 0≤i by cases hi with|cons h0 h1 h=>exact h0) (show i<a by cases hi with|cons h0 h1 h=>exact h1);have hm01:=Dx (hA0.coef y (by simp)) (show 0≤j by cases hi with|cons h0 h1 h=>cases h with|cons h0 h1 h=>exact h0) (show j<b by cases hi with|cons h0 h1 h=>cases h with|cons h0 h1 h=>exact h1);have hb1:=dV hi d hA1.len hA1.coef;have h11:=hA1.lo;have h21:=hA1.hi;have hl1:=bW [u,v] [a,b];have hh1:=bY [u,v] [a,b];have hm10:=Dx (hA1.coef u (by simp)) (show 0≤i by cases hi with|cons h0 h1 h=>exact h0) (show i<a by cases hi with|cons h0 h1 h=>exact h1);have hm11:=Dx (hA1.coef v (by simp)) (show 0≤j by cases hi with|cons h0 h1 h=>cases h with|cons h0 h1 h=>exact h0) (show j<b by cases hi with|cons h0 h1 h=>cases h with|cons h0 h1 h=>exact h1);have hz0:=hs.within a (by simp);have hz1:=hs.within b (by simp);simp only[rP,hiA,iU]at hb0 h10 h20 hl0 hh0 hb1 h11 h21 hl1 hh1;have hp00:-3≤x*(a-1)∧x*(a-1)≤3:=by rcases hA0.coef x (by simp)with h|h|h<;>rw[h]<;>omega
 have wp00:wr .i64 (x*i)=x*i:=wI;have hp01:-3≤y*(b-1)∧y*(b-1)≤3:=by rcases hA0.coef y (by simp)with h|h|h<;>rw[h]<;>omega
 have wp01:wr .i64 (y*j)=y*j:=wI;have hp10:-3≤u*(a-1)∧u*(a-1)≤3:=by rcases hA1.coef u (by simp)with h|h|h<;>rw[h]<;>omega
 have wp10:wr .i64 (u*i)=u*i:=wI;have hp11:-3≤v*(b-1)∧v*(b-1)≤3:=by rcases hA1.coef v (by simp)with h|h|h<;>rw[h]<;>omega
 have wp11:wr .i64 (v*j)=v*j:=wI;have wc0:wr .i64 (c)=c:=wI;have ws00:wr .i64 (c+x*i)=c+x*i:=wI;have ws01:wr .i64 (c+x*i+y*j)=c+x*i+y*j:=wI;have wm:wr .i64 ((c+x*i+y*j)*4)=(c+x*i+y*j)*4:=wI;have wc1:wr .i64 ((c+x*i+y*j)*4+d)=(c+x*i+y*j)*4+d:=wI;have ws10:wr .i64 ((c+x*i+y*j)*4+d+u*i)=(c+x*i+y*j)*4+d+u*i:=wI;have ws11:wr .i64 ((c+x*i+y*j)*4+d+u*i+v*j)=(c+x*i+y*j)*4+d+u*i+v*j:=wI;rw[He];simp[DZ,pW,pq,pY,oU,pM,pO,o9,pU,pG,pX,lY,lV,lU,lZ,af,pV,pK,hT,dJ,lS,ny,ax,lg,iU,w0,w1,w2,w3,wp00,wp01,wp10,wp11,wc0,ws00,ws01,wm,wc1,ws10,ws11]
theorem Wu(hp:List O)(T:Nat){rest:List V}{ro:Bool}{dummy:Int}(hT:hp[T]?=some (.cells (.d (.list 2 ax)::rest) ro))
 (hs:eX [])(hi:jw [] [])(V0:V)(hV:V0=.d (.list 1 [])∨V0=.d .nils) :
  ah K (.fn (.func 133) [] []) [.ptr (.heap T) 0,.d (dJ 2 []),V0] none hp=some (.ret (.d (.agg [.int .i64 2,.int .i64 (lg 2 [] [])])),false,hp,0):=by
 rw[He];rcases hV with rfl|rfl<;>simp[DZ,pW,pq,pY,oU,pM,pO,o9,pU,pG,pX,lY,lV,lU,lZ,af,pV,pK,hT,dJ,lS,ny,ax,lg,iU,w0,w1,w2,w3]
theorem Zo(hp:List O)(T:Nat){rest:List V}{ro:Bool}{i a dummy:Int}(hT:hp[T]?=some (.cells (.d (.list 2 ax)::rest) ro))
 (hs:eX [a])(hi:jw [i] [a]) :
  ah K (.fn (.func 133) [] []) [.ptr (.heap T) 0,.d (dJ 2 []),.d (.list 1 [.int .i64 i])] none hp=some (.ret (.d (.agg [.int .i64 2,.int .i64 (lg 2 [] [i])])),false,hp,0):=by
 have hz0:=hs.within a (by simp);rw[He];simp[DZ,pW,pq,pY,oU,pM,pO,o9,pU,pG,pX,lY,lV,lU,lZ,af,pV,pK,hT,dJ,lS,ny,ax,lg,iU,w0,w1,w2,w3]
theorem YO(hp:List O)(T:Nat){rest:List V}{ro:Bool}{i j a b dummy:Int}(hT:hp[T]?=some (.cells (.d (.list 2 ax)::rest) ro))
 (hs:eX [a,b])(hi:jw [i,j] [a,b]) :
  ah K (.fn (.func 133) [] []) [.ptr (.heap T) 0,.d (dJ 2 []),.d (.list 1 [.int .i64 i,.int .i64 j])] none hp=some (.ret (.d (.agg [.int .i64 2,.int .i64 (lg 2 [] [i,j])])),false,hp,0):=by
 have hz0:=hs.within a (by simp);have hz1:=hs.within b (by simp);rw[He];simp[DZ,pW,pq,pY,oU,pM,pO,o9,pU,pG,pX,lY,lV,lU,lZ,af,pV,pK,hT,dJ,lS,ny,ax,lg,iU,w0,w1,w2,w3]
theorem amR(hp:List O)(T:Nat){rest:List V}{ro:Bool}{n:Nat}{x:List (Int×List Int)}{ss is:List Int}(hT:hp[T]?=some (.cells (.d (.list 2 ax)::rest) ro))(h:dP n x ss)(hs:eX ss)(hi:jw is ss)(V0:V)(hV:V0=.d (.list 1 (ints is))∨(V0=.d .nils∧is=[])) :
  ah K (.fn (.func 133) [] []) [.ptr (.heap T) 0,.d (dJ n x),V0] none hp=some (.ret (.d (.agg [.int .i64 n,.int .i64 (lg n x is)])),false,hp,0):=by
 have hlen:=h.len;have harr:=h.arr
 match n,harr,x,hlen,h with
 | 0,_,[p],_,h =>
  have h0:=h.ok 0 (by simp) (by simp[dI]);obtain⟨c,cs⟩:=p
  match ss,hs,is,hi,cs,h0.len,h0 with
  |[],hs,[],hi,[],_,h0=>exact ZC hp T (dummy:=0) hT h0 hs hi V0 (by rcases hV with h|⟨h,_⟩<;>simp[h])|[a],hs,[i],hi,[x],_,h0=>
   rcases hV with rfl|⟨_,h⟩
   ·exact YG hp T (dummy:=0) hT h0 hs hi
   ·cases h
  |[a,b],hs,[i,j],hi,[x,y],_,h0=>
   rcases hV with rfl|⟨_,h⟩
   ·exact Zc hp T (dummy:=0) hT h0 hs hi
   ·cases h
  |_::_::_::_,hs,_,_,_,_,_=>have:=hs.few;simp at this
 | 1,_,[p,q],_,h =>
  have h0:=h.ok 0 (by simp) (by simp[dI]);have h1:=h.ok 1 (by simp) (by simp[dI]);obtain⟨c,cs⟩:=p;obtain⟨d,ds⟩:=q
  match ss,hs,is,hi,cs,h0.len,h0,ds,h1.len,h1 with
  |[],hs,[],hi,[],_,h0,[],_,h1=>exact Ym hp T (dummy:=0) hT h0 h1 hs hi V0 (by rcases hV with h|⟨h,_⟩<;>simp[h])|[a],hs,[i],hi,[x],_,h0,[u],_,h1=>
   rcases hV with rfl|⟨_,h⟩
   ·exact YI hp T (dummy:=0) hT h0 h1 hs hi
   ·cases h
  |[a,b],hs,[i,j],hi,[x,y],_,h0,[u,v],_,h1=>
   rcases hV with rfl|⟨_,h⟩
   ·exact YD hp T (dummy:=0) hT h0 h1 hs hi
   ·cases h
  |_::_::_::_,hs,_,_,_,_,_,_,_,_=>have:=hs.few;simp at this
 | 2,_,[],_,h =>
  match ss,hs,is,hi with
  |[],hs,[],hi=>exact Wu hp T (dummy:=0) hT hs hi V0 (by rcases hV with h|⟨h,_⟩<;>simp[h])|[a],hs,[i],hi=>
   rcases hV with rfl|⟨_,h⟩
   ·exact Zo hp T (dummy:=0) hT hs hi
   ·cases h
  |[a,b],hs,[i,j],hi=>
   rcases hV with rfl|⟨_,h⟩
   ·exact YO hp T (dummy:=0) hT hs hi
   ·cases h
  |_::_::_::_,hs,_,_=>have:=hs.few;simp at this
def aZ:List Int→List (List Int)
 |[]=>[[]]|s::ss=>(List.range s.toNat).flatMap fun i=>(aZ ss).map (Int.ofNat i::·)
def bF:List Int→D
 |[]=>.nils|x::xs=>.list 1 (ints (x::xs))
theorem jw.snoc{p s1:List Int}(h:jw p s1){i a:Int}(h0:0≤i)(h1:i<a):jw (p++[i]) (s1++[a]):=by
 induction h with
 |nil=>exact .cons h0 h1 .nil|cons g0 g1 _ ih=>exact .cons g0 g1 ih
structure Rounds(ss:List Int)(B Y G l N:Nat)(Inv:List (List Int)→List O→Prop):Prop where
 sz:∀d H,Inv d H→∃ro,H[B]?=some (.cells [.d (fC ss)] ro)
 yv:∀d H,Inv d H→∃ro,H[Y]?=some (.cells [.fn (.yield l) [] []] ro)
 gv:∀d H,Inv d H→∃ro,H[G]?=some (.cells [.fn (.func 191) [] [.ptr (.heap B) 0,.ptr (.heap Y) 0,.ptr (.heap G) 0]] ro)
 go:∀d H p,Inv d H→jw p ss→d.length<N→∃H' w,ah K (.fn (.yield l) [] []) [.d (bF p)] none H=some (.ret (.d (.bool true)),false,H',w)∧Inv (d++[p]) H'
theorem ayv{ss:List Int}{B Y G l N:Nat}{Inv:List (List Int)→List O→Prop}(R:Rounds ss B Y G l N Inv)(hs:eX ss):∀(rs p s1:List Int),ss=s1++rs→jw p s1→∀d H,Inv d H→d.length+(aZ rs).length≤N→
  ∃H' w,ah K (.fn (.func 191) [] [.ptr (.heap B) 0,.ptr (.heap Y) 0,.ptr (.heap G) 0]) [.d (bF p)] none H=some (.ret (.d (.bool true)),false,H',w)∧Inv (d++(aZ rs).map (p++·)) H':=by
 intro rs;induction rs with
 |nil=>
  intro p s1 he hp d H hI hN;have hss:ss=s1:=by simpa using he
  subst hss;obtain⟨H',w,e1,hI'⟩:=R.go d H p hI hp (by simp[aZ]at hN;omega);obtain⟨r1,hB⟩:=R.sz d H hI;obtain⟨r2,hY⟩:=R.yv d H hI;refine⟨H',w,?_,by simpa[aZ]using hI'⟩;have hl:=hp.len;rw[aom];have hl1:lenV (.d (bF p))=some p.length:=by cases p<;>simp[bF]
  have hl2:lenV (.d (fC ss))=some ss.length:=by cases ss<;>simp[fC]
  simp only[lenV]at hl1 hl2;simp[abL,QE,Pz,ahO,hB,hY,hl1,hl2,hl,e1]
 | cons a rs ih =>
  intro p s1 he hp d H hI hN;have hl:=hp.len;have ha:=hs.within a (by rw[he];simp);have hlt:s1.length<ss.length:=by rw[he];simp
  have hget:ss[s1.length]?=some a:=by rw[he];simp
  have hfew:=hs.few;have hw1:∀i:Nat,(i:Int)<a→wr .i64 ((i:Int)+1)=(i:Int)+1:=fun i hi=>wI;let st:List Int→Nat→List O→Nat→List (Nat×V)→St:=fun p i H w t=>{tm:=(0,.d (bF p))::(3,.ptr (.heap G) 0)::(19,.d (.int .i64 a))::(20,.d (.int .i64 i))::t,m:={ob:=[],hp:=H,wl:=w},df:=[],rc:=none}
  have hstep:∀(i:Nat) d H w,(i:Int)<a→Inv d H→d.length+(aZ rs).length≤N→∃H' w',aj K 191 Gj (st p i H w [])=some (.normal,st p (i+1) H' w' [])∧Inv (d++(aZ rs).map (p++[(i:Int)]++·)) H':=by
   intro i d H w hi hI hN;obtain⟨H',w',e1,hI'⟩:=ih (p++[(i:Int)]) (s1++[a]) (by rw[he];simp) (hp.snoc (by omega) hi) d H hI hN;obtain⟨r2,hG⟩:=R.gv d H hI;refine⟨H',w ||| w',?_,hI'⟩
   match p,hp,hl,e1 with
   |[],hp,hl,e1=>simp only[List.nil_append,bF,eu,jI]at e1;simp[st,LW,Nq,Vh,Zp,Zl,Vp,hi,hG,bF,e1,hw1 i hi]|[x],hp,hl,e1=>simp only[List.cons_append,List.nil_append,bF,eu,jI]at e1;simp[st,LW,Nq,Vh,Zp,Zl,Vp,hi,hG,bF,e1,hw1 i hi]|_::_::_,hp,hl,e1=>simp at hl;omega
  have hloop:∀(k i:Nat),i+k=a.toNat→∀d H w,Inv d H→d.length+k*(aZ rs).length≤N→∃H' w',aj K 191 (.loop Gj) (st p i H w [])=some (.exit 0,st p a.toNat H' w' [(21,.d (.bool false))])∧Inv (d++(List.range' i k).flatMap fun(j:Nat)=>(aZ rs).map (p++[(j:Int)]++·)) H':=by
   intro k;induction k with
   |zero=>
    intro i hi d H w hI hN;refine⟨H,w,?_,by simpa using hI⟩;have:¬((i:Int)<a):=by omega
    have hia:i=a.toNat:=by omega
    subst hia;rw[af];have hm:max a 0=a:=by omega
    have hm':¬(a<a):=by omega
    simp[st,LW,Nq,hm,hm']
   | succ k ihk =>
    intro i hi d H w hI hN;rw[Nat.succ_mul]at hN;obtain⟨H1,w1,e1,hI1⟩:=hstep i d H w (by omega) hI (by omega);obtain⟨H2,w2,e2,hI2⟩:=ihk (i+1) (by omega) _ H1 w1 hI1 (by simp;omega);refine⟨H2,w2,?_,?_⟩
    ·rw[af,e1];exact e2
    ·rw[List.range'_succ,List.flatMap_cons,←List.append_assoc];exact hI2
  obtain⟨r1,hB⟩:=R.sz d H hI
  obtain⟨H',w',e1,hI'⟩:=hloop a.toNat 0 (by omega) d H 0 hI (by
   have:(aZ (a::rs)).length=a.toNat*(aZ rs).length:=by simp[aZ,List.length_flatMap,List.map_const']
   omega)
  refine⟨H',w',?_,?_⟩
  ·rw[aom];have z0:((0:Nat):Int)=0:=rfl;have n0:¬((0:Int)=(rs.length:Int)+1):=by omega
   have n1:¬((1:Int)=(rs.length:Int)+1+1):=by omega
   simp only[st,z0]at e1
   match p,s1,hp,hl,e1,he with
   |[],[],hp,hl,e1,he=>simp only[List.nil_append]at he;subst he;simp only[ou,eu]at hB;simp only[bF]at e1;simp[abL,QE,Pz,YA,Xu,hB,bF,e1,n0,n1]|[x],[s],hp,hl,e1,he=>simp only[List.cons_append,List.nil_append]at he;subst he;simp only[ou,eu]at hB;simp only[bF,eu,jI]at e1;simp[abL,QE,Pz,YA,Xu,hB,bF,e1,n0,n1]|[],_::_,hp,hl,e1,he=>simp at hl|[x],[],hp,hl,e1,he=>simp at hl|[x],_::_::_,hp,hl,e1,he=>simp at hl|_::_::_,s1,hp,hl,e1,he=>simp at hl;omega
  ·rw[show(aZ (a::rs)).map (p++·)=(List.range' 0 a.toNat).flatMap fun(j:Nat)=>(aZ rs).map (p++[(j:Int)]++·)from ?_]
   ·exact hI'
   ·simp only[aZ,List.map_flatMap,List.range_eq_range',List.map_map];congr 1;funext j;congr 1;funext r;simp
theorem Hw(s:St):aj K 64 ja s=aj K 64 (.region 9 (lQ K.P 64 9) false) s:=rfl
theorem JC(s:St):aj K 64 iZ s=aj K 64 (.block 3 (.seq (.region 10 (lQ K.P 64 10) true) (.seq (.seq (.region 11 (lQ K.P 64 11) false) (.block 4 (.loop X7))) (.region 16 (lQ K.P 64 16) true)))) s:=rfl
theorem jE{d:D}(h:D.isCell d=true):D.cells d=[d]:=by cases d<;>first|rfl|simp[D.isCell]at h
theorem afr{H:List O}{l:Nat}{a:O}(h:H[l]?=some a):H.set l a=H:=by have hl:l<H.length:=(List.getElem?_eq_some_iff.1 h).1;have h2:H[l]=a:=(List.getElem?_eq_some_iff.1 h).2;rw[←h2];exact List.set_getElem_self hl
theorem JE{H:List O}{l T:Nat}{a b c:O}(h:H[l]?=some a)(hne:l≠T):((H.set l c).set T b).set l a=H.set T b:=by rw[List.set_comm b a (Ne.symm hne),List.set_set,afr h]
theorem yY{H:List O}{l T L:Nat}{a b c d:O}(h:H[l]?=some a)(hne:l≠T)(hne2:l≠L):(((H.set l c).set L d).set T b).set l a=(H.set L d).set T b:=by rw[List.set_comm b a (Ne.symm hne),JE h hne2]
theorem aby{H Hb:List O}{l T g:Nat}{k tn pa0 pb0:Int}{sz tx stp at0:D}{v21 v22 v23 v30 y5 y6 y7 y8 y9 y10:V}{c1:List V}
 (hl:H[l]?=some (.loop .ready none 64 [(2,.d .nilp),(3,.d (.int .i64 0)),(5,.ptr (.slot 5 0) 0),(6,.ptr (.slot 6 g) 0),(7,.ptr (.slot 7 g) 0),(21,v21),(22,v22),(23,v23),(30,v30)] [(1,0,.cells c1 true),(5,0,.cells [.ptr (.heap T) 0] true),(6,g,.cells [.d (.int .i64 k)] true),(7,g,.cells [.d sz,.d (.int .i64 tn),.d tx,.d (.nils),y5,y6,y7,y8,y9,y10] true)] [31] ja iZ))(hT:H[T]?=some (.cells [.d (.list 2 ax),.d stp,.d .nils] false))(hne:l≠T)(hHb:Hb=H.set l (.loop .busy none 64 [(2,.d .nilp),(3,.d (.int .i64 0)),(5,.ptr (.slot 5 0) 0),(6,.ptr (.slot 6 g) 0),(7,.ptr (.slot 7 g) 0),(21,v21),(22,v22),(23,v23),(30,v30)] [(1,0,.cells c1 true),(5,0,.cells [.ptr (.heap T) 0] true),(6,g,.cells [.d (.int .i64 k)] true),(7,g,.cells [.d sz,.d (.int .i64 tn),.d tx,.d (.nils),y5,y6,y7,y8,y9,y10] true)] [31] ja iZ))
 (e0:CK 133 [.ptr (.heap T) 0,.d (.agg [.int .i64 tn,tx]),.d at0] Hb (.d (.agg [.int .i64 pa0,.int .i64 pb0])) Hb 0)
 (ctx:D.isCell tx=true)(cat0:D.isCell at0=true)
 :∃w,ah K (.fn (.yield l) [] []) [.d at0] none H=some (.ret (.d (.bool true)),false,(H.set T (.cells [.d (.list 2 ax),.d stp,.sl (.heap H.length) 4 1 0 1] false)++[.vec 4 [.agg [.int .i64 k,.int .i64 0,at0,.list 2 [.agg [.int .i64 pa0,.int .i64 pb0]]]] false true]),w):=by
 subst hHb;have kat0:D.cells at0=[at0]:=jE cat0;simp only[D.cells]at kat0;simp only[D.isCell]at ctx cat0;have hll:l<H.length:=(gS.1 hl).1;have hTl:T<H.length:=(gS.1 hT).1;have hne':¬T=l:=fun h=>hne h.symm;have hl2:=hl;have hT2:=hT;rw[List.getElem?_eq_getElem hll]at hl2;rw[List.getElem?_eq_getElem hTl]at hT2;simp only[oI]at hl2 hT2;rw[bP];unfold gJ;rw[hl];simp[Hw,JC,yK,ru,rJ,rQ,sN,sD,rX,sK,af,zi,oL,insL,hl2,hT2,hne,hne',hll,hTl,w0,w1,w2,w3,kat0,List.getElem?_append_left,List.set_append_left,e0,ctx,cat0];exact JE hl hne
theorem aay{H Hb:List O}{l T L g:Nat}{k tn pa0 pb0:Int}{sz tx stp at0:D}{v21 v22 v23 v30 y5 y6 y7 y8 y9 y10:V}{c1:List V}{es:List D}
 (hl:H[l]?=some (.loop .ready none 64 [(2,.d .nilp),(3,.d (.int .i64 0)),(5,.ptr (.slot 5 0) 0),(6,.ptr (.slot 6 g) 0),(7,.ptr (.slot 7 g) 0),(21,v21),(22,v22),(23,v23),(30,v30)] [(1,0,.cells c1 true),(5,0,.cells [.ptr (.heap T) 0] true),(6,g,.cells [.d (.int .i64 k)] true),(7,g,.cells [.d sz,.d (.int .i64 tn),.d tx,.d (.nils),y5,y6,y7,y8,y9,y10] true)] [31] ja iZ))(hT:H[T]?=some (.cells [.d (.list 2 ax),.d stp,.sl (.heap L) 4 es.length 0 es.length] false))(hne:l≠T)(hHb:Hb=H.set l (.loop .busy none 64 [(2,.d .nilp),(3,.d (.int .i64 0)),(5,.ptr (.slot 5 0) 0),(6,.ptr (.slot 6 g) 0),(7,.ptr (.slot 7 g) 0),(21,v21),(22,v22),(23,v23),(30,v30)] [(1,0,.cells c1 true),(5,0,.cells [.ptr (.heap T) 0] true),(6,g,.cells [.d (.int .i64 k)] true),(7,g,.cells [.d sz,.d (.int .i64 tn),.d tx,.d (.nils),y5,y6,y7,y8,y9,y10] true)] [31] ja iZ))
 (hL:H[L]?=some (.vec 4 es false true))(hne2:l≠L)(hne3:T≠L)(hes:es.length≤1000)
 (e0:CK 133 [.ptr (.heap T) 0,.d (.agg [.int .i64 tn,tx]),.d at0] Hb (.d (.agg [.int .i64 pa0,.int .i64 pb0])) Hb 0)
 (ctx:D.isCell tx=true)(cat0:D.isCell at0=true)
 :∃w,ah K (.fn (.yield l) [] []) [.d at0] none H=some (.ret (.d (.bool true)),false,((H.set L (.vec 4 (es++[.agg [.int .i64 k,.int .i64 es.length,at0,.list 2 [.agg [.int .i64 pa0,.int .i64 pb0]]]]) false true)).set T (.cells [.d (.list 2 ax),.d stp,.sl (.heap L) 4 (es.length+1) 0 (es.length+1)] false)),w):=by
 subst hHb;have kat0:D.cells at0=[at0]:=jE cat0;simp only[D.cells]at kat0;simp only[D.isCell]at ctx cat0;have hll:l<H.length:=(gS.1 hl).1;have hTl:T<H.length:=(gS.1 hT).1;have hne':¬T=l:=fun h=>hne h.symm;have hLl:L<H.length:=(gS.1 hL).1;have hne2':¬L=l:=fun h=>hne2 h.symm;have hne3':¬L=T:=fun h=>hne3 h.symm;have hg1:es.length+1≤4294967296:=by omega
 have hg2:(es.length+1)*64≤4294967296:=by omega
 have hl2:=hl;have hT2:=hT;rw[List.getElem?_eq_getElem hll]at hl2;rw[List.getElem?_eq_getElem hTl]at hT2;simp only[oI]at hl2 hT2;have hL2:=hL;rw[List.getElem?_eq_getElem hLl]at hL2;simp only[oI]at hL2;rw[bP];unfold gJ;rw[hl];simp[Hw,JC,yK,ru,rJ,rQ,sN,sD,rX,sK,af,zi,oL,insL,hl2,hT2,hne,hne',hll,hTl,w0,w1,w2,w3,kat0,List.getElem?_append_left,List.set_append_left,hL2,hne2,hne2',hne3,hne3',hLl,hg1,hg2,e0,ctx,cat0];exact yY hl hne hne2
theorem aaU{H Hb:List O}{l T g:Nat}{k tn pa0 pb0 pa1 pb1 n0:Int}{sz tx stp at0 x0:D}{v21 v22 v23 v30 y5 y6 y7 y8 y9 y10:V}{c1:List V}
 (hl:H[l]?=some (.loop .ready none 64 [(2,.d .nilp),(3,.d (.int .i64 0)),(5,.ptr (.slot 5 0) 0),(6,.ptr (.slot 6 g) 0),(7,.ptr (.slot 7 g) 0),(21,v21),(22,v22),(23,v23),(30,v30)] [(1,0,.cells c1 true),(5,0,.cells [.ptr (.heap T) 0] true),(6,g,.cells [.d (.int .i64 k)] true),(7,g,.cells [.d sz,.d (.int .i64 tn),.d tx,.d (.list 2 [.agg [.int .i64 n0,x0]]),y5,y6,y7,y8,y9,y10] true)] [31] ja iZ))(hT:H[T]?=some (.cells [.d (.list 2 ax),.d stp,.d .nils] false))(hne:l≠T)(hHb:Hb=H.set l (.loop .busy none 64 [(2,.d .nilp),(3,.d (.int .i64 0)),(5,.ptr (.slot 5 0) 0),(6,.ptr (.slot 6 g) 0),(7,.ptr (.slot 7 g) 0),(21,v21),(22,v22),(23,v23),(30,v30)] [(1,0,.cells c1 true),(5,0,.cells [.ptr (.heap T) 0] true),(6,g,.cells [.d (.int .i64 k)] true),(7,g,.cells [.d sz,.d (.int .i64 tn),.d tx,.d (.list 2 [.agg [.int .i64 n0,x0]]),y5,y6,y7,y8,y9,y10] true)] [31] ja iZ))
 (e0:CK 133 [.ptr (.heap T) 0,.d (.agg [.int .i64 tn,tx]),.d at0] Hb (.d (.agg [.int .i64 pa0,.int .i64 pb0])) Hb 0)
 (e1:CK 133 [.ptr (.heap T) 0,.d (.agg [.int .i64 n0,x0]),.d at0] Hb (.d (.agg [.int .i64 pa1,.int .i64 pb1])) Hb 0)
 (ctx:D.isCell tx=true)(cat0:D.isCell at0=true)(cx0:D.isCell x0=true)
 :∃w,ah K (.fn (.yield l) [] []) [.d at0] none H=some (.ret (.d (.bool true)),false,(H.set T (.cells [.d (.list 2 ax),.d stp,.sl (.heap H.length) 4 1 0 1] false)++[.vec 4 [.agg [.int .i64 k,.int .i64 0,at0,.list 2 [.agg [.int .i64 pa0,.int .i64 pb0],.agg [.int .i64 pa1,.int .i64 pb1]]]] false true]),w):=by
 subst hHb;have kat0:D.cells at0=[at0]:=jE cat0;simp only[D.cells]at kat0;simp only[D.isCell]at ctx cat0 cx0;have hll:l<H.length:=(gS.1 hl).1;have hTl:T<H.length:=(gS.1 hT).1;have hne':¬T=l:=fun h=>hne h.symm;have hl2:=hl;have hT2:=hT;rw[List.getElem?_eq_getElem hll]at hl2;rw[List.getElem?_eq_getElem hTl]at hT2;simp only[oI]at hl2 hT2;rw[bP];unfold gJ;rw[hl];simp[Hw,JC,yK,ru,rJ,rQ,sN,sD,rX,sK,af,zi,oL,insL,hl2,hT2,hne,hne',hll,hTl,w0,w1,w2,w3,kat0,List.getElem?_append_left,List.set_append_left,e0,e1,ctx,cat0,cx0];exact JE hl hne
theorem aa3{H Hb:List O}{l T L g:Nat}{k tn pa0 pb0 pa1 pb1 n0:Int}{sz tx stp at0 x0:D}{v21 v22 v23 v30 y5 y6 y7 y8 y9 y10:V}{c1:List V}{es:List D}
 (hl:H[l]?=some (.loop .ready none 64 [(2,.d .nilp),(3,.d (.int .i64 0)),(5,.ptr (.slot 5 0) 0),(6,.ptr (.slot 6 g) 0),(7,.ptr (.slot 7 g) 0),(21,v21),(22,v22),(23,v23),(30,v30)] [(1,0,.cells c1 true),(5,0,.cells [.ptr (.heap T) 0] true),(6,g,.cells [.d (.int .i64 k)] true),(7,g,.cells [.d sz,.d (.int .i64 tn),.d tx,.d (.list 2 [.agg [.int .i64 n0,x0]]),y5,y6,y7,y8,y9,y10] true)] [31] ja iZ))(hT:H[T]?=some (.cells [.d (.list 2 ax),.d stp,.sl (.heap L) 4 es.length 0 es.length] false))(hne:l≠T)(hHb:Hb=H.set l (.loop .busy none 64 [(2,.d .nilp),(3,.d (.int .i64 0)),(5,.ptr (.slot 5 0) 0),(6,.ptr (.slot 6 g) 0),(7,.ptr (.slot 7 g) 0),(21,v21),(22,v22),(23,v23),(30,v30)] [(1,0,.cells c1 true),(5,0,.cells [.ptr (.heap T) 0] true),(6,g,.cells [.d (.int .i64 k)] true),(7,g,.cells [.d sz,.d (.int .i64 tn),.d tx,.d (.list 2 [.agg [.int .i64 n0,x0]]),y5,y6,y7,y8,y9,y10] true)] [31] ja iZ))
 (hL:H[L]?=some (.vec 4 es false true))(hne2:l≠L)(hne3:T≠L)(hes:es.length≤1000)
 (e0:CK 133 [.ptr (.heap T) 0,.d (.agg [.int .i64 tn,tx]),.d at0] Hb (.d (.agg [.int .i64 pa0,.int .i64 pb0])) Hb 0)
 (e1:CK 133 [.ptr (.heap T) 0,.d (.agg [.int .i64 n0,x0]),.d at0] Hb (.d (.agg [.int .i64 pa1,.int .i64 pb1])) Hb 0)
 (ctx:D.isCell tx=true)(cat0:D.isCell at0=true)(cx0:D.isCell x0=true)
 :∃w,ah K (.fn (.yield l) [] []) [.d at0] none H=some (.ret (.d (.bool true)),false,((H.set L (.vec 4 (es++[.agg [.int .i64 k,.int .i64 es.length,at0,.list 2 [.agg [.int .i64 pa0,.int .i64 pb0],.agg [.int .i64 pa1,.int .i64 pb1]]]]) false true)).set T (.cells [.d (.list 2 ax),.d stp,.sl (.heap L) 4 (es.length+1) 0 (es.length+1)] false)),w):=by
 subst hHb;have kat0:D.cells at0=[at0]:=jE cat0;simp only[D.cells]at kat0;simp only[D.isCell]at ctx cat0 cx0;have hll:l<H.length:=(gS.1 hl).1;have hTl:T<H.length:=(gS.1 hT).1;have hne':¬T=l:=fun h=>hne h.symm;have hLl:L<H.length:=(gS.1 hL).1;have hne2':¬L=l:=fun h=>hne2 h.symm;have hne3':¬L=T:=fun h=>hne3 h.symm;have hg1:es.length+1≤4294967296:=by omega
 have hg2:(es.length+1)*64≤4294967296:=by omega
 have hl2:=hl;have hT2:=hT;rw[List.getElem?_eq_getElem hll]at hl2;rw[List.getElem?_eq_getElem hTl]at hT2;simp only[oI]at hl2 hT2;have hL2:=hL;rw[List.getElem?_eq_getElem hLl]at hL2;simp only[oI]at hL2;rw[bP];unfold gJ;rw[hl];simp[Hw,JC,yK,ru,rJ,rQ,sN,sD,rX,sK,af,zi,oL,insL,hl2,hT2,hne,hne',hll,hTl,w0,w1,w2,w3,kat0,List.getElem?_append_left,List.set_append_left,hL2,hne2,hne2',hne3,hne3',hLl,hg1,hg2,e0,e1,ctx,cat0,cx0];exact yY hl hne hne2
theorem acB{H Hb:List O}{l T g:Nat}{k tn pa0 pb0 pa1 pb1 pa2 pb2 n0 n1:Int}{sz tx stp at0 x0 x1:D}{v21 v22 v23 v30 y5 y6 y7 y8 y9 y10:V}{c1:List V}
 (hl:H[l]?=some (.loop .ready none 64 [(2,.d .nilp),(3,.d (.int .i64 0)),(5,.ptr (.slot 5 0) 0),(6,.ptr (.slot 6 g) 0),(7,.ptr (.slot 7 g) 0),(21,v21),(22,v22),(23,v23),(30,v30)] [(1,0,.cells c1 true),(5,0,.cells [.ptr (.heap T) 0] true),(6,g,.cells [.d (.int .i64 k)] true),(7,g,.cells [.d sz,.d (.int .i64 tn),.d tx,.d (.list 2 [.agg [.int .i64 n0,x0],.agg [.int .i64 n1,x1]]),y5,y6,y7,y8,y9,y10] true)] [31] ja iZ))(hT:H[T]?=some (.cells [.d (.list 2 ax),.d stp,.d .nils] false))(hne:l≠T)(hHb:Hb=H.set l (.loop .busy none 64 [(2,.d .nilp),(3,.d (.int .i64 0)),(5,.ptr (.slot 5 0) 0),(6,.ptr (.slot 6 g) 0),(7,.ptr (.slot 7 g) 0),(21,v21),(22,v22),(23,v23),(30,v30)] [(1,0,.cells c1 true),(5,0,.cells [.ptr (.heap T) 0] true),(6,g,.cells [.d (.int .i64 k)] true),(7,g,.cells [.d sz,.d (.int .i64 tn),.d tx,.d (.list 2 [.agg [.int .i64 n0,x0],.agg [.int .i64 n1,x1]]),y5,y6,y7,y8,y9,y10] true)] [31] ja iZ))
 (e0:CK 133 [.ptr (.heap T) 0,.d (.agg [.int .i64 tn,tx]),.d at0] Hb (.d (.agg [.int .i64 pa0,.int .i64 pb0])) Hb 0)
 (e1:CK 133 [.ptr (.heap T) 0,.d (.agg [.int .i64 n0,x0]),.d at0] Hb (.d (.agg [.int .i64 pa1,.int .i64 pb1])) Hb 0)
 (e2:CK 133 [.ptr (.heap T) 0,.d (.agg [.int .i64 n1,x1]),.d at0] Hb (.d (.agg [.int .i64 pa2,.int .i64 pb2])) Hb 0)
 (ctx:D.isCell tx=true)(cat0:D.isCell at0=true)(cx0:D.isCell x0=true)(cx1:D.isCell x1=true)
 :∃w,ah K (.fn (.yield l) [] []) [.d at0] none H=some (.ret (.d (.bool true)),false,(H.set T (.cells [.d (.list 2 ax),.d stp,.sl (.heap H.length) 4 1 0 1] false)++[.vec 4 [.agg [.int .i64 k,.int .i64 0,at0,.list 2 [.agg [.int .i64 pa0,.int .i64 pb0],.agg [.int .i64 pa1,.int .i64 pb1],.agg [.int .i64 pa2,.int .i64 pb2]]]] false true]),w):=by
 subst hHb;have kat0:D.cells at0=[at0]:=jE cat0;simp only[D.cells]at kat0;simp only[D.isCell]at ctx cat0 cx0 cx1;have hll:l<H.length:=(gS.1 hl).1;have hTl:T<H.length:=(gS.1 hT).1;have hne':¬T=l:=fun h=>hne h.symm;have hl2:=hl;have hT2:=hT;rw[List.getElem?_eq_getElem hll]at hl2;rw[List.getElem?_eq_getElem hTl]at hT2;simp only[oI]at hl2 hT2;rw[bP];unfold gJ;rw[hl];simp[Hw,JC,yK,ru,rJ,rQ,sN,sD,rX,sK,af,zi,oL,insL,hl2,hT2,hne,hne',hll,hTl,w0,w1,w2,w3,kat0,List.getElem?_append_left,List.set_append_left,e0,e1,e2,ctx,cat0,cx0,cx1];exact JE hl hne
theorem ab8{H Hb:List O}{l T L g:Nat}{k tn pa0 pb0 pa1 pb1 pa2 pb2 n0 n1:Int}{sz tx stp at0 x0 x1:D}{v21 v22 v23 v30 y5 y6 y7 y8 y9 y10:V}{c1:List V}{es:List D}
 (hl:H[l]?=some (.loop .ready none 64 [(2,.d .nilp),(3,.d (.int .i64 0)),(5,.ptr (.slot 5 0) 0),(6,.ptr (.slot 6 g) 0),(7,.ptr (.slot 7 g) 0),(21,v21),(22,v22),(23,v23),(30,v30)] [(1,0,.cells c1 true),(5,0,.cells [.ptr (.heap T) 0] true),(6,g,.cells [.d (.int .i64 k)] true),(7,g,.cells [.d sz,.d (.int .i64 tn),.d tx,.d (.list 2 [.agg [.int .i64 n0,x0],.agg [.int .i64 n1,x1]]),y5,y6,y7,y8,y9,y10] true)] [31] ja iZ))(hT:H[T]?=some (.cells [.d (.list 2 ax),.d stp,.sl (.heap L) 4 es.length 0 es.length] false))(hne:l≠T)(hHb:Hb=H.set l (.loop .busy none 64 [(2,.d .nilp),(3,.d (.int .i64 0)),(5,.ptr (.slot 5 0) 0),(6,.ptr (.slot 6 g) 0),(7,.ptr (.slot 7 g) 0),(21,v21),(22,v22),(23,v23),(30,v30)] [(1,0,.cells c1 true),(5,0,.cells [.ptr (.heap T) 0] true),(6,g,.cells [.d (.int .i64 k)] true),(7,g,.cells [.d sz,.d (.int .i64 tn),.d tx,.d (.list 2 [.agg [.int .i64 n0,x0],.agg [.int .i64 n1,x1]]),y5,y6,y7,y8,y9,y10] true)] [31] ja iZ))
 (hL:H[L]?=some (.vec 4 es false true))(hne2:l≠L)(hne3:T≠L)(hes:es.length≤1000)
 (e0:CK 133 [.ptr (.heap T) 0,.d (.agg [.int .i64 tn,tx]),.d at0] Hb (.d (.agg [.int .i64 pa0,.int .i64 pb0])) Hb 0)
 (e1:CK 133 [.ptr (.heap T) 0,.d (.agg [.int .i64 n0,x0]),.d at0] Hb (.d (.agg [.int .i64 pa1,.int .i64 pb1])) Hb 0)
 (e2:CK 133 [.ptr (.heap T) 0,.d (.agg [.int .i64 n1,x1]),.d at0] Hb (.d (.agg [.int .i64 pa2,.int .i64 pb2])) Hb 0)
 (ctx:D.isCell tx=true)(cat0:D.isCell at0=true)(cx0:D.isCell x0=true)(cx1:D.isCell x1=true)
 :∃w,ah K (.fn (.yield l) [] []) [.d at0] none H=some (.ret (.d (.bool true)),false,((H.set L (.vec 4 (es++[.agg [.int .i64 k,.int .i64 es.length,at0,.list 2 [.agg [.int .i64 pa0,.int .i64 pb0],.agg [.int .i64 pa1,.int .i64 pb1],.agg [.int .i64 pa2,.int .i64 pb2]]]]) false true)).set T (.cells [.d (.list 2 ax),.d stp,.sl (.heap L) 4 (es.length+1) 0 (es.length+1)] false)),w):=by
 subst hHb;have kat0:D.cells at0=[at0]:=jE cat0;simp only[D.cells]at kat0;simp only[D.isCell]at ctx cat0 cx0 cx1;have hll:l<H.length:=(gS.1 hl).1;have hTl:T<H.length:=(gS.1 hT).1;have hne':¬T=l:=fun h=>hne h.symm;have hLl:L<H.length:=(gS.1 hL).1;have hne2':¬L=l:=fun h=>hne2 h.symm;have hne3':¬L=T:=fun h=>hne3 h.symm;have hg1:es.length+1≤4294967296:=by omega
 have hg2:(es.length+1)*64≤4294967296:=by omega
 have hl2:=hl;have hT2:=hT;rw[List.getElem?_eq_getElem hll]at hl2;rw[List.getElem?_eq_getElem hTl]at hT2;simp only[oI]at hl2 hT2;have hL2:=hL;rw[List.getElem?_eq_getElem hLl]at hL2;simp only[oI]at hL2;rw[bP];unfold gJ;rw[hl];simp[Hw,JC,yK,ru,rJ,rQ,sN,sD,rX,sK,af,zi,oL,insL,hl2,hT2,hne,hne',hll,hTl,w0,w1,w2,w3,kat0,List.getElem?_append_left,List.set_append_left,hL2,hne2,hne2',hne3,hne3',hLl,hg1,hg2,e0,e1,e2,ctx,cat0,cx0,cx1];exact yY hl hne hne2
end Mw
