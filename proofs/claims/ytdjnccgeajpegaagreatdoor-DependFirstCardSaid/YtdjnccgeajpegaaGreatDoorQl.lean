/- DependFirst's tied card holds; no condition beyond the card's own. -/
import Derived.Test.YtdjnccgeajpegaaGreatDoorQk
import Derived.Test.YtdjnccgeajpegaaGreatDoorXc
set_option linter.unusedVariables false
set_option linter.unusedSimpArgs false
set_option maxRecDepth 20000
set_option maxHeartbeats 8000000
namespace Mw
open Go Go.Proofs
def Jr(I:List (Nat×Stp×List Int))(q:Nat×Nat)(v:List Int):Prop:=∃x y,I[q.1]?=some x∧I[q.2]?=some y∧v=jr x.2.2 y.2.2
theorem Zf(B0 B1 B2 B3:Nat){tm:List (Nat×V)}{m:Mem}(h:look 31 tm=some (.fn (.func 138) [] [.ptr (.heap B0) 0,.ptr (.heap B1) 0,.ptr (.heap B2) 0,.ptr (.heap B3) 0])) :
  aj K 44 (.rangeFunc (.tmp 31) #[32] IU JM) (St.mk tm m [] none false none)=iQ (St.mk tm m [] none false none) m.hp.length (ah K (.fn (.func 138) [] [.ptr (.heap B0) 0,.ptr (.heap B1) 0,.ptr (.heap B2) 0,.ptr (.heap B3) 0]) [.fn (.yield m.hp.length) [] []] none (m.hp++[.loop .ready none 44 (vN m.ob tm) (uf m.ob) [32] IU JM])):=
 kV rfl (by simp[h,bH])
theorem s44{t:List Stp}(ht:dL t)(h3:t.length≤3)(hp:List O){s u kd:Nat}{ss su:Stp}(hs:t[s]?=some ss)(hu:t[u]?=some su)(hkd:kd=1∨kd=2∨kd=3) :
  (∃H' w,ah K (.fn (.func 44) [] []) [.d (dw t),.d (.int .i64 s),.d (.int .i64 u),.d (.int .i64 kd)] none hp=some (.ret (.tuple [.d .nils,.d (.int .i64 14)]),false,H',w))∨
  ∃H' w ds,ah K (.fn (.func 44) [] []) [.d (dw t),.d (.int .i64 s),.d (.int .i64 u),.d (.int .i64 kd)] none hp=some (.ret (.tuple [.d (bF ds),.d (.int .i64 0)]),false,H',w)∧
   (∃n m,jS kd s u (allI 0 t) n m)∧(∀n m,jS kd s u (allI 0 t) n m→Jr (allI 0 t) (n,m) ds)∧ds.length=min ss.ss.length su.ss.length:=by
 have hsl:=(gS.1 hs).1;have hul:=(gS.1 hu).1;obtain⟨H0,w0,T,L,e1,hT,hL,hTp,hpl,hkp⟩:=aoe ht h3 (hp++[.cells [.d .nils] false,.cells [.d (.int .i64 0)] false]) hsl hul hkd;have hTl:=(gS.1 hT).1;have hLl:=(gS.1 hL).1;have hpl2:(hp++[O.cells [.d .nils] false,O.cells [.d (.int .i64 0)] false]).length=hp.length+2:=by simp
 rw[hpl2]at hTp hpl hkp;have k0:H0[hp.length]?=some (.cells [.d .nils] false):=by rw[hkp _ (by omega)];simp
 have k1:H0[hp.length+1]?=some (.cells [.d (.int .i64 0)] false):=by rw[hkp _ (by omega)];simp
 have fs:=(ht.ok ss (List.mem_of_getElem? hs)).sz.few;let Ha:=H0++[.cells [.d .nils] false,.cells [.d (.bool false)] false];have hHa:Ha.length=H0.length+2:=by simp[Ha]
 have low:∀i,i<H0.length→Ha[i]?=H0[i]?:=fun i hi=>List.getElem?_append_left hi;have hTa:Ha[T]?=some (.cells [.d (.list 2 ax),.d (bC t),.sl (.heap L) 4 (encI 0 (allI 0 t)).length 0 (encI 0 (allI 0 t)).length] false):=by rw[low _ hTl];exact hT
 have hLa:Ha[L]?=some (.vec 4 (encI 0 (allI 0 t)) false true):=by rw[low _ hLl];exact hL
 have c0:Ha[H0.length]?=some (.cells [.d .nils] false):=by simp[Ha]
 have c1':Ha[H0.length+1]?=some (.cells [.d (.bool false)] false):=by simp[Ha]
 have hL0:L≠hp.length:=by rintro rfl;rw[k0]at hL;cases hL
 have hL1:L≠hp.length+1:=by rintro rfl;rw[k1]at hL;cases hL
 obtain⟨w1,e2⟩:=s69 T s u kd Ha;let Q:List (Nat×Nat)→Option Nat→List O→Prop:=fun d o J=>o=none∧(∃x,J[hp.length]?=some (.cells [x] false))∧(∃x,J[hp.length+1]?=some (.cells [x] false))∧
   ((d=[]∧J[H0.length]?=some (.cells [.d (bF [])] false)∧J[H0.length+1]?=some (.cells [.d (.bool false)] false))∨
    (d≠[]∧∃ds:List Int,ds.length=min ss.ss.length su.ss.length∧J[H0.length]?=some (.cells [.d (bF ds)] false)∧J[H0.length+1]?=some (.cells [.d (.bool true)] false)∧∀q∈d,Jr (allI 0 t) q ds))
 let Z:List (Nat×Nat)→List O→Prop:=fun d J=>J[hp.length]?=some (.cells [.d .nils] false)∧J[hp.length+1]?=some (.cells [.d (.int .i64 14)] false)∧J[Ha.length+4]?=some (gW .done (some .ret) hp.length H0.length Ha.length T [.list 2 ax,bC t]);obtain⟨H',w2,ps,e3,h⟩:=prs ht h3 (T:=T) (L:=L) (s:=s) (u:=u) (kd:=kd) (H:=Ha) (gW .ready none hp.length H0.length Ha.length T [.list 2 ax,bC t]) hTa hLa hkd (fun i=>i=hp.length∨i=hp.length+1∨i=H0.length∨i=H0.length+1) (by rintro i (rfl|rfl|rfl|rfl)<;>omega) (by omega) (by omega) Q Z
  ⟨rfl,⟨_,by rw[iY (by omega),low _ (by omega)];exact k0⟩,⟨_,by rw[iY (by omega),low _ (by omega)];exact k1⟩,.inl ⟨rfl,by rw[iY (by omega)];exact c0,by rw[iY (by omega)];exact c1'⟩⟩
  (fun d o J J' h g1 g=>by
   obtain⟨h0,⟨x0,h1⟩,⟨x1,h2⟩,h4⟩:=h;refine⟨h0,⟨x0,by rw[g _ (.inl (by omega))];exact h1⟩,⟨x1,by rw[g _ (.inl (by omega))];exact h2⟩,?_⟩;rw[g _ (.inl (by omega)),g _ (.inl (by omega))]
   exact h4)
  (fun d i J h=>by cases h.1)
  (fun d o J p h1 h2 hq hd hdq hdp=>by
   obtain⟨rfl,hx0,hx1,hc⟩:=hq;obtain⟨x,y,hx,hy,hnm,hxs,hyu,_⟩:=hdp;have hrec:J[Ha.length+4]?=some (gW .ready none hp.length H0.length Ha.length T [.list 2 ax,bC t]):=by rw[h1 _ (by omega) (by omega)];exact nN
   have hlen:(jr x.2.2 y.2.2).length=min ss.ss.length su.ss.length:=by obtain⟨xs,xt,xp⟩:=x;obtain⟨ys,yt,yp⟩:=y;obtain⟨_,a1,a2⟩:=iR.1 (List.mem_of_getElem? hx);obtain⟨_,b1,b2⟩:=iR.1 (List.mem_of_getElem? hy);simp only at hxs hyu;subst hxs hyu;simp only[Nat.sub_zero]at a1 b1;rw[hs]at a1;rw[hu]at b1;cases a1;cases b1;rw[rU,(gZ.1 a2).len,(gZ.1 b2).len]
   have hlen100:(jr x.2.2 y.2.2).length≤100:=by omega
   have hTJ:J[T]?=some (.cells [.d (.list 2 ax),.d (bC t),.sl (.heap L) 4 (encI 0 (allI 0 t)).length 0 (encI 0 (allI 0 t)).length] false):=by rw[h1 _ (by omega) (by omega),iY (by omega)];exact hTa
   have hLJ:J[L]?=some (.vec 4 (encI 0 (allI 0 t)) false true):=by rw[h1 _ (by omega) (by omega),iY (by omega)];exact hLa
   have e71:∀o,∃w,ah K (.fn (.func 71) [] []) [.ptr (.heap T) 0,.d (.agg [.int .i64 p.1,.int .i64 p.2])] none (J.set (Ha.length+4) o)=some (.ret (.d (bF (jr x.2.2 y.2.2))),false,J.set (Ha.length+4) o,w):=fun o=>
    aoK ht h3 (T:=T) (L:=L) (by rw[List.getElem?_set_ne (by omega)];exact hTJ) (by rw[List.getElem?_set_ne (by omega)];exact hLJ) hx hy
   have hof:Jr (allI 0 t) p (jr x.2.2 y.2.2):=⟨x,y,hx,hy,rfl⟩
   have hJl:H0.length+1<J.length:=by omega
   have going:∀(cs:List Int) (sm:Bool),J[H0.length]?=some (.cells [.d (bF cs)] false)→J[H0.length+1]?=some (.cells [.d (.bool sm)] false)→(sm=false∨cs=jr x.2.2 y.2.2)→(∀q∈d,Jr (allI 0 t) q (jr x.2.2 y.2.2))→
     ∃J' w,ah K (.fn (.yield (Ha.length+4)) [] []) [.d (.agg [.int .i64 (p.1:Nat),.int .i64 (p.2:Nat)])] none J=some (.ret (.d (.bool true)),false,J',w)∧
      Q (d++[p]) none J'∧(∀i,i<Ha.length+5→¬(i=hp.length∨i=hp.length+1∨i=H0.length∨i=H0.length+1)→J'[i]?=J[i]?)∧J.length≤J'.length∧∀i,Ha.length+5≤i→(none:Option Nat)≠some i→i<J.length→J'[i]?=J[i]?:=by
    intro cs sm g0 g1 hsm hall;obtain⟨w,e⟩:=axB (l:=Ha.length+4) (A:=hp.length) (C:=H0.length) (B:=Ha.length) (c1:=[.list 2 ax,bC t]) hrec (by omega) (by omega) g0 g1 hsm (by omega) hlen100 e71;refine⟨_,w,e,⟨rfl,?_,?_,.inr ⟨by simp,jr x.2.2 y.2.2,hlen,?_,?_,fun q hq=>?_⟩⟩,fun i hi hne=>?_,by simp,fun i hi _ _=>?_⟩
    ·obtain⟨z,hz⟩:=hx0;exact⟨z,by rw[List.getElem?_set_ne (by omega),List.getElem?_set_ne (by omega)];exact hz⟩
    ·obtain⟨z,hz⟩:=hx1;exact⟨z,by rw[List.getElem?_set_ne (by omega),List.getElem?_set_ne (by omega)];exact hz⟩
    ·rw[List.getElem?_set_ne (by omega),List.getElem?_set_self (by omega)]
    ·rw[List.getElem?_set_self (by simp;omega)]
    ·rcases List.mem_append.1 hq with hq|hq
     ·exact hall q hq
     ·rw[List.mem_singleton]at hq;subst hq;exact hof
    ·rw[List.getElem?_set_ne (by omega),List.getElem?_set_ne (by omega)]
    ·rw[List.getElem?_set_ne (by omega),List.getElem?_set_ne (by omega)]
   have go2:∀(cs:List Int) (sm:Bool),J[H0.length]?=some (.cells [.d (bF cs)] false)→J[H0.length+1]?=some (.cells [.d (.bool sm)] false)→(sm=false∨cs=jr x.2.2 y.2.2)→(∀q∈d,Jr (allI 0 t) q (jr x.2.2 y.2.2))→∃J' w bb,ah K (.fn (.yield (Ha.length+4)) [] []) [.d (.agg [.int .i64 (p.1:Nat),.int .i64 (p.2:Nat)])] none J=some (.ret (.d (.bool bb)),false,J',w)∧
    (bb=true→∃o',Q (d++[p]) o' J'∧(o'=none∨∃i,o'=some i∧J.length≤i)∧(∀i,i<Ha.length+5→¬(i=hp.length∨i=hp.length+1∨i=H0.length∨i=H0.length+1)→J'[i]?=J[i]?)∧J.length≤J'.length∧∀i,Ha.length+5≤i→(none:Option Nat)≠some i→i<J.length→J'[i]?=J[i]?)∧(bb=false→Z (d++[p]) J'):=fun cs sm a1 a2 a3 a4=>by
    obtain⟨J',w,e,b1,b2,b3,b4⟩:=going cs sm a1 a2 a3 a4;exact⟨J',w,true,e,fun _=>⟨none,b1,.inl rfl,b2,b3,b4⟩,fun h=>by cases h⟩
   rcases hc with ⟨rfl,g0,g1⟩|⟨hne,ds,hdl,g0,g1,hall⟩
   ·exact go2 [] false g0 g1 (.inl rfl) (by simp)
   ·by_cases hdd:ds=jr x.2.2 y.2.2
    ·subst hdd;exact go2 _ true g0 g1 (.inr rfl) hall
    ·obtain⟨w,e⟩:=auM (l:=Ha.length+4) (A:=hp.length) (C:=H0.length) (B:=Ha.length) (c1:=[.list 2 ax,bC t]) hrec (by omega) (by omega) hx0 hx1 g0 g1 (fun h=>hdd h.symm) (by omega) hlen100 e71;refine⟨_,w,false,e,(fun h=>by cases h),fun _=>⟨?_,?_,?_⟩⟩
     ·rw[List.getElem?_set_ne (by omega),List.getElem?_set_ne (by omega),List.getElem?_set_self (by omega)]
     ·rw[List.getElem?_set_ne (by omega),List.getElem?_set_self (by simp;omega)]
     ·rw[List.getElem?_set_self (by simp;omega)])
 have e:=k44 [] [] [.d (dw t),.d (.int .i64 s),.d (.int .i64 u),.d (.int .i64 kd)] none hp;have hne:¬H0.length+2+4=H0.length:=by omega
 have n1:¬H0.length+2+4=H0.length+1:=by omega
 have n2:¬H0.length+2+4=hp.length:=by omega
 have n3:¬H0.length+2+4=hp.length+1:=by omega
 simp only[Hr,gW,jL]at e3;simp only[hHa]at e2 e3;simp only[Ha,List.append_assoc,List.cons_append,List.nil_append]at e2 e3;simp only[dw]at e e1 ⊢;simp only[bC,List.map_cons,List.map_nil]at e3;have pick:∀xs:List V,(∃A B,xs=[A,B])∨True:=fun _=>.inr trivial;rcases h with ⟨g1,g2,⟨o,hQ⟩,g4⟩|⟨⟨z0,z1,z2⟩,g4⟩
 ·obtain⟨_,⟨x0,q0⟩,⟨x1,q1⟩,hc⟩:=hQ;have hl:H'[Ha.length+4]?=some (gW .ready none hp.length H0.length Ha.length T [.list 2 ax,bC t]):=by rw[g1 _ (by omega) (by omega)];exact nN
  have hll:=(gS.1 hl).1;have hl2:=(gS.1 hl).2;have q0l:=(gS.1 q0).1;have q02:=(gS.1 q0).2;have q1l:=(gS.1 q1).1;have q12:=(gS.1 q1).2;simp only[gW,jL]at hl hl2;simp only[hHa]at hl hl2 hll;simp only[bC,List.map_cons,List.map_nil]at hl hl2;rcases hc with ⟨rfl,c2,c3⟩|⟨hdn,ds,hdl,c2,c3,hall⟩
  ·have c2l:=(gS.1 c2).1;have c22:=(gS.1 c2).2;have c3l:=(gS.1 c3).1;have c32:=(gS.1 c3).2;left;simp[c44,V3,Wy,Xe,ZM,WM,Xi,Zu,agp,e1,e2,Zf (H0.length+2) (H0.length+2+2) (H0.length+2+3) (H0.length+2+1),vN,uf,Tm,Ux,e3,iQ,hl,hll,hl2,c2,c2l,c22,c3,c3l,c32,q0,q0l,q02,q1,q1l,q12,hne,n1,n2,n3]at e;exact⟨_,_,e⟩
  ·have c2l:=(gS.1 c2).1;have c22:=(gS.1 c2).2;have c3l:=(gS.1 c3).1;have c32:=(gS.1 c3).2;have ca:=uy ds;simp only[D.isCell]at ca;have hc1:D.cells (bF ds)=[bF ds]:=by cases ds<;>rfl
   simp only[D.cells]at hc1;right
   suffices hh:∃H2 w,ah K (.fn (.func 44) [] []) [.d (.agg [.list 2 ax,.list 10 (t.map encS)]),.d (.int .i64 s),.d (.int .i64 u),.d (.int .i64 kd)] none hp=some (.ret (.tuple [.d (bF ds),.d (.int .i64 0)]),false,H2,w) by obtain⟨H2,w,hh⟩:=hh;refine⟨_,w,ds,hh,?_,fun n m hd=>hall (n,m) ((g4 n m).2 hd),hdl⟩;obtain⟨q,hq⟩:=List.exists_mem_of_ne_nil ps hdn;exact⟨q.1,q.2,(g4 q.1 q.2).1 hq⟩
   simp[c44,V3,Wy,Xe,ZM,WM,Xi,Zu,afO,e1,e2,Zf (H0.length+2) (H0.length+2+2) (H0.length+2+3) (H0.length+2+1),vN,uf,Tm,Ux,e3,iQ,hl,hll,hl2,c2,c2l,c22,c3,c3l,c32,q0,q0l,q02,q1,q1l,q12,ca,hc1,hne,n1,n2,n3]at e;exact⟨_,_,e⟩
 ·have hll:=(gS.1 z2).1;have hl2:=(gS.1 z2).2;have z0l:=(gS.1 z0).1;have z02:=(gS.1 z0).2;have z1l:=(gS.1 z1).1;have z12:=(gS.1 z1).2;simp only[gW,jL]at z2 hl2;simp only[hHa]at z2 hl2 hll;simp only[bC,List.map_cons,List.map_nil]at z2 hl2;left;simp[c44,V3,Wy,Xe,ZM,WM,Xi,e1,e2,Zf (H0.length+2) (H0.length+2+2) (H0.length+2+3) (H0.length+2+1),vN,uf,Tm,Ux,e3,iQ,z2,hll,hl2,z0,z0l,z02,z1,z1l,z12,hne,n1,n2,n3]at e;exact⟨_,_,e⟩
def S28(p:List Int)(i:Nat)(tl:List (Nat×V))(H:List O)(w:Nat):St:=
 St.mk ([(0,.d (bF p)),(1,.d (bF p)),(5,.d (.int .i64 (i:Nat)))]++tl) (Mem.mk [] H w) [] none false none
theorem auI{p:List Int}{a:Int}{i:Nat}(hl:p.length≤100)(ha:p[i]?=some a)(H:List O)(w:Nat) :
  ∃w',aj K 28 Jp (S28 p i [] H w)=some (.normal,S28 p (i+1) [] H w'):=by
 have hlt:=(gS.1 ha).1;have hpD:=iL (cs:=p) (by rintro rfl;simp at hlt);have ia:=ints_at ha;obtain⟨_,ia2⟩:=gS.1 ia;have w1:wr .i64 ((i:Int)+1)=(i:Int)+1:=wI;have hlp:(ints p).length=p.length:=by simp
 generalize ints p=P at *;simp[S28,aeb,adm,apG,amY,hpD,hlp,hlt,ia,ia2,w1]
theorem auL{p:List Int}(H:List O)(w:Nat):aj K 28 Jp (S28 p p.length [] H w)=some (.exit 0,S28 p p.length [(14,.d (.bool false))] H w):=by
 have hlp:lenV (.d (bF p))=some p.length:=by cases p<;>simp[bF]
 simp only[lenV]at hlp;simp[S28,aeb,adm,hlp]
theorem aof{p:List Int}(hl:p.length≤100)(H:List O):∀(m i w:Nat),i+m=p.length→∃w',aj K 28 (.loop Jp) (S28 p i [] H w)=some (.exit 0,S28 p p.length [(14,.d (.bool false))] H w')
 |0,i,w,hi=>by
  have:i=p.length:=by omega
  subst this;exact⟨w,by rw[af,auL];rfl⟩
 |m+1,i,w,hi=>by obtain⟨w1,e1⟩:=auI hl (List.getElem?_eq_getElem (l:=p) (i:=i) (by omega)) H w;obtain⟨w2,e2⟩:=aof hl H m (i+1) w1 (by omega);exact⟨w2,by rw[af,e1];exact e2⟩
theorem s28{p:List Int}(hl:p.length≤100)(H:List O):∃w,ah K (.fn (.func 28) [] []) [.d (bF p),.d (bF p)] none H=some (.ret (.d (.bool true)),false,H,w):=by
 obtain⟨w,e⟩:=aof hl H p.length 0 0 (by omega);have z0:((0:Nat):Int)=0:=rfl;have hlp:lenV (.d (bF p))=some p.length:=by cases p<;>simp[bF]
 simp only[lenV]at hlp;have ee:=k28 [] [] [.d (bF p),.d (bF p)] none H;simp only[S28,z0,List.append_nil,List.cons_append,List.nil_append]at e;simp[c28,aoi,aoQ,alF,am3,hlp,e]at ee;exact⟨_,ee⟩
theorem s47{p:List Int}(hl:p.length≤100)(H:List O):∃w,ah K (.fn (.func 47) [] []) [.d (.list 1 [bF p]),.d (.list 1 [bF p])] none H=some (.ret (.d (.bool true)),false,H,w):=by
 obtain⟨w1,e⟩:=s28 hl H;have hc1:D.cells (bF p)=[bF p]:=by cases p<;>rfl
 have hc:=uy p;simp only[D.isCell]at hc;simp only[D.cells]at hc1;have w0:wr .i64 1=1:=wI;have ee:=k47 [] [] [.d (.list 1 [bF p]),.d (.list 1 [bF p])] none H;simp[c47,apu,ak8,amq,alO,af,an3,ami,aoO,amB,hc1,hc,e,w0]at ee;exact⟨_,ee⟩
def S49(p q:List Int)(i:Nat)(tl:List (Nat×V))(H:List O)(w:Nat):St:=
 St.mk ([(0,.d (bF p)),(1,.d (bF q)),(5,.d (.int .i64 (i:Nat)))]++tl) (Mem.mk [] H w) [] none false none
theorem asY{p q:List Int}{a b:Int}{i:Nat}(hl:p.length≤100)(ha:p[i]?=some a)(hb:q[i]?=some b)(H:List O)(w:Nat) :
  ∃w',aj K 49 Rq (S49 p q i [] H w)=if a=b then some (.normal,S49 p q (i+1) [] H w')else some (.ret,St.mk [(4,.d (.bool (decide (a<b))))] (Mem.mk [] H w') [] none false none):=by
 have hlt:=(gS.1 ha).1;have hlt2:=(gS.1 hb).1;have hpD:=iL (cs:=p) (by rintro rfl;simp at hlt);have hqD:=iL (cs:=q) (by rintro rfl;simp at hlt2);have ia:=ints_at ha;have ib:=ints_at hb;obtain⟨_,ia2⟩:=gS.1 ia;obtain⟨_,ib2⟩:=gS.1 ib;have w1:wr .i64 ((i:Int)+1)=(i:Int)+1:=wI;have hlp:(ints p).length=p.length:=by simp
 have hlq:(ints q).length=q.length:=by simp
 generalize ints p=P at *;generalize ints q=Q at *;by_cases h:a=b
 ·simp[S49,adA,adD,aea,adG,hpD,hqD,hlp,hlq,hlt,hlt2,ia,ib,ia2,ib2,h,w1]
 ·simp[S49,adA,adD,aea,adG,anP,hpD,hqD,hlp,hlq,hlt,hlt2,ia,ib,ia2,ib2,h,w1]
theorem als{p q:List Int}(hl:p.length≤100)(hpq:p.length=q.length)(H:List O) :
  ∀(m i w:Nat),i+m=p.length→cmpL (p.drop i) (q.drop i)<0→
   ∃w',aj K 49 (.loop Rq) (S49 p q i [] H w)=some (.ret,St.mk [(4,.d (.bool true))] (Mem.mk [] H w') [] none false none)
 |0,i,w,hi,h=>by
  have hie:i=p.length:=by omega
  subst hie;rw[List.drop_length,hpq,List.drop_length]at h;simp[cmpL]at h
 | m+1,i,w,hi,h=>by
  have h1:i<p.length:=by omega
  have h2:i<q.length:=by omega
  obtain⟨w1,e1⟩:=asY hl (List.getElem?_eq_getElem h1) (List.getElem?_eq_getElem h2) H w;rw[List.drop_eq_getElem_cons h1,List.drop_eq_getElem_cons h2]at h;simp only[cmpL]at h;by_cases hc:p[i]=q[i]
  ·rw[if_pos hc]at e1;rw[if_pos (iy.2 hc)]at h;obtain⟨w2,e2⟩:=als hl hpq H m (i+1) w1 (by omega) h;exact⟨w2,by rw[af,e1];exact e2⟩
  ·rw[if_neg hc]at e1;rw[if_neg (fun e=>hc (iy.1 e))]at h;have hlt:=mJ.1 h;rw[decide_eq_true hlt]at e1;exact⟨w1,by rw[af,e1];rfl⟩
theorem s49{p q:List Int}(hl:p.length≤100)(hpq:p.length=q.length)(h:cmpL p q<0)(H:List O):∃w,ah K (.fn (.func 49) [] []) [.d (bF p),.d (bF q)] none H=some (.ret (.d (.bool true)),false,H,w):=by obtain⟨w,e⟩:=als hl hpq H p.length 0 0 (by omega) (by simpa using h);have z0:((0:Nat):Int)=0:=rfl;have ee:=k49 [] [] [.d (bF p),.d (bF q)] none H;simp only[S49,z0,List.append_nil,List.cons_append,List.nil_append]at e;simp[c49,akP,am1,e]at ee;exact⟨_,ee⟩
def R50(v:V)(o:List (Nat×Nat×O))(ls:List Int):Prop:=
 (ls=[]∧v=.d .nils∧o=[])∨(ls≠[]∧∃g,v=.sl (.slot 19 g) 1 ls.length 0 ls.length∧o=[(19,g,.vec 1 (ints ls) false true)])
def Hu(ds:List Int)(v:V)(i:Nat)(tl:List (Nat×V))(o:List (Nat×Nat×O))(H:List O)(w:Nat):St:=
 St.mk ([(0,.d (bF ds)),(3,v),(4,.d (.int .i64 (i:Nat)))]++tl) (Mem.mk o H w) [] none false none
theorem asI{ds ls:List Int}{z:Int}{i:Nat}{v:V}{o:List (Nat×Nat×O)}(hd:ds.length≤100)(hz:ds[i]?=some z)(hv:R50 v o ls)(hls:ls.length≤100)(H:List O)(w:Nat) :
  ∃v' o' w',aj K 50 CG (Hu ds v i [] o H w)=some (.normal,Hu ds v' (i+1) [] o' H w')∧R50 v' o' (ls++[tJ z]):=by
 have hlt:=(gS.1 hz).1;have hdD:=iL (cs:=ds) (by rintro rfl;simp at hlt);have iz:=ints_at hz;obtain⟨_,iz2⟩:=gS.1 iz;have hil:(ints ds).length=ds.length:=by simp
 have w1:wr .i64 ((i:Int)+1)=(i:Int)+1:=wI;generalize ints ds=N at *;have key:∀(s:Int),(s=tJ z)→((z<0∧s=-1)∨(z=0∧s=0)∨(0<z∧s=1)):=by
  rintro s rfl;unfold tJ;split
  ·left;omega
  ·split<;>omega
 generalize hs:tJ z=s at *;have hk:=key s rfl;rcases hv with ⟨rfl,rfl,rfl⟩|⟨hne,g,rfl,rfl⟩
 ·suffices hh:∃w',aj K 50 CG (Hu ds (.d .nils) i [] [] H w)=some (.normal,Hu ds (.sl (.slot 19 0) 1 1 0 1) (i+1) [] [(19,0,.vec 1 (ints [s]) false true)] H w') by obtain⟨w',hh⟩:=hh;exact⟨_,_,w',hh,.inr ⟨by simp,0,by simp,by simp⟩⟩
  rcases hk with ⟨h1,rfl⟩|⟨rfl,rfl⟩|⟨h1,rfl⟩
  ·have h2:z<1:=by omega
   have h3:¬(z > -1):=by omega
   have h4:¬(-1<z):=by omega
   simp[Hu,AA,BL,Ew,Ey,hdD,hil,hlt,iz,iz2,w1,h1,h2,h3,h4]
  ·simp[Hu,AA,BL,Ew,Ey,hdD,hil,hlt,iz,iz2,w1]
  ·have h2:¬(z<1):=by omega
   simp[Hu,AA,BL,Ew,Ey,hdD,hil,hlt,iz,iz2,w1,h1,h2]
 ·have k1:(ls.length+1)*8≤4294967296:=by omega
  have k2:ls.length+1≤4294967296:=by omega
  suffices hh:∃w',aj K 50 CG (Hu ds (.sl (.slot 19 g) 1 ls.length 0 ls.length) i [] [(19,g,.vec 1 (ints ls) false true)] H w)=some (.normal,Hu ds (.sl (.slot 19 g) 1 (ls.length+1) 0 (ls.length+1)) (i+1) [] [(19,g,.vec 1 (ints (ls++[s])) false true)] H w') by obtain⟨w',hh⟩:=hh;exact⟨_,_,w',hh,.inr ⟨by simp,g,by simp,by simp⟩⟩
  have hap:ints (ls++[s])=ints ls++[.int .i64 s]:=by simp[ints]
  have hin:(ints ls).length=ls.length:=by simp
  rw[hap];generalize ints ls=J at *;rcases hk with ⟨h1,rfl⟩|⟨rfl,rfl⟩|⟨h1,rfl⟩
  ·have h2:z<1:=by omega
   have h3:¬(z > -1):=by omega
   have h4:¬(-1<z):=by omega
   simp[Hu,AA,BL,Ew,Ey,hdD,hil,hlt,iz,iz2,w1,k1,k2,hin,h1,h2,h3,h4]
  ·simp[Hu,AA,BL,Ew,Ey,hdD,hil,hlt,iz,iz2,w1,k1,k2,hin]
  ·have h2:¬(z<1):=by omega
   simp[Hu,AA,BL,Ew,Ey,hdD,hil,hlt,iz,iz2,w1,k1,k2,hin,h1,h2]
theorem asE{ds:List Int}{v:V}{o:List (Nat×Nat×O)}(H:List O)(w:Nat):aj K 50 CG (Hu ds v ds.length [] o H w)=some (.exit 0,Hu ds v ds.length [(8,.d (.bool false))] o H w):=by
 have hl:lenV (.d (bF ds))=some ds.length:=by cases ds<;>simp[bF]
 simp only[lenV]at hl;simp[Hu,AA,BL,hl]
theorem akI{ds:List Int}(hd:ds.length≤100)(H:List O) :
  ∀(m i:Nat) (v:V) (o:List (Nat×Nat×O)) (w:Nat),i+m=ds.length→R50 v o ((ds.take i).map tJ)→
   ∃v' o' w',aj K 50 (.loop CG) (Hu ds v i [] o H w)=some (.exit 0,Hu ds v' ds.length [(8,.d (.bool false))] o' H w')∧R50 v' o' (ds.map tJ)
 |0,i,v,o,w,hi,hv=>by
  have:i=ds.length:=by omega
  subst this;rw[List.take_length]at hv;exact⟨v,o,w,by rw[af,asE];rfl,hv⟩
 | m+1,i,v,o,w,hi,hv=>by
  have hz:=List.getElem?_eq_getElem (l:=ds) (i:=i) (by omega);obtain⟨v1,o1,w1,e1,hv1⟩:=asI hd hz hv (by simp;omega) H w;have ht:(ds.take i).map tJ++[tJ ds[i]]=(ds.take (i+1)).map tJ:=by rw[List.take_add_one,hz,List.map_append];rfl
  rw[ht]at hv1;obtain⟨v2,o2,w2,e2,hv2⟩:=akI hd H m (i+1) v1 o1 w1 (by omega) hv1;exact⟨v2,o2,w2,by rw[af,e1];exact e2,hv2⟩
theorem s50{ds:List Int}(hd:ds.length≤100)(H:List O):∃w,ah K (.fn (.func 50) [] []) [.d (bF ds)] none H=some (.ret (.d (bF (ds.map tJ))),false,H,w):=by
 obtain⟨v,o,w,e,hv⟩:=akI hd H ds.length 0 (.d .nils) [] 0 (by omega) (.inl ⟨by simp,rfl,rfl⟩);have z0:((0:Nat):Int)=0:=rfl;have ee:=k50 [] [] [.d (bF ds)] none H;simp only[Hu,z0,List.append_nil,List.cons_append,List.nil_append]at e;rcases hv with ⟨h,rfl,rfl⟩|⟨hne,g,rfl,rfl⟩
 ·rw[h];simp[c50,adb,adT,adK,adO,e]at ee;exact⟨_,by simpa[bF]using ee⟩
 ·rw[iL hne];have hin:(ints (ds.map tJ)).length=(ds.map tJ).length:=by simp
  have htk:(ints (ds.map tJ)).take (ds.map tJ).length=ints (ds.map tJ):=List.take_of_length_le (by simp);generalize hL:(ds.map tJ)=Ls at *;generalize ints Ls=J at *;simp[c50,adb,adT,adK,adO,e,hin,htk]at ee;exact⟨_,ee⟩
def S8(c1:List D)(s u kd:Nat)(a c e:Int)(vs:List (List Int))(dv:D)(e4:Int)(N k:Nat)(tl:List (Nat×V))(H:List O)(w:Nat):St:=
 St.mk ([(4,.ptr (.slot 4 0) 0),(5,.d (.int .i64 (s:Nat))),(6,.d (.int .i64 (u:Nat))),(7,.d (.int .i64 (kd:Nat))),(10,.d (.int .i64 a)),(11,.d (.int .i64 c)),(12,.d (.int .i64 e)),(13,.d (E8 vs)),(15,.d dv),(16,.d (.int .i64 e4)),(17,.d (.int .i64 (N:Nat))),(18,.d (.int .i64 (k:Nat)))]++tl) (Mem.mk [(4,0,.cells (c1.map .d) false)] H w) [] none false none
def I8(c1:List D)(s u kd:Nat)(a c e:Int)(vs:List (List Int))(dv:D)(e4:Int)(N k:Nat)(f:Int)(j:Nat)(tl:List (Nat×V))(H:List O)(w:Nat):St:=
 St.mk ([(4,.ptr (.slot 4 0) 0),(5,.d (.int .i64 (s:Nat))),(6,.d (.int .i64 (u:Nat))),(7,.d (.int .i64 (kd:Nat))),(10,.d (.int .i64 a)),(11,.d (.int .i64 c)),(12,.d (.int .i64 e)),(13,.d (E8 vs)),(15,.d dv),(16,.d (.int .i64 e4)),(17,.d (.int .i64 (N:Nat))),(18,.d (.int .i64 (k:Nat))),(19,.d (.int .i64 f)),(20,.d (.int .i64 (j:Nat)))]++tl) (Mem.mk [(4,0,.cells (c1.map .d) false)] H w) [] none false none
section
variable{c1:List D}{s u kd:Nat}{a c e:Int}{vs:List (List Int)}{dv:D}{e4:Int}{N k:Nat}{H:List O}
theorem Zh(h:vs≠[]):E8 vs=.list 1 (sZ vs):=by
 cases vs with
 |nil=>exact absurd rfl h|cons _ _=>rfl
theorem VI(vs:List (List Int)):lenV (.d (E8 vs))=some vs.length:=by
 cases vs with
 |nil=>simp[E8]|cons _ _=>simp[E8,sZ]
theorem alG{v:List Int}{z:Int}(hv:vs[k]?=some v){j:Nat}(hz:v[j]?=some z)(h1:-1≤z)(h2:z≤1)(hN:v.length=N)(hN2:N≤100)(f:Int)(w:Nat) :
  ∃w',aj K 8 Py (I8 c1 s u kd a c e vs dv e4 N k f j [] H w)=some (.normal,I8 c1 s u kd a c e vs dv e4 N k (if f=0 then z else f) (j+1) [] H w'):=by
 have hlt:=(gS.1 hz).1;have hkl:=(gS.1 hv).1;have hvD:=iL (cs:=v) (by rintro rfl;simp at hlt);have hVs:=Zh (vs:=vs) (by rintro rfl;simp at hkl);have iz:=ints_at hz;obtain⟨_,iz2⟩:=gS.1 iz;have ik:(sZ vs)[k]?=some (.list 1 (ints v)):=by rw[←hvD];simp[sZ,hv]
 obtain⟨ikl,ik2⟩:=gS.1 ik;have hlv:(ints v).length=v.length:=by simp
 have w1:wr .i64 ((j:Int)+1)=(j:Int)+1:=wI;have n1:¬(z < -1):=by omega
 have n2:¬(1<z):=by omega
 have hjN:j<N:=by omega
 have n1d:decide (z < -1)=false:=by simpa using n1
 have n2d:decide (1<z)=false:=by simpa using n2
 rw[hN]at hlt;generalize sZ vs=M at *;generalize ints v=L at *;by_cases hf:f=0
 ·subst hf;simp[I8,ag0,Yp,aed,ac9,ad3,aj8,hVs,ik,ikl,ik2,iz,iz2,hlv,hN,hlt,n1,n2,n1d,n2d,w1]
 ·simp[I8,ag0,Yp,aed,ac9,ad3,hVs,ik,ikl,ik2,iz,iz2,hlv,hN,hlt,n1,n2,n1d,n2d,w1,hf]
theorem anB{f:Int}(w:Nat):aj K 8 Py (I8 c1 s u kd a c e vs dv e4 N k f N [] H w)=some (.exit 2,I8 c1 s u kd a c e vs dv e4 N k f N [(167,.d (.bool false))] H w):=by simp[I8,ag0,Yp]
theorem WB{v:List Int}(hv:vs[k]?=some v)(hS:Sg N v)(hN2:N≤100) :
  ∀(n j:Nat) (f:Int) (w:Nat),j+n=N→∃w',aj K 8 (.loop Py) (I8 c1 s u kd a c e vs dv e4 N k f j [] H w)=some (.exit 2,I8 c1 s u kd a c e vs dv e4 N k (if f=0 then LM (v.drop j)else f) N [(167,.d (.bool false))] H w')
 | 0,j,f,w,hj=>by
  have:j=N:=by omega
  subst this;refine⟨w,?_⟩;rw[af,anB];have hd:v.drop j=[]:=by rw[←hS.1];simp
  have:(if f=0 then LM (v.drop j)else f)=f:=by
   rw[hd];split
   ·rename_i h;rw[h];rfl
   ·rfl
  rw[this];rfl
 | n+1,j,f,w,hj=>by
  have hjl:j<v.length:=by rw[hS.1];omega
  have hz:=List.getElem?_eq_getElem hjl;have hb:=hS.2 _ (List.mem_of_getElem? hz);obtain⟨w1,e1⟩:=alG (c1:=c1) (s:=s) (u:=u) (kd:=kd) (a:=a) (c:=c) (e:=e) (dv:=dv) (e4:=e4) (H:=H) hv hz hb.1 hb.2 hS.1 hN2 f w;obtain⟨w2,e2⟩:=WB hv hS hN2 n (j+1) (if f=0 then v[j]else f) w1 (by omega);refine⟨w2,?_⟩;rw[af,e1];have hd:(if(if f=0 then v[j]else f)=0 then LM (v.drop (j+1))else(if f=0 then v[j]else f))=(if f=0 then LM (v.drop j)else f):=by
   rw[List.drop_eq_getElem_cons hjl];by_cases hf:f=0
   ·simp only[hf,if_true,LM]
   ·simp only[hf,if_false]
  rw[hd]at e2;exact e2
theorem alN(hA:Asc vs)(hS:∀v∈vs,Sg N v)(hN:N≤2)(hk:k<vs.length)(hf:s=u→∀v∈vs,LM v=1)(w:Nat) :
  ∃w',aj K 8 UB (S8 c1 s u kd a c e vs dv e4 N k [] H w)=some (.normal,S8 c1 s u kd a c e vs dv e4 N (k+1) [] H w'):=by
 have hv:=List.getElem?_eq_getElem hk;generalize hvk:vs[k]=v at hv;have hvm:=List.mem_of_getElem? hv;have hSv:=hS v hvm;have h9:=hA.few hN hS;have hVs:=Zh (vs:=vs) (by rintro rfl;simp at hk);have l1:∃f:Nat→Nat,∀w,aj K 8 (.loop Py) (I8 c1 s u kd a c e vs dv e4 N k 0 0 [] H w)=some (.exit 2,I8 c1 s u kd a c e vs dv e4 N k (LM v) N [(167,.d (.bool false))] H (f w)):=
  ⟨fun w=>(WB (c1:=c1) (s:=s) (u:=u) (kd:=kd) (a:=a) (c:=c) (e:=e) (dv:=dv) (e4:=e4) (H:=H) hv hSv (by omega) N 0 0 w (by omega)).choose,fun w=>(WB (c1:=c1) (s:=s) (u:=u) (kd:=kd) (a:=a) (c:=c) (e:=e) (dv:=dv) (e4:=e4) (H:=H) hv hSv (by omega) N 0 0 w (by omega)).choose_spec⟩
 obtain⟨f1,l1⟩:=l1;have ik:(sZ vs)[k]?=some (bF v):=by simp[sZ,hv]
 obtain⟨ikl,ik2⟩:=gS.1 ik;have w1:wr .i64 ((k:Int)+1)=(k:Int)+1:=wI;have ca:=uy v;simp only[D.isCell]at ca;have hc1:D.cells (bF v)=[bF v]:=by cases v<;>rfl
 simp only[D.cells]at hc1;have hlv:lenV (.d (bF v))=some v.length:=by cases v<;>simp[bF]
 have hlV:=VI vs;simp only[lenV]at hlv hlV;have hvl:=hSv.1;have hfv:s=u→LM v=1:=fun h=>hf h v hvm;have z0:((0:Nat):Int)=0:=rfl;have w01:wr .i64 1=1:=wI;simp only[I8,hVs,z0,List.append_nil,List.cons_append,List.nil_append]at l1;rw[hVs]at hlV
 match k,hk with
 | 0,hk =>
  simp only[z0]at l1;generalize sZ vs=M at *;by_cases hsu:s=u
  ·have hf1:=hfv hsu;subst hsu;simp[S8,Vw,JR,QR,Sj,Rx,Tc,SV,hVs,hlV,ik,ikl,ik2,ca,hc1,hlv,hvl,l1,w1,w01,hf1,hk]
  ·have hsu2:¬((s:Int)=u):=by omega
   simp[S8,Vw,JR,QR,Sj,Rx,Tc,SV,hVs,hlV,ik,ikl,ik2,ca,hc1,hlv,hvl,l1,w1,w01,hsu,hsu2,hk]
 | k+1,hk =>
  have hq:=List.getElem?_eq_getElem (l:=vs) (i:=k) (by omega);generalize hqk:vs[k]=q at hq;have hSq:=hS q (List.mem_of_getElem? hq);have hlt:=hA k q v hq hv;obtain⟨w4,e49⟩:=s49 (p:=q) (q:=v) (by rw[hSq.1];omega) (by rw[hSq.1,hvl]) hlt H;have jk:(sZ vs)[k]?=some (bF q):=by simp[sZ,hq]
  obtain⟨jkl,jk2⟩:=gS.1 jk;have cq:=uy q;simp only[D.isCell]at cq;have hcq1:D.cells (bF q)=[bF q]:=by cases q<;>rfl
  simp only[D.cells]at hcq1;have kc:((k+1:Nat):Int)=(k:Int)+1:=by omega
  have kc2:((k+1+1:Nat):Int)=(k:Int)+1+1:=by omega
  obtain⟨K0,hK0⟩:∃K0:Int,K0=(k:Int):=⟨_,rfl⟩
  obtain⟨K1,hK1⟩:∃K1:Int,K1=(k:Int)+1:=⟨_,rfl⟩
  obtain⟨K2,hK2⟩:∃K2:Int,K2=K1+1:=⟨_,rfl⟩
  have w0:wr .i64 (K1-1)=K0:=by rw[wI];omega
  have w3:wr .i64 (K1+1)=K2:=by rw[wI];omega
  have t0:K0.toNat=k:=by omega
  have t1:K1.toNat=k+1:=by omega
  have p0:0≤K0:=by omega
  have p1:0≤K1:=by omega
  have hpos:0<K1:=by omega
  have hk2:K1<vs.length:=by omega
  simp only[kc,←hK1]at l1;simp only[S8,kc2,←hK2,kc,←hK1];generalize sZ vs=M at *;clear hK0 hK1 hK2 kc kc2;by_cases hsu:s=u
  ·have hf1:=hfv hsu;subst hsu;simp[Vw,JR,QR,Sj,Rx,Tc,SV,hVs,hlV,ik,ikl,ik2,ca,hc1,hlv,hvl,l1,w01,hf1,hk,hk2,jk,jkl,jk2,cq,hcq1,w0,w3,hpos,t0,t1,p0,p1,e49]
  ·have hsu2:¬((s:Int)=u):=by omega
   simp[Vw,JR,QR,Sj,Rx,Tc,SV,hVs,hlV,ik,ikl,ik2,ca,hc1,hlv,hvl,l1,w01,hsu,hsu2,hk,hk2,jk,jkl,jk2,cq,hcq1,w0,w3,hpos,t0,t1,p0,p1,e49]
theorem aoZ(w:Nat):aj K 8 UB (S8 c1 s u kd a c e vs dv e4 N vs.length [] H w)=some (.exit 0,S8 c1 s u kd a c e vs dv e4 N vs.length [(138,.d (.bool false))] H w):=by have hlV:=VI vs;simp only[lenV]at hlV;simp[S8,Vw,JR,hlV]
theorem adS(hA:Asc vs)(hS:∀v∈vs,Sg N v)(hN:N≤2)(hf:s=u→∀v∈vs,LM v=1) :
  ∀(n k w:Nat),k+n=vs.length→∃w',aj K 8 (.loop UB) (S8 c1 s u kd a c e vs dv e4 N k [] H w)=some (.exit 0,S8 c1 s u kd a c e vs dv e4 N vs.length [(138,.d (.bool false))] H w')
 |0,k,w,hk=>by
  have:k=vs.length:=by omega
  subst this;exact⟨w,by rw[af,aoZ];rfl⟩
 |n+1,k,w,hk=>by obtain⟨w1,e1⟩:=alN (c1:=c1) (kd:=kd) (a:=a) (c:=c) (e:=e) (dv:=dv) (e4:=e4) (H:=H) (k:=k) hA hS hN (by omega) hf w;obtain⟨w2,e2⟩:=adS hA hS hN hf n (k+1) w1 (by omega);exact⟨w2,by rw[af,e1];exact e2⟩
end
end Mw
