/- DependFirst's tied card holds; no condition beyond the card's own. -/
import Derived.Test.YtdjnccgeajpegaaGreatDoorQi
import Derived.Test.YtdjnccgeajpegaaGreatDoorXc
set_option linter.unusedVariables false
set_option linter.unusedSimpArgs false
set_option maxRecDepth 10000
set_option maxHeartbeats 4000000
namespace Mw
open Go Go.Proofs
def Hr(T s u kd:Nat)(rec:O)(H:List O):List O:=H++[.cells [.ptr (.heap T) 0] false,.cells [.d (.int .i64 s)] false,.cells [.d (.int .i64 u)] false,.cells [.d (.int .i64 kd)] false,rec]
theorem iY{T s u kd:Nat}{rec:O}{H:List O}{i:Nat}(h:i<H.length):(Hr T s u kd rec H)[i]?=H[i]?:=List.getElem?_append_left h
theorem aar{T s u kd:Nat}{rec:O}{H:List O}:(Hr T s u kd rec H).length=H.length+5:=by simp[Hr]
theorem nN{T s u kd:Nat}{rec:O}{H:List O}:(Hr T s u kd rec H)[H.length+4]?=some rec:=by simp[Hr]
theorem prs{t:List Stp}(ht:dL t)(h3:t.length≤3){T L s u kd:Nat}{H:List O}(rec:O)
  (hT:H[T]?=some (.cells [.d (.list 2 ax),.d (bC t),.sl (.heap L) 4 (encI 0 (allI 0 t)).length 0 (encI 0 (allI 0 t)).length] false))(hL:H[L]?=some (.vec 4 (encI 0 (allI 0 t)) false true))
  (hkd:kd=1∨kd=2∨kd=3)(W:Nat→Prop)(hW:∀i,W i→i<H.length)(hWT:¬W T)(hWL:¬W L)(Q:List (Nat×Nat)→Option Nat→List O→Prop)(Z:List (Nat×Nat)→List O→Prop)
  (hQ0:Q [] none (Hr T s u kd rec H))(hQm:∀d o J J',Q d o J→J.length≤J'.length→(∀i,i<H.length+5∨o=some i→J'[i]?=J[i]?)→Q d o J')(hQo:∀d i J,Q d (some i) J→i<J.length)
  (go:∀ d o J p,(∀ i,i < H.length+5→¬ W i→J[i]?=(Hr T s u kd rec H)[i]?)→H.length+5≤J.length→Q d o J→d.length < 90000→(∀ q∈d,jS kd s u (allI 0 t) q.1 q.2)→jS kd s u (allI 0 t) p.1 p.2 →
   ∃J' w bb,ah K (.fn (.yield (H.length+4)) [] []) [.d (.agg [.int .i64 (p.1:Nat),.int .i64 (p.2:Nat)])] none J=some (.ret (.d (.bool bb)),false,J',w)∧
    (bb=true→∃o',Q (d++[p]) o' J'∧(o'=o∨∃i,o'=some i∧J.length≤i)∧(∀i,i<H.length+5→¬W i→J'[i]?=J[i]?)∧J.length≤J'.length∧∀i,H.length+5≤i→o≠some i→i<J.length→J'[i]?=J[i]?)∧(bb=false→Z (d++[p]) J')):
  ∃ H' w ps,ah K (.fn (.func 138) [] [.ptr (.heap H.length) 0,.ptr (.heap (H.length+2)) 0,.ptr (.heap (H.length+3)) 0,.ptr (.heap (H.length+1)) 0]) [.fn (.yield (H.length+4)) [] []] none (Hr T s u kd rec H)=some (.ret (.tuple []),false,H',w) ∧
   (((∀i,i<H.length+5→¬W i→H'[i]?=(Hr T s u kd rec H)[i]?)∧H.length+5≤H'.length∧(∃o,Q ps o H')∧∀a c,(a,c)∈ps↔jS kd s u (allI 0 t) a c)∨
    (Z ps H'∧∀q∈ps,jS kd s u (allI 0 t) q.1 q.2)):=by
 have hTl:=(gS.1 hT).1;have hLl:=(gS.1 hL).1;have nw:∀i,H.length≤i→¬W i:=fun i hi h=>by have:=hW i h;omega
 let Inv:List (Nat×Nat)→(Nat→Prop)→List O→Prop:=fun d Pr J=>∃o:Option Nat,(Pr=fun i=>i<H.length+5∨o=some i)∧(∀i,i<H.length+5→¬W i→J[i]?=(Hr T s u kd rec H)[i]?)∧H.length+5≤J.length∧Q d o J;have R:oD (H.length+4) (H.length+2) (H.length+3) (H.length+1) L s u kd (allI 0 t) Inv Z:=by
  refine⟨?_,?_,?_,?_,?_,?_,?_⟩
  ·rintro d Pr J ⟨o,hP,h1,h2,h4⟩;exact⟨false,by rw[h1 _ (by omega) (nw _ (by omega))];simp[Hr]⟩
  ·rintro d Pr J ⟨o,hP,h1,h2,h4⟩;exact⟨false,by rw[h1 _ (by omega) (nw _ (by omega))];simp[Hr]⟩
  ·rintro d Pr J ⟨o,hP,h1,h2,h4⟩;exact⟨false,by rw[h1 _ (by omega) (nw _ (by omega))];simp[Hr]⟩
  ·rintro d Pr J ⟨o,hP,h1,h2,h4⟩;rw[h1 _ (by omega) hWL,iY hLl];exact hL
  ·rintro d Pr J ⟨o,rfl,h1,h2,h4⟩ i hi;rcases hi with hi|hi
   ·omega
   ·subst hi;exact hQo _ _ _ h4
  ·rintro d Pr J J' ⟨o,rfl,h1,h2,h4⟩ g;exact⟨o,rfl,fun i hi hne=>by rw[g.2 i (.inl hi),h1 i hi hne],by have:=g.1;omega,hQm d o J J' h4 g.1 g.2⟩
  ·rintro d Pr J p ⟨o,rfl,k1,k2,k4⟩ hd hq hp;obtain⟨J',w,bb,e,h1,h2⟩:=go d o J p k1 k2 k4 hd hq hp;refine⟨J',w,bb,e,fun hb=>?_,h2⟩;obtain⟨o',g1,g0,g2,g3,g4⟩:=h1 hb;refine⟨fun i=>i<H.length+5∨o'=some i,⟨o',rfl,fun i hi hne=>by rw[g2 i hi hne,k1 i hi hne],by omega,g1⟩,fun i hi=>?_,g3,fun i hi hl=>?_⟩
   ·rcases hi with hi|hi
    ·exact .inl (.inl hi)
    ·rcases g0 with g0|⟨j,g0,g5⟩
     ·exact .inl (.inr (by rw[←g0];exact hi))
     ·rw[g0]at hi;cases hi;exact .inr g5
   ·have hn:¬(i<H.length+5)∧o≠some i:=⟨fun h=>hi (.inl h),fun h=>hi (.inr h)⟩
    exact g4 i (by omega) hn.2 hl
 have few:∀x∈allI 0 t,x.2.1.fr.length≤3:=by rintro⟨k,s,p⟩ hx;obtain⟨_,hk,_⟩:=iR.1 hx;exact(ht.ok s (List.mem_of_getElem? hk)).few
 have h48:=AQ ht h3;obtain⟨H',w,ps,e,h⟩:=aoA (Pr:=fun i=>i<H.length+5∨(none:Option Nat)=some i) R hkd few (by omega) (b1:=H.length) (T:=T) (r1:=false) (stp:=bC t) ⟨none,rfl,fun _ _ _=>rfl,by rw[aar];omega,hQ0⟩ (by simp[Hr]) (by rw[iY hTl];rwa[wP]at hT) rfl;refine⟨H',w,ps,e,?_⟩;rcases h with ⟨Pr',⟨o,_,g1,g2,g3⟩,hp⟩|h
 ·exact .inl ⟨g1,g2,⟨o,g3⟩,hp⟩
 ·exact .inr h
theorem adk{H:List O}{l A:Nat}{rec o x:O}(hl:H[l]?=some rec)(hA:A<H.length)(hne:A≠l):((H.set l o).set A x).set l rec=H.set A x:=by
 have hll:=(gS.1 hl).1;apply List.ext_getElem?;intro z;by_cases hz:z=l
 ·subst hz;rw[List.getElem?_set_self (by simpa using hll),List.getElem?_set_ne (by omega),hl]
 ·rw[List.getElem?_set_ne (by omega)];by_cases hz2:z=A
  ·subst hz2;rw[List.getElem?_set_self (by simpa using hA),List.getElem?_set_self hA]
  ·rw[List.getElem?_set_ne (by omega),List.getElem?_set_ne (by omega),List.getElem?_set_ne (by omega)]
def jL(B:Nat):V:=.fn (.func 138) [] [.ptr (.heap B) 0,.ptr (.heap (B+2)) 0,.ptr (.heap (B+3)) 0,.ptr (.heap (B+1)) 0]
theorem auN(s:St):aj K 24 Iw s=aj K 24 .skip s:=rfl
theorem azI(s:St):aj K 24 Ip s=aj K 24 (.block 1 (rg 24 6)) s:=rfl
noncomputable def rec24(A B:Nat)(c1:List D):O:=
 .loop .ready none 24 [(8,.d (.int .i64 0)),(9,.d (.int .i64 0)),(12,.ptr (.heap A) 0),(28,jL B)] [(4,0,.cells (c1.map .d) true)] [29] Iw Ip
theorem y24{A B l:Nat}{c1:List D}{v:D}{n:Nat}{H:List O}(hA:H[A]?=some (.cells [.d (.int .i64 n)] false))(hl:H[l]?=some (rec24 A B c1))(hAl:A≠l)(hn:n≤1000000) :
  ∃w,ah K (.fn (.yield l) [] []) [.d v] none H=some (.ret (.d (.bool true)),false,H.set A (.cells [.d (.int .i64 (n+1:Nat))] false),w):=by
 have hll:=(gS.1 hl).1;have hAll:=(gS.1 hA).1;have hl2:=(gS.1 hl).2;have hA2:=(gS.1 hA).2;have hne:¬l=A:=fun h=>hAl h.symm;have w1:wr .i64 ((n:Int)+1)=(n:Int)+1:=wI;have back:=fun o=>adk (o:=o) (x:=.cells [.d (.int .i64 ((n:Int)+1))] false) hl hAll hAl;simp only[rec24,jL]at hl hl2 back;rw[bP];unfold gJ;rw[hl];simp[auN,azI,apC,oL,insL,hl,hl2,hA,hA2,hAl,hne,hll,hAll,w1];exact back _
theorem ak2(B0 B1 B2 B3:Nat){tm:List (Nat×V)}{m:Mem}(h:look 28 tm=some (.fn (.func 138) [] [.ptr (.heap B0) 0,.ptr (.heap B1) 0,.ptr (.heap B2) 0,.ptr (.heap B3) 0])) :
  aj K 24 (.rangeFunc (.tmp 28) #[29] Iw Ip) (St.mk tm m [] none false none)=iQ (St.mk tm m [] none false none) m.hp.length (ah K (.fn (.func 138) [] [.ptr (.heap B0) 0,.ptr (.heap B1) 0,.ptr (.heap B2) 0,.ptr (.heap B3) 0]) [.fn (.yield m.hp.length) [] []] none (m.hp++[.loop .ready none 24 (vN m.ob tm) (uf m.ob) [29] Iw Ip])):=
 kV rfl (by simp[h,bH])
theorem s24{t:List Stp}(ht:dL t)(h3:t.length≤3)(hp:List O){s u kd:Nat}(hs:s<t.length)(hu:u<t.length)(hkd:kd=1∨kd=2∨kd=3) :
  ∃H' w n,ah K (.fn (.func 24) [] []) [.d (dw t),.d (.int .i64 s),.d (.int .i64 u),.d (.int .i64 kd)] none hp=some (.ret (.tuple [.d (.int .i64 (n:Nat)),.d (.int .i64 0)]),false,H',w)∧
   (n=0↔∀a c,¬jS kd s u (allI 0 t) a c):=by
 obtain⟨H0,w0,T,L,e1,hT,hL,hTp⟩:=s76 ht h3 hp hs hu hkd;have hTl:=(gS.1 hT).1;have hLl:=(gS.1 hL).1;let Ha:=H0++[.cells [.d (.int .i64 0)] false];have hHa:Ha.length=H0.length+1:=by simp[Ha]
 obtain⟨w1,e2⟩:=s69 T s u kd Ha;obtain⟨H',w2,ps,e3,h⟩:=prs ht h3 (T:=T) (L:=L) (s:=s) (u:=u) (kd:=kd) (H:=Ha) (rec24 H0.length Ha.length [.list 2 ax,bC t]) (by rw[List.getElem?_append_left hTl];exact hT) (by rw[List.getElem?_append_left hLl];exact hL) hkd (·=H0.length) (by rintro i rfl;omega) (by omega) (by omega)
  (fun d o J=>o=none∧J[H0.length]?=some (.cells [.d (.int .i64 (d.length:Nat))] false)) (fun _ _=>False)
  ⟨rfl,by rw[iY (by omega)];simp[Ha]⟩
  (fun d o J J' h g1 g=>⟨h.1,by rw[g _ (.inl (by omega))];exact h.2⟩)
  (fun d i J h=>by cases h.1)
  (fun d o J p h1 h2 h3 hd _ _=>by
   obtain⟨rfl,h3⟩:=h3;obtain⟨w,e⟩:=y24 (l:=Ha.length+4) (B:=Ha.length) (c1:=[.list 2 ax,bC t]) (v:=.agg [.int .i64 (p.1:Nat),.int .i64 (p.2:Nat)]) h3 (by rw[h1 _ (by omega) (by omega)];exact nN) (by omega) (by omega)
   exact⟨_,w,true,e,fun _=>⟨none,⟨rfl,by rw[List.getElem?_set_self (by omega)];simp⟩,.inl rfl,fun i hi hne=>by rw[List.getElem?_set_ne (fun q=>hne q.symm)],by simp,fun i hi _ _=>by rw[List.getElem?_set_ne (by omega)]⟩,fun h=>by cases h⟩)
 rcases h with ⟨g1,g2,⟨_,_,g3⟩,g4⟩|⟨h,_⟩
 rotate_left 1
 ·exact h.elim
 have hl:H'[Ha.length+4]?=some (rec24 H0.length Ha.length [.list 2 ax,bC t]):=by rw[g1 _ (by omega) (by omega)];exact nN
 have hll:=(gS.1 hl).1;have hl2:=(gS.1 hl).2;have g3l:=(gS.1 g3).1;have g32:=(gS.1 g3).2;have hne:¬H0.length+1+4=H0.length:=by omega
 suffices hh:∃w,ah K (.fn (.func 24) [] []) [.d (dw t),.d (.int .i64 s),.d (.int .i64 u),.d (.int .i64 kd)] none hp=some (.ret (.tuple [.d (.int .i64 (ps.length:Nat)),.d (.int .i64 0)]),false,H'.set (Ha.length+4) .dead,w) by
  obtain⟨w,hh⟩:=hh;refine⟨_,w,ps.length,hh,?_⟩;constructor
  ·intro h a c hd;have:=(g4 a c).2 hd;rw[List.eq_nil_of_length_eq_zero h]at this;simp at this
  ·intro h;cases ps with
   |nil=>rfl|cons q r=>exact absurd ((g4 q.1 q.2).1 (by simp)) (h _ _)
 have e:=k24 [] [] [.d (dw t),.d (.int .i64 s),.d (.int .i64 u),.d (.int .i64 kd)] none hp;simp only[Hr,rec24,jL]at e3;simp only[rec24,jL]at hl hl2;simp only[hHa]at e2 e3 hl hl2 hll ⊢;simp only[Ha,List.append_assoc,List.cons_append,List.nil_append]at e2 e3;simp only[dw]at e e1 ⊢;simp only[bC,List.map_cons,List.map_nil]at e3 hl hl2;simp[c24,anX,apa,ao4,anG,aon,apD,e1,e2,ak2 (H0.length+1) (H0.length+1+2) (H0.length+1+3) (H0.length+1+1),vN,uf,Tm,Ux,e3,iQ,hl,hll,hl2,g3,g3l,g32,hne]at e;exact⟨_,e⟩
theorem Dq:K.P.stoodInHeld 121=false:=by kernel_rfl
theorem Am:K.P.eqGuardType K.P.depth 121=false:=by kernel_rfl
theorem Vo(s:St):aj K 26 JX s=aj K 26 (rg 26 7) s:=rfl
theorem Ve(s:St):aj K 26 Jz s=aj K 26 (.block 1 (.seq (rg 26 8) (.cond (.tmp 57) (rg 26 9) (.skip)))) s:=rfl
noncomputable def rec26(A B:Nat)(c1:List D):O:=
 .loop .ready none 26 [(8,.d (.int .i64 0)),(9,.d (.int .i64 0)),(10,.d (.int .i64 0)),(12,.ptr (.slot 12 0) 0),(13,.ptr (.heap A) 0),(32,jL B)] [(4,0,.cells (c1.map .d) true),(12,0,.cells [.d (.int .i64 (-1)),.d (.int .i64 (-1))] true)] [33] JX Jz
theorem y26{A B l:Nat}{c1:List D}{n m bn bm:Int}{H:List O}(hA:H[A]?=some (.cells [.d (.int .i64 bn),.d (.int .i64 bm)] false))(hl:H[l]?=some (rec26 A B c1))(hAl:A≠l)(hn:0≤n)(hb0:(bn=-1∧bm=-1)∨0≤bn) :
  (∃w,ah K (.fn (.yield l) [] []) [.d (.agg [.int .i64 n,.int .i64 m])] none H=some (.ret (.d (.bool true)),false,H.set A (.cells [.d (.int .i64 n),.d (.int .i64 m)] false),w))∨
  (¬(bn=-1∧bm=-1)∧∃w,ah K (.fn (.yield l) [] []) [.d (.agg [.int .i64 n,.int .i64 m])] none H=some (.ret (.d (.bool true)),false,H,w)):=by
 have hll:=(gS.1 hl).1;have hAll:=(gS.1 hA).1;have hl2:=(gS.1 hl).2;have hA2:=(gS.1 hA).2;have hne:¬l=A:=fun h=>hAl h.symm;have back:=fun o=>adk (o:=o) (x:=.cells [.d (.int .i64 n),.d (.int .i64 m)] false) hl hAll hAl;have yY:=CQ hl;simp only[rec26,jL]at hl hl2 back yY;by_cases h0:bn=-1∧bm=-1
 ·left;obtain⟨rfl,rfl⟩:=h0;rw[bP];unfold gJ;rw[hl];simp[Vo,Ve,JZ,Jy,Yl,oL,insL,hl,hl2,hA,hA2,hAl,hne,hll,hAll,Dq,Am];exact back _
 ·have hb1:=hb0.resolve_left h0;have hd:(bn==-1)=false:=by simp;omega
  by_cases h1:n<bn
  ·left;rw[bP];unfold gJ;rw[hl];simp[Vo,Ve,JZ,Jy,Yl,oL,insL,hl,hl2,hA,hA2,hAl,hne,hll,hAll,Dq,Am,hd,h1];exact back _
  ·by_cases h2:n=bn
   ·by_cases h3:m<bm
    ·left;rw[bP];unfold gJ;rw[hl];subst h2;simp[Vo,Ve,JZ,Jy,Yl,oL,insL,hl,hl2,hA,hA2,hAl,hne,hll,hAll,Dq,Am,hd,h3];exact back _
    ·right;refine⟨h0,?_⟩;rw[bP];unfold gJ;rw[hl];subst h2;simp[Vo,Ve,JZ,Jy,oL,insL,hl,hl2,hA,hA2,hAl,hne,hll,hAll,Dq,Am,hd,h3];exact yY
   ·right;refine⟨h0,?_⟩;rw[bP];unfold gJ;rw[hl];simp[Vo,Ve,JZ,Jy,oL,insL,hl,hl2,hA,hA2,hAl,hne,hll,hAll,Dq,Am,hd,h1,h2];exact yY
theorem adF(B0 B1 B2 B3:Nat){tm:List (Nat×V)}{m:Mem}(h:look 32 tm=some (.fn (.func 138) [] [.ptr (.heap B0) 0,.ptr (.heap B1) 0,.ptr (.heap B2) 0,.ptr (.heap B3) 0])) :
  aj K 26 (.rangeFunc (.tmp 32) #[33] JX Jz) (St.mk tm m [] none false none)=iQ (St.mk tm m [] none false none) m.hp.length (ah K (.fn (.func 138) [] [.ptr (.heap B0) 0,.ptr (.heap B1) 0,.ptr (.heap B2) 0,.ptr (.heap B3) 0]) [.fn (.yield m.hp.length) [] []] none (m.hp++[.loop .ready none 26 (vN m.ob tm) (uf m.ob) [33] JX Jz])):=
 kV rfl (by simp[h,bH])
theorem s26{t:List Stp}(ht:dL t)(h3:t.length≤3)(hp:List O){s u kd:Nat}(hs:s<t.length)(hu:u<t.length)(hkd:kd=1∨kd=2∨kd=3) :
  ∃H' w,((∀a c,¬jS kd s u (allI 0 t) a c)∧ah K (.fn (.func 26) [] []) [.d (dw t),.d (.int .i64 s),.d (.int .i64 u),.d (.int .i64 kd)] none hp=some (.ret (.tuple [.d (.int .i64 0),.d (.int .i64 0),.d (.int .i64 14)]),false,H',w))∨
   ∃a c:Nat,jS kd s u (allI 0 t) a c∧ah K (.fn (.func 26) [] []) [.d (dw t),.d (.int .i64 s),.d (.int .i64 u),.d (.int .i64 kd)] none hp=some (.ret (.tuple [.d (.int .i64 a),.d (.int .i64 c),.d (.int .i64 0)]),false,H',w):=by
 obtain⟨H0,w0,T,L,e1,hT,hL,hTp⟩:=s76 ht h3 hp hs hu hkd;have hTl:=(gS.1 hT).1;have hLl:=(gS.1 hL).1;let Ha:=H0++[.cells [.d (.int .i64 (-1)),.d (.int .i64 (-1))] false];have hHa:Ha.length=H0.length+1:=by simp[Ha]
 obtain⟨w1,e2⟩:=s69 T s u kd Ha;obtain⟨H',w2,ps,e3,h⟩:=prs ht h3 (T:=T) (L:=L) (s:=s) (u:=u) (kd:=kd) (H:=Ha) (rec26 H0.length Ha.length [.list 2 ax,bC t]) (by rw[List.getElem?_append_left hTl];exact hT) (by rw[List.getElem?_append_left hLl];exact hL) hkd (·=H0.length) (by rintro i rfl;omega) (by omega) (by omega)
  (fun d o J=>o=none∧∃bn bm:Int,J[H0.length]?=some (.cells [.d (.int .i64 bn),.d (.int .i64 bm)] false)∧((d=[]∧bn=-1∧bm=-1)∨∃q∈d,bn=(q.1:Nat)∧bm=(q.2:Nat))) (fun _ _=>False)
  ⟨rfl,-1,-1,by rw[iY (by omega)];simp[Ha],.inl ⟨rfl,rfl,rfl⟩⟩
  (fun d o J J' h g1 g=>by
   obtain⟨h0,bn,bm,h1,h2⟩:=h
   exact⟨h0,bn,bm,by rw[g _ (.inl (by omega))];exact h1,h2⟩)
  (fun d i J h=>by cases h.1)
  (fun d o J p h1 h2 hq hd _ _=>by
   obtain⟨rfl,bn,bm,hA,hb⟩:=hq;have hrec:J[Ha.length+4]?=some (rec26 H0.length Ha.length [.list 2 ax,bC t]):=by rw[h1 _ (by omega) (by omega)];exact nN
   rcases y26 (n:=(p.1:Nat)) (m:=(p.2:Nat)) hA hrec (by omega) (by omega) (by rcases hb with ⟨_,h1,h2⟩|⟨q,_,h1,_⟩<;>omega)with ⟨w,e⟩|⟨hno,w,e⟩
   ·exact⟨_,w,true,e,fun _=>⟨none,⟨rfl,_,_,by rw[List.getElem?_set_self (by omega)],.inr ⟨p,by simp,rfl,rfl⟩⟩,.inl rfl,fun i hi hne=>by rw[List.getElem?_set_ne (fun q=>hne q.symm)],by simp,fun i hi _ _=>by rw[List.getElem?_set_ne (by omega)]⟩,fun h=>by cases h⟩
   ·refine⟨J,w,true,e,fun _=>⟨none,⟨rfl,bn,bm,hA,?_⟩,.inl rfl,fun _ _ _=>rfl,Nat.le_refl _,fun _ _ _ _=>rfl⟩,fun h=>by cases h⟩;rcases hb with ⟨_,h1,h2⟩|⟨q,hq,h1,h2⟩
    ·exact absurd ⟨h1,h2⟩ hno
    ·exact .inr ⟨q,by simp[hq],h1,h2⟩)
 rcases h with ⟨g1,g2,⟨_,_,bn,bm,g3,gb⟩,g4⟩|⟨h,_⟩
 rotate_left 1
 ·exact h.elim
 have hl:H'[Ha.length+4]?=some (rec26 H0.length Ha.length [.list 2 ax,bC t]):=by rw[g1 _ (by omega) (by omega)];exact nN
 have hll:=(gS.1 hl).1;have hl2:=(gS.1 hl).2;have g3l:=(gS.1 g3).1;have g32:=(gS.1 g3).2;have hne:¬H0.length+1+4=H0.length:=by omega
 have e:=k26 [] [] [.d (dw t),.d (.int .i64 s),.d (.int .i64 u),.d (.int .i64 kd)] none hp;simp only[Hr,rec26,jL]at e3;simp only[rec26,jL]at hl hl2;simp only[hHa]at e2 e3 hl hl2 hll;simp only[Ha,List.append_assoc,List.cons_append,List.nil_append]at e2 e3;simp only[dw]at e e1 ⊢;simp only[bC,List.map_cons,List.map_nil]at e3 hl hl2;rcases gb with ⟨rfl,rfl,rfl⟩|⟨q,hq,rfl,rfl⟩
 ·simp[c26,ad8,ad7,aeo,adn,adz,adp,Ye,ahR,e1,e2,adF (H0.length+1) (H0.length+1+2) (H0.length+1+3) (H0.length+1+1),vN,uf,Tm,Ux,e3,iQ,hl,hll,hl2,g3,g3l,g32,hne,Dq,Am]at e;refine⟨_,_,.inl ⟨fun a c hd=>?_,e⟩⟩;have:=(g4 a c).2 hd;simp at this
 ·have hm1:((q.1:Int)==-1)=false:=by simp
  simp[c26,ad8,ad7,aeo,adn,adz,adp,Ye,aeL,e1,e2,adF (H0.length+1) (H0.length+1+2) (H0.length+1+3) (H0.length+1+1),vN,uf,Tm,Ux,e3,iQ,hl,hll,hl2,g3,g3l,g32,hne,Dq,Am,hm1]at e;exact⟨_,_,.inr ⟨q.1,q.2,(g4 q.1 q.2).1 hq,e⟩⟩
theorem rU:∀(p q:List Int),(jr p q).length=min p.length q.length
 |[],_=>by simp[jr]|_::_,[]=>by simp[jr]|a::p,b::q=>by simp[jr,rU p q]
def Dy(N:Nat)(p q:List Int)(v:V)(i:Nat)(tl:List (Nat×V))(o3:O)(o:List (Nat×Nat×O))(H:List O)(w:Nat):St:=
 St.mk ([(5,.d (bF p)),(6,.d (bF q)),(7,v),(31,.d (.int .i64 N)),(32,.d (.int .i64 (i:Nat)))]++tl) (Mem.mk ((3,0,o3)::o) H w) [] none false none
theorem aoG{N:Nat}{p q:List Int}{a b:Int}{i:Nat}{v:V}{o3:O}{o:List (Nat×Nat×O)}{ls:List Int}(hiN:i<N)(hp:p.length≤100)(ha:p[i]?=some a)(hb:q[i]?=some b)(h0:0≤a)(h1:a≤1000)(h2:0≤b)(h3:b≤1000)(hv:R71 v o ls)(hls:ls.length=i)(H:List O)(w:Nat) :
  ∃v' o' w',aj K 71 JH (Dy N p q v i [] o3 o H w)=some (.normal,Dy N p q v' (i+1) [] o3 o' H w')∧R71 v' o' (ls++[b-a]):=by
 have hlt:=(gS.1 ha).1;have ha2:=(gS.1 ha).2;have hlt2:=(gS.1 hb).1;have hb2:=(gS.1 hb).2;have hpD:bF p=.list 1 (ints p):=by cases p with
  |nil=>simp at hlt|cons _ _=>rfl
 have hqD:bF q=.list 1 (ints q):=by cases q with
  |nil=>simp at hlt2|cons _ _=>rfl
 have w1:wr .i64 ((i:Int)+1)=(i:Int)+1:=wI;have w2:wr .i64 (b-a)=b-a:=wI;rcases hv with ⟨rfl,rfl,rfl⟩|⟨hne,g,rfl,rfl⟩
 ·refine⟨.sl (.slot 46 0) 1 1 0 1,[(46,0,.vec 1 (ints [b-a]) false true)],?_⟩;simp[Dy,Zv,WQ,adL,adB,adh,R71,hpD,hqD,hiN,hlt,hlt2,ha2,hb2,w1,w2]
 ·have k1:(ls.length+1)*8≤4294967296:=by omega
  have k2:ls.length+1≤4294967296:=by omega
  refine⟨.sl (.slot 46 g) 1 (ls.length+1) 0 (ls.length+1),[(46,g,.vec 1 (ints (ls++[b-a])) false true)],?_⟩;simp[Dy,Zv,WQ,adL,adB,adh,R71,hpD,hqD,hiN,hlt,hlt2,ha2,hb2,w1,w2,k1,k2]
theorem anh{N:Nat}{p q:List Int}{v:V}{o3:O}{o:List (Nat×Nat×O)}(H:List O)(w:Nat):aj K 71 JH (Dy N p q v N [] o3 o H w)=some (.exit 0,Dy N p q v N [(33,.d (.bool false))] o3 o H w):=by simp[Dy,Zv,WQ]
theorem acV{p q:List Int}{N:Nat}{o3:O}(hN:N=min p.length q.length)(hp:p.length≤100)(bp:∀a∈p,0≤a∧a≤1000)(bq:∀a∈q,0≤a∧a≤1000)(H:List O) :
  ∀(m i:Nat) (v:V) (o:List (Nat×Nat×O)) (w:Nat),i+m=N→R71 v o ((jr p q).take i)→
   ∃v' o' w',aj K 71 (.loop JH) (Dy N p q v i [] o3 o H w)=some (.exit 0,Dy N p q v' N [(33,.d (.bool false))] o3 o' H w')∧R71 v' o' (jr p q)
 |0,i,v,o,w,hi,hv=>by
  have hie:i=N:=by omega
  subst hie;have hl:(jr p q).length=i:=by rw[rU];omega
  rw[←hl,List.take_length]at hv;exact⟨v,o,w,by rw[af,anh];rfl,hv⟩
 |m+1,i,v,o,w,hi,hv=>by
  have h1:i<p.length:=by omega
  have h2:i<q.length:=by omega
  have ha:=List.getElem?_eq_getElem h1;have hb:=List.getElem?_eq_getElem h2;have ba:=bp _ (List.getElem_mem h1);have bb:=bq _ (List.getElem_mem h2);have hlen:((jr p q).take i).length=i:=by rw[List.length_take,rU];omega
  obtain⟨v1,o1,w1,e1,hv1⟩:=aoG (N:=N) (o3:=o3) (by omega) hp ha hb ba.1 ba.2 bb.1 bb.2 hv hlen H w;rw[←Ep p q i _ _ ha hb]at hv1;obtain⟨v2,o2,w2,e2,hv2⟩:=acV hN hp bp bq H m (i+1) v1 o1 w1 (by omega) hv1;refine⟨v2,o2,w2,?_,hv2⟩;rw[af,e1];exact e2
theorem aoK{t:List Stp}(ht:dL t)(h3:t.length≤3){T L:Nat}{H:List O}
  (hT:H[T]?=some (.cells [.d (.list 2 ax),.d (bC t),.sl (.heap L) 4 (encI 0 (allI 0 t)).length 0 (encI 0 (allI 0 t)).length] false))(hL:H[L]?=some (.vec 4 (encI 0 (allI 0 t)) false true))
  {j k:Nat}{x y:Nat×Stp×List Int}(hj:(allI 0 t)[j]?=some x)(hk:(allI 0 t)[k]?=some y) :
  ∃w,ah K (.fn (.func 71) [] []) [.ptr (.heap T) 0,.d (.agg [.int .i64 j,.int .i64 k])] none H=some (.ret (.d (bF (jr x.2.2 y.2.2))),false,H,w):=by
 obtain⟨m,s,p⟩:=x;obtain⟨m',s',q⟩:=y;obtain⟨_,m1,m2⟩:=iR.1 (List.mem_of_getElem? hj);obtain⟨_,m4,m3⟩:=iR.1 (List.mem_of_getElem? hk);have hs:=ht.ok s (List.mem_of_getElem? m1);have hs':=ht.ok s' (List.mem_of_getElem? m4);obtain⟨l1,b1⟩:=atP hs.sz (gZ.1 m2);obtain⟨l2,b2⟩:=atP hs'.sz (gZ.1 m3);have few:=hs.sz.few;have hj1:=E5 (n:=0) hj;have hk1:=E5 (n:=0) hk;have hjl:=(gS.1 hj1).1;have hkl:=(gS.1 hk1).1;have hj2:=(gS.1 hj1).2;have hk2:=(gS.1 hk1).2;simp only[aJ,Nat.zero_add]at hj1 hk1 hj2 hk2;have hjl':j+1≤(encI 0 (allI 0 t)).length:=hjl;have hkl':k+1≤(encI 0 (allI 0 t)).length:=hkl;have hlp:lenV (V.d (bF p))=some p.length:=by cases p<;>simp[bF]
 have hlq:lenV (V.d (bF q))=some q.length:=by cases q<;>simp[bF]
 simp only[lenV]at hlp hlq;simp only;obtain⟨v,o,w,e,hv⟩:=acV (N:=min p.length q.length) (o3:=.cells [.d (.int .i64 j),.d (.int .i64 k)] false) rfl (by omega) b1 b2 H (min p.length q.length) 0 (.d .nils) [] 0 (by omega) (.inl ⟨by simp,rfl,rfl⟩);have z0:((0:Nat):Int)=0:=rfl;have hc:(q.length:Int)<p.length∧min p.length q.length=q.length∨¬((q.length:Int)<p.length)∧min p.length q.length=p.length:=by
  by_cases h:q.length<p.length
  ·left;exact⟨by omega,by omega⟩
  ·right;exact⟨by omega,by omega⟩
 rcases hc with ⟨hmin,hN⟩|⟨hmin,hN⟩
 all_goals
  have hmin':=hmin;simp only[Int.ofNat_lt]at hmin';rw[hN]at e;simp only[Dy,z0,List.append_nil,List.cons_append,List.nil_append]at e;have ee:=k71 [] [] [.ptr (.heap T) 0,.d (.agg [.int .i64 j,.int .i64 k])] none H;rcases hv with ⟨h,rfl,rfl⟩|⟨hne,g,rfl,rfl⟩
  ·rw[h];simp[c71,ac3,aee,adw,adI,adX,hT,hL,hj1,hk1,hj2,hk2,hjl,hkl,hjl',hkl',hlp,hlq,hmin,hmin',e]at ee;exact⟨_,by simpa[bF]using ee⟩
  ·rw[iL hne];simp[c71,ac3,aee,adw,adI,adX,hT,hL,hj1,hk1,hj2,hk2,hjl,hkl,hjl',hkl',hlp,hlq,hmin,hmin',e]at ee;exact⟨_,by simpa using ee⟩
def tJ(n:Int):Int:=if n<0 then -1 else if 0<n then 1 else 0
theorem s98(n:Int)(H:List O):∃w,ah K (.fn (.func 98) [] []) [.d (.int .i64 n)] none H=some (.ret (.d (.int .i64 (tJ n))),false,H,w):=by
 by_cases h1:n<1
 ·by_cases h2:-1<n
  ·have:n=0:=by omega
   subst this;simp[k98,c98,Ze,Vm,tJ]
  ·have h3:n<0:=by omega
   have h4:¬(n > -1):=by omega
   simp[k98,c98,Ze,Vm,tJ,h1,h2,h3,h4]
 ·have h2:¬(n<0):=by omega
  have h3:0<n:=by omega
  simp[k98,c98,Ze,Vm,tJ,h1,h2,h3]
def oC(a b:Int):Int:=if a<b then -1 else if b<a then 1 else 0
theorem akD(a:Int)(H:List O):∃w,ah K (.fn (.func 198) [] []) [.d (.int .i64 a)] none H=some (.ret (.d (.bool false)),false,H,w):=by simp[auC,c198,afX,aiM]
theorem asZ(a b:Int)(H:List O):∃w,ah K (.fn (.func 154) [] []) [.d (.int .i64 a),.d (.int .i64 b)] none H=some (.ret (.d (.int .i64 (oC a b))),false,H,w):=by
 obtain⟨w1,e1⟩:=akD a H;obtain⟨w2,e2⟩:=akD b H;by_cases h1:a<b
 ·simp[ag3,c154,MQ,N7,Nr,KL,Oz,QF,aaq,e1,e2,oC,h1]
 ·by_cases h2:b<a
  ·simp[ag3,c154,MQ,N7,Nr,KL,Oz,QF,Q5,aaH,e1,e2,oC,h1,h2]
  ·simp[ag3,c154,MQ,N7,Nr,KL,Oz,QF,Q5,ab7,e1,e2,oC,h1,h2]
def cmpL:List Int→List Int→Int
 |[],[]=>0|[],_::_=>-1|_::_,[]=>1|a::p,b::q=>if oC a b=0 then cmpL p q else oC a b
def tZ(p q:List Int)(i:Nat)(tl:List (Nat×V))(H:List O)(w:Nat):St:=
 St.mk ([(0,.d (bF p)),(1,.d (bF q)),(9,.d (bF p)),(10,.d (.int .i64 p.length)),(11,.d (.int .i64 (i:Nat)))]++tl) (Mem.mk [] H w) [] none false none
theorem aoq{p q:List Int}{a b:Int}{i:Nat}(hl:p.length≤100)(ha:p[i]?=some a)(hb:q[i]?=some b)(H:List O)(w:Nat) :
  ∃w',aj K 100 qh (tZ p q i [] H w)=if oC a b=0 then some (.normal,tZ p q (i+1) [] H w')else some (.ret,St.mk [(4,.d (.int .i64 (oC a b)))] (Mem.mk [] H w') [] none false none):=by
 have hlt:=(gS.1 ha).1;have hlt2:=(gS.1 hb).1;have hpD:=iL (cs:=p) (by rintro rfl;simp at hlt);have hqD:=iL (cs:=q) (by rintro rfl;simp at hlt2);have ia:=ints_at ha;have ib:=ints_at hb;obtain⟨_,ia2⟩:=gS.1 ia;obtain⟨_,ib2⟩:=gS.1 ib;have w1:wr .i64 ((i:Int)+1)=(i:Int)+1:=wI;obtain⟨w2,e⟩:=asZ a b H;have hge:¬((q.length:Int)≤i):=by omega
 have hge2:¬(q.length≤i):=by omega
 have hlp:(ints p).length=p.length:=by simp
 have hlq:(ints q).length=q.length:=by simp
 generalize ints p=P at *;generalize ints q=Q at *;by_cases h:oC a b=0
 ·rw[h]at e;simp[tZ,GY,Gs,Ns,MJ,Wl,Xw,Yv,abW,hpD,hqD,hlp,hlq,hlt,hlt2,ia,ib,ia2,ib2,hge,hge2,e,h,w1]
 ·simp[tZ,GY,Gs,Ns,MJ,Wl,Xw,Yv,ag9,hpD,hqD,hlp,hlq,hlt,hlt2,ia,ib,ia2,ib2,hge,hge2,e,h,w1]
theorem amD{p q:List Int}{a:Int}{i:Nat}(ha:p[i]?=some a)(hq:q.length=i)(H:List O)(w:Nat) :
  ∃w',aj K 100 qh (tZ p q i [] H w)=some (.ret,St.mk [(4,.d (.int .i64 1))] (Mem.mk [] H w') [] none false none):=by
 have hlt:=(gS.1 ha).1;have hpD:=iL (cs:=p) (by rintro rfl;simp at hlt);have ia:=ints_at ha;obtain⟨_,ia2⟩:=gS.1 ia;have hlq:lenV (.d (bF q))=some q.length:=by cases q<;>simp[bF]
 simp only[lenV]at hlq;have hlp:(ints p).length=p.length:=by simp
 generalize ints p=P at *;subst hq;simp[tZ,GY,Gs,Ns,MJ,agT,hpD,hlp,hlq,hlt,ia,ia2]
theorem alY{p q:List Int}(H:List O)(w:Nat):aj K 100 qh (tZ p q p.length [] H w)=some (.exit 0,tZ p q p.length [(12,.d (.bool false))] H w):=by simp[tZ,GY,Gs]
theorem adl{p q:List Int}(hl:p.length≤100)(H:List O) :
  ∀ (m i w:Nat) (pr qr:List Int),i+m=p.length→p.drop i=pr→q.drop i=qr→i≤q.length →
   ∃w',(∃r,cmpL pr qr=r∧aj K 100 (.loop qh) (tZ p q i [] H w)=some (.ret,St.mk [(4,.d (.int .i64 r))] (Mem.mk [] H w') [] none false none))∨
    (cmpL pr qr=(if p.length<q.length then -1 else 0)∧aj K 100 (.loop qh) (tZ p q i [] H w)=some (.exit 0,tZ p q p.length [(12,.d (.bool false))] H w'))
 | 0,i,w,pr,qr,hi,hp,hq,hil=>by
  have hie:i=p.length:=by omega
  subst hie;have hp0:pr=[]:=by rw[←hp];simp
  subst hp0;refine⟨w,.inr ⟨?_,by rw[af,alY];rfl⟩⟩;have hql:qr.length=q.length-p.length:=by rw[←hq];simp
  cases qr with
  |nil=>simp only[List.length_nil]at hql;rw[if_neg (by omega)];rfl|cons b r=>simp only[List.length_cons]at hql;rw[if_pos (by omega)];rfl
 | m+1,i,w,pr,qr,hi,hp,hq,hil=>by
  have h1:i<p.length:=by omega
  have ha:=List.getElem?_eq_getElem h1;rw[List.drop_eq_getElem_cons h1]at hp;subst hp;by_cases h2:i<q.length
  ·have hb:=List.getElem?_eq_getElem h2;rw[List.drop_eq_getElem_cons h2]at hq;subst hq;obtain⟨w1,e1⟩:=aoq hl ha hb H w;by_cases hc:oC p[i] q[i]=0
   ·rw[if_pos hc]at e1;obtain⟨w2,h⟩:=adl (q:=q) hl H m (i+1) w1 _ _ (by omega) rfl rfl (by omega);refine⟨w2,?_⟩;have el:aj K 100 (.loop qh) (tZ p q i [] H w)=aj K 100 (.loop qh) (tZ p q (i+1) [] H w1):=by rw[af,e1];rfl
    rw[el];simp only[cmpL,if_pos hc];exact h
   ·rw[if_neg hc]at e1;refine⟨w1,.inl ⟨_,rfl,?_⟩⟩;rw[af,e1];simp only[cmpL,if_neg hc];rfl
  ·have hq0:qr=[]:=by rw[←hq,List.drop_eq_nil_iff];omega
   subst hq0;obtain⟨w1,e1⟩:=amD (p:=p) (q:=q) (i:=i) ha (by omega) H w;exact⟨w1,.inl ⟨1,rfl,by rw[af,e1];rfl⟩⟩
theorem akE{p q:List Int}(hl:p.length≤100)(H:List O):∃w,ah K (.fn (.func 100) [] []) [.d (bF p),.d (bF q)] none H=some (.ret (.d (.int .i64 (cmpL p q))),false,H,w):=by
 obtain⟨w,h⟩:=adl (q:=q) hl H p.length 0 0 p q (by omega) rfl rfl (by omega);have z0:((0:Nat):Int)=0:=rfl;have hlp:lenV (.d (bF p))=some p.length:=by cases p<;>simp[bF]
 have hlq:lenV (.d (bF q))=some q.length:=by cases q<;>simp[bF]
 simp only[lenV]at hlp hlq;have ee:=asP [] [] [.d (bF p),.d (bF q)] none H;rcases h with ⟨r,hr,e⟩|⟨hr,e⟩
 ·simp only[tZ,z0,List.append_nil,List.cons_append,List.nil_append]at e;simp[abf,LD,Nh,hlp,e]at ee;rw[hr];exact⟨_,ee⟩
 ·simp only[tZ,z0,List.append_nil,List.cons_append,List.nil_append]at e;rw[hr];by_cases hc:p.length<q.length
  ·rw[if_pos hc];simp[abf,LD,Nh,Ri,Z4,hlp,hlq,hc,e]at ee;exact⟨_,ee⟩
  ·rw[if_neg hc];simp[abf,LD,Nh,Ri,abN,hlp,hlq,hc,e]at ee;exact⟨_,ee⟩
def sZ(vs:List (List Int)):List D:=vs.map bF
theorem WZ{vs:List (List Int)}{k:Nat}{x:List Int}(h:vs[k]?=some x):(sZ vs)[k]?=some (bF x):=by simp[sZ,h]
theorem zG(vs:List (List Int)):(sZ vs).length=vs.length:=by simp[sZ]
def Wn(l n:Nat)(y:List Int)(i j:Nat)(tl:List (Nat×V))(H:List O)(w:Nat):St:=
 St.mk ([(0,.sl (.heap l) 1 n 0 n),(1,.d (bF y)),(2,.fn (.func 100) [] []),(8,.d (.int .i64 n)),(9,.d (.int .i64 (i:Nat))),(10,.d (.int .i64 (j:Nat)))]++tl) (Mem.mk [] H w) [] none false none
theorem aa7(a b h:Nat)(hh:h=(a+b)/2):au .shr ((a:Int)+b) 1=(h:Int):=by
 rw[uj];simp only[Ar];subst hh;have:(2:Int) ^ min (1:Int).toNat 64=2:=by decide
 rw[this,Int.fdiv_eq_ediv_of_nonneg _ (by omega)];omega
theorem aw7{l n:Nat}{vs:List (List Int)}{y x:List Int}{i j h:Nat}{H:List O}(hl:H[l]?=some (.vec 1 (sZ vs) false true))(hn:vs.length=n)(hn2:n≤1000)(hij:i<j)(hj:j≤n)(hh:h=(i+j)/2)(hx:vs[h]?=some x)(hx2:x.length≤100)(w:Nat) :
  ∃w',aj K 99 Iz (Wn l n y i j [] H w)=some (.normal,if cmpL x y<0 then Wn l n y (h+1) j [] H w' else Wn l n y i h [] H w'):=by
 have w0:wr .i64 ((i:Int)+j)=(i:Int)+j:=wI;have wu:wr .u64 ((i:Int)+j)=(i:Int)+j:=by rw[qO,IntKind.wrap_u64];omega
 have sh:=aa7 i j h hh;have wh:wr .i64 (h:Int)=h:=wI;have wh1:wr .i64 ((h:Int)+1)=(h:Int)+1:=wI;obtain⟨w1,e⟩:=akE (q:=y) hx2 H;have ix:=WZ hx;have hvl:=zG vs;have hhn:h+1≤n:=by omega
 have hcx:=uy x;simp only[D.isCell]at hcx;generalize sZ vs=N at *;obtain⟨_,ix2⟩:=gS.1 ix;have hll:=(gS.1 hl).1;have hl2:=(gS.1 hl).2;have hc1:D.cells (bF x)=[bF x]:=by cases x<;>rfl
 simp only[D.cells]at hc1;by_cases hc:cmpL x y<0
 ·simp[Wn,Q7,Rw,adr,ac5,aoL,hij,w0,wu,sh,wh,wh1,hl,hll,hl2,hvl,hn,hhn,ix,ix2,hc1,hcx,e,hc]
 ·simp[Wn,Q7,Rw,adr,ac5,am9,hij,w0,wu,sh,wh,wh1,hl,hll,hl2,hvl,hn,hhn,ix,ix2,hc1,hcx,e,hc]
theorem alK{l n i j:Nat}{y:List Int}{H:List O}(h:j≤i)(w:Nat):aj K 99 Iz (Wn l n y i j [] H w)=some (.exit 0,Wn l n y i j [(17,.d (.bool false))] H w):=by
 have h1:¬(i<j):=by omega
 simp[Wn,Q7,Rw,h1]
theorem afM{l n:Nat}{vs:List (List Int)}{y:List Int}{H:List O}(hl:H[l]?=some (.vec 1 (sZ vs) false true))(hn:vs.length=n)(hn2:n≤1000)(hx:∀x∈vs,x.length≤100) :
  ∀(m i j w:Nat),j-i≤m→i≤j→j≤n→(∀k x,k+1=i→vs[k]?=some x→cmpL x y<0)→(∀x,vs[j]?=some x→0≤cmpL x y)→
   ∃a w',aj K 99 (.loop Iz) (Wn l n y i j [] H w)=some (.exit 0,Wn l n y a a [(17,.d (.bool false))] H w')∧a≤n∧(∀k x,k+1=a→vs[k]?=some x→cmpL x y<0)∧(∀x,vs[a]?=some x→0≤cmpL x y)
 |0,i,j,w,hm,hij,hj,h1,h2=>by
  have:j=i:=by omega
  subst this;exact⟨j,w,by rw[af,alK (Nat.le_refl _)];rfl,hj,h1,h2⟩
 | m+1,i,j,w,hm,hij,hj,h1,h2=>by
  by_cases h:i<j
  ·have hh:=List.getElem?_eq_getElem (l:=vs) (i:=(i+j)/2) (by omega);obtain⟨w1,e1⟩:=aw7 (y:=y) hl hn hn2 h hj rfl hh (hx _ (List.getElem_mem _)) w;by_cases hc:cmpL vs[(i+j)/2] y<0
   ·rw[if_pos hc]at e1
    obtain⟨a,w2,e2,r⟩:=afM hl hn hn2 hx m ((i+j)/2+1) j w1 (by omega) (by omega) hj (fun k x hk hkx=>by
     have:k=(i+j)/2:=by omega
     subst this
     rw[hh]at hkx;cases hkx;exact hc) h2
    refine⟨a,w2,?_,r⟩;rw[af,e1];exact e2
   ·rw[if_neg hc]at e1
    obtain⟨a,w2,e2,r⟩:=afM hl hn hn2 hx m i ((i+j)/2) w1 (by omega) (by omega) (by omega) h1 (fun x hkx=>by rw[hh]at hkx;cases hkx;omega)
    refine⟨a,w2,?_,r⟩;rw[af,e1];exact e2
  ·have:j=i:=by omega
   subst this;exact⟨j,w,by rw[af,alK (Nat.le_refl _)];rfl,hj,h1,h2⟩
theorem s99{l:Nat}{vs:List (List Int)}{y:List Int}{H:List O}(hl:H[l]?=some (.vec 1 (sZ vs) false true))(hn2:vs.length≤1000)(hx:∀x∈vs,x.length≤100) :
  ∃a w b,ah K (.fn (.func 99) [] []) [.sl (.heap l) 1 vs.length 0 vs.length,.d (bF y),.fn (.func 100) [] []] none H=some (.ret (.tuple [.d (.int .i64 (a:Nat)),.d (.bool b)]),false,H,w)∧
   a≤vs.length∧(∀k x,k+1=a→vs[k]?=some x→cmpL x y<0)∧(∀x,vs[a]?=some x→0≤cmpL x y)∧(b=true↔∃x,vs[a]?=some x∧cmpL x y=0):=by
 obtain⟨a,w',e1,ha,h1,h2⟩:=afM (y:=y) hl rfl hn2 hx vs.length 0 vs.length 0 (by omega) (by omega) (by omega) (by omega) (fun x hx=>by simp at hx);have z0:((0:Nat):Int)=0:=rfl;simp only[Wn,z0,List.append_nil,List.cons_append,List.nil_append]at e1;have ee:=k99 [] [] [.sl (.heap l) 1 vs.length 0 vs.length,.d (bF y),.fn (.func 100) [] []] none H;by_cases hlt:a<vs.length
 ·have hxa:=List.getElem?_eq_getElem hlt;obtain⟨w1,e⟩:=akE (q:=y) (hx _ (List.getElem_mem hlt)) H;have ix:=WZ hxa;have hvl:=zG vs;have ha1:a+1≤vs.length:=hlt;have hll:=(gS.1 hl).1;have hl2:=(gS.1 hl).2;have hc1:D.cells (bF vs[a])=[bF vs[a]]:=by cases vs[a]<;>rfl
  have hcx:=uy vs[a];simp only[D.isCell]at hcx;simp only[D.cells]at hc1;refine⟨a,?_⟩
  suffices hh:∃w,ah K (.fn (.func 99) [] []) [.sl (.heap l) 1 vs.length 0 vs.length,.d (bF y),.fn (.func 100) [] []] none H=some (.ret (.tuple [.d (.int .i64 (a:Nat)),.d (.bool (decide (cmpL vs[a] y=0)))]),false,H,w) by
   obtain⟨w,hh⟩:=hh
   exact⟨w,_,hh,ha,h1,h2,by
    rw[hxa]
    simp⟩
  generalize sZ vs=N at *;generalize vs[a]=x at *;obtain⟨_,ix2⟩:=gS.1 ix;simp[c99,Yj,ZP,Y4,Zr,hl,hll,hl2,hvl,hlt,ha1,ix,ix2,hc1,hcx,e1,e]at ee;exact⟨_,ee⟩
 ·have hxa:vs[a]?=none:=List.getElem?_eq_none (by omega);refine⟨a,?_⟩
  suffices hh:∃w,ah K (.fn (.func 99) [] []) [.sl (.heap l) 1 vs.length 0 vs.length,.d (bF y),.fn (.func 100) [] []] none H=some (.ret (.tuple [.d (.int .i64 (a:Nat)),.d (.bool false)]),false,H,w) by obtain⟨w,hh⟩:=hh;exact⟨w,_,hh,ha,h1,h2,by rw[hxa];simp⟩
  simp[c99,Yj,ZP,Y4,Zr,hlt,e1]at ee;exact⟨_,ee⟩
theorem as1(y:List Int)(H:List O):∃w,ah K (.fn (.func 99) [] []) [.d .nils,.d (bF y),.fn (.func 100) [] []] none H=some (.ret (.tuple [.d (.int .i64 0),.d (.bool false)]),false,H,w):=by have ee:=k99 [] [] [.d .nils,.d (bF y),.fn (.func 100) [] []] none H;simp[c99,Yj,ZP,Y4,Zr,af,Q7,Rw]at ee;exact⟨_,ee⟩
def zk(vs:List (List Int))(a:Nat)(y:List Int):List (List Int):=vs.take a++y::vs.drop a
theorem ahw(vs:List (List Int))(a:Nat)(y:List Int):vC (sZ vs) a (bF y)=sZ (zk vs a y):=by simp[vC,zk,sZ,List.map_take,List.map_drop]
theorem akB:K.orc 101=some H6:=by kernel_rfl
theorem awJ{l2 a:Nat}{vs:List (List Int)}{y:List Int}{H:List O}(hl:H[l2]?=some (.vec 1 (sZ vs) false true))(hne:vs≠[])(ha:a≤vs.length)(hn:vs.length≤1000) :
  ah K (.fn (.func 101) [] []) [.sl (.heap l2) 1 vs.length 0 vs.length,.d (.int .i64 (a:Nat)),.vl [.d (bF y)]] none H=some (.ret (.sl (.heap l2) 1 (vs.length+1) 0 (vs.length+1)),false,H.set l2 (.vec 1 (sZ (zk vs a y)) false true),1 <<< l2):=by
 apply aF akB;have h0:0<vs.length:=List.length_pos_iff.2 hne;have hal:(sZ vs).all D.isCell=true:=by rw[List.all_eq_true];intro e he;obtain⟨v,_,rfl⟩:=List.mem_map.1 he;exact uy v
 have hb:Nat.ble vs.length 100000000=true:=Nat.ble_eq_true_of_le (by omega);have ha':(a:Int)≤vs.length:=by omega
 have hlo:Ce [.sl (.heap l2) 1 vs.length 0 vs.length,.d (.int .i64 (a:Nat)),.vl [.d (bF y)]] H=some (.ret (.sl (.heap l2) 1 (vs.length+1) 0 (vs.length+1)),H.set l2 (.vec 1 (sZ (zk vs a y)) false true),1 <<< l2):=by have hp:=ahw vs a y;simp only[Ce,hl,zG,hal,hb,h0,ha',beq_self_eq_true,Bool.true_and,decide_true,Bool.and_true,Int.natCast_nonneg,cond_true,Int.toNat_natCast,hp]
 simp only[List.nil_append,List.append_nil,H6,hlo]
theorem aoo(y:List Int)(H:List O) :
  ah K (.fn (.func 101) [] []) [.d .nils,.d (.int .i64 0),.vl [.d (bF y)]] none H=some (.ret (.sl (.heap H.length) 1 1 0 1),false,H++[.vec 1 (sZ [y]) false true],0):=by
 apply aF akB;cases y<;>rfl
def vk(ds:List Int):List Int:=ds.map tJ
def R42(fr:Bool)(v:V)(o:List (Nat×Nat×O))(ls:List Int):Prop:=
 (ls=[]∧v=.d .nils∧o=[])∨(ls≠[]∧∃g,v=.sl (.slot 48 g) 1 ls.length 0 ls.length∧o=[(48,g,.vec 1 (ints ls) fr true)])
def D9(A l:Nat)(v:V)(ds:List Int)(k:Nat)(tl:List (Nat×V))(c4 c10 c13:O)(o:List (Nat×Nat×O))(H:List O)(w:Nat):St:=
 St.mk ([(12,.ptr (.heap A) 0),(14,v),(38,.d (bF ds)),(39,.d (.int .i64 ds.length)),(40,.d (.int .i64 (k:Nat)))]++tl) (Mem.mk ((4,0,c4)::(10,0,c10)::(13,0,c13)::o) H w) [] none false (some l)
section
variable{A l:Nat}{ds:List Int}{c4 c10 c13:O}
theorem agJ{v:V}{o:List (Nat×Nat×O)}{ls:List Int}{z:Int}{k:Nat}(hz:ds[k]?=some z)(hd:ds.length≤100)(hv:R42 false v o ls)(hls:ls.length≤100)(H:List O)(w:Nat) :
  ∃v' o' w',aj K 42 yZ (D9 A l v ds k [] c4 c10 c13 o H w)=some (.normal,D9 A l v' ds (k+1) [] c4 c10 c13 o' H w')∧R42 false v' o' (ls++[tJ z]):=by
 have hlt:=(gS.1 hz).1;have hdD:=iL (cs:=ds) (by rintro rfl;simp at hlt);have iz:=ints_at hz;obtain⟨_,iz2⟩:=gS.1 iz;have hil:(ints ds).length=ds.length:=by simp
 have w1:wr .i64 ((k:Int)+1)=(k:Int)+1:=wI;obtain⟨w2,e⟩:=s98 z H;generalize ints ds=N at *;rcases hv with ⟨rfl,rfl,rfl⟩|⟨hne,g,rfl,rfl⟩
 ·suffices hh:∃w',aj K 42 yZ (D9 A l (.d .nils) ds k [] c4 c10 c13 [] H w)=some (.normal,D9 A l (.sl (.slot 48 0) 1 1 0 1) ds (k+1) [] c4 c10 c13 [(48,0,.vec 1 (ints [tJ z]) false true)] H w') by obtain⟨w',hh⟩:=hh;exact⟨_,_,w',hh,.inr ⟨by simp,0,by simp,by simp⟩⟩
  simp[D9,Xq,Y1,Xa,Zy,ZL,hdD,hil,hlt,iz,iz2,e,w1]
 ·have k1:(ls.length+1)*8≤4294967296:=by omega
  have k2:ls.length+1≤4294967296:=by omega
  suffices hh:∃w',aj K 42 yZ (D9 A l (.sl (.slot 48 g) 1 ls.length 0 ls.length) ds k [] c4 c10 c13 [(48,g,.vec 1 (ints ls) false true)] H w)=some (.normal,D9 A l (.sl (.slot 48 g) 1 (ls.length+1) 0 (ls.length+1)) ds (k+1) [] c4 c10 c13 [(48,g,.vec 1 (ints (ls++[tJ z])) false true)] H w') by obtain⟨w',hh⟩:=hh;exact⟨_,_,w',hh,.inr ⟨by simp,g,by simp,by simp⟩⟩
  have hap:ints (ls++[tJ z])=ints ls++[.int .i64 (tJ z)]:=by simp[ints]
  have hin:(ints ls).length=ls.length:=by simp
  rw[hap];generalize ints ls=J at *;simp[D9,Xq,Y1,Xa,Zy,ZL,hdD,hil,hlt,iz,iz2,e,w1,k1,k2,hin]
theorem agO{v:V}{o:List (Nat×Nat×O)}(H:List O)(w:Nat):aj K 42 yZ (D9 A l v ds ds.length [] c4 c10 c13 o H w)=some (.exit 2,D9 A l v ds ds.length [(41,.d (.bool false))] c4 c10 c13 o H w):=by simp[D9,Xq,Y1]
theorem Qj(hd:ds.length≤100)(H:List O) :
  ∀(m k:Nat) (v:V) (o:List (Nat×Nat×O)) (w:Nat),k+m=ds.length→R42 false v o (vk (ds.take k))→
   ∃v' o' w',aj K 42 (.loop yZ) (D9 A l v ds k [] c4 c10 c13 o H w)=some (.exit 2,D9 A l v' ds ds.length [(41,.d (.bool false))] c4 c10 c13 o' H w')∧R42 false v' o' (vk ds)
 |0,k,v,o,w,hk,hv=>by
  have:k=ds.length:=by omega
  subst this;rw[List.take_length]at hv;exact⟨v,o,w,by rw[af,agO];rfl,hv⟩
 | m+1,k,v,o,w,hk,hv=>by
  have hz:=List.getElem?_eq_getElem (l:=ds) (i:=k) (by omega);have hls:(vk (ds.take k)).length≤100:=by simp[vk];omega
  obtain⟨v1,o1,w1,e1,hv1⟩:=agJ (A:=A) (l:=l) (c4:=c4) (c10:=c10) (c13:=c13) hz hd hv hls H w;have ht:vk (ds.take k)++[tJ ds[k]]=vk (ds.take (k+1)):=by unfold vk;rw[List.take_add_one,hz,List.map_append];rfl
  rw[ht]at hv1;obtain⟨v2,o2,w2,e2,hv2⟩:=Qj hd H m (k+1) v1 o1 w1 (by omega) hv1;refine⟨v2,o2,w2,?_,hv2⟩;rw[af,e1];exact e2
def T42(A l:Nat)(v:V)(tl:List (Nat×V))(c4 c10 c13:O)(o:List (Nat×Nat×O))(H:List O)(w:Nat):St:=
 St.mk ([(12,.ptr (.heap A) 0),(14,v)]++tl) (Mem.mk ((4,0,c4)::(10,0,c10)::(13,0,c13)::o) H w) [] none false (some l)
theorem Xz{v x:V}{o:List (Nat×Nat×O)}{ls:List Int}{a:Int}{b:Bool}{w1:Nat}{H:List O}{f1:V}{n1:Nat}(hv:R42 false v o ls)(hA:H[A]?=some (.cells [x] false))
  (hx:x=.d .nils∨∃l2 n,x=.sl (.heap l2) 1 n 0 n)
  (e:CK 99 [x,.d (bF ls),.fn (.func 100) [] []] H (.tuple [.d (.int .i64 a),.d (.bool b)]) H w1)(w:Nat) :
  ∃o' w',aj K 42 (rg 42 13) (D9 A l v ds n1 [(41,f1)] c4 c10 c13 o H w)=some (.normal,T42 A l v [(17,.d (.int .i64 a)),(18,.d (.bool b))] c4 c10 c13 o' H w')∧R42 true v o' ls:=by
 rcases hv with ⟨rfl,rfl,rfl⟩|⟨hne,g,rfl,rfl⟩
 ·suffices hh:∃w',aj K 42 (rg 42 13) (D9 A l (.d .nils) ds n1 [(41,f1)] c4 c10 c13 [] H w)=some (.normal,T42 A l (.d .nils) [(17,.d (.int .i64 a)),(18,.d (.bool b))] c4 c10 c13 [] H w') by obtain⟨w',hh⟩:=hh;exact⟨_,w',hh,.inl ⟨rfl,rfl,rfl⟩⟩
  simp only[bF]at e;rcases hx with rfl|⟨l2,n,rfl⟩
  all_goals simp[D9,T42,Vg,hA,e]
 ·suffices hh:∃w',aj K 42 (rg 42 13) (D9 A l (.sl (.slot 48 g) 1 ls.length 0 ls.length) ds n1 [(41,f1)] c4 c10 c13 [(48,g,.vec 1 (ints ls) false true)] H w)=some (.normal,T42 A l (.sl (.slot 48 g) 1 ls.length 0 ls.length) [(17,.d (.int .i64 a)),(18,.d (.bool b))] c4 c10 c13 [(48,g,.vec 1 (ints ls) true true)] H w') by obtain⟨w',hh⟩:=hh;exact⟨_,w',hh,.inr ⟨hne,g,rfl,rfl⟩⟩
  rw[iL hne]at e;have hin:(ints ls).length=ls.length:=by simp
  have htk:(ints ls).take ls.length=ints ls:=List.take_of_length_le (by simp);generalize ints ls=J at *;rcases hx with rfl|⟨l2,n,rfl⟩
  all_goals simp[D9,T42,Vg,hA,e,hin,htk]
theorem af8{v x:V}{o:List (Nat×Nat×O)}{ls:List Int}{a:Int}{H H':List O}{l2 n w1:Nat}{f1:V}(hv:R42 true v o ls)(hA:H[A]?=some (.cells [x] false))(hA':H'[A]?=some (.cells [x] false))
  (hx:x=.d .nils∨∃l2 n,x=.sl (.heap l2) 1 n 0 n)
  (e:CK 101 [x,.d (.int .i64 a),.vl [.d (bF ls)]] H (.sl (.heap l2) 1 n 0 n) H' w1)(w:Nat) :
  ∃w',aj K 42 (rg 42 15) (T42 A l v [(17,.d (.int .i64 a)),(57,f1)] c4 c10 c13 o H w)=some (.normal,St.mk [] (Mem.mk ((4,0,c4)::(10,0,c10)::(13,0,c13)::o) (H'.set A (.cells [.sl (.heap l2) 1 n 0 n] false)) w') [] none false (some l)):=by
 have hAl:=(gS.1 hA).1;have hAl':=(gS.1 hA').1;have hA2:=(gS.1 hA).2;have hA2':=(gS.1 hA').2;rcases hv with ⟨rfl,rfl,rfl⟩|⟨hne,g,rfl,rfl⟩
 ·simp only[bF]at e;rcases hx with rfl|⟨l3,n3,rfl⟩
  all_goals simp[T42,Y0,hA,hA',e]
 ·rw[iL hne]at e;have hin:(ints ls).length=ls.length:=by simp
  have htk:(ints ls).take ls.length=ints ls:=List.take_of_length_le (by simp);generalize ints ls=J at *;rcases hx with rfl|⟨l3,n3,rfl⟩
  all_goals simp[T42,Y0,hA,hA',e,hin,htk]
end
end Mw
