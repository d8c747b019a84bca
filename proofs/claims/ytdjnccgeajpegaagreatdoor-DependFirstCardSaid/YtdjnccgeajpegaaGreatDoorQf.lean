/- DependFirst's tied card holds; no condition beyond the card's own. -/
import Derived.Test.YtdjnccgeajpegaaGreatDoorQe
import Derived.Test.YtdjnccgeajpegaaGreatDoorXb
import Derived.Test.YtdjnccgeajpegaaGreatDoorKc
import Derived.Test.YtdjnccgeajpegaaGreatDoorXa
set_option linter.unusedVariables false
set_option linter.unusedSimpArgs false
set_option maxRecDepth 10000
set_option maxHeartbeats 4000000
namespace Mw
open Go Go.Proofs
theorem aai{H Hb:List O}{l T g:Nat}{k tn pa0 pb0 pa1 pb1 pa2 pb2 pa3 pb3 n0 n1 n2:Int}{sz tx stp at0 x0 x1 x2:D}{v21 v22 v23 v30 y5 y6 y7 y8 y9 y10:V}{c1:List V}
 (hl:H[l]?=some (.loop .ready none 64 [(2,.d .nilp),(3,.d (.int .i64 0)),(5,.ptr (.slot 5 0) 0),(6,.ptr (.slot 6 g) 0),(7,.ptr (.slot 7 g) 0),(21,v21),(22,v22),(23,v23),(30,v30)] [(1,0,.cells c1 true),(5,0,.cells [.ptr (.heap T) 0] true),(6,g,.cells [.d (.int .i64 k)] true),(7,g,.cells [.d sz,.d (.int .i64 tn),.d tx,.d (.list 2 [.agg [.int .i64 n0,x0],.agg [.int .i64 n1,x1],.agg [.int .i64 n2,x2]]),y5,y6,y7,y8,y9,y10] true)] [31] ja iZ))(hT:H[T]?=some (.cells [.d (.list 2 ax),.d stp,.d .nils] false))(hne:l≠T)(hHb:Hb=H.set l (.loop .busy none 64 [(2,.d .nilp),(3,.d (.int .i64 0)),(5,.ptr (.slot 5 0) 0),(6,.ptr (.slot 6 g) 0),(7,.ptr (.slot 7 g) 0),(21,v21),(22,v22),(23,v23),(30,v30)] [(1,0,.cells c1 true),(5,0,.cells [.ptr (.heap T) 0] true),(6,g,.cells [.d (.int .i64 k)] true),(7,g,.cells [.d sz,.d (.int .i64 tn),.d tx,.d (.list 2 [.agg [.int .i64 n0,x0],.agg [.int .i64 n1,x1],.agg [.int .i64 n2,x2]]),y5,y6,y7,y8,y9,y10] true)] [31] ja iZ))
 (e0:CK 133 [.ptr (.heap T) 0,.d (.agg [.int .i64 tn,tx]),.d at0] Hb (.d (.agg [.int .i64 pa0,.int .i64 pb0])) Hb 0)
 (e1:CK 133 [.ptr (.heap T) 0,.d (.agg [.int .i64 n0,x0]),.d at0] Hb (.d (.agg [.int .i64 pa1,.int .i64 pb1])) Hb 0)
 (e2:CK 133 [.ptr (.heap T) 0,.d (.agg [.int .i64 n1,x1]),.d at0] Hb (.d (.agg [.int .i64 pa2,.int .i64 pb2])) Hb 0)
 (e3:CK 133 [.ptr (.heap T) 0,.d (.agg [.int .i64 n2,x2]),.d at0] Hb (.d (.agg [.int .i64 pa3,.int .i64 pb3])) Hb 0)
 (ctx:D.isCell tx=true)(cat0:D.isCell at0=true)(cx0:D.isCell x0=true)(cx1:D.isCell x1=true)(cx2:D.isCell x2=true)
 :∃w,ah K (.fn (.yield l) [] []) [.d at0] none H=some (.ret (.d (.bool true)),false,(H.set T (.cells [.d (.list 2 ax),.d stp,.sl (.heap H.length) 4 1 0 1] false)++[.vec 4 [.agg [.int .i64 k,.int .i64 0,at0,.list 2 [.agg [.int .i64 pa0,.int .i64 pb0],.agg [.int .i64 pa1,.int .i64 pb1],.agg [.int .i64 pa2,.int .i64 pb2],.agg [.int .i64 pa3,.int .i64 pb3]]]] false true]),w):=by
 subst hHb;have kat0:D.cells at0=[at0]:=jE cat0;simp only[D.cells]at kat0;simp only[D.isCell]at ctx cat0 cx0 cx1 cx2;have hll:l<H.length:=(gS.1 hl).1;have hTl:T<H.length:=(gS.1 hT).1;have hne':¬T=l:=fun h=>hne h.symm;have hl2:=hl;have hT2:=hT;rw[List.getElem?_eq_getElem hll]at hl2;rw[List.getElem?_eq_getElem hTl]at hT2;simp only[oI]at hl2 hT2;rw[bP];unfold gJ;rw[hl];simp[Hw,JC,yK,ru,rJ,rQ,sN,sD,rX,sK,af,zi,oL,insL,hl2,hT2,hne,hne',hll,hTl,w0,w1,w2,w3,kat0,List.getElem?_append_left,List.set_append_left,e0,e1,e2,e3,ctx,cat0,cx0,cx1,cx2];exact JE hl hne
theorem aaO{H Hb:List O}{l T L g:Nat}{k tn pa0 pb0 pa1 pb1 pa2 pb2 pa3 pb3 n0 n1 n2:Int}{sz tx stp at0 x0 x1 x2:D}{v21 v22 v23 v30 y5 y6 y7 y8 y9 y10:V}{c1:List V}{es:List D}
 (hl:H[l]?=some (.loop .ready none 64 [(2,.d .nilp),(3,.d (.int .i64 0)),(5,.ptr (.slot 5 0) 0),(6,.ptr (.slot 6 g) 0),(7,.ptr (.slot 7 g) 0),(21,v21),(22,v22),(23,v23),(30,v30)] [(1,0,.cells c1 true),(5,0,.cells [.ptr (.heap T) 0] true),(6,g,.cells [.d (.int .i64 k)] true),(7,g,.cells [.d sz,.d (.int .i64 tn),.d tx,.d (.list 2 [.agg [.int .i64 n0,x0],.agg [.int .i64 n1,x1],.agg [.int .i64 n2,x2]]),y5,y6,y7,y8,y9,y10] true)] [31] ja iZ))(hT:H[T]?=some (.cells [.d (.list 2 ax),.d stp,.sl (.heap L) 4 es.length 0 es.length] false))(hne:l≠T)(hHb:Hb=H.set l (.loop .busy none 64 [(2,.d .nilp),(3,.d (.int .i64 0)),(5,.ptr (.slot 5 0) 0),(6,.ptr (.slot 6 g) 0),(7,.ptr (.slot 7 g) 0),(21,v21),(22,v22),(23,v23),(30,v30)] [(1,0,.cells c1 true),(5,0,.cells [.ptr (.heap T) 0] true),(6,g,.cells [.d (.int .i64 k)] true),(7,g,.cells [.d sz,.d (.int .i64 tn),.d tx,.d (.list 2 [.agg [.int .i64 n0,x0],.agg [.int .i64 n1,x1],.agg [.int .i64 n2,x2]]),y5,y6,y7,y8,y9,y10] true)] [31] ja iZ))
 (hL:H[L]?=some (.vec 4 es false true))(hne2:l≠L)(hne3:T≠L)(hes:es.length≤1000)
 (e0:CK 133 [.ptr (.heap T) 0,.d (.agg [.int .i64 tn,tx]),.d at0] Hb (.d (.agg [.int .i64 pa0,.int .i64 pb0])) Hb 0)
 (e1:CK 133 [.ptr (.heap T) 0,.d (.agg [.int .i64 n0,x0]),.d at0] Hb (.d (.agg [.int .i64 pa1,.int .i64 pb1])) Hb 0)
 (e2:CK 133 [.ptr (.heap T) 0,.d (.agg [.int .i64 n1,x1]),.d at0] Hb (.d (.agg [.int .i64 pa2,.int .i64 pb2])) Hb 0)
 (e3:CK 133 [.ptr (.heap T) 0,.d (.agg [.int .i64 n2,x2]),.d at0] Hb (.d (.agg [.int .i64 pa3,.int .i64 pb3])) Hb 0)
 (ctx:D.isCell tx=true)(cat0:D.isCell at0=true)(cx0:D.isCell x0=true)(cx1:D.isCell x1=true)(cx2:D.isCell x2=true)
 :∃w,ah K (.fn (.yield l) [] []) [.d at0] none H=some (.ret (.d (.bool true)),false,((H.set L (.vec 4 (es++[.agg [.int .i64 k,.int .i64 es.length,at0,.list 2 [.agg [.int .i64 pa0,.int .i64 pb0],.agg [.int .i64 pa1,.int .i64 pb1],.agg [.int .i64 pa2,.int .i64 pb2],.agg [.int .i64 pa3,.int .i64 pb3]]]]) false true)).set T (.cells [.d (.list 2 ax),.d stp,.sl (.heap L) 4 (es.length+1) 0 (es.length+1)] false)),w):=by
 subst hHb;have kat0:D.cells at0=[at0]:=jE cat0;simp only[D.cells]at kat0;simp only[D.isCell]at ctx cat0 cx0 cx1 cx2;have hll:l<H.length:=(gS.1 hl).1;have hTl:T<H.length:=(gS.1 hT).1;have hne':¬T=l:=fun h=>hne h.symm;have hLl:L<H.length:=(gS.1 hL).1;have hne2':¬L=l:=fun h=>hne2 h.symm;have hne3':¬L=T:=fun h=>hne3 h.symm;have hg1:es.length+1≤4294967296:=by omega
 have hg2:(es.length+1)*64≤4294967296:=by omega
 have hl2:=hl;have hT2:=hT;rw[List.getElem?_eq_getElem hll]at hl2;rw[List.getElem?_eq_getElem hTl]at hT2;simp only[oI]at hl2 hT2;have hL2:=hL;rw[List.getElem?_eq_getElem hLl]at hL2;simp only[oI]at hL2;rw[bP];unfold gJ;rw[hl];simp[Hw,JC,yK,ru,rJ,rQ,sN,sD,rX,sK,af,zi,oL,insL,hl2,hT2,hne,hne',hll,hTl,w0,w1,w2,w3,kat0,List.getElem?_append_left,List.set_append_left,hL2,hne2,hne2',hne3,hne3',hLl,hg1,hg2,e0,e1,e2,e3,ctx,cat0,cx0,cx1,cx2];exact yY hl hne hne2
@[simp] theorem arv:aU K 49=some .nilf:=by kernel_rfl
@[simp] theorem arL:(K.P.info? 49).isSome=true:=by kernel_rfl
theorem axr{H H':List O}{B l w:Nat}(e1:ah K (.fn (.func 191) [] [.ptr (.heap B) 0,.ptr (.heap H.length) 0,.ptr (.heap (H.length+1)) 0]) [.d .nils] none (H++[.cells [.fn (.yield l) [] []] false,.cells [.fn (.func 191) [] [.ptr (.heap B) 0,.ptr (.heap H.length) 0,.ptr (.heap (H.length+1)) 0]] false])=some (.ret (.d (.bool true)),false,H',w)) :
  ∃w',ah K (.fn (.func 190) [] [.ptr (.heap B) 0]) [.fn (.yield l) [] []] none H=some (.ret (.tuple []),false,H',w'):=by
 have e:=awo [] [.ptr (.heap B) 0] [.fn (.yield l) [] []] none H;simp[ajQ,aiJ,aiF,aib,afc,e1]at e;exact⟨_,e⟩
theorem akJ(H:List O)(ss:List Int):∃w,ah K (.fn (.func 132) [] []) [.d (fC ss)] none H=some (.ret (.fn (.func 190) [] [.ptr (.heap H.length) 0]),false,H++[.cells [.d (fC ss)] false],w):=by have e:=av6 [] [] [.d (fC ss)] none H;cases ss<;>simp[aoJ,fC,ae6,agt]at e<;>exact⟨_,e⟩
noncomputable def oO(T g k B:Nat)(c1 all:List D)(s:Stp):O:=
 .loop .ready none 64 [(2,.d .nilp),(3,.d (.int .i64 0)),(5,.ptr (.slot 5 0) 0),(6,.ptr (.slot 6 g) 0),(7,.ptr (.slot 7 g) 0),(21,.d (.list 10 all)),(22,.d (.int .i64 all.length)),(23,.d (.int .i64 k)),(30,.fn (.func 190) [] [.ptr (.heap B) 0])]
  [(1,0,.cells (c1.map .d) true),(5,0,.cells [.ptr (.heap T) 0] true),(6,g,.cells [.d (.int .i64 k)] true),(7,g,.cells [.d (fC s.ss),.d (.int .i64 s.to.1),.d (lS s.to.2),.d (yR s.fr),.d (.int .i64 s.op),.d (.str s.num),.d (.str s.den),.d (.str s.name),.d (.int .i64 s.size),.d s.args] true)] [31] ja iZ
theorem adi(B:Nat){tm:List (Nat×V)}{m:Mem}(h:look 30 tm=some (.fn (.func 190) [] [.ptr (.heap B) 0])) :
  aj K 64 (.rangeFunc (.tmp 30) #[31] ja iZ) (St.mk tm m [] none false none)=iQ (St.mk tm m [] none false none) m.hp.length (ah K (.fn (.func 190) [] [.ptr (.heap B) 0]) [.fn (.yield m.hp.length) [] []] none (m.hp++[.loop .ready none 64 (vN m.ob tm) (uf m.ob) [31] ja iZ])):=
 kV rfl (by simp[h,bH])
theorem amC(T k w w1 w2:Nat)(s:Stp)(hs:gK s){all c1:List D}(hk:all[k]?=some (encS s))(h27:all.length≤1000){hp H':List O}
  (e2:ah K (.fn (.func 190) [] [.ptr (.heap hp.length) 0]) [.fn (.yield (hp.length+1)) [] []] none (hp++[.cells [.d (fC s.ss)] false,oO T 0 k hp.length c1 all s])=some (.ret (.tuple []),false,H',w2))
  (hl:H'[hp.length+1]?=some (oO T 0 k hp.length c1 all s)) :
  ∃w',aj K 64 Ez (St.mk [(2,.d .nilp),(3,.d (.int .i64 0)),(5,.ptr (.slot 5 0) 0),(21,.d (.list 10 all)),(22,.d (.int .i64 all.length)),(23,.d (.int .i64 k))]
  (Mem.mk [(1,0,.cells (c1.map .d) false),(5,0,.cells [.ptr (.heap T) 0] false)] hp w) [] none false none)=some (.normal,St.mk [(2,.d .nilp),(3,.d (.int .i64 0)),(5,.ptr (.slot 5 0) 0),(21,.d (.list 10 all)),(22,.d (.int .i64 all.length)),(23,.d (.int .i64 (k+1:Nat)))]
  (Mem.mk [(1,0,.cells (c1.map .d) false),(5,0,.cells [.ptr (.heap T) 0] false),(6,0,.cells [.d (.int .i64 k)] false),(7,0,.cells [.d (fC s.ss),.d (.int .i64 s.to.1),.d (lS s.to.2),.d (yR s.fr),.d (.int .i64 s.op),.d (.str s.num),.d (.str s.den),.d (.str s.name),.d (.int .i64 s.size),.d s.args] false)] (H'.set (hp.length+1) .dead) w') [] none false none):=by
 have hlt:k<all.length:=(gS.1 hk).1;have hk2:=hk;rw[List.getElem?_eq_getElem hlt]at hk2;simp only[oI]at hk2;have ca:D.isCell s.args=true:=by rcases hs.body.args with h|⟨l,h⟩<;>rw[h]<;>rfl
 have cz:D.isCell (fC s.ss)=true:=by cases s.ss<;>rfl
 have ct:D.isCell (lS s.to.2)=true:=by cases s.to.2<;>rfl
 have cf:D.isCell (yR s.fr)=true:=by cases s.fr<;>rfl
 simp only[D.isCell]at ca cz ct cf;obtain⟨w0,e0⟩:=akJ hp s.ss;have hw:wr .i64 ((k:Int)+1)=(k:Int)+1:=wI;simp only[oO]at hl e2;have hll:=(gS.1 hl).1;have hl2:=hl;rw[List.getElem?_eq_getElem hll]at hl2;simp only[oI]at hl2;simp[ZI,YB,ad5,aem,VR,hk,hk2,hlt,encS,ca,cz,ct,cf,e0,adi hp.length,vN,uf,Tm,Ux,e2,iQ,hl,hll,hl2,hw]
theorem al3(T k g w w1 w2:Nat)(s:Stp)(hs:gK s){all c1:List D}(hk:all[k]?=some (encS s))(h27:all.length≤1000){hp H':List O}(o6 o7:O)
  (e2:ah K (.fn (.func 190) [] [.ptr (.heap hp.length) 0]) [.fn (.yield (hp.length+1)) [] []] none (hp++[.cells [.d (fC s.ss)] false,oO T (g+1) k hp.length c1 all s])=some (.ret (.tuple []),false,H',w2))
  (hl:H'[hp.length+1]?=some (oO T (g+1) k hp.length c1 all s)) :
  ∃w',aj K 64 Ez (St.mk [(2,.d .nilp),(3,.d (.int .i64 0)),(5,.ptr (.slot 5 0) 0),(21,.d (.list 10 all)),(22,.d (.int .i64 all.length)),(23,.d (.int .i64 k))]
  (Mem.mk [(1,0,.cells (c1.map .d) false),(5,0,.cells [.ptr (.heap T) 0] false),(6,g,o6),(7,g,o7)] hp w) [] none false none)=some (.normal,St.mk [(2,.d .nilp),(3,.d (.int .i64 0)),(5,.ptr (.slot 5 0) 0),(21,.d (.list 10 all)),(22,.d (.int .i64 all.length)),(23,.d (.int .i64 (k+1:Nat)))]
  (Mem.mk [(1,0,.cells (c1.map .d) false),(5,0,.cells [.ptr (.heap T) 0] false),(6,g+1,.cells [.d (.int .i64 k)] false),(7,g+1,.cells [.d (fC s.ss),.d (.int .i64 s.to.1),.d (lS s.to.2),.d (yR s.fr),.d (.int .i64 s.op),.d (.str s.num),.d (.str s.den),.d (.str s.name),.d (.int .i64 s.size),.d s.args] false)] (H'.set (hp.length+1) .dead) w') [] none false none):=by
 have hlt:k<all.length:=(gS.1 hk).1;have hk2:=hk;rw[List.getElem?_eq_getElem hlt]at hk2;simp only[oI]at hk2;have ca:D.isCell s.args=true:=by rcases hs.body.args with h|⟨l,h⟩<;>rw[h]<;>rfl
 have cz:D.isCell (fC s.ss)=true:=by cases s.ss<;>rfl
 have ct:D.isCell (lS s.to.2)=true:=by cases s.to.2<;>rfl
 have cf:D.isCell (yR s.fr)=true:=by cases s.fr<;>rfl
 simp only[D.isCell]at ca cz ct cf;obtain⟨w0,e0⟩:=akJ hp s.ss;have hw:wr .i64 ((k:Int)+1)=(k:Int)+1:=wI;simp only[oO]at hl e2;have hll:=(gS.1 hl).1;have hl2:=hl;rw[List.getElem?_eq_getElem hll]at hl2;simp only[oI]at hl2;simp[ZI,YB,ad5,aem,VR,hk,hk2,hlt,encS,ca,cz,ct,cf,e0,adi hp.length,vN,uf,Tm,Ux,e2,iQ,hl,hll,hl2,hw]
def nV(c:Nat×List (Int×List Int))(p:List Int):D:=.agg [.int .i64 c.1,.int .i64 (lg c.1 c.2 p)]
def dQ(s:Stp)(p:List Int):List D:=nV s.to p::s.fr.map (nV · p)
def aJ(n:Nat)(x:Nat×Stp×List Int):D:=.agg [.int .i64 x.1,.int .i64 n,bF x.2.2,.list 2 (dQ x.2.1 x.2.2)]
def encI:Nat→List (Nat×Stp×List Int)→List D
 |_,[]=>[]|n,x::r=>aJ n x::encI (n+1) r
theorem wP(n:Nat)(l:List (Nat×Stp×List Int)):(encI n l).length=l.length:=by
 induction l generalizing n with
 |nil=>rfl|cons x r ih=>simp[encI,ih]
theorem VL(n:Nat)(a b:List (Nat×Stp×List Int)):encI n (a++b)=encI n a++encI (n+a.length) b:=by
 induction a generalizing n with
 |nil=>rfl|cons x r ih=>simp[encI,ih,Nat.add_assoc,Nat.add_comm 1]
def allI:Nat→List Stp→List (Nat×Stp×List Int)
 |_,[]=>[]|k,s::r=>(aZ s.ss).map (fun p=>(k,s,p))++allI (k+1) r
def Kw(b T:Nat)(stp:D)(H:List O)(es:List D):Prop:=
 (es=[]∧H[T]?=some (.cells [.d (.list 2 ax),.d stp,.d .nils] false))∨
 (∃L,b≤L∧es≠[]∧H[T]?=some (.cells [.d (.list 2 ax),.d stp,.sl (.heap L) 4 es.length 0 es.length] false)∧H[L]?=some (.vec 4 es false true))
def Keep(b T:Nat)(H H':List O):Prop:=∀i o,H[i]?=some o→i≠T→(i<b∨∀t e x y,o≠.vec t e x y)→H'[i]?=some o
theorem Keep.refl(b T:Nat)(H:List O):Keep b T H H:=fun _ _ h _ _=>h
theorem Keep.trans{b T:Nat}{H H' J:List O}(h:Keep b T H H')(g:Keep b T H' J):Keep b T H J:=fun i o a e c=>g i o (h i o a e c) e c
theorem hAt(p:List Int):(V.d (bF p)=.d (.list 1 (ints p))∨(V.d (bF p)=.d .nils∧p=[])):=by
 cases p with
 |nil=>right;exact⟨rfl,rfl⟩|cons x xs=>left;rfl
theorem uy(p:List Int):D.isCell (bF p)=true:=by cases p<;>rfl
theorem mP(x:List (Int×List Int)):D.isCell (lS x)=true:=by cases x<;>rfl
theorem Rk{b T:Nat}{H:List O}{a:O}{J:List O}:Keep b T H (H.set T a++J):=by intro i o h1 h2 _;have hi:=(gS.1 h1).1;rw[List.getElem?_append_left (by simpa using hi),List.getElem?_set_ne (Ne.symm h2)];exact h1
theorem QY{b T L t:Nat}{H:List O}{a c:O}{es:List D}{x y:Bool}(hb:b≤L)(hL:H[L]?=some (.vec t es x y)):Keep b T H ((H.set L c).set T a):=by
 intro i o h1 h2 h3;have hne:i≠L:=by
  rintro rfl;rcases h3 with h3|h3
  ·omega
  ·rw[hL]at h1;exact h3 _ _ _ _ (Option.some.inj h1).symm
 rw[List.getElem?_set_ne (Ne.symm h2),List.getElem?_set_ne (Ne.symm hne)];exact h1
theorem r64{b T l g k B:Nat}{c1 all:List D}{s:Stp}(hs:gK s){p:List Int}(hp:jw p s.ss){H:List O}{es:List D}{stp:D}(hb:b≤T)(hl:H[l]?=some (oO T g k B c1 all s))(hT:Kw b T stp H es)(hes:es.length≤1000) :
  ∃H' w,ah K (.fn (.yield l) [] []) [.d (bF p)] none H=some (.ret (.d (.bool true)),false,H',w)∧Kw b T stp H' (es++[aJ es.length (k,s,p)])∧Keep b T H H':=by
 rcases hT with ⟨he,hT⟩|⟨L,hbL,hne0,hT,hL⟩
 ·subst he;have hne:l≠T:=by rintro rfl;rw[hl]at hT;simp[oO]at hT
  have hTl:T<H.length:=(gS.1 hT).1;have e:∀c:Nat×List (Int×List Int),dP c.1 c.2 s.ss→∀o,ah K (.fn (.func 133) [] []) [.ptr (.heap T) 0,.d (dJ c.1 c.2),.d (bF p)] none (H.set l o)=some (.ret (.d (nV c p)),false,H.set l o,0):=fun c hc o=>amR _ T (by rw[List.getElem?_set_ne hne];exact hT) hc hs.sz hp (.d (bF p)) (hAt p);have fin:∀fr,fr=s.fr→∀X:List D,X=dQ s p→Kw b T stp (H.set T (.cells [.d (.list 2 ax),.d stp,.sl (.heap H.length) 4 1 0 1] false)++[.vec 4 [.agg [.int .i64 k,.int .i64 0,bF p,.list 2 X]] false true]) ([]++[aJ ([]:List D).length (k,s,p)]):=by
   rintro _ _ X rfl;refine .inr ⟨H.length,by omega,by simp,?_,?_⟩
   ·rw[List.getElem?_append_left (by simpa using hTl),List.getElem?_set_self hTl];rfl
   ·rw[List.getElem?_append_right (by simp)];simp[aJ]
  obtain⟨ss,to,fr,op,num,den,name,size,args⟩:=s;have hfew:=hs.few;have e0:=e to hs.to
  match fr,hfew,hs,hl,fin with
  |[],_,hs,hl,fin=>obtain⟨w,f⟩:=aby hl hT hne rfl (e0 _) (mP _) (uy p);exact⟨_,w,f,fin _ rfl _ rfl,Rk⟩
  |[x],_,hs,hl,fin=>obtain⟨w,f⟩:=aaU hl hT hne rfl (e0 _) (e x (hs.fr x (by simp)) _) (mP _) (uy p) (mP _);exact⟨_,w,f,fin _ rfl _ rfl,Rk⟩
  |[x,y],_,hs,hl,fin=>obtain⟨w,f⟩:=acB hl hT hne rfl (e0 _) (e x (hs.fr x (by simp)) _) (e y (hs.fr y (by simp)) _) (mP _) (uy p) (mP _) (mP _);exact⟨_,w,f,fin _ rfl _ rfl,Rk⟩
  |[x,y,z],_,hs,hl,fin=>obtain⟨w,f⟩:=aai hl hT hne rfl (e0 _) (e x (hs.fr x (by simp)) _) (e y (hs.fr y (by simp)) _) (e z (hs.fr z (by simp)) _) (mP _) (uy p) (mP _) (mP _) (mP _);exact⟨_,w,f,fin _ rfl _ rfl,Rk⟩
  |_::_::_::_::_,hfew,_,_,_=>simp at hfew
 ·have hne:l≠T:=by rintro rfl;rw[hl]at hT;simp[oO]at hT
  have hne2:l≠L:=by rintro rfl;rw[hl]at hL;simp[oO]at hL
  have hne3:T≠L:=by rintro rfl;rw[hL]at hT;simp at hT
  have hTl:T<H.length:=(gS.1 hT).1;have hLl:L<H.length:=(gS.1 hL).1;have e:∀c:Nat×List (Int×List Int),dP c.1 c.2 s.ss→∀o,ah K (.fn (.func 133) [] []) [.ptr (.heap T) 0,.d (dJ c.1 c.2),.d (bF p)] none (H.set l o)=some (.ret (.d (nV c p)),false,H.set l o,0):=fun c hc o=>amR _ T (by rw[List.getElem?_set_ne hne];exact hT) hc hs.sz hp (.d (bF p)) (hAt p);have fin:∀fr,fr=s.fr→∀X:List D,X=dQ s p→Kw b T stp ((H.set L (.vec 4 (es++[.agg [.int .i64 k,.int .i64 es.length,bF p,.list 2 X]]) false true)).set T (.cells [.d (.list 2 ax),.d stp,.sl (.heap L) 4 (es.length+1) 0 (es.length+1)] false)) (es++[aJ es.length (k,s,p)]):=by
   rintro _ _ X rfl;refine .inr ⟨L,hbL,by simp,?_,?_⟩
   ·rw[List.getElem?_set_self (by simpa using hTl)];simp
   ·rw[List.getElem?_set_ne hne3,List.getElem?_set_self hLl];rfl
  obtain⟨ss,to,fr,op,num,den,name,size,args⟩:=s;have hfew:=hs.few;have e0:=e to hs.to
  match fr,hfew,hs,hl,fin with
  |[],_,hs,hl,fin=>obtain⟨w,f⟩:=aay hl hT hne rfl hL hne2 hne3 hes (e0 _) (mP _) (uy p);exact⟨_,w,f,fin _ rfl _ rfl,QY hbL hL⟩
  |[x],_,hs,hl,fin=>obtain⟨w,f⟩:=aa3 hl hT hne rfl hL hne2 hne3 hes (e0 _) (e x (hs.fr x (by simp)) _) (mP _) (uy p) (mP _);exact⟨_,w,f,fin _ rfl _ rfl,QY hbL hL⟩
  |[x,y],_,hs,hl,fin=>obtain⟨w,f⟩:=ab8 hl hT hne rfl hL hne2 hne3 hes (e0 _) (e x (hs.fr x (by simp)) _) (e y (hs.fr y (by simp)) _) (mP _) (uy p) (mP _) (mP _);exact⟨_,w,f,fin _ rfl _ rfl,QY hbL hL⟩
  |[x,y,z],_,hs,hl,fin=>obtain⟨w,f⟩:=aaO hl hT hne rfl hL hne2 hne3 hes (e0 _) (e x (hs.fr x (by simp)) _) (e y (hs.fr y (by simp)) _) (e z (hs.fr z (by simp)) _) (mP _) (uy p) (mP _) (mP _) (mP _);exact⟨_,w,f,fin _ rfl _ rfl,QY hbL hL⟩
  |_::_::_::_::_,hfew,_,_,_=>simp at hfew
theorem Keep.at{b T:Nat}{H H':List O}(h:Keep b T H H'){i:Nat}{o:O}(h1:H[i]?=some o)(h2:i≠T)(h3:∀t e x y,o≠.vec t e x y):H'[i]?=some o:=h i o h1 h2 (.inr h3)
theorem g64{b T g k:Nat}{c1 all:List D}{s:Stp}(hs:gK s){hp:List O}{done:List (Nat×Stp×List Int)}{stp:D}(hb:b≤T)(hT:Kw b T stp hp (encI 0 done))(hn:done.length+(aZ s.ss).length≤1000) :
  ∃H' w,ah K (.fn (.func 190) [] [.ptr (.heap hp.length) 0]) [.fn (.yield (hp.length+1)) [] []] none (hp++[.cells [.d (fC s.ss)] false,oO T g k hp.length c1 all s])=some (.ret (.tuple []),false,H',w)∧
   H'[hp.length+1]?=some (oO T g k hp.length c1 all s)∧Kw b T stp H' (encI 0 (done++(aZ s.ss).map (fun p=>(k,s,p))))∧Keep b T hp H':=by
 have hTl:T<hp.length:=by rcases hT with ⟨_,h⟩|⟨_,_,_,h,_⟩<;>exact(gS.1 h).1
 let H1:=hp++[.cells [.d (fC s.ss)] false,oO T g k hp.length c1 all s];have hH1:H1.length=hp.length+2:=by simp[H1]
 let H2:=H1++[.cells [.fn (.yield (hp.length+1)) [] []] false,.cells [.fn (.func 191) [] [.ptr (.heap hp.length) 0,.ptr (.heap H1.length) 0,.ptr (.heap (H1.length+1)) 0]] false];let Inv:List (List Int)→List O→Prop:=fun d H=>Kw b T stp H (encI 0 (done++d.map (fun p=>(k,s,p))))∧Keep b T H2 H;have hB:H2[hp.length]?=some (.cells [.d (fC s.ss)] false):=by simp[H2,H1]
 have hR:H2[hp.length+1]?=some (oO T g k hp.length c1 all s):=by simp[H2,H1]
 have hY:H2[H1.length]?=some (.cells [.fn (.yield (hp.length+1)) [] []] false):=by simp only[H2];rw[List.getElem?_append_right (by omega)];simp
 have hG:H2[H1.length+1]?=some (.cells [.fn (.func 191) [] [.ptr (.heap hp.length) 0,.ptr (.heap H1.length) 0,.ptr (.heap (H1.length+1)) 0]] false):=by simp only[H2];rw[List.getElem?_append_right (by omega)];simp
 have R:Rounds s.ss hp.length H1.length (H1.length+1) (hp.length+1) (aZ s.ss).length Inv:=by
  refine⟨?_,?_,?_,?_⟩
  ·exact fun d H h=>⟨false,h.2.at hB (by omega) (by simp)⟩
  ·exact fun d H h=>⟨false,h.2.at hY (by omega) (by simp)⟩
  ·exact fun d H h=>⟨false,h.2.at hG (by omega) (by simp)⟩
  ·intro d H p h hp' hd;have hr:=h.2.at hR (by omega) (by simp[oO]);obtain⟨H',w,e,hL,hK⟩:=r64 hs hp' hb hr h.1 (by rw[wP];simp;omega);refine⟨H',w,e,?_,h.2.trans hK⟩;have:encI 0 (done++List.map (fun p=>(k,s,p)) (d++[p]))=encI 0 (done++d.map (fun p=>(k,s,p)))++[aJ (encI 0 (done++d.map (fun p=>(k,s,p)))).length (k,s,p)]:=by rw[wP,List.map_append,←List.append_assoc,VL];simp[encI]
   rw[this];exact hL
 have hI0:Inv [] H2:=by
  refine⟨?_,Keep.refl _ _ _⟩;have hap:∀(i:Nat) (o:O),hp[i]?=some o→H2[i]?=some o:=fun i o h=>by have hi:=(gS.1 h).1;simp only[H2,H1];rw[List.append_assoc,List.getElem?_append_left hi];exact h
  simp only[List.map_nil,List.append_nil];rcases hT with ⟨h1,h2⟩|⟨L,h1,h2,h3,h4⟩
  ·exact .inl ⟨h1,hap _ _ h2⟩
  ·exact .inr ⟨L,h1,h2,hap _ _ h3,hap _ _ h4⟩
 obtain⟨H',w,e,hI⟩:=ayv R hs.sz s.ss [] [] rfl .nil [] H2 hI0 (by simp);obtain⟨w',e'⟩:=axr (H:=H1) (B:=hp.length) (l:=hp.length+1) e;refine⟨H',w',e',hI.2.at hR (by omega) (by simp[oO]),by simpa using hI.1,?_⟩;refine Keep.trans ?_ hI.2;intro i o h1 h2 _;have hi:=(gS.1 h1).1;simp only[H2,H1];rw[List.append_assoc,List.getElem?_append_left hi];exact h1
theorem Keep.dead{b T:Nat}{H H':List O}{l:Nat}(h:Keep b T H H')(hl:H.length≤l):Keep b T H (H'.set l .dead):=by intro i o h1 h2 h3;have hi:=(gS.1 h1).1;rw[List.getElem?_set_ne (by omega)];exact h i o h1 h2 h3
theorem Kw.dead{b T:Nat}{stp:D}{H:List O}{es:List D}{l:Nat}{o:O}(h:Kw b T stp H es)(hl:H[l]?=some o)(ho:∀cs ro,o≠.cells cs ro)(hv:∀t e x y,o≠.vec t e x y):Kw b T stp (H.set l .dead) es:=by
 have hne:∀{i:Nat} {cs:List V} {ro:Bool},H[i]?=some (.cells cs ro)→(H.set l .dead)[i]?=some (.cells cs ro):=fun {i cs ro} h=>by
  have:l≠i:=by rintro rfl;rw[h]at hl;exact ho _ _ (Option.some.inj hl).symm
  rw[List.getElem?_set_ne this];exact h
 have hnv:∀{i t:Nat} {cs:List D} {x y:Bool},H[i]?=some (.vec t cs x y)→(H.set l .dead)[i]?=some (.vec t cs x y):=fun {i t cs x y} h=>by
  have:l≠i:=by rintro rfl;rw[h]at hl;exact hv _ _ _ _ (Option.some.inj hl).symm
  rw[List.getElem?_set_ne this];exact h
 rcases h with ⟨h1,h2⟩|⟨L,h1,h2,h3,h4⟩
 ·exact .inl ⟨h1,hne h2⟩
 ·exact .inr ⟨L,h1,h2,hne h3,hnv h4⟩
theorem Et{ss:List Int}(h:eX ss):(aZ ss).length≤16:=by
 obtain⟨h1,h2⟩:=h
 match ss,h1,h2 with
 |[],_,_=>simp[aZ]|[a],h1,_=>have:=h1 a (by simp);simp[aZ,List.map_const',List.length_flatMap];omega
 |[a,c],h1,_=>
  have:=h1 a (by simp);have:=h1 c (by simp);obtain rfl|rfl|rfl|rfl:a=1∨a=2∨a=3∨a=4:=by omega
  all_goals obtain rfl|rfl|rfl|rfl:c=1∨c=2∨c=3∨c=4:=by omega
  all_goals decide
 |_::_::_::_,_,h2=>simp at h2
theorem ail{b T:Nat}{c1 all:List D}{ts:List Stp}(hall:all=ts.map encS)(h3:ts.length≤3)(ht:∀s∈ts,gK s){stp:D}(hb:b≤T) :
  ∀(rs:List Stp) (k:Nat) (o:List (Nat×Nat×O)),k+rs.length=ts.length→(∀i (h:i<rs.length),ts[k+i]?=some rs[i])→(o=[]∨∃g o6 o7,o=[(6,g,o6),(7,g,o7)])→
  ∀(hp:List O) (w:Nat) (done:List (Nat×Stp×List Int)),Kw b T stp hp (encI 0 done)→done.length≤16*k→
  ∃H' w' o',aj K 64 (.loop Ez) (St.mk [(2,.d .nilp),(3,.d (.int .i64 0)),(5,.ptr (.slot 5 0) 0),(21,.d (.list 10 all)),(22,.d (.int .i64 all.length)),(23,.d (.int .i64 k))]
   (Mem.mk ([(1,0,.cells (c1.map .d) false),(5,0,.cells [.ptr (.heap T) 0] false)]++o) hp w) [] none false none)=some (.exit 0,St.mk [(2,.d .nilp),(3,.d (.int .i64 0)),(5,.ptr (.slot 5 0) 0),(21,.d (.list 10 all)),(22,.d (.int .i64 all.length)),(23,.d (.int .i64 ts.length)),(24,.d (.bool false))]
   (Mem.mk ([(1,0,.cells (c1.map .d) false),(5,0,.cells [.ptr (.heap T) 0] false)]++o') H' w') [] none false none)∧
   (o'=[]∨∃g o6 o7,o'=[(6,g,o6),(7,g,o7)])∧Kw b T stp H' (encI 0 (done++allI k rs))∧Keep b T hp H':=by
 intro rs;induction rs with
 |nil=>
  intro k o hk _ ho hp w done hT _;simp only[List.length_nil,Nat.add_zero]at hk;refine⟨hp,w,o,?_,ho,by simpa[allI]using hT,Keep.refl _ _ _⟩;have hal:all.length=ts.length:=by rw[hall];simp
  rw[af];rcases ho with rfl|⟨g,o6,o7,rfl⟩<;>simp[ZI,YB,hk,hal]
 | cons s rs ih =>
  intro k o hk hat ho hp w done hT hd;have hs0:=hat 0 (by simp);simp only[Nat.add_zero,List.getElem_cons_zero]at hs0;have hkl:all[k]?=some (encS s):=by rw[hall,List.getElem?_map,hs0];rfl
  have hso:gK s:=ht s (List.mem_of_getElem? hs0);have hal:=Et hso.sz;simp only[List.length_cons]at hk;have hln:all.length≤1000:=by rw[hall];simp;omega
  have main:∃g H1 w1 o6 o7,aj K 64 Ez (St.mk [(2,.d .nilp),(3,.d (.int .i64 0)),(5,.ptr (.slot 5 0) 0),(21,.d (.list 10 all)),(22,.d (.int .i64 all.length)),(23,.d (.int .i64 k))]
   (Mem.mk ([(1,0,.cells (c1.map .d) false),(5,0,.cells [.ptr (.heap T) 0] false)]++o) hp w) [] none false none)=some (.normal,St.mk [(2,.d .nilp),(3,.d (.int .i64 0)),(5,.ptr (.slot 5 0) 0),(21,.d (.list 10 all)),(22,.d (.int .i64 all.length)),(23,.d (.int .i64 (k+1:Nat)))]
   (Mem.mk ([(1,0,.cells (c1.map .d) false),(5,0,.cells [.ptr (.heap T) 0] false)]++[(6,g,o6),(7,g,o7)]) H1 w1) [] none false none)∧Kw b T stp H1 (encI 0 (done++(aZ s.ss).map (fun p=>(k,s,p))))∧Keep b T hp H1:=by
   rcases ho with rfl|⟨g,o6,o7,rfl⟩
   ·obtain⟨H',w2,e2,hl,hL,hK⟩:=g64 (g:=0) (k:=k) (c1:=c1) (all:=all) hso hb hT (by omega);obtain⟨w',e⟩:=amC T k w 0 w2 s hso hkl hln e2 hl;exact⟨0,_,w',_,_,e,hL.dead hl (by simp[oO]) (by simp[oO]),hK.dead (by omega)⟩
   ·obtain⟨H',w2,e2,hl,hL,hK⟩:=g64 (g:=g+1) (k:=k) (c1:=c1) (all:=all) hso hb hT (by omega);obtain⟨w',e⟩:=al3 T k g w 0 w2 s hso hkl hln o6 o7 e2 hl;exact⟨g+1,_,w',_,_,e,hL.dead hl (by simp[oO]) (by simp[oO]),hK.dead (by omega)⟩
  obtain⟨g,H1,w1,o6,o7,e1,hL1,hK1⟩:=main
  obtain⟨H2,w2,o',e2,ho',hL2,hK2⟩:=ih (k+1) [(6,g,o6),(7,g,o7)] (by omega) (fun i h=>by
   have:=hat (i+1) (by simp;omega)
   simpa[Nat.add_assoc,Nat.add_comm 1]using this) (.inr ⟨g,o6,o7,rfl⟩) H1 w1 _ hL1 (by simp;omega)
  refine⟨H2,w2,o',?_,ho',by simpa[allI]using hL2,hK1.trans hK2⟩;rw[af,e1];exact e2
def bC(t:List Stp):D:=.list 10 (t.map encS)
theorem s64{t:List Stp}(ht:dL t)(h3:t.length≤3)(hp:List O) :
  ∃H' w T,ah K (.fn (.func 64) [] []) [.d (dw t)] none hp=some (.ret (.tuple [.ptr (.heap T) 0,.d (.int .i64 0)]),false,H',w)∧
   hp.length≤T∧Kw hp.length T (bC t) H' (encI 0 (allI 0 t))∧Keep hp.length T hp H':=by
 obtain⟨J,w1,e1⟩:=auw hp ht h3;have hlen:(hp++J).length=hp.length+J.length:=by simp
 obtain⟨H',w2,o',e2,ho',hL,hK⟩:=ail (b:=hp.length) (T:=(hp++J).length) (c1:=[.list 2 ax,bC t]) (all:=t.map encS) (ts:=t) rfl h3 ht.ok (stp:=bC t) (by omega) t 0 [] (by simp) (fun i h=>by simp[h]) (.inl rfl)
  (hp++J++[.cells [.d (.list 2 ax),.d (bC t),.d .nils] false]) w1 [] (.inl ⟨rfl,by simp⟩) (by simp)
 refine⟨H',w2,(hp++J).length,?_,by omega,by simpa using hL,?_⟩
 ·have e:=k64 [] [] [.d (dw t)] none hp;have hp0:t≠[]:=by have:=ht.pos;intro h;simp[h]at this
  simp only[dw]at e1 ⊢;simp[bC]at e2;simp[c64,aov,amb,ama,anu,alA,an9,af6,dw,bC,e1,e2]at e;rw[hlen];exact e
 ·refine Keep.trans ?_ hK;intro i o h1 h2 _;have hi:=(gS.1 h1).1;rw[List.append_assoc,List.getElem?_append_left hi];exact h1
theorem s97(hp:List O)(n lo hi:Int):ah K (.fn (.func 97) [] []) [.d (.int .i64 n),.d (.int .i64 lo),.d (.int .i64 hi)] none hp=some (.ret (.d (.bool (decide (lo≤n∧n≤hi)))),false,hp,0):=by rw[k97];by_cases h1:lo≤n<;>by_cases h2:n≤hi<;>simp[c97,apv,alB,h1,h2]
theorem s68(hp:List O)(T:Nat){t:List Stp}{rest:List V}{ro:Bool}(hT:hp[T]?=some (.cells (.d (.list 2 ax)::.d (bC t)::rest) ro)){s:Nat}(hs:s<t.length)(h3:t.length≤3) :
  ah K (.fn (.func 68) [] []) [.ptr (.heap T) 0,.d (.int .i64 s)] none hp=some (.ret (.d (.bool true)),false,hp,0):=by
 have hw:wr .i64 ((t.length:Int)-1)=(t.length:Int)-1:=wI;have h1:(s:Int)≤(t.length:Int)-1:=by omega
 have e:=fun hp=>s97 hp s 0 ((t.length:Int)-1);rw[k68];simp only[bC]at hT;simp[c68,alx,anR,hT,hw,e,h1]
def acc(s:Stp)(a:Nat):Option (Nat×List (Int×List Int)):=(s.to::s.fr)[a]?
structure Open(b T:Nat)(t:List Stp)(H:List O):Prop where
 ok:Kw b T (bC t) H (encI 0 (allI 0 t))
theorem Open.at{b T:Nat}{t:List Stp}{H:List O}(h:Open b T t H):∃v,H[T]?=some (.cells [.d (.list 2 ax),.d (bC t),v] false):=by rcases h.ok with ⟨_,h⟩|⟨L,_,_,h,_⟩<;>exact⟨_,h⟩
theorem oz:K.P.eqGuardType K.P.depth 110=false:=by kernel_rfl
theorem ac4(a b c d:Int):zn K 110 (.agg [.int .i64 a,.int .i64 b]) (.agg [.int .i64 c,.int .i64 d])=some (decide (a=c∧b=d)):=by
 have h1:K.P.underlying 110=some (.array 2 3):=by kernel_rfl
 have h2:K.P.eqGuardType K.P.depth 110=false:=by kernel_rfl
 have h3:K.P.underlying 3=some (.int .i64):=by kernel_rfl
 have e1:∀x y:Int,x≠y→(x==y)=false:=fun x y h=>by simpa using h
 by_cases ha:a=c
 ·subst ha;by_cases hb:b=d
  ·subst hb;simp[zn,h1,h2,eqItems,fA,h3]
  ·simp[zn,h1,h2,eqItems,fA,h3,hb];rw[e1 _ _ hb]
 ·simp[zn,h1,h2,eqItems,fA,h3,ha];rw[e1 _ _ ha]
def LV(H:List O)(v:V)(p:List Int):Prop:=
 (p=[]∧v=.d .nils)∨(∃l,p≠[]∧v=.sl (.heap l) 1 p.length 0 p.length∧H[l]?=some (.vec 1 (ints p) false true))
theorem LV.app{H:List O}{v:V}{p:List Int}(h:LV H v p)(J:List O):LV (H++J) v p:=by
 rcases h with h|⟨l,h1,h2,h3⟩
 ·exact .inl h
 ·exact .inr ⟨l,h1,h2,jc h3⟩
def pl(c:Nat×List (Int×List Int))(p:List Int):Nat×Int:=(c.1,lg c.1 c.2 p)
def bM(k:Nat×Int):D:=.agg [.int .i64 k.1,.int .i64 k.2]
theorem Jk{ss:List Int}(h:∀s∈ss,1≤s):aZ ss≠[]:=by
 induction ss with
 |nil=>simp[aZ]|cons a r ih=>
  have h1:=h a (by simp);have h2:=ih (fun s hs=>h s (List.mem_cons_of_mem _ hs));obtain⟨n,hn⟩:∃n:Nat,a.toNat=n+1:=⟨a.toNat-1,by omega⟩
  simp only[aZ,hn];intro h3;have:=List.flatMap_eq_nil_iff.1 h3 0 (by simp);simp at this;exact h2 this
theorem gZ{ss p:List Int}:p∈aZ ss↔jw p ss:=by
 induction ss generalizing p with
 |nil=>
  simp only[aZ,List.mem_singleton];constructor
  ·rintro rfl;exact .nil
  ·intro h;cases h;rfl
 | cons a r ih =>
  simp only[aZ,List.mem_flatMap,List.mem_range,List.mem_map];constructor
  ·rintro⟨i,hi,q,hq,rfl⟩;exact .cons (by simp) (by simp;omega) (ih.1 hq)
  ·intro h;cases h with
   | @cons i _ _ _ h0 h1 h=>exact⟨i.toNat,by omega,_,ih.2 h,by simp;omega⟩
theorem iR{t:List Stp}{j k:Nat}{s:Stp}{p:List Int}:(k,s,p)∈allI j t↔j≤k∧t[k-j]?=some s∧p∈aZ s.ss:=by
 induction t generalizing j with
 |nil=>simp[allI]| cons x r ih =>
  simp only[allI,List.mem_append,List.mem_map,ih];constructor
  ·rintro(⟨q,hq,h⟩|⟨h1,h2,h3⟩)
   ·simp only[pI]at h;obtain⟨rfl,rfl,rfl⟩:=h;simp[hq]
   ·refine⟨by omega,?_,h3⟩;rw[show k-j=(k-(j+1))+1 by omega];simpa using h2
  ·rintro⟨h1,h2,h3⟩;by_cases hk:k=j
   ·subst hk;simp only[Nat.sub_self,List.getElem?_cons_zero,oI]at h2;subst h2;exact .inl ⟨p,h3,rfl⟩
   ·right;refine⟨by omega,?_,h3⟩;rw[show k-j=(k-(j+1))+1 by omega]at h2;simpa using h2
theorem E5{n i:Nat}{l:List (Nat×Stp×List Int)}{x:Nat×Stp×List Int}(h:l[i]?=some x):(encI n l)[i]?=some (aJ (n+i) x):=by
 induction l generalizing n i with
 |nil=>simp at h| cons y r ih =>
  cases i with
  |zero=>simp at h;subst h;simp[encI]|succ i=>simp at h;have:=ih (n:=n+1) h;simp only[encI,List.getElem?_cons_succ,this];congr 2;omega
theorem X5{s:Stp}{p:List Int}{a:Nat}{c:Nat×List (Int×List Int)}(h:acc s a=some c):(dQ s p)[a]?=some (bM (pl c p)):=by
 cases a with
 |zero=>simp[acc]at h;subst h;rfl|succ a=>simp[acc]at h;simp only[dQ,List.getElem?_cons_succ,List.getElem?_map,h];rfl
theorem Open.list{b T:Nat}{t:List Stp}{H:List O}(h:Open b T t H)(ht:dL t):∃L,H[T]?=some (.cells [.d (.list 2 ax),.d (bC t),.sl (.heap L) 4 (encI 0 (allI 0 t)).length 0 (encI 0 (allI 0 t)).length] false)∧H[L]?=some (.vec 4 (encI 0 (allI 0 t)) false true):=by
 rcases h.ok with ⟨h1,_⟩|⟨L,_,_,h3,h4⟩
 ·exfalso;have hp:=ht.pos
  match t,ht,hp,h1 with
  |s::r,ht,_,h1=>
   have hs:=(ht.ok s (by simp)).sz;have:=Jk (fun s h=>(hs.within s h).1);simp only[allI]at h1
   match hA:aZ s.ss,this,h1 with
   |q::_,_,h1=>simp[encI]at h1
 ·exact⟨L,h3,h4⟩
theorem AQ{t:List Stp}(ht:dL t)(h3:t.length≤3):(allI 0 t).length≤48:=by
 have key:∀(t:List Stp) (j:Nat),(∀s∈t,gK s)→(allI j t).length≤16*t.length:=by
  intro t;induction t with
  |nil=>intro j _;simp[allI]|cons s r ih=>intro j h;have h1:=Et (h s (by simp)).sz;have h2:=ih (j+1) (fun x hx=>h x (List.mem_cons_of_mem _ hx));simp[allI];omega
 have:=key t 0 ht.ok;omega
def jR:List (Nat×Int)→D
 |[]=>.nils|k::r=>.list 2 ((k::r).map bM)
def wB(k:Nat×Int):Nat→List (Nat×Int)→Int
 |_,[]=>-1|i,x::r=>if x=k then i else wB k (i+1) r
theorem Az(k:Nat×Int):∀(l:List (Nat×Int)) (i:Nat),(0≤wB k i l)=(k∈l)
 |[],i=>by simp[wB]| x :: r,i=>by
  by_cases h:x=k
  ·simp[wB,h]
  ·simp only[wB,if_neg h,Az k r (i+1),List.mem_cons];have:¬k=x:=fun e=>h e.symm;simp[this]
theorem JJ(k:Nat×Int):∀(l:List (Nat×Int)) (i:Nat),k ∉ l→wB k i l=-1
 |[],i,_=>rfl|x::r,i,h=>by have h1:¬x=k:=fun e=>h (by simp[e]);have h2:k ∉ r:=fun e=>h (List.mem_cons_of_mem _ e);simp only[wB,if_neg h1,JJ k r (i+1) h2]
def xA(v:V)(k:Nat×Int)(n i:Nat)(tl:List (Nat×V))(hp:List O)(w:Nat):St:=
 St.mk ([(0,v),(3,.ptr (.slot 3 0) 0),(7,.d (.int .i64 (n:Nat))),(8,.d (.int .i64 (i:Nat)))]++tl) (Mem.mk [(3,0,.cells [.d (.int .i64 k.1),.d (.int .i64 k.2)] false)] hp w) [] none false none
theorem al1{ks:List (Nat×Int)}{k x:Nat×Int}{i:Nat}(hn:ks.length≤1000)(hx:ks[i]?=some x)(hp:List O)(w:Nat) :
  aj K 196 xY (xA (.d (.list 2 (ks.map bM))) k ks.length i [] hp w)=if x=k then some (.ret,{xA (.d (.list 2 (ks.map bM))) k ks.length i [] hp w with tm:=[(4,.d (.int .i64 (i:Nat)))] })else some (.normal,xA (.d (.list 2 (ks.map bM))) k ks.length (i+1) [] hp w):=by
 have hlt:=(gS.1 hx).1;have hx2:=(gS.1 hx).2;have w1:wr .i64 ((i:Int)+1)=(i:Int)+1:=wI;have gd:K.P.eqGuardType K.P.depth 110=false:=by kernel_rfl
 obtain⟨a,b⟩:=x;obtain⟨c,d⟩:=k;by_cases hb:(a:Int)=c
 ·by_cases hd:b=d
  ·have hac:a=c:=by omega
   subst hac;subst hd;simp[xA,AU,Dc,Md,Qq,KX,Na,hlt,hx2,bM,gd]
  ·have h1:(b==d)=false:=by simpa using hd
   have h3:(d==b)=false:=by simpa using fun e=>hd e.symm
   simp[xA,AU,Dc,Md,Qq,KX,Na,hlt,hx2,bM,gd,hb,h1,h3,w1,hd]
 ·have h1:((a:Int)==c)=false:=by simpa using hb
  have hb':¬a=c:=by omega
  have h3:((c:Int)==a)=false:=by simpa using fun e=>hb e.symm
  simp[xA,AU,Dc,Md,Qq,KX,Na,hlt,hx2,bM,gd,h1,h3,w1,hb']
theorem ald{v:V}{n:Nat}{k:Nat×Int}(hp:List O)(w:Nat):aj K 196 xY (xA v k n n [] hp w)=some (.exit 0,xA v k n n [(9,.d (.bool false))] hp w):=by simp[xA,AU,Dc]
theorem ad4{ks:List (Nat×Int)}{k:Nat×Int}(hn:ks.length≤1000)(hp:List O)(w:Nat) :
  ∀ (m i:Nat) (t:List (Nat × Int)),t.length=m→ks.drop i=t→i≤ks.length →
   aj K 196 (.loop xY) (xA (.d (.list 2 (ks.map bM))) k ks.length i [] hp w) =
    if k∈t then some (.ret,{xA (.d (.list 2 (ks.map bM))) k ks.length i [] hp w with tm:=[(4,.d (.int .i64 (wB k i t)))] })
    else some (.exit 0,xA (.d (.list 2 (ks.map bM))) k ks.length ks.length [(9,.d (.bool false))] hp w)
 |0,i,t,hm,ht,hi=>by
  have ht0:t=[]:=List.eq_nil_of_length_eq_zero hm;subst ht0;have hie:i=ks.length:=by have:=List.drop_eq_nil_iff.1 ht;omega
  subst hie;rw[af,ald];simp
 | m+1,i,t,hm,ht,hi=>by
  match t,hm,ht with
  | x :: r,hm,ht =>
   have hx:ks[i]?=some x:=by have:=congrArg List.head? ht;simpa[List.head?_drop]using this
   have hlt:=(gS.1 hx).1;have hr:ks.drop (i+1)=r:=by have:=congrArg List.tail ht;simpa[List.tail_drop]using this
   rw[af,al1 hn hx];by_cases h:x=k
   ·subst h;simp[wB]
   ·have h':¬k=x:=fun e=>h e.symm;rw[if_neg h];show aj K 196 (.loop xY) _=_;rw[ad4 hn hp w m (i+1) r (by simpa using hm) hr (by omega)];simp[wB,h,h'];rfl
theorem ax4(ks:List (Nat×Int))(k:Nat×Int)(hn:ks.length≤1000)(hp:List O) :
  ∃w,ah K (.fn (.func 196) [] []) [.d (jR ks),.d (bM k)] none hp=some (.ret (.d (.int .i64 (wB k 0 ks))),false,hp,w):=by
 cases hk:ks with
 |nil=>simp[jR,bM,ah4,c196,NT,LJ,LY,af,AU,Dc,wB]| cons x r =>
  have e:=ad4 (ks:=ks) (k:=k) hn hp 0 ks.length 0 ks rfl (by simp) (by omega);rw[hk]at e;by_cases h:k∈x::r
  ·rw[if_pos h]at e;simp[xA,bM]at e;simp[jR,bM,ah4,c196,NT,LJ,LY,e]
  ·rw[if_neg h]at e;simp[xA,bM]at e;simp[jR,bM,ah4,c196,NT,LJ,LY,e,JJ _ _ _ h]
theorem ay8(ks:List (Nat×Int))(k:Nat×Int)(hn:ks.length≤1000)(hp:List O) :
  ∃w,ah K (.fn (.func 145) [] []) [.d (jR ks),.d (bM k)] none hp=some (.ret (.d (.bool (decide (k∈ks)))),false,hp,w):=by
 obtain⟨w,e⟩:=ax4 ks k hn hp;by_cases h:k∈ks
 ·have h0:0≤wB k 0 ks:=by rw[Az];exact h
  simp only[bM]at e ⊢;simp[anl,c145,ZB,XQ,e,h,h0]
 ·have h0:¬0≤wB k 0 ks:=by rw[Az];exact h
  simp only[bM]at e ⊢;simp[anl,c145,ZB,XQ,e,h,h0]
theorem Tj:jR []=.nils:=rfl
theorem Uf(k:Nat×Int)(r:List (Nat×Int)):jR (k::r)=.list 2 ((k::r).map bM):=rfl
def ZX(o:List (Nat×Nat×O)):Prop:=o=[]∨∃g x,o=[(5,g,x)]
def Ci(ks:List (Nat×Int))(i:Nat)(f:List (Nat×Int))(tl:List (Nat×V))(o:List (Nat×Nat×O))(H:List O)(w:Nat):St:=
 St.mk ([(3,.d (jR f)),(6,.d (jR ks)),(7,.d (.int .i64 ks.length)),(8,.d (.int .i64 (i:Nat)))]++tl) (Mem.mk o H w) [] none false none
def vw(f:List (Nat×Int))(k:Nat×Int):List (Nat×Int):=if k∈f then f else f++[k]
theorem aor{ks f:List (Nat×Int)}{x:Nat×Int}{i:Nat}(hn:ks.length≤1000)(hf:f.length≤i)(hx:ks[i]?=some x){o:List (Nat×Nat×O)}(ho:ZX o)(H:List O)(w:Nat) :
  ∃o' w',aj K 134 CO (Ci ks i f [] o H w)=some (.normal,Ci ks (i+1) (vw f x) [] o' H w')∧ZX o':=by
 have hlt:=(gS.1 hx).1;have hx2:=(gS.1 hx).2;have w1:wr .i64 ((i:Int)+1)=(i:Int)+1:=wI;obtain⟨w2,e⟩:=ay8 f x (by omega) H;have hk:jR ks=.list 2 (ks.map bM):=by cases ks<;>simp_all[jR]
 cases f with
 |nil=>
  simp only[Tj,Uf,bM,List.map_cons]at e;rcases ho with rfl|⟨g,y,rfl⟩
  all_goals simp[Ci,Bj,Ap,Oj,LH,KG,OT,hlt,hx2,hk,Tj,Uf,bM,e,w1,vw]
  all_goals exact .inr ⟨_,_,rfl⟩
 | cons z f =>
  simp only[Tj,Uf,bM,List.map_cons]at e;have h0:(0:Int)≤(f.length:Int)+1:=by omega
  simp only[List.length_cons]at hf;have h1:f.length≤4294967294:=by omega
  have h2:(f.length+1+1)*16≤4294967296:=by omega
  have ht:List.take f.length (List.map bM f)=List.map bM f:=List.take_of_length_le (by simp);by_cases h:x∈z::f
  ·rcases ho with rfl|⟨g,y,rfl⟩
   all_goals simp[Ci,Bj,Ap,Oj,LH,KG,OT,hlt,hx2,hk,Tj,Uf,bM,e,w1,vw,h,h0,h1,h2,ht]
   all_goals exact .inr ⟨_,_,rfl⟩
  ·rcases ho with rfl|⟨g,y,rfl⟩
   all_goals simp[Ci,Bj,Ap,Oj,LH,KG,OT,hlt,hx2,hk,Tj,Uf,bM,e,w1,vw,h,h0,h1,h2,ht]
   all_goals exact .inr ⟨_,_,rfl⟩
theorem Ia(f:List (Nat×Int))(k:Nat×Int):(vw f k).length≤f.length+1:=by unfold vw;split<;>simp
theorem aoY{ks f:List (Nat×Int)}{o:List (Nat×Nat×O)}(H:List O)(w:Nat):aj K 134 CO (Ci ks ks.length f [] o H w)=some (.exit 0,Ci ks ks.length f [(9,.d (.bool false))] o H w):=by simp[Ci,Bj,Ap]
theorem adY{ks:List (Nat×Int)}(hn:ks.length≤1000)(H:List O) :
  ∀(m i:Nat) (t f:List (Nat×Int)) (o:List (Nat×Nat×O)) (w:Nat),t.length=m→ks.drop i=t→i≤ks.length→f.length≤i→ZX o→
   ∃o' w',aj K 134 (.loop CO) (Ci ks i f [] o H w)=some (.exit 0,Ci ks ks.length (t.foldl vw f) [(9,.d (.bool false))] o' H w')∧ZX o'
 |0,i,t,f,o,w,hm,ht,hi,hf,ho=>by
  have ht0:t=[]:=List.eq_nil_of_length_eq_zero hm;subst ht0;have hie:i=ks.length:=by have:=List.drop_eq_nil_iff.1 ht;omega
  subst hie;exact⟨o,w,by rw[af,aoY];rfl,ho⟩
 | m+1,i,t,f,o,w,hm,ht,hi,hf,ho=>by
  match t,hm,ht with
  | x :: r,hm,ht =>
   have hx:ks[i]?=some x:=by have:=congrArg List.head? ht;simpa[List.head?_drop]using this
   have hlt:=(gS.1 hx).1;have hr:ks.drop (i+1)=r:=by have:=congrArg List.tail ht;simpa[List.tail_drop]using this
   obtain⟨o1,w1,e1,ho1⟩:=aor hn hf hx ho H w;obtain⟨o2,w2,e2,ho2⟩:=adY hn H m (i+1) r (vw f x) o1 w1 (by simpa using hm) hr (by omega) (by have:=Ia f x;omega) ho1;refine⟨o2,w2,?_,ho2⟩;rw[af,e1];exact e2
def rD(ks:List (Nat×Int)):List (Nat×Int):=ks.foldl vw []
theorem asA(ks:List (Nat×Int))(hn:ks.length≤1000)(H:List O) :
  ∃w,ah K (.fn (.func 134) [] []) [.d (jR ks)] none H=some (.ret (.d (jR (rD ks))),false,H,w):=by
 obtain⟨o',w',e,ho⟩:=adY hn H ks.length 0 ks [] [] 0 rfl (by simp) (by omega) (by simp) (.inl rfl);have hl:lenV (V.d (jR ks))=some ks.length:=by cases ks<;>simp[jR]
 simp only[lenV]at hl;have z0:((0:Nat):Int)=0:=rfl;simp only[Ci,List.append_nil,z0,Tj,List.cons_append,List.nil_append]at e;have k:=anb [] [] [.d (jR ks)] none H;rcases ho with rfl|⟨g,y,rfl⟩
 all_goals
  simp[aic,Zg,Yg,Zm,VQ,hl,e]at k;exact⟨_,k⟩
def jQ(x:Nat×Stp×List Int):List (Nat×Int):=x.2.1.fr.map (pl · x.2.2)
def gX(x:Nat×Stp×List Int):Nat×Int:=pl x.2.1.to x.2.2
theorem F8(s:Stp)(p:List Int):dQ s p=bM (pl s.to p)::(s.fr.map (pl · p)).map bM:=by simp[dQ,nV,bM,pl]
theorem alV(H:List O):∃w,ah K (.fn (.func 134) [] []) [.d (.list 2 [])] none H=some (.ret (.d .nils),false,H,w):=by simp[anb,aic,Zg,Yg,Zm,Ap,VQ,Bj,af]
theorem s65(n:Nat)(x:Nat×Stp×List Int)(hf:x.2.1.fr.length≤3)(H:List O) :
  ∃w,ah K (.fn (.func 65) [] []) [.d (aJ n x)] none H=some (.ret (.d (jR (rD (jQ x)))),false,H,w):=by
 obtain⟨w,e⟩:=asA (jQ x) (by simp[jQ];omega) H;have ca:=uy x.2.2;simp only[D.isCell]at ca;rcases hx:jQ x with _|⟨a,r⟩
 ·have hx':=hx;simp only[jQ]at hx';obtain⟨w,e⟩:=alV H;have hu:jR (rD [])=.nils:=rfl;rw[hu];simp[k65,c65,aen,ado,aJ,F8,hx',bM,e,ca]
 ·have hx':=hx;simp only[jQ]at hx';rw[hx]at e;simp only[Uf,List.map_cons,bM]at e;have ht:List.take r.length (List.map bM r)=List.map bM r:=List.take_of_length_le (by simp);simp[k65,c65,aen,ado,aJ,F8,hx',bM,e,ca,ht]
def O1(a:Nat)(o:List (Nat×Nat×O)):Prop:=o=[]∨∃g x,o=[(a,g,x)]
end Mw
