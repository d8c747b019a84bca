/- DependFirst's tied card holds; no condition beyond the card's own. -/
import Derived.Test.YtdjnccgeajpegaaGreatDoorQg
import Derived.Test.YtdjnccgeajpegaaGreatDoorQf
set_option linter.unusedVariables false
set_option linter.unusedSimpArgs false
set_option maxRecDepth 10000
set_option maxHeartbeats 4000000
namespace Mw
open Go Go.Proofs
theorem dM{f:Nat}{a b:Code}{s s':St}(h:aj K f a s=some (.normal,s')):aj K f (.seq a b) s=aj K f b s':=by rw[mr,h];rfl
theorem aaF{f:Nat}{a b:Code}{s s':St}{x:X}(h:aj K f a s=some (x,s'))(hx:x≠.normal):aj K f (.seq a b) s=some (x,s'):=by rw[mr,h];cases x<;>first|rfl|exact absurd rfl hx
theorem YE{f id:Nat}{b:Code}{s s':St}(h:aj K f b s=some (.normal,s')):aj K f (.block id b) s=some (.normal,s'):=by rw[jB,h];rfl
theorem NE{f id:Nat}{b:Code}{s s':St}(h:aj K f b s=some (.exit id,s')):aj K f (.block id b) s=some (.normal,s'):=by rw[jB,h];simp[outOf]
theorem Vk{f:Nat}{t:Operand}{a b:Code}{s:St}(h:bJ K s t=.d (.bool true)):aj K f (.cond t a b) s=aj K f a s:=by rw[uJ h];rfl
theorem cdF{f:Nat}{t:Operand}{a b:Code}{s:St}(h:bJ K s t=.d (.bool false)):aj K f (.cond t a b) s=aj K f b s:=by rw[uJ h];rfl
theorem ul{f:Nat}{s:St}:aj K f .skip s=some (.normal,s):=by simp
theorem agu{f id:Nat}{b:Code}{s s':St}(h:aj K f b s=some (.ret,s')):aj K f (.block id b) s=some (.ret,s'):=by rw[jB,h];rfl
theorem at7{f:Nat}{s:St}:aj K f .ret s=some (.ret,s):=by simp
theorem tC(zs:List Int):(jO zs).length=zs.length:=List.length_mergeSort _
theorem UW(z:Int)(zs:List Int):z∈jO zs↔z∈zs:=List.mem_mergeSort
section
variable{Y b2 b3 b4 L n i:Nat}{Pr:Nat→Prop}{es:List (D×V)}{hs:HL}{H:List O}{x:Nat×Stp×List Int}{y g8 g11 g15:Nat}{o11 o15 ob:List (Nat×Nat×O)}{q8:O}{p8:V}{k:Nat×Int}
theorem abh{v e32 e33 e34 e35:V}{zs:List Int}(hH:dU Pr hs H)(hm:AX Pr hs zs v H)(hz:zs.length≤1000)(w:Nat) :
  ∃H' w',aj K 138 (rg 138 11) (aH Y b2 b3 b4 L n i [(8,p8),(9,v)] [(32,e32),(33,e33),(34,e34),(35,e35)] ob es H w) =
   some (.normal,aH Y b2 b3 b4 L n i [(8,p8),(9,v)] [] ob es H' w')∧dU Pr hs H'∧AX Pr hs (jO zs) v H'∧vS Pr H H':=by
 rcases hm with ⟨rfl,rfl⟩|⟨hne,l,hbl,hoff,rfl,hl⟩
 ·have hs0:jO []=[]:=List.eq_nil_of_length_eq_zero (by rw[tC];rfl)
  suffices hh:∃w',aj K 138 (rg 138 11) (aH Y b2 b3 b4 L n i [(8,p8),(9,.d .nils)] [(32,e32),(33,e33),(34,e34),(35,e35)] ob es H w) =
   some (.normal,aH Y b2 b3 b4 L n i [(8,p8),(9,.d .nils)] [] ob es H w') by
   obtain⟨w',hh⟩:=hh;exact⟨H,w',hh,hH,.inl ⟨hs0,rfl⟩,vS.refl _ _⟩
  have e:=al7 H;simp[aH,SY,e]
 ·have hll:=(gS.1 hl).1;have e:=auT H l zs hll (gS.1 hl).2 hz
  suffices hh:∃w',aj K 138 (rg 138 11) (aH Y b2 b3 b4 L n i [(8,p8),(9,.sl (.heap l) 1 zs.length 0 zs.length)] [(32,e32),(33,e33),(34,e34),(35,e35)] ob es H w) =
   some (.normal,aH Y b2 b3 b4 L n i [(8,p8),(9,.sl (.heap l) 1 zs.length 0 zs.length)] [] ob es (H.set l (.vec 1 (ints (jO zs)) false true)) w') by
   obtain⟨w',hh⟩:=hh;refine⟨_,w',hh,hH.off (fun e he=>List.getElem?_set_ne (fun q=>hoff e he q.symm)),.inr ⟨?_,l,hbl,hoff,by rw[tC],by simp[hll]⟩,vS.set hbl _⟩;intro h;have:=tC zs;rw[h]at this;exact hne (List.eq_nil_of_length_eq_zero this.symm)
  simp[aH,SY,e]
theorem iL{cs:List Int}(h:cs≠[]):bF cs=.list 1 (ints cs):=by cases cs with
 |nil=>exact absurd rfl h|cons _ _=>rfl
theorem ZJ{zs:List Int}(h:zs≠[]):dA zs≠[]:=by cases zs with
 |nil=>exact absurd rfl h|cons _ _=>simp[dA]
theorem acN{v:V}{zs:List Int}(hH:dU Pr hs H)(hm:AX Pr hs zs v H)(hz:zs.length≤1000)(w:Nat) :
  ∃H' w',aj K 138 (rg 138 12) (aH Y b2 b3 b4 L n i [(8,p8),(9,v)] [] ob es H w) =
   some (.normal,aH Y b2 b3 b4 L n i [(8,p8)] [(47,.d (bF (dA zs))),(48,.d (.int .i64 (dA zs).length)),(49,.d (.int .i64 0))] ob es H' w')∧dU Pr hs H'∧vS Pr H H':=by
 rcases hm with ⟨rfl,rfl⟩|⟨hne,l,hbl,hoff,rfl,hl⟩
 ·have e:=aoI [] [] [.d .nils] none H;simp[c141,Fj,F9,Vr]at e
  suffices hh:∃w',aj K 138 (rg 138 12) (aH Y b2 b3 b4 L n i [(8,p8),(9,.d .nils)] [] ob es H w) =
   some (.normal,aH Y b2 b3 b4 L n i [(8,p8)] [(47,.d (bF (dA []))),(48,.d (.int .i64 (dA []).length)),(49,.d (.int .i64 0))] ob es H w') by
   obtain⟨w',hh⟩:=hh;exact⟨H,w',hh,hH,vS.refl _ _⟩
  simp[aH,QS,e,dA,bF]
 ·have hll:=(gS.1 hl).1;obtain⟨w1,z,e,hlen⟩:∃w z,ah K (.fn (.func 141) [] []) [.sl (.heap l) 1 zs.length 0 zs.length] none H=some (.ret (.d (.list 1 (ints (dA zs)))),false,H.set l (.vec 1 (ints (dA zs++zrs z)) true true),w)∧True:=by obtain⟨w,z,e⟩:=ay3 hll hl hz hne;exact⟨w,z,e,trivial⟩
  rw[iL (ZJ hne)]
  suffices hh:∃w',aj K 138 (rg 138 12) (aH Y b2 b3 b4 L n i [(8,p8),(9,.sl (.heap l) 1 zs.length 0 zs.length)] [] ob es H w) =
   some (.normal,aH Y b2 b3 b4 L n i [(8,p8)] [(47,.d (.list 1 (ints (dA zs)))),(48,.d (.int .i64 (dA zs).length)),(49,.d (.int .i64 0))] ob es (H.set l (.vec 1 (ints (dA zs++zrs z)) true true)) w') by
   obtain⟨w',hh⟩:=hh;exact⟨_,w',hh,hH.off (fun e he=>List.getElem?_set_ne (fun q=>hoff e he q.symm)),vS.set hbl _⟩
  have hil:(ints (dA zs)).length=(dA zs).length:=by simp
  generalize hI:ints (dA zs)=I at *;simp[aH,QS,e,hil]
theorem SX{v:V}{j m:Nat}(w:Nat) :
  aj K 138 (rg 138 13) (aH Y b2 b3 b4 L n i [(8,p8)] [(47,v),(48,.d (.int .i64 (m:Nat))),(49,.d (.int .i64 (j:Nat)))] ob es H w) =
   some (.normal,aH Y b2 b3 b4 L n i [(8,p8)] [(47,v),(48,.d (.int .i64 (m:Nat))),(49,.d (.int .i64 (j:Nat))),(50,.d (.bool (decide (j<m))))] ob es H w):=by
 simp[aH,acU]
theorem abC{cs:List Int}{c:Int}{j:Nat}{e48:V}(hc:cs[j]?=some c)(w:Nat) :
  ∃w',aj K 138 (rg 138 14) (aH Y b2 b3 b4 L n i [(8,p8)] [(47,.d (bF cs)),(48,e48),(49,.d (.int .i64 (j:Nat))),(50,.d (.bool true))] ob es H w) =
   some (.normal,aH Y b2 b3 b4 L n i [(8,p8),(13,.d (.int .i64 c))] [(47,.d (bF cs)),(48,e48),(49,.d (.int .i64 (j:Nat)))] ob es H w'):=by
 have hlt:=(gS.1 hc).1;have hc2:=(gS.1 hc).2;have hne:cs≠[]:=by rintro rfl;simp at hlt
 rw[iL hne];simp[aH,aa8,hc,hc2,hlt]
theorem abb{c:Int}{e47 e48 e49:V}{H':List O}{w1:Nat}{bb:Bool}(h11:O1 11 o11)(h15:O1 15 o15)
  (e:ah K (.fn (.yield Y) [] []) [.d (.agg [.int .i64 c,.int .i64 y])] none H=some (.ret (.d (.bool bb)),false,H',w1))(w:Nat) :
  ∃w',aj K 138 (rg 138 15) (aH Y b2 b3 b4 L n i [(8,.ptr (.slot 8 g8) 0),(13,.d (.int .i64 c))] [(47,e47),(48,e48),(49,e49)] ((8,g8,aP (aJ y x))::(o11++o15)) es H w) =
   some (.normal,aH Y b2 b3 b4 L n i [(8,.ptr (.slot 8 g8) 0)] [(47,e47),(48,e48),(49,e49),(59,.d (.bool (!bb)))] ((8,g8,aP (aJ y x))::(o11++o15)) es H' w'):=by
 have ca:=uy x.2.2;simp only[D.isCell]at ca;rcases h11 with rfl|⟨g11,y11,rfl⟩
 all_goals rcases h15 with rfl|⟨g14,y14,rfl⟩
 all_goals simp[aH,aP,abS,aJ,ca,e]
theorem acR{e47 e48 e59:V}{j:Nat}(hj:j≤1000)(w:Nat) :
  aj K 138 (rg 138 16) (aH Y b2 b3 b4 L n i [(8,p8)] [(47,e47),(48,e48),(49,.d (.int .i64 (j:Nat))),(59,e59)] ob es H w) =
   some (.normal,aH Y b2 b3 b4 L n i [(8,p8)] [(47,e47),(48,e48),(49,.d (.int .i64 (j+1:Nat)))] ob es H w):=by
 have w1:wr .i64 ((j:Int)+1)=(j:Int)+1:=wI;simp[aH,aac,w1]
def jS(kd s u:Nat)(I:List (Nat×Stp×List Int))(n m:Nat):Prop:=
 ∃x y,I[n]?=some x∧I[m]?=some y∧n<m∧x.1=s∧y.1=u∧∃p,p∈oN kd x∧p∈jH kd y
structure oD(Y b2 b3 b4 L s u kd:Nat)(I:List (Nat×Stp×List Int))(Inv:List (Nat×Nat)→(Nat→Prop)→List O→Prop)(Stop:List (Nat×Nat)→List O→Prop):Prop where
 c2:∀d Pr H,Inv d Pr H→∃r,H[b2]?=some (.cells [.d (.int .i64 (u:Nat))] r)
 c3:∀d Pr H,Inv d Pr H→∃r,H[b3]?=some (.cells [.d (.int .i64 (kd:Nat))] r)
 c4:∀d Pr H,Inv d Pr H→∃r,H[b4]?=some (.cells [.d (.int .i64 (s:Nat))] r)
 cL:∀d Pr H,Inv d Pr H→H[L]?=some (.vec 4 (encI 0 I) false true)
 le:∀d Pr H,Inv d Pr H→∀i,Pr i→i<H.length
 mono:∀d Pr H H',Inv d Pr H→vS Pr H H'→Inv d Pr H'
 go:∀d Pr H p,Inv d Pr H→d.length<90000→(∀q∈d,jS kd s u I q.1 q.2)→jS kd s u I p.1 p.2→∃H' w bb,ah K (.fn (.yield Y) [] []) [.d (.agg [.int .i64 (p.1:Nat),.int .i64 (p.2:Nat)])] none H=some (.ret (.d (.bool bb)),false,H',w)∧
  (bb=true→∃Pr',Inv (d++[p]) Pr' H'∧(∀i,Pr' i→Pr i∨H.length≤i)∧H.length≤H'.length∧∀i,¬Pr i→i<H.length→H'[i]?=H[i]?)∧(bb=false→Stop (d++[p]) H')
theorem dU.pass{Pr Pr':Nat→Prop}{hs:HL}{H H':List O}(h:dU Pr hs H)(h1:∀i,Pr' i→Pr i∨H.length≤i)(h2:∀i,¬Pr i→i<H.length→H'[i]?=H[i]?):dU Pr' hs H':=
 ⟨fun e he=>by
  obtain⟨g1,g2,g3⟩:=h.at' e he;have hl:=(gS.1 g2).1;refine⟨fun hp=>?_,by rw[h2 _ g1 hl];exact g2,g3⟩;rcases h1 _ hp with hp|hp
  ·exact g1 hp
  ·omega,h.one⟩
def zW(Y b2 b3 b4 L n s u kd:Nat)(I:List (Nat×Stp×List Int))(Stop:List (Nat×Nat)→List O→Prop)(d:List (Nat×Nat))(r:Option (X×St)):Prop:=
 ∃i mid tl ob es H' w' ps,r=some (.ret,aH Y b2 b3 b4 L n i mid tl ob es H' w')∧Stop (d++ps) H'∧∀q∈ps,jS kd s u I q.1 q.2
theorem Rl{s u kd:Nat}{I:List (Nat×Stp×List Int)}{Inv:List (Nat×Nat)→(Nat→Prop)→List O→Prop}{Stop:List (Nat×Nat)→List O→Prop}(R:oD Y b2 b3 b4 L s u kd I Inv Stop){cs:List Int}(hcs:cs.length≤1000)(hc:∀c∈cs,∃q:Nat,c=q∧jS kd s u I q y)(h11:O1 11 o11)(h15:O1 15 o15) :
  ∀ (m j:Nat) (t:List Int) (d:List (Nat × Nat)) (Pr:Nat→Prop) (H:List O) (w:Nat),t.length=m→cs.drop j=t→j≤cs.length→dU Pr hs H→Inv d Pr H→d.length+t.length≤90000→(∀ q∈d,jS kd s u I q.1 q.2) →
   (∃Pr' H' w',aj K 138 (.loop nU) (aH Y b2 b3 b4 L n i [(8,.ptr (.slot 8 g8) 0)] [(47,.d (bF cs)),(48,.d (.int .i64 cs.length)),(49,.d (.int .i64 (j:Nat)))] ((8,g8,aP (aJ y x))::(o11++o15)) es H w) =
    some (.exit 4,aH Y b2 b3 b4 L n i [(8,.ptr (.slot 8 g8) 0)] [(47,.d (bF cs)),(48,.d (.int .i64 cs.length)),(49,.d (.int .i64 cs.length)),(50,.d (.bool false))] ((8,g8,aP (aJ y x))::(o11++o15)) es H' w')∧
    dU Pr' hs H'∧Inv (d++t.map fun z=>(z.toNat,y)) Pr' H')∨
   zW Y b2 b3 b4 L n s u kd I Stop d (aj K 138 (.loop nU) (aH Y b2 b3 b4 L n i [(8,.ptr (.slot 8 g8) 0)] [(47,.d (bF cs)),(48,.d (.int .i64 cs.length)),(49,.d (.int .i64 (j:Nat)))] ((8,g8,aP (aJ y x))::(o11++o15)) es H w))
 |0,j,t,d,Pr,H,w,hm,ht,hi,hH,hI,hb,hq=>by
  have ht0:t=[]:=List.eq_nil_of_length_eq_zero hm;subst ht0;have hie:j=cs.length:=by have:=List.drop_eq_nil_iff.1 ht;omega
  subst hie;refine .inl ⟨Pr,H,w,?_,hH,by simpa using hI⟩;rw[af,Qy,dM (SX w)];simp[aH]
 | m+1,j,t,d,Pr,H,w,hm,ht,hi,hH,hI,hb,hq=>by
  match t,hm,ht,hb with
  | c :: r,hm,ht,hb =>
   have hx:cs[j]?=some c:=by have:=congrArg List.head? ht;simpa[List.head?_drop]using this
   have hlt:=(gS.1 hx).1;have hr:cs.drop (j+1)=r:=by have:=congrArg List.tail ht;simpa[List.tail_drop]using this
   simp only[List.length_cons]at hb;obtain⟨q,rfl,hd⟩:=hc c (List.mem_of_getElem? hx);have e13:=SX (Y:=Y) (b2:=b2) (b3:=b3) (b4:=b4) (L:=L) (n:=n) (i:=i) (es:=es) (H:=H) (p8:=.ptr (.slot 8 g8) 0) (v:=.d (bF cs)) (j:=j) (m:=cs.length) (ob:=(8,g8,aP (aJ y x))::(o11++o15)) w;have hdt:decide (j<cs.length)=true:=by simpa using hlt
   rw[hdt]at e13;obtain⟨w1,e14⟩:=abC (Y:=Y) (b2:=b2) (b3:=b3) (b4:=b4) (L:=L) (n:=n) (i:=i) (es:=es) (H:=H) (p8:=.ptr (.slot 8 g8) 0) (e48:=.d (.int .i64 cs.length)) (ob:=(8,g8,aP (aJ y x))::(o11++o15)) hx w;obtain⟨H1,w2,bb,e,hgo,hst⟩:=R.go d Pr H (q,y) hI (by omega) hq hd;obtain⟨w3,e15⟩:=abb (Y:=Y) (b2:=b2) (b3:=b3) (b4:=b4) (L:=L) (n:=n) (i:=i) (es:=es) (x:=x) (y:=y) (g8:=g8) (e47:=.d (bF cs)) (e48:=.d (.int .i64 cs.length)) (e49:=.d (.int .i64 (j:Nat))) h11 h15 e w1;cases bb with
   | true =>
    obtain⟨Pr1,hI1,hpp,hle,hk⟩:=hgo rfl;have e16:=acR (Y:=Y) (b2:=b2) (b3:=b3) (b4:=b4) (L:=L) (n:=n) (i:=i) (es:=es) (H:=H1) (p8:=.ptr (.slot 8 g8) 0) (e47:=.d (bF cs)) (e48:=.d (.int .i64 cs.length)) (e59:=.d (.bool (!true))) (j:=j) (ob:=(8,g8,aP (aJ y x))::(o11++o15)) (by omega) w3;have er:aj K 138 nU (aH Y b2 b3 b4 L n i [(8,.ptr (.slot 8 g8) 0)] [(47,.d (bF cs)),(48,.d (.int .i64 cs.length)),(49,.d (.int .i64 (j:Nat)))] ((8,g8,aP (aJ y x))::(o11++o15)) es H w) =
      some (.normal,aH Y b2 b3 b4 L n i [(8,.ptr (.slot 8 g8) 0)] [(47,.d (bF cs)),(48,.d (.int .i64 cs.length)),(49,.d (.int .i64 (j+1:Nat)))] ((8,g8,aP (aJ y x))::(o11++o15)) es H1 w3):=by
     rw[Qy];refine(dM e13).trans ?_;refine(dM ((Vk (by simp[aH])).trans ul)).trans ?_;refine(dM (YE ((dM e14).trans ((dM e15).trans ((cdF (by simp[aH])).trans ul))))).trans ?_;exact e16
    have el:aj K 138 (.loop nU) (aH Y b2 b3 b4 L n i [(8,.ptr (.slot 8 g8) 0)] [(47,.d (bF cs)),(48,.d (.int .i64 cs.length)),(49,.d (.int .i64 (j:Nat)))] ((8,g8,aP (aJ y x))::(o11++o15)) es H w) =
      aj K 138 (.loop nU) (aH Y b2 b3 b4 L n i [(8,.ptr (.slot 8 g8) 0)] [(47,.d (bF cs)),(48,.d (.int .i64 cs.length)),(49,.d (.int .i64 (j+1:Nat)))] ((8,g8,aP (aJ y x))::(o11++o15)) es H1 w3):=by
     rw[af,er];rfl
    rw[el]
    rcases Rl R hcs hc h11 h15 m (j+1) r (d++[(q,y)]) Pr1 H1 w3 (by simpa using hm) hr (by omega) (hH.pass hpp hk) hI1 (by simp;omega) (by
      intro z hz;rcases List.mem_append.1 hz with hz|hz
      ·exact hq z hz
      ·rw[List.mem_singleton]at hz;subst hz;exact hd)with ⟨Pr2,H2,w4,e2,hH2,hI2⟩|⟨i',mid,tl,ob',es',H2,w4,ps,e2,hs2,hp2⟩
    ·exact .inl ⟨Pr2,H2,w4,e2,hH2,by simpa using hI2⟩
    ·refine .inr ⟨i',mid,tl,ob',es',H2,w4,(q,y)::ps,e2,by simpa using hs2,?_⟩;intro z hz;rcases List.mem_cons.1 hz with rfl|hz
     ·exact hd
     ·exact hp2 z hz
   | false =>
    right;refine⟨i,[(8,.ptr (.slot 8 g8) 0)],[(47,.d (bF cs)),(48,.d (.int .i64 cs.length)),(49,.d (.int .i64 (j:Nat))),(59,.d (.bool (!false)))],(8,g8,aP (aJ y x))::(o11++o15),es,H1,w3,[(q,y)],?_,hst rfl,?_⟩
    rotate_left 1
    ·intro z hz;rw[List.mem_singleton]at hz;subst hz;exact hd
    ·rw[af,Qy,dM e13,dM ((Vk (by simp[aH])).trans ul),aaF (agu ((dM e14).trans ((dM e15).trans ((Vk (by simp[aH])).trans at7)))) (by simp)];rfl
theorem Vd{s r4 e29}(h4:H[b4]?=some (.cells [.d (.int .i64 (s:Nat))] r4))(h11:O1 11 o11)(h15:O1 15 o15)(w:Nat) :
  ∃w',aj K 138 (rg 138 17) (aH Y b2 b3 b4 L n i [(8,.ptr (.slot 8 g8) 0)] [(29,e29)] ((8,g8,aP (aJ y x))::(o11++o15)) es H w) =
   some (.normal,aH Y b2 b3 b4 L n i [(8,.ptr (.slot 8 g8) 0)] [(64,.d (.bool (!decide (x.1=s))))] ((8,g8,aP (aJ y x))::(o11++o15)) es H w'):=by
 have ca:=uy x.2.2;simp only[D.isCell]at ca;have hd:((x.1:Int)=(s:Int))↔x.1=s:=by omega
 rcases h11 with rfl|⟨g11,y11,rfl⟩
 all_goals rcases h15 with rfl|⟨g14,y14,rfl⟩
 all_goals simp[aH,aP,RN,h4,aJ,ca,hd]
theorem Yf{s r4 e1 e2 e3 e4}(h4:H[b4]?=some (.cells [.d (.int .i64 (s:Nat))] r4))(h11:O1 11 o11)(h15:O1 15 o15)(w:Nat) :
  ∃w',aj K 138 (rg 138 17) (aH Y b2 b3 b4 L n i [(8,.ptr (.slot 8 g8) 0)] [(47,e1),(48,e2),(49,e3),(50,e4)] ((8,g8,aP (aJ y x))::(o11++o15)) es H w) =
   some (.normal,aH Y b2 b3 b4 L n i [(8,.ptr (.slot 8 g8) 0)] [(64,.d (.bool (!decide (x.1=s))))] ((8,g8,aP (aJ y x))::(o11++o15)) es H w'):=by
 have ca:=uy x.2.2;simp only[D.isCell]at ca;have hd:((x.1:Int)=(s:Int))↔x.1=s:=by omega
 rcases h11 with rfl|⟨g11,y11,rfl⟩
 all_goals rcases h15 with rfl|⟨g14,y14,rfl⟩
 all_goals simp[aH,aP,RN,h4,aJ,ca,hd]
theorem abT{kd r3 e}(hk:kd=1∨kd=2∨kd=3)(h3:H[b3]?=some (.cells [.d (.int .i64 (kd:Nat))] r3))(hf:x.2.1.fr.length≤3)(h11:O1 11 o11)(h15:O1 15 o15)(w:Nat) :
  ∃w',aj K 138 (rg 138 18) (aH Y b2 b3 b4 L n i [(8,.ptr (.slot 8 g8) 0)] [(64,e)] ((8,g8,aP (aJ y x))::(o11++o15)) es H w) =
   some (.normal,aH Y b2 b3 b4 L n i [(8,.ptr (.slot 8 g8) 0)] [(67,.d (jR (oN kd x))),(68,.d (.int .i64 (oN kd x).length)),(69,.d (.int .i64 0))] ((8,g8,aP (aJ y x))::(o11++o15)) es H w'):=by
 obtain⟨w1,e⟩:=aop hk y x hf H;have ca:=uy x.2.2;simp only[D.isCell]at ca;have hl:lenV (V.d (jR (oN kd x)))=some (oN kd x).length:=by cases oN kd x<;>simp[jR]
 simp only[lenV]at hl;simp only[aJ]at e;generalize oN kd x=A at *;rcases h11 with rfl|⟨g11,y11,rfl⟩
 all_goals rcases h15 with rfl|⟨g14,y14,rfl⟩
 all_goals simp[aH,aP,abX,h3,aJ,ca,e,hl]
theorem RP{v:V}{j m:Nat}(w:Nat) :
  aj K 138 (rg 138 19) (aH Y b2 b3 b4 L n i [(8,p8)] [(67,v),(68,.d (.int .i64 (m:Nat))),(69,.d (.int .i64 (j:Nat)))] ob es H w) =
   some (.normal,aH Y b2 b3 b4 L n i [(8,p8)] [(67,v),(68,.d (.int .i64 (m:Nat))),(69,.d (.int .i64 (j:Nat))),(70,.d (.bool (decide (j<m))))] ob es H w):=by
 simp[aH,aaM]
theorem aaA{ps:List (Nat×Int)}{j:Nat}{e68:V}(hk:ps[j]?=some k)(h11:O1 11 o11)(h15:O1 15 o15)(w:Nat) :
  ∃g15 w',aj K 138 (rg 138 20) (aH Y b2 b3 b4 L n i [(8,p8)] [(67,.d (jR ps)),(68,e68),(69,.d (.int .i64 (j:Nat))),(70,.d (.bool true))] ((8,g8,q8)::(o11++o15)) es H w) =
   some (.normal,aH Y b2 b3 b4 L n i [(8,p8),(15,.ptr (.slot 15 g15) 0)] [(67,.d (jR ps)),(68,e68),(69,.d (.int .i64 (j:Nat)))] ((8,g8,q8)::(o11++[(15,g15,gq k)])) es H w'):=by
 have hlt:=(gS.1 hk).1;have hk2:=(gS.1 hk).2;have hp:jR ps=.list 2 (ps.map bM):=by cases ps<;>simp_all[jR]
 rcases h11 with rfl|⟨g11,y11,rfl⟩
 all_goals rcases h15 with rfl|⟨g14,y14,rfl⟩
 all_goals simp[aH,gq,aau,hp,hk,hk2,hlt,bM]
theorem aae{e67 e68 e69:V}(hb:∀i,Pr i→i<H.length)(hH:dU Pr hs H)(hz:(dZ hs k).length≤1000)(h11:O1 11 o11)(w:Nat) :
  ∃hs' H' w',aj K 138 (rg 138 21) (aH Y b2 b3 b4 L n i [(8,.ptr (.slot 8 g8) 0),(15,.ptr (.slot 15 g15) 0)] [(67,e67),(68,e68),(69,e69)] ((8,g8,aP (aJ y x))::(o11++[(15,g15,gq k)])) (bU hs) H w) =
   some (.normal,aH Y b2 b3 b4 L n i [(8,.ptr (.slot 8 g8) 0)] [(67,e67),(68,e68),(69,e69)] ((8,g8,aP (aJ y x))::(o11++[(15,g15,gq k)])) (bU hs') H' w')∧
   dU Pr hs' H'∧vS Pr H H'∧∀c,dZ hs' c=if c=k then dZ hs k++[(y:Int)]else dZ hs c:=by
 have ca:=uy x.2.2;simp only[D.isCell]at ca;rcases aod k hs with ⟨hf,hg,h3⟩|⟨j,l,ns,hj,hf,hg,h3⟩
 ·rw[hg,List.nil_append]
  suffices hh:∃w',aj K 138 (rg 138 21) (aH Y b2 b3 b4 L n i [(8,.ptr (.slot 8 g8) 0),(15,.ptr (.slot 15 g15) 0)] [(67,e67),(68,e68),(69,e69)] ((8,g8,aP (aJ y x))::(o11++[(15,g15,gq k)])) (bU hs) H w) =
   some (.normal,aH Y b2 b3 b4 L n i [(8,.ptr (.slot 8 g8) 0)] [(67,e67),(68,e68),(69,e69)] ((8,g8,aP (aJ y x))::(o11++[(15,g15,gq k)])) (bU (hs++[(k,(H.length,[(y:Int)]))])) (H++[.vec 1 (ints [(y:Int)]) false true]) w') by
   obtain⟨w',hh⟩:=hh;exact⟨_,_,w',hh,hH.new hb k y,vS.new hb _,h3 _ _⟩
  have hmp:bU (hs++[(k,(H.length,[(y:Int)]))])=bU hs++[(bM k,.sl (.heap H.length) 1 1 0 1)]:=by simp[bU]
  have hst:∀v v':V,(bU hs++[(bM k,v)]).set (bU hs).length (bM k,v')=bU hs++[(bM k,v')]:=fun v v'=>by simp
  rw[hmp];generalize bU hs=M at *;simp only[bM]at hf hst ⊢;rcases h11 with rfl|⟨g11,y11,rfl⟩
  all_goals simp[aH,aP,gq,aJ,ca,RH,hf,hst,oz]
 ·obtain⟨hbl,hl,hne⟩:=hH.at' _ (List.mem_of_getElem? hj);simp only at hbl hl hne;rw[hg]at hz ⊢;have hll:=(gS.1 hl).1;have hjl:=(gS.1 hj).1
  suffices hh:∃w',aj K 138 (rg 138 21) (aH Y b2 b3 b4 L n i [(8,.ptr (.slot 8 g8) 0),(15,.ptr (.slot 15 g15) 0)] [(67,e67),(68,e68),(69,e69)] ((8,g8,aP (aJ y x))::(o11++[(15,g15,gq k)])) (bU hs) H w) =
   some (.normal,aH Y b2 b3 b4 L n i [(8,.ptr (.slot 8 g8) 0)] [(67,e67),(68,e68),(69,e69)] ((8,g8,aP (aJ y x))::(o11++[(15,g15,gq k)])) (bU (hs.set j (k,(l,ns++[(y:Int)])))) (H.set l (.vec 1 (ints (ns++[(y:Int)])) false true)) w') by
   obtain⟨w',hh⟩:=hh;exact⟨_,_,w',hh,hH.old hj y,vS.set hbl _,h3 _⟩
  have hmp:=Vt (hs:=hs) (j:=j) (l:=l) (k:=k) (ns:=ns) (ns':=ns++[(y:Int)]) (ns.length+1) (by simp);have hml:j<(bU hs).length:=by simpa[bU]using hjl
  have hln:ns.length+1≤4294967296:=by omega
  have hln8:(ns.length+1)*8≤4294967296:=by omega
  have hin:(ints ns).length=ns.length:=by simp
  have hap:ints (ns++[(y:Int)])=ints ns++[.int .i64 y]:=by simp[ints]
  rw[←hmp,hap];generalize bU hs=M at *;generalize hI:ints ns=N at *;simp only[bM]at hf ⊢;rcases h11 with rfl|⟨g11,y11,rfl⟩
  all_goals simp[aH,aP,gq,aJ,ca,RH,hf,hl,hml,hin,hln,hln8,oz,List.set_set]
theorem aat{e67 e68:V}{j:Nat}(hj:j≤1000)(w:Nat) :
  aj K 138 (rg 138 22) (aH Y b2 b3 b4 L n i [(8,p8)] [(67,e67),(68,e68),(69,.d (.int .i64 (j:Nat)))] ob es H w) =
   some (.normal,aH Y b2 b3 b4 L n i [(8,p8)] [(67,e67),(68,e68),(69,.d (.int .i64 (j+1:Nat)))] ob es H w):=by
 have w1:wr .i64 ((j:Int)+1)=(j:Int)+1:=wI;simp[aH,aaD,w1]
theorem Sl{ps:List (Nat×Int)}(hps:ps.length≤100)(h11:O1 11 o11) :
  ∀ (m j:Nat) (t:List (Nat × Int)) (hs:HL) (o15:List (Nat × Nat × O)) (H:List O) (w:Nat),t.length=m→ps.drop j=t→j≤ps.length→O1 15 o15→(∀ i,Pr i→i < H.length)→dU Pr hs H→(∀ c,(dZ hs c).length+t.length≤1000) →
   ∃hs' o15' H' w',aj K 138 (.loop xC) (aH Y b2 b3 b4 L n i [(8,.ptr (.slot 8 g8) 0)] [(67,.d (jR ps)),(68,.d (.int .i64 ps.length)),(69,.d (.int .i64 (j:Nat)))] ((8,g8,aP (aJ y x))::(o11++o15)) (bU hs) H w) =
    some (.exit 6,aH Y b2 b3 b4 L n i [(8,.ptr (.slot 8 g8) 0)] [(67,.d (jR ps)),(68,.d (.int .i64 ps.length)),(69,.d (.int .i64 ps.length)),(70,.d (.bool false))] ((8,g8,aP (aJ y x))::(o11++o15')) (bU hs') H' w')∧
    O1 15 o15'∧dU Pr hs' H'∧vS Pr H H'∧(∀c z,z∈dZ hs' c↔z∈dZ hs c∨(z=(y:Int)∧c∈t))∧∀c,(dZ hs' c).length≤(dZ hs c).length+t.length
 |0,j,t,hs,o15,H,w,hm,ht,hi,ho,hb,hH,hz=>by
  have ht0:t=[]:=List.eq_nil_of_length_eq_zero hm;subst ht0;have hie:j=ps.length:=by have:=List.drop_eq_nil_iff.1 ht;omega
  subst hie;refine⟨hs,o15,H,w,?_,ho,hH,vS.refl _ _,by simp,by simp⟩;rw[af,Yx,dM (RP w)];simp[aH]
 | m+1,j,t,hs,o15,H,w,hm,ht,hi,ho,hb,hH,hz=>by
  match t,hm,ht,hz with
  | k :: r,hm,ht,hz =>
   have hx:ps[j]?=some k:=by have:=congrArg List.head? ht;simpa[List.head?_drop]using this
   have hlt:=(gS.1 hx).1;have hr:ps.drop (j+1)=r:=by have:=congrArg List.tail ht;simpa[List.tail_drop]using this
   have e19:=RP (Y:=Y) (b2:=b2) (b3:=b3) (b4:=b4) (L:=L) (n:=n) (i:=i) (es:=bU hs) (H:=H) (p8:=.ptr (.slot 8 g8) 0) (v:=.d (jR ps)) (j:=j) (m:=ps.length) (ob:=(8,g8,aP (aJ y x))::(o11++o15)) w;have hdt:decide (j<ps.length)=true:=by simpa using hlt
   rw[hdt]at e19;obtain⟨g15,w1,e20⟩:=aaA (Y:=Y) (b2:=b2) (b3:=b3) (b4:=b4) (L:=L) (n:=n) (i:=i) (es:=bU hs) (H:=H) (p8:=.ptr (.slot 8 g8) 0) (g8:=g8) (q8:=aP (aJ y x)) (e68:=.d (.int .i64 ps.length)) hx h11 ho w;have hz0:=hz k;simp only[List.length_cons]at hz0 hz;obtain⟨hs1,H1,w2,e21,hH1,hG1,hc1⟩:=aae (Y:=Y) (b2:=b2) (b3:=b3) (b4:=b4) (L:=L) (n:=n) (i:=i) (x:=x) (y:=y) (g8:=g8) (g15:=g15) (k:=k) (e67:=.d (jR ps)) (e68:=.d (.int .i64 ps.length)) (e69:=.d (.int .i64 (j:Nat))) hb hH (by omega) h11 w1;have e22:=aat (Y:=Y) (b2:=b2) (b3:=b3) (b4:=b4) (L:=L) (n:=n) (i:=i) (es:=bU hs1) (H:=H1) (p8:=.ptr (.slot 8 g8) 0) (e67:=.d (jR ps)) (e68:=.d (.int .i64 ps.length)) (j:=j) (ob:=(8,g8,aP (aJ y x))::(o11++[(15,g15,gq k)])) (by omega) w2;have hl1:∀c,(dZ hs1 c).length≤(dZ hs c).length+1:=fun c=>by
    rw[hc1];split
    ·rename_i e;subst e;simp
    ·omega
   obtain⟨hs2,o2,H2,w3,e2,ho2,hH2,hG2,hc2,hl2⟩:=Sl hps h11 m (j+1) r hs1 [(15,g15,gq k)] H1 w2 (by simpa using hm) hr (by omega) (.inr ⟨_,_,rfl⟩) (hG1.lt hb) hH1 (fun c=>by have:=hl1 c;have:=hz c;omega);refine⟨hs2,o2,H2,w3,?_,ho2,hH2,hG1.trans hG2,fun c z=>?_,fun c=>?_⟩
   ·have er:aj K 138 xC (aH Y b2 b3 b4 L n i [(8,.ptr (.slot 8 g8) 0)] [(67,.d (jR ps)),(68,.d (.int .i64 ps.length)),(69,.d (.int .i64 (j:Nat)))] ((8,g8,aP (aJ y x))::(o11++o15)) (bU hs) H w) =
      some (.normal,aH Y b2 b3 b4 L n i [(8,.ptr (.slot 8 g8) 0)] [(67,.d (jR ps)),(68,.d (.int .i64 ps.length)),(69,.d (.int .i64 (j+1:Nat)))] ((8,g8,aP (aJ y x))::(o11++[(15,g15,gq k)])) (bU hs1) H1 w2):=by
     rw[Yx];refine(dM e19).trans ?_;refine(dM ((Vk (by simp[aH])).trans ul)).trans ?_;refine(dM (YE ((dM e20).trans e21))).trans ?_;exact e22
    rw[af,er];exact e2
   ·rw[hc2,hc1];by_cases hck:c=k
    ·subst hck;simp only[if_true,List.mem_append,List.mem_cons,List.not_mem_nil,or_false,true_or,and_true];constructor
     ·rintro((h|h)|h)
      ·exact .inl h
      ·exact .inr h
      ·exact .inr h.1
     ·rintro(h|h)
      ·exact .inl (.inl h)
      ·exact .inl (.inr h)
    ·simp[hck]
   ·have:=hl2 c;have:=hl1 c;simp only[List.length_cons];omega
end
def Aj(s kd:Nat)(I:List (Nat×Stp×List Int))(i:Nat)(hs:HL):Prop:=
 (∀c z,z∈dZ hs c↔∃(j:Nat) (x:Nat×Stp×List Int),z=(j:Int)∧j<i∧I[j]?=some x∧x.1=s∧c∈oN kd x)∧∀c,(dZ hs c).length≤3*i
theorem EL{α β:Type}{f:α→List β}{B:Nat}:∀(l:List α),(∀c,(f c).length≤B)→(l.flatMap f).length≤l.length*B
 |[],_=>by simp|a::l,h=>by have:=EL l h;have:=h a;simp only[List.flatMap_cons,List.length_append,List.length_cons,Nat.succ_mul];omega
theorem Uj(zs:List Int):(dA zs).length≤zs.length:=by
 cases zs with
 |nil=>simp[dA]|cons x r=>have:=Bv x r;simp[dA];omega
section
variable{Y b2 b3 b4 L n i s u kd:Nat}{Pr:Nat→Prop}{hs:HL}{H:List O}{x:Nat×Stp×List Int}{o8 o11 o15 ob:List (Nat×Nat×O)}{p8:V}{es:List (D×V)}{I:List (Nat×Stp×List Int)}{Inv:List (Nat×Nat)→(Nat→Prop)→List O→Prop}{Stop:List (Nat×Nat)→List O→Prop}
theorem XC(w:Nat) :
  aj K 138 (rg 138 2) (aH Y b2 b3 b4 L n i [] [] ob es H w)=some (.normal,aH Y b2 b3 b4 L n i [] [(23,.d (.bool (decide (i<n))))] ob es H w):=by
 simp[aH,agS]
theorem Vy{e:V}(hi:i≤1000)(w:Nat) :
  aj K 138 (rg 138 23) (aH Y b2 b3 b4 L n i [(8,p8)] [(64,e)] ob es H w)=some (.normal,aH Y b2 b3 b4 L n (i+1) [] [] ob es H w):=by
 have w1:wr .i64 ((i:Int)+1)=(i:Int)+1:=wI;simp[aH,Sv,w1]
theorem X6{e1 e2 e3 e4:V}(hi:i≤1000)(w:Nat) :
  aj K 138 (rg 138 23) (aH Y b2 b3 b4 L n i [(8,p8)] [(67,e1),(68,e2),(69,e3),(70,e4)] ob es H w)=some (.normal,aH Y b2 b3 b4 L n (i+1) [] [] ob es H w):=by
 have w1:wr .i64 ((i:Int)+1)=(i:Int)+1:=wI;simp[aH,Sv,w1]
theorem anS{f id:Nat}{s:St}:aj K f (.exit id) s=some (.exit id,s):=by simp
theorem axl(R:oD Y b2 b3 b4 L s u kd I Inv Stop)(hkd:kd=1∨kd=2∨kd=3)(hf:∀x∈I,x.2.1.fr.length≤3)(hn:I.length≤100)(hx:I[i]?=some x){d:List (Nat×Nat)}(hI:Inv d Pr H)(hH:dU Pr hs H)(hS:Aj s kd I i hs)
  (h11:O1 11 o11)(h15:O1 15 o15)(hdl:d.length+900≤90000)(hdq:∀q∈d,jS kd s u I q.1 q.2){g8:Nat}(w:Nat) :
  (∃ tl o11' Pr' H' w' ps,ps.length≤900∧((∃ e,tl=[(29,e)])∨∃ e1 e2 e3 e4,tl=[(47,e1),(48,e2),(49,e3),(50,e4)])∧O1 11 o11'∧dU Pr' hs H'∧Inv (d++ps) Pr' H'∧(∀ a c,(a,c)∈ps↔c=i∧jS kd s u I a c) ∧
   ∀ c:Code,aj K 138 (.seq (.seq (rg 138 4) (.cond (.tmp 29) (.seq (rg 138 5) (.seq (.seq (rg 138 6) (.block 2 (.loop xW))) (.seq (rg 138 11) (.seq (rg 138 12) (.block 4 (.loop nU)))))) .skip)) c)
     (aH Y b2 b3 b4 L n i [(8,.ptr (.slot 8 g8) 0)] [] ((8,g8,aP (aJ i x))::(o11++o15)) (bU hs) H w) =
    aj K 138 c (aH Y b2 b3 b4 L n i [(8,.ptr (.slot 8 g8) 0)] tl ((8,g8,aP (aJ i x))::(o11'++o15)) (bU hs) H' w'))∨
  (∀c:Code,zW Y b2 b3 b4 L n s u kd I Stop d (aj K 138 (.seq (.seq (rg 138 4) (.cond (.tmp 29) (.seq (rg 138 5) (.seq (.seq (rg 138 6) (.block 2 (.loop xW))) (.seq (rg 138 11) (.seq (rg 138 12) (.block 4 (.loop nU)))))) .skip)) c) (aH Y b2 b3 b4 L n i [(8,.ptr (.slot 8 g8) 0)] [] ((8,g8,aP (aJ i x))::(o11++o15)) (bU hs) H w))):=by
 obtain⟨r2,c2⟩:=R.c2 d Pr H hI;obtain⟨r3,c3⟩:=R.c3 d Pr H hI;have hb:=R.le d Pr H hI;have hfx:=hf x (List.mem_of_getElem? hx);have hil:=(gS.1 hx).1;obtain⟨w1,e4⟩:=agG (Y:=Y) (b3:=b3) (b4:=b4) (L:=L) (n:=n) (i:=i) (es:=bU hs) (x:=x) (y:=i) (g8:=g8) c2 h11 h15 w;by_cases hu:x.1=u
 ·rw [decide_eq_true hu] at e4;have e5:=aga (Y:=Y) (b2:=b2) (b3:=b3) (b4:=b4) (L:=L) (n:=n) (i:=i) (es:=bU hs) (H:=H) (p8:=.ptr (.slot 8 g8) 0) (e:=.d (.bool true)) ((8,g8,aP (aJ i x))::(o11++o15)) w1;obtain⟨w2,e6⟩:=ag6 (Y:=Y) (b2:=b2) (b4:=b4) (L:=L) (n:=n) (i:=i) (es:=bU hs) (x:=x) (y:=i) (g8:=g8) hkd c3 hfx h11 h15 w1;have hal:=Xt kd x hfx;have hfl:=EL (f:=dZ hs) (jH kd x) hS.2;have hfl2:((jH kd x).flatMap (dZ hs)).length≤900:=by refine Nat.le_trans hfl (Nat.le_trans (Nat.mul_le_mul hal (Nat.mul_le_mul_left 3 (by omega:i≤100))) (by omega))
  obtain⟨v1,o11',H1,w3,e0,h11',hH1,hM1,hG1⟩:=Q8 (Y:=Y) (b2:=b2) (b3:=b3) (b4:=b4) (L:=L) (n:=n) (i:=i) (Pr:=Pr) (hs:=hs) (p8:=.ptr (.slot 8 g8) 0) (g8:=g8) (q8:=aP (aJ i x)) (ps:=jH kd x) (by omega) h15 (jH kd x).length 0 (jH kd x) (.d .nils) [] o11 H w2 rfl (by simp) (by omega) h11 hb hH (.inl ⟨rfl,rfl⟩) (by simp only[List.length_nil];omega);rw[List.nil_append]at hM1;obtain⟨H2,w4,e11,hH2,hM2,hG2⟩:=abh (Y:=Y) (b2:=b2) (b3:=b3) (b4:=b4) (L:=L) (n:=n) (i:=i) (Pr:=Pr) (es:=bU hs) (p8:=.ptr (.slot 8 g8) 0) (ob:=(8,g8,aP (aJ i x))::(o11'++o15)) (e32:=.d (jR (jH kd x))) (e33:=.d (.int .i64 (jH kd x).length)) (e34:=.d (.int .i64 (jH kd x).length)) (e35:=.d (.bool false)) hH1 hM1 (by omega) w3;have hsl:=tC ((jH kd x).flatMap (dZ hs));obtain⟨H3,w5,e12,hH3,hG3⟩:=acN (Y:=Y) (b2:=b2) (b3:=b3) (b4:=b4) (L:=L) (n:=n) (i:=i) (Pr:=Pr) (es:=bU hs) (p8:=.ptr (.slot 8 g8) 0) (ob:=(8,g8,aP (aJ i x))::(o11'++o15)) hH2 hM2 (by omega) w4;have hI3:=R.mono _ _ _ _ hI (hG1.trans (hG2.trans hG3));have hcl:=Uj (jO ((jH kd x).flatMap (dZ hs)));have hmem:∀z,z∈dA (jO ((jH kd x).flatMap (dZ hs)))↔∃a:Nat,z=a∧jS kd s u I a i:=fun z=>by
   rw[UK,UW,List.mem_flatMap];constructor
   ·rintro⟨p,hp,hz⟩;obtain⟨j,xj,rfl,hj,hjx,hjs,hb⟩:=(hS.1 p z).1 hz;exact⟨j,rfl,xj,x,hjx,hx,hj,hjs,hu,p,hb,hp⟩
   ·rintro⟨a,rfl,xa,xi,h1,h2,h3,h4,h5,p,h6,h7⟩;rw[hx]at h2;cases h2;exact⟨p,h7,(hS.1 p _).2 ⟨a,xa,rfl,h3,h1,h4,h6⟩⟩
  have hcl9:(dA (jO ((jH kd x).flatMap (dZ hs)))).length≤900:=by omega
  rcases Rl (n:=n) (i:=i) (es:=bU hs) (hs:=hs) (x:=x) (y:=i) (g8:=g8) R (cs:=dA (jO ((jH kd x).flatMap (dZ hs)))) (by omega) (fun c hc=>(hmem c).1 hc) h11' h15 (dA (jO ((jH kd x).flatMap (dZ hs)))).length 0 _ d Pr H3 w5 rfl (by simp) (by omega) hH3 hI3 (by omega) hdq with ⟨Pr4,H4,w6,e1,hH4,hI4⟩|⟨i',mid,tl,ob',es',H4,w6,ps,e1,hs4,hp4⟩
  ·left;refine⟨[(47,.d (bF (dA (jO ((jH kd x).flatMap (dZ hs)))))),(48,.d (.int .i64 (dA (jO ((jH kd x).flatMap (dZ hs)))).length)),(49,.d (.int .i64 (dA (jO ((jH kd x).flatMap (dZ hs)))).length)),(50,.d (.bool false))],o11',Pr4,H4,w6,_,?_,.inr ⟨_,_,_,_,rfl⟩,h11',hH4,hI4,fun a c=>?_,fun c=>?_⟩
   ·simpa using hcl9
   ·simp only[List.mem_map,pI];constructor
    ·rintro⟨z,hz,rfl,rfl⟩;obtain⟨a,rfl,h⟩:=(hmem z).1 hz;exact⟨rfl,by simpa using h⟩
    ·rintro⟨rfl,h⟩;exact⟨(a:Int),(hmem _).2 ⟨a,rfl,h⟩,by simp,rfl⟩
   ·refine dM ?_;refine(dM e4).trans ?_;refine(Vk (by simp[aH])).trans ?_;refine(dM e5).trans ?_;refine(dM ((dM e6).trans (NE e0))).trans ?_;refine(dM e11).trans ?_;refine(dM e12).trans ?_;exact NE e1
  ·right;intro c;refine⟨i',mid,tl,ob',es',H4,w6,ps,?_,hs4,hp4⟩;refine aaF ?_ (by simp);refine(dM e4).trans ?_;refine(Vk (by simp[aH])).trans ?_;refine(dM e5).trans ?_;refine(dM ((dM e6).trans (NE e0))).trans ?_;refine(dM e11).trans ?_;refine(dM e12).trans ?_;exact agu e1
 ·rw[decide_eq_false hu]at e4;left;refine⟨[(29,.d (.bool false))],o11,Pr,H,w1,[],by simp,.inl ⟨_,rfl⟩,h11,hH,by simpa using hI,fun a c=>?_,fun c=>?_⟩
  ·simp only[List.not_mem_nil,false_iff];rintro⟨rfl,xa,xi,h1,h2,h3,h4,h5,_⟩;rw[hx]at h2;cases h2;exact hu h5
  ·refine dM ?_;refine(dM e4).trans ?_;exact(cdF (by simp[aH])).trans ul
theorem amk(R:oD Y b2 b3 b4 L s u kd I Inv Stop)(hkd:kd=1∨kd=2∨kd=3)(hf:∀x∈I,x.2.1.fr.length≤3)(hn:I.length≤100)(hx:I[i]?=some x){d:List (Nat×Nat)}(hI:Inv d Pr H)(hH:dU Pr hs H)(hS:Aj s kd I i hs)
  (h8:O1 8 o8)(h11:O1 11 o11)(h15:O1 15 o15)(hdl:d.length+900≤90000)(hdq:∀q∈d,jS kd s u I q.1 q.2)(w:Nat) :
  (∃o8' o11' o15' hs' Pr' H' w' ps,aj K 138 rO (aH Y b2 b3 b4 L I.length i [] [] (o8++(o11++o15)) (bU hs) H w)=some (.normal,aH Y b2 b3 b4 L I.length (i+1) [] [] (o8'++(o11'++o15')) (bU hs') H' w')∧
   O1 8 o8'∧O1 11 o11'∧O1 15 o15'∧dU Pr' hs' H'∧Aj s kd I (i+1) hs'∧Inv (d++ps) Pr' H'∧ps.length≤900∧∀a c,(a,c)∈ps↔c=i∧jS kd s u I a c)∨
  zW Y b2 b3 b4 L I.length s u kd I Stop d (aj K 138 rO (aH Y b2 b3 b4 L I.length i [] [] (o8++(o11++o15)) (bU hs) H w)):=by
 have hil:=(gS.1 hx).1;have hfx:=hf x (List.mem_of_getElem? hx);have e2:=XC (Y:=Y) (b2:=b2) (b3:=b3) (b4:=b4) (L:=L) (n:=I.length) (i:=i) (ob:=o8++(o11++o15)) (es:=bU hs) (H:=H) w;rw[decide_eq_true hil]at e2;have hEi:(encI 0 I)[i]?=some (aJ i x):=by have:=E5 (n:=0) hx;rwa[Nat.zero_add]at this
 obtain⟨g8,w1,e3⟩:=afp (Y:=Y) (b2:=b2) (b3:=b3) (b4:=b4) (es:=bU hs) (R.cL d Pr H hI) hEi (wP 0 I) (by omega) h8 h11 h15 w;rcases axl (n:=I.length) (g8:=g8) R hkd hf hn hx hI hH hS h11 h15 hdl hdq w1 with ⟨tl,o11',Pr1,H1,w2,ps,hpl,htl,h11',hH1,hI1,hps,eh⟩|hst
 rotate_left 1
 ·right;obtain⟨i',mid,tl,ob',es',H4,w6,ps,e1,hs4,hp4⟩:=hst (.seq (.seq (rg 138 17) (.cond (.tmp 64) (.exit 1) .skip)) (.seq (rg 138 18) (.block 6 (.loop xC))));refine⟨i',mid,tl,ob',es',H4,w6,ps,?_,hs4,hp4⟩;rw[G8];refine(dM e2).trans ?_;refine(dM ((Vk (by simp[aH])).trans ul)).trans ?_;exact aaF (agu ((dM e3).trans e1)) (by simp)
 left;obtain⟨r4,c4⟩:=R.c4 _ _ _ hI1;obtain⟨r3,c3⟩:=R.c3 _ _ _ hI1;have hb1:=R.le _ _ _ hI1;have e17:∃w',aj K 138 (rg 138 17) (aH Y b2 b3 b4 L I.length i [(8,.ptr (.slot 8 g8) 0)] tl ((8,g8,aP (aJ i x))::(o11'++o15)) (bU hs) H1 w2) =
   some (.normal,aH Y b2 b3 b4 L I.length i [(8,.ptr (.slot 8 g8) 0)] [(64,.d (.bool (!decide (x.1=s))))] ((8,g8,aP (aJ i x))::(o11'++o15)) (bU hs) H1 w'):=by
  rcases htl with ⟨e,rfl⟩|⟨e1,e2,e3,e4,rfl⟩
  ·exact Vd c4 h11' h15 w2
  ·exact Yf c4 h11' h15 w2
 obtain⟨w3,e17⟩:=e17;by_cases hs':x.1=s
 ·rw [decide_eq_true hs'] at e17;obtain⟨w4,e18⟩:=abT (Y:=Y) (b2:=b2) (b4:=b4) (L:=L) (n:=I.length) (i:=i) (es:=bU hs) (x:=x) (y:=i) (g8:=g8) (e:=.d (.bool (!true))) hkd c3 hfx h11' h15 w3;have hbl:=Vz kd x hfx;obtain⟨hs2,o15',H2,w5,e0,h15',hH2,hG2,hc2,hl2⟩:=Sl (Y:=Y) (b2:=b2) (b3:=b3) (b4:=b4) (L:=L) (n:=I.length) (i:=i) (Pr:=Pr1) (x:=x) (y:=i) (g8:=g8) (ps:=oN kd x) (by omega) h11' (oN kd x).length 0 (oN kd x) hs o15 H1 w4 rfl (by simp) (by omega) h15 hb1 hH1 (fun c=>by have:=hS.2 c;omega);have e23:=X6 (Y:=Y) (b2:=b2) (b3:=b3) (b4:=b4) (L:=L) (n:=I.length) (i:=i) (es:=bU hs2) (H:=H2) (p8:=.ptr (.slot 8 g8) 0) (ob:=(8,g8,aP (aJ i x))::(o11'++o15')) (e1:=.d (jR (oN kd x))) (e2:=.d (.int .i64 (oN kd x).length)) (e3:=.d (.int .i64 (oN kd x).length)) (e4:=.d (.bool false)) (by omega) w5;refine⟨[(8,g8,aP (aJ i x))],o11',o15',hs2,Pr1,H2,w5,ps,?_,.inr ⟨_,_,rfl⟩,h11',h15',hH2,⟨fun c z=>?_,fun c=>?_⟩,R.mono _ _ _ _ hI1 hG2,hpl,hps⟩
  ·rw[G8];refine(dM e2).trans ?_;refine(dM ((Vk (by simp[aH])).trans ul)).trans ?_;refine(dM (YE ((dM e3).trans ((eh _).trans ((dM ((dM e17).trans ((cdF (by simp[aH])).trans ul))).trans ((dM e18).trans (NE e0))))))).trans ?_;exact e23
  ·rw[hc2,hS.1];constructor
   ·rintro(⟨j,xj,h1,h2,h3⟩|⟨h1,h2⟩)
    ·exact⟨j,xj,h1,by omega,h3⟩
    ·exact⟨i,x,h1,by omega,hx,hs',h2⟩
   ·rintro⟨j,xj,h1,h2,h3,h4,h5⟩;by_cases hji:j=i
    ·subst hji;rw[hx]at h3;cases h3;exact .inr ⟨h1,h5⟩
    ·exact .inl ⟨j,xj,h1,by omega,h3,h4,h5⟩
  ·have:=hl2 c;have:=hS.2 c;omega
 ·rw [decide_eq_false hs'] at e17;have e23:=Vy (Y:=Y) (b2:=b2) (b3:=b3) (b4:=b4) (L:=L) (n:=I.length) (i:=i) (es:=bU hs) (H:=H1) (p8:=.ptr (.slot 8 g8) 0) (ob:=(8,g8,aP (aJ i x))::(o11'++o15)) (e:=.d (.bool (!false))) (by omega) w3;refine⟨[(8,g8,aP (aJ i x))],o11',o15,hs,Pr1,H1,w3,ps,?_,.inr ⟨_,_,rfl⟩,h11',h15,hH1,⟨fun c z=>?_,fun c=>?_⟩,hI1,hpl,hps⟩
  ·rw[G8];refine(dM e2).trans ?_;refine(dM ((Vk (by simp[aH])).trans ul)).trans ?_;refine(dM (NE ((dM e3).trans ((eh _).trans (aaF ((dM e17).trans ((Vk (by simp[aH])).trans anS)) (by simp)))))).trans ?_;exact e23
  ·rw[hS.1];constructor
   ·rintro⟨j,xj,h1,h2,h3⟩;exact⟨j,xj,h1,by omega,h3⟩
   ·rintro⟨j,xj,h1,h2,h3,h4,h5⟩;by_cases hji:j=i
    ·subst hji;rw[hx]at h3;cases h3;exact absurd h4 hs'
    ·exact⟨j,xj,h1,by omega,h3,h4,h5⟩
  ·have:=hS.2 c;omega
theorem QJ(R:oD Y b2 b3 b4 L s u kd I Inv Stop)(hkd:kd=1∨kd=2∨kd=3)(hf:∀x∈I,x.2.1.fr.length≤3)(hn:I.length≤99) :
  ∀ (m i:Nat) (tt:List (Nat × Stp × List Int)) (d:List (Nat × Nat)) (hs:HL) (Pr:Nat→Prop) (o8 o11 o15:List (Nat × Nat × O)) (H:List O) (w:Nat),tt.length=m→I.drop i=tt→i≤I.length→Inv d Pr H→dU Pr hs H→Aj s kd I i hs→O1 8 o8→O1 11 o11→O1 15 o15→d.length≤900 * i→(∀ q∈d,jS kd s u I q.1 q.2) →
   (∃ob' es' Pr' H' w' ps,aj K 138 (.loop rO) (aH Y b2 b3 b4 L I.length i [] [] (o8++(o11++o15)) (bU hs) H w)=some (.exit 0,aH Y b2 b3 b4 L I.length I.length [] [(23,.d (.bool false))] ob' es' H' w')∧
    Inv (d++ps) Pr' H'∧∀a c,(a,c)∈ps↔i≤c∧jS kd s u I a c)∨
   zW Y b2 b3 b4 L I.length s u kd I Stop d (aj K 138 (.loop rO) (aH Y b2 b3 b4 L I.length i [] [] (o8++(o11++o15)) (bU hs) H w))
 | 0,i,tt,d,hs,Pr,o8,o11,o15,H,w,hm,ht,hi,hI,hH,hS,h8,h11,h15,hdl,hdq=>by
  have ht0:tt=[]:=List.eq_nil_of_length_eq_zero hm;subst ht0;have hie:i=I.length:=by have:=List.drop_eq_nil_iff.1 ht;omega
  subst hie;left;refine⟨o8++(o11++o15),bU hs,Pr,H,w,[],?_,by simpa using hI,fun a c=>?_⟩
  ·rw[af,G8,dM (XC w)];simp[aH]
  ·simp only[List.not_mem_nil,false_iff];rintro⟨h,xa,xc,h1,h2,_⟩;have:=(gS.1 h2).1;omega
 | m+1,i,tt,d,hs,Pr,o8,o11,o15,H,w,hm,ht,hi,hI,hH,hS,h8,h11,h15,hdl,hdq=>by
  match tt,hm,ht with
  | x :: r,hm,ht =>
   have hx:I[i]?=some x:=by have:=congrArg List.head? ht;simpa[List.head?_drop]using this
   have hlt:=(gS.1 hx).1;have hr:I.drop (i+1)=r:=by have:=congrArg List.tail ht;simpa[List.tail_drop]using this
   rcases amk R hkd hf (by omega) hx hI hH hS h8 h11 h15 (by omega) hdq w with ⟨o8',o11',o15',hs1,Pr1,H1,w1,ps1,e1,h8',h11',h15',hH1,hS1,hI1,hpl,hp1⟩|⟨i',mid,tl,ob',es',H4,w6,ps,e1,hs4,hp4⟩
   rotate_left 1
   ·right;refine⟨i',mid,tl,ob',es',H4,w6,ps,?_,hs4,hp4⟩;rw[af,e1];rfl
   have el:aj K 138 (.loop rO) (aH Y b2 b3 b4 L I.length i [] [] (o8++(o11++o15)) (bU hs) H w)=aj K 138 (.loop rO) (aH Y b2 b3 b4 L I.length (i+1) [] [] (o8'++(o11'++o15')) (bU hs1) H1 w1):=by rw[af,e1];rfl
   rw[el];have hdep:∀q∈ps1,jS kd s u I q.1 q.2:=fun q hq=>((hp1 q.1 q.2).1 hq).2
   rcases QJ R hkd hf hn m (i+1) r (d++ps1) hs1 Pr1 o8' o11' o15' H1 w1 (by simpa using hm) hr (by omega) hI1 hH1 hS1 h8' h11' h15' (by rw[List.length_append];omega) (by
     intro q hq;rcases List.mem_append.1 hq with hq|hq
     ·exact hdq q hq
     ·exact hdep q hq)with ⟨ob',es',Pr2,H2,w2,ps2,e2,hI2,hp2⟩|⟨i',mid,tl,ob',es',H4,w6,ps,e2,hs4,hp4⟩
   ·left;refine⟨ob',es',Pr2,H2,w2,ps1++ps2,e2,by simpa using hI2,fun a c=>?_⟩;rw[List.mem_append,hp1,hp2];constructor
    ·rintro(⟨h1,h2⟩|⟨h1,h2⟩)
     ·exact⟨by omega,h2⟩
     ·exact⟨by omega,h2⟩
    ·rintro⟨h1,h2⟩;by_cases hci:c=i
     ·exact .inl ⟨hci,h2⟩
     ·exact .inr ⟨by omega,h2⟩
   ·right;refine⟨i',mid,tl,ob',es',H4,w6,ps1++ps,e2,by simpa using hs4,?_⟩;intro q hq;rcases List.mem_append.1 hq with hq|hq
    ·exact hdep q hq
    ·exact hp4 q hq
theorem aoA(R:oD Y b2 b3 b4 L s u kd I Inv Stop)(hkd:kd=1∨kd=2∨kd=3)(hf:∀x∈I,x.2.1.fr.length≤3)(hn:I.length≤99){b1 T:Nat}{r1:Bool}{stp:D}(hI:Inv [] Pr H)
  (h1:H[b1]?=some (.cells [.ptr (.heap T) 0] r1))(hT:H[T]?=some (.cells [.d (.list 2 ax),.d stp,.sl (.heap L) 4 I.length 0 I.length] false))(hst:D.isCell stp=true) :
  ∃H' w ps,ah K (.fn (.func 138) [] [.ptr (.heap b1) 0,.ptr (.heap b2) 0,.ptr (.heap b3) 0,.ptr (.heap b4) 0]) [.fn (.yield Y) [] []] none H=some (.ret (.tuple []),false,H',w)∧
   ((∃Pr',Inv ps Pr' H'∧∀a c,(a,c)∈ps↔jS kd s u I a c)∨(Stop ps H'∧∀q∈ps,jS kd s u I q.1 q.2)):=by
 have ee:=ay1 [] [.ptr (.heap b1) 0,.ptr (.heap b2) 0,.ptr (.heap b3) 0,.ptr (.heap b4) 0] [.fn (.yield Y) [] []] none H;have z0:((0:Nat):Int)=0:=rfl;have m0:bU []=[]:=rfl;simp only[D.isCell]at hst;rcases QJ R hkd hf hn I.length 0 I [] [] Pr [] [] [] H 0 rfl (by simp) (by omega) hI ⟨by simp,by simp⟩ ⟨by simp[dZ],by simp[dZ]⟩ (.inl rfl) (.inl rfl) (.inl rfl) (by simp) (by simp)with ⟨ob',es',Pr',H',w',ps,e1,hI',hps⟩|⟨i',mid,tl,ob',es',H',w',ps,e1,hs4,hp4⟩
 ·suffices hh:∃w,ah K (.fn (.func 138) [] [.ptr (.heap b1) 0,.ptr (.heap b2) 0,.ptr (.heap b3) 0,.ptr (.heap b4) 0]) [.fn (.yield Y) [] []] none H=some (.ret (.tuple []),false,H',w) by obtain⟨w,hh⟩:=hh;exact⟨H',w,ps,hh, .inl ⟨Pr',by simpa using hI',fun a c=>by rw[hps];simp⟩⟩
  simp only[aH,z0,m0,List.append_nil,List.cons_append,List.nil_append]at e1;simp[c138,VN,XT,h1,hT,hst,e1]at ee;exact⟨_,ee⟩
 ·suffices hh:∃w,ah K (.fn (.func 138) [] [.ptr (.heap b1) 0,.ptr (.heap b2) 0,.ptr (.heap b3) 0,.ptr (.heap b4) 0]) [.fn (.yield Y) [] []] none H=some (.ret (.tuple []),false,H',w) by obtain⟨w,hh⟩:=hh;exact⟨H',w,ps,hh,.inr ⟨by simpa using hs4,hp4⟩⟩
  simp only[aH,z0,m0,List.append_nil,List.cons_append,List.nil_append]at e1;simp[c138,VN,XT,h1,hT,hst,e1]at ee;exact⟨_,ee⟩
end
end Mw
