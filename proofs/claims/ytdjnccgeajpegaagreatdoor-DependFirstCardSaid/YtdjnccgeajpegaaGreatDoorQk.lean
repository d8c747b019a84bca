/- DependFirst's tied card holds; no condition beyond the card's own. -/
import Derived.Test.YtdjnccgeajpegaaGreatDoorQj
import Derived.Test.YtdjnccgeajpegaaGreatDoorXc
set_option linter.unusedVariables false
set_option linter.unusedSimpArgs false
set_option maxRecDepth 10000
set_option maxHeartbeats 4000000
namespace Mw
open Go Go.Proofs
section
variable{A l:Nat}{c4 c10 c13:O}
def U42(A l:Nat)(tl:List (Nat×V))(c4 c10 c13:O)(H:List O)(w:Nat):St:=
 St.mk ([(10,.ptr (.slot 10 0) 0),(12,.ptr (.heap A) 0),(13,.ptr (.slot 13 0) 0)]++tl) (Mem.mk [(4,0,c4),(10,0,c10),(13,0,c13)] H w) [] none false (some l)
theorem aeg(H:List O)(w:Nat):aj K 42 (rg 42 7) (U42 A l [] c4 c10 c13 H w)=some (.normal,U42 A l [(14,.d .nils)] c4 c10 c13 H w):=by simp[U42,akV]
theorem aer{T n m w1:Nat}{ds:List Int}{ro:Bool}{H:List O}(e:CK 71 [.ptr (.heap T) 0,.d (.agg [.int .i64 n,.int .i64 m])] H (.d (bF ds)) H w1)(w:Nat) :
  ∃w',aj K 42 (rg 42 8) (U42 A l [(14,.d .nils)] c4 (.cells [.ptr (.heap T) 0] ro) (.cells [.d (.int .i64 n),.d (.int .i64 m)] false) H w) =
   some (.normal,D9 A l (.d .nils) ds 0 [] c4 (.cells [.ptr (.heap T) 0] ro) (.cells [.d (.int .i64 n),.d (.int .i64 m)] false) [] H w'):=by
 have hl:lenV (V.d (bF ds))=some ds.length:=by cases ds<;>simp[bF]
 simp only[lenV]at hl;simp[U42,D9,alJ,e,hl]
theorem ZN{v:V}{o:List (Nat×Nat×O)}{a:Int}{b:Bool}(H:List O)(w:Nat) :
  aj K 42 (rg 42 14) (T42 A l v [(17,.d (.int .i64 a)),(18,.d (.bool b))] c4 c10 c13 o H w)=some (.normal,T42 A l v [(17,.d (.int .i64 a)),(57,.d (.bool (!b)))] c4 c10 c13 o H w):=by
 simp[T42,agF]
theorem alb(s:St):aj K 42 wV s=aj K 42 (.block 1 (.seq (rg 42 7) (.seq (.seq (rg 42 8) (.block 2 (.loop yZ))) (.seq (rg 42 13) (.seq (rg 42 14) (.cond (.tmp 57) (rg 42 15) (.skip))))))) s:=rfl
theorem ax7(s:St):aj K 42 EQ s=aj K 42 (rg 42 6) s:=rfl
theorem ayr{T n m w1 w2:Nat}{ds:List Int}{ro:Bool}{H:List O}{x:V}{a:Int}(hd:ds.length≤100)
  (e:CK 71 [.ptr (.heap T) 0,.d (.agg [.int .i64 n,.int .i64 m])] H (.d (bF ds)) H w1)(hA:H[A]?=some (.cells [x] false))
  (hx:x=.d .nils∨∃l2 n,x=.sl (.heap l2) 1 n 0 n)
  (e9:CK 99 [x,.d (bF (vk ds)),.fn (.func 100) [] []] H (.tuple [.d (.int .i64 a),.d (.bool true)]) H w2)(w:Nat) :
  ∃tm ob w',aj K 42 wV (U42 A l [] c4 (.cells [.ptr (.heap T) 0] ro) (.cells [.d (.int .i64 n),.d (.int .i64 m)] false) H w)=some (.normal,St.mk tm (Mem.mk ob H w') [] none false (some l)):=by
 obtain⟨w3,e8⟩:=aer (A:=A) (l:=l) (c4:=c4) (ro:=ro) e w;obtain⟨v',o',w4,el,hv⟩:=Qj (A:=A) (l:=l) (c4:=c4) (c10:=.cells [.ptr (.heap T) 0] ro) (c13:=.cells [.d (.int .i64 n),.d (.int .i64 m)] false) hd H ds.length 0 (.d .nils) [] w3 (by omega) (.inl ⟨by simp[vk],rfl,rfl⟩);obtain⟨o2,w5,e13,hv2⟩:=Xz (ds:=ds) (n1:=ds.length) (f1:=.d (.bool false)) (l:=l) (c4:=c4) (c10:=.cells [.ptr (.heap T) 0] ro) (c13:=.cells [.d (.int .i64 n),.d (.int .i64 m)] false) hv hA hx e9 w4;refine⟨[(12,.ptr (.heap A) 0),(14,v'),(17,.d (.int .i64 a)),(57,.d (.bool (!true)))],(4,0,c4)::(10,0,.cells [.ptr (.heap T) 0] ro)::(13,0,.cells [.d (.int .i64 n),.d (.int .i64 m)] false)::o2,w5,?_⟩
 ·rw[alb];refine YE ?_;refine(dM (aeg H w)).trans ?_;refine(dM ((dM e8).trans (NE el))).trans ?_;refine(dM e13).trans ?_;refine(dM (ZN H w5)).trans ?_;exact(cdF (by simp[T42])).trans ul
theorem ajX{T n m w1 w2 w3 l2 k:Nat}{ds:List Int}{ro:Bool}{H H':List O}{x:V}{a:Int}(hd:ds.length≤100)
  (e:CK 71 [.ptr (.heap T) 0,.d (.agg [.int .i64 n,.int .i64 m])] H (.d (bF ds)) H w1)(hA:H[A]?=some (.cells [x] false))(hA':H'[A]?=some (.cells [x] false))
  (hx:x=.d .nils∨∃l2 n,x=.sl (.heap l2) 1 n 0 n)
  (e9:CK 99 [x,.d (bF (vk ds)),.fn (.func 100) [] []] H (.tuple [.d (.int .i64 a),.d (.bool false)]) H w2)
  (e1:CK 101 [x,.d (.int .i64 a),.vl [.d (bF (vk ds))]] H (.sl (.heap l2) 1 k 0 k) H' w3)(w:Nat) :
  ∃tm ob w',aj K 42 wV (U42 A l [] c4 (.cells [.ptr (.heap T) 0] ro) (.cells [.d (.int .i64 n),.d (.int .i64 m)] false) H w)=some (.normal,St.mk tm (Mem.mk ob (H'.set A (.cells [.sl (.heap l2) 1 k 0 k] false)) w') [] none false (some l)):=by
 obtain⟨w3,e8⟩:=aer (A:=A) (l:=l) (c4:=c4) (ro:=ro) e w;obtain⟨v',o',w4,el,hv⟩:=Qj (A:=A) (l:=l) (c4:=c4) (c10:=.cells [.ptr (.heap T) 0] ro) (c13:=.cells [.d (.int .i64 n),.d (.int .i64 m)] false) hd H ds.length 0 (.d .nils) [] w3 (by omega) (.inl ⟨by simp[vk],rfl,rfl⟩);obtain⟨o2,w5,e13,hv2⟩:=Xz (ds:=ds) (n1:=ds.length) (f1:=.d (.bool false)) (l:=l) (c4:=c4) (c10:=.cells [.ptr (.heap T) 0] ro) (c13:=.cells [.d (.int .i64 n),.d (.int .i64 m)] false) hv hA hx e9 w4;obtain⟨w6,e15⟩:=af8 (f1:=.d (.bool (!false))) (l:=l) (c4:=c4) (c10:=.cells [.ptr (.heap T) 0] ro) (c13:=.cells [.d (.int .i64 n),.d (.int .i64 m)] false) hv2 hA hA' hx e1 w5;refine⟨[],(4,0,c4)::(10,0,.cells [.ptr (.heap T) 0] ro)::(13,0,.cells [.d (.int .i64 n),.d (.int .i64 m)] false)::o2,w6,?_⟩
 ·rw[alb];refine YE ?_;refine(dM (aeg H w)).trans ?_;refine(dM ((dM e8).trans (NE el))).trans ?_;refine(dM e13).trans ?_;refine(dM (ZN H w5)).trans ?_;exact(Vk (by simp[T42])).trans e15
end
noncomputable def uw(A B T:Nat)(c1:List D):O:=
 .loop .ready none 42 [(8,.d .nils),(9,.d (.int .i64 0)),(10,.ptr (.slot 10 0) 0),(12,.ptr (.heap A) 0),(34,jL B)] [(4,0,.cells (c1.map .d) true),(10,0,.cells [.ptr (.heap T) 0] true)] [35] EQ wV
noncomputable def IY(A B T:Nat)(c1:List D):O:=
 .loop .busy none 42 [(8,.d .nils),(9,.d (.int .i64 0)),(10,.ptr (.slot 10 0) 0),(12,.ptr (.heap A) 0),(34,jL B)] [(4,0,.cells (c1.map .d) true),(10,0,.cells [.ptr (.heap T) 0] true)] [35] EQ wV
theorem aiR{A B T l n m:Nat}{c1:List D}{J J':List O}{tm:List (Nat×V)}{ob:List (Nat×Nat×O)}{w':Nat}(hl:J[l]?=some (uw A B T c1))(hl':J'[l]?=some (IY A B T c1))
  (e:aj K 42 wV (U42 A l [] (.cells (c1.map .d) true) (.cells [.ptr (.heap T) 0] true) (.cells [.d (.int .i64 n),.d (.int .i64 m)] false) (J.set l (IY A B T c1)) (1 <<< l))=some (.normal,St.mk tm (Mem.mk ob J' w') [] none false (some l))) :
  ∃w,ah K (.fn (.yield l) [] []) [.d (.agg [.int .i64 n,.int .i64 m])] none J=some (.ret (.d (.bool true)),false,J'.set l (uw A B T c1),w):=by
 have hll:=(gS.1 hl).1;have hl2:=(gS.1 hl).2;have hll':=(gS.1 hl').1;have hl2':=(gS.1 hl').2;simp only[uw,IY,jL]at hl hl2 hl' hl2' e ⊢;simp only[U42,List.append_nil]at e;rw[bP];unfold gJ;rw[hl];simp[ax7,apx,oL,insL,hl,hl2,hll,hl',hl2',hll',e]
def wo(p q:List Int)(i:Nat)(tl:List (Nat×V))(H:List O)(w:Nat):St:=
 St.mk ([(0,.d (bF p)),(1,.d (bF q)),(12,.d (.int .i64 p.length)),(13,.d (.int .i64 (i:Nat)))]++tl) (Mem.mk [] H w) [] none false none
theorem ane{p q:List Int}{a b:Int}{i:Nat}(hl:p.length≤100)(ha:p[i]?=some a)(hb:q[i]?=some b)(H:List O)(w:Nat) :
  ∃w',aj K 104 rH (wo p q i [] H w)=if a=b then some (.normal,wo p q (i+1) [] H w')else some (.ret,St.mk [(4,.d (.bool false))] (Mem.mk [] H w') [] none false none):=by
 have hlt:=(gS.1 ha).1;have hlt2:=(gS.1 hb).1;have hpD:=iL (cs:=p) (by rintro rfl;simp at hlt);have hqD:=iL (cs:=q) (by rintro rfl;simp at hlt2);have ia:=ints_at ha;have ib:=ints_at hb;obtain⟨_,ia2⟩:=gS.1 ia;obtain⟨_,ib2⟩:=gS.1 ib;have w1:wr .i64 ((i:Int)+1)=(i:Int)+1:=wI;have hlp:(ints p).length=p.length:=by simp
 have hlq:(ints q).length=q.length:=by simp
 generalize ints p=P at *;generalize ints q=Q at *;by_cases h:a=b
 ·simp[wo,Qk,Qw,Zi,Zw,ahW,hpD,hqD,hlp,hlq,hlt,hlt2,ia,ib,ia2,ib2,h,w1]
 ·simp[wo,Qk,Qw,Zi,Zw,aha,hpD,hqD,hlp,hlq,hlt,hlt2,ia,ib,ia2,ib2,h,w1]
theorem alc{p q:List Int}(H:List O)(w:Nat):aj K 104 rH (wo p q p.length [] H w)=some (.exit 0,wo p q p.length [(14,.d (.bool false))] H w):=by simp[wo,Qk,Qw]
theorem aep{p q:List Int}(hl:p.length≤100)(hpq:p.length=q.length)(H:List O) :
  ∀ (m i w:Nat),i+m=p.length →
   ∃w',(p.drop i≠q.drop i∧aj K 104 (.loop rH) (wo p q i [] H w)=some (.ret,St.mk [(4,.d (.bool false))] (Mem.mk [] H w') [] none false none))∨
    (p.drop i=q.drop i∧aj K 104 (.loop rH) (wo p q i [] H w)=some (.exit 0,wo p q p.length [(14,.d (.bool false))] H w'))
 |0,i,w,hi=>by
  have hie:i=p.length:=by omega
  subst hie;refine⟨w,.inr ⟨?_,by rw[af,alc];rfl⟩⟩;rw[List.drop_length,hpq,List.drop_length]
 | m+1,i,w,hi=>by
  have h1:i<p.length:=by omega
  have h2:i<q.length:=by omega
  obtain⟨w1,e1⟩:=ane hl (List.getElem?_eq_getElem h1) (List.getElem?_eq_getElem h2) H w;rw[List.drop_eq_getElem_cons h1,List.drop_eq_getElem_cons h2];by_cases hc:p[i]=q[i]
  ·rw[if_pos hc]at e1;obtain⟨w2,h⟩:=aep hl hpq H m (i+1) w1 (by omega);have el:aj K 104 (.loop rH) (wo p q i [] H w)=aj K 104 (.loop rH) (wo p q (i+1) [] H w1):=by rw[af,e1];rfl
   rw[el];refine⟨w2,?_⟩;rcases h with ⟨h,e⟩|⟨h,e⟩
   ·exact .inl ⟨fun q=>h (by injection q),e⟩
   ·exact .inr ⟨by rw[hc,h],e⟩
  ·rw[if_neg hc]at e1;exact⟨w1,.inl ⟨fun q=>hc (by injection q),by rw[af,e1];rfl⟩⟩
theorem anQ{p q:List Int}(hl:p.length≤100)(H:List O):∃w,ah K (.fn (.func 104) [] []) [.d (bF p),.d (bF q)] none H=some (.ret (.d (.bool (decide (p=q)))),false,H,w):=by
 have hlp:lenV (.d (bF p))=some p.length:=by cases p<;>simp[bF]
 have hlq:lenV (.d (bF q))=some q.length:=by cases q<;>simp[bF]
 simp only[lenV]at hlp hlq;have ee:=avf [] [] [.d (bF p),.d (bF q)] none H;by_cases hpq:p.length=q.length
 ·obtain⟨w,h⟩:=aep hl hpq H p.length 0 0 (by omega);have z0:((0:Nat):Int)=0:=rfl;rw[←hpq]at hlq;rcases h with ⟨hr,e⟩|⟨hr,e⟩
  ·simp only[wo,z0,List.append_nil,List.cons_append,List.nil_append]at e;have hd:p≠q:=by simpa using hr
   rw[decide_eq_false hd];simp[aaE,Qm,Ot,WO,hlp,hlq,e]at ee;exact⟨_,ee⟩
  ·simp only[wo,z0,List.append_nil,List.cons_append,List.nil_append]at e;have hd:p=q:=by simpa using hr
   rw[decide_eq_true hd];simp[aaE,Qm,Ot,WO,ah6,hlp,hlq,e]at ee;exact⟨_,ee⟩
 ·have hpq':¬((p.length:Int)=q.length):=by omega
  rw[decide_eq_false (fun e=>hpq (by rw[e]))];simp[aaE,Qm,Ot,ain,hlp,hlq,hpq,hpq']at ee;exact⟨_,ee⟩
theorem aiH(s:St):aj K 44 IU s=aj K 44 (rg 44 7) s:=rfl
theorem agi(s:St):aj K 44 JM s=aj K 44 (.block 1 (.seq (rg 44 8) (.seq (.seq (rg 44 9) (.cond (.tmp 42) (.seq (rg 44 10) (.ret)) (.skip))) (rg 44 11)))) s:=rfl
noncomputable def gW(ls:LoopState)(x:Option Code)(A C B T:Nat)(c1:List D):O:=
 .loop ls x 44 [(8,.ptr (.heap A) 0),(9,.ptr (.heap (A+1)) 0),(10,.ptr (.slot 10 0) 0),(12,.ptr (.heap C) 0),(13,.ptr (.heap (C+1)) 0),(31,jL B)] [(4,0,.cells (c1.map .d) true),(10,0,.cells [.ptr (.heap T) 0] true)] [32] IU JM
section
variable{A C B T l n m:Nat}{c1:List D}{J:List O}{ds cs:List Int}
theorem ag4{a b:Nat}{rec o x y:O}(hl:J[l]?=some rec)(hab:a<b)(hbl:b<l):(((J.set l o).set a x).set b y).set l rec=(J.set a x).set b y:=by
 have hll:=(gS.1 hl).1;have hl2:=(gS.1 hl).2;have n1:¬(b=l):=by omega
 have n2:¬(a=l):=by omega
 apply List.ext_getElem?;intro z;simp only[List.getElem?_set,List.length_set];by_cases hz:l=z
 ·subst hz;simp[n1,n2,hll,hl2]
 ·by_cases hz3:b=z
  ·simp[hz,hz3]
  ·simp[hz,hz3]
theorem acp{a b:Nat}{rec o x y:O}(hll:l<J.length)(hab:a<b)(hbl:b<l):(((J.set l o).set a x).set b y).set l rec=((J.set a x).set b y).set l rec:=by
 have n1:¬(b=l):=by omega
 have n2:¬(a=l):=by omega
 apply List.ext_getElem?;intro z;simp only[List.getElem?_set,List.length_set];by_cases hz:l=z
 ·subst hz;simp[hll]
 ·by_cases hz3:b=z
  ·simp[hz,hz3]
  ·simp[hz,hz3]
theorem axB{sm:Bool}(hl:J[l]?=some (gW .ready none A C B T c1))(hAC:A+1<C)(hA:C+1<l)(h2:J[C]?=some (.cells [.d (bF cs)] false))(h3:J[C+1]?=some (.cells [.d (.bool sm)] false))(hsm:sm=false∨cs=ds)(hT:T<l)(hd:ds.length≤100)
  (e:∀o,∃w,ah K (.fn (.func 71) [] []) [.ptr (.heap T) 0,.d (.agg [.int .i64 n,.int .i64 m])] none (J.set l o)=some (.ret (.d (bF ds)),false,J.set l o,w)) :
  ∃w,ah K (.fn (.yield l) [] []) [.d (.agg [.int .i64 n,.int .i64 m])] none J=some (.ret (.d (.bool true)),false,(J.set C (.cells [.d (bF ds)] false)).set (C+1) (.cells [.d (.bool true)] false),w):=by
 have hll:=(gS.1 hl).1;have hl2:=(gS.1 hl).2;obtain⟨g2,i2⟩:=gS.1 h2;obtain⟨g3,i3⟩:=gS.1 h3;obtain⟨w1,e1⟩:=e (gW .busy none A C B T c1);obtain⟨w4,e4⟩:=anQ (p:=ds) (q:=cs) hd (J.set l (gW .busy none A C B T c1));have n2:¬(C=l):=by omega
 have n3:¬(C+1=l):=by omega
 have n4:¬(l=C):=by omega
 have n5:¬(l=C+1):=by omega
 have ca:=uy ds;have ca2:=uy cs;simp only[D.isCell]at ca ca2;have hc1:D.cells (bF ds)=[bF ds]:=by cases ds<;>rfl
 have hc2:D.cells (bF cs)=[bF cs]:=by cases cs<;>rfl
 simp only[D.cells]at hc1 hc2;have back:=ag4 (o:=gW .busy none A C B T c1) (x:=.cells [.d (bF ds)] false) (y:=.cells [.d (.bool true)] false) hl (show C<C+1 by omega) hA;simp only[gW,jL]at hl hl2 e1 e4 back;rw[bP];unfold gJ;rw[hl];cases sm with
 |false=>simp[aiH,agi,YM,VF,V9,WV,oL,insL,hl,hl2,h2,h3,i2,i3,g2,g3,n2,n3,n4,n5,hll,e1,ca,hc1,ca2,hc2];exact back|true=>have hcd:cs=ds:=hsm.resolve_left (by simp);subst hcd;simp only[decide_true]at e4;simp[aiH,agi,YM,VF,V9,WV,oL,insL,hl,hl2,h2,h3,i2,i3,g2,g3,n2,n3,n4,n5,hll,e1,e4,ca,hc1,ca2,hc2];exact back
theorem auM(hl:J[l]?=some (gW .ready none A C B T c1))(hAC:A+1<C)(hA:C+1<l)(h0:∃x,J[A]?=some (.cells [x] false))(h1:∃x,J[A+1]?=some (.cells [x] false))(h2:J[C]?=some (.cells [.d (bF cs)] false))(h3:J[C+1]?=some (.cells [.d (.bool true)] false))(hne:ds≠cs)(hT:T<l)(hd:ds.length≤100)
  (e:∀o,∃w,ah K (.fn (.func 71) [] []) [.ptr (.heap T) 0,.d (.agg [.int .i64 n,.int .i64 m])] none (J.set l o)=some (.ret (.d (bF ds)),false,J.set l o,w)) :
  ∃w,ah K (.fn (.yield l) [] []) [.d (.agg [.int .i64 n,.int .i64 m])] none J=some (.ret (.d (.bool false)),false,((J.set A (.cells [.d .nils] false)).set (A+1) (.cells [.d (.int .i64 14)] false)).set l (gW .done (some .ret) A C B T c1),w):=by
 have hll:=(gS.1 hl).1;have hl2:=(gS.1 hl).2;obtain⟨x0,h0⟩:=h0;obtain⟨x1,h1⟩:=h1;obtain⟨g0,i0⟩:=gS.1 h0;obtain⟨g1,i1⟩:=gS.1 h1;obtain⟨g2,i2⟩:=gS.1 h2;obtain⟨g3,i3⟩:=gS.1 h3;obtain⟨w1,e1⟩:=e (gW .busy none A C B T c1);obtain⟨w4,e4⟩:=anQ (p:=ds) (q:=cs) hd (J.set l (gW .busy none A C B T c1));rw[decide_eq_false hne]at e4;have n0:¬(A=l):=by omega
 have n1:¬(A+1=l):=by omega
 have n2:¬(C=l):=by omega
 have n3:¬(C+1=l):=by omega
 have n4:¬(l=A):=by omega
 have n5:¬(l=A+1):=by omega
 have n6:¬(l=C):=by omega
 have n7:¬(l=C+1):=by omega
 have ca:=uy ds;have ca2:=uy cs;simp only[D.isCell]at ca ca2;have hc1:D.cells (bF ds)=[bF ds]:=by cases ds<;>rfl
 have hc2:D.cells (bF cs)=[bF cs]:=by cases cs<;>rfl
 simp only[D.cells]at hc1 hc2;have back:=acp (rec:=gW .done (some .ret) A C B T c1) (o:=gW .busy none A C B T c1) (x:=.cells [.d .nils] false) (y:=.cells [.d (.int .i64 14)] false) hll (show A<A+1 by omega) (by omega);simp only[gW,jL]at hl hl2 e1 e4 back ⊢;rw[bP];unfold gJ;rw[hl];simp[aiH,agi,YM,VF,V9,afx,oL,insL,hl,hl2,h0,h1,h2,h3,i0,i1,i2,i3,g0,g1,g2,g3,n0,n1,n2,n3,n4,n5,n6,n7,hll,e1,e4,ca,hc1,ca2,hc2];exact back
end
theorem mJ{a b:Int}:oC a b<0↔a<b:=by unfold oC;split<;>(try split)<;>omega
theorem YJ{a b:Int}:0<oC a b↔b<a:=by unfold oC;split<;>(try split)<;>omega
theorem iy{a b:Int}:oC a b=0↔a=b:=by unfold oC;split<;>(try split)<;>omega
theorem Ec:∀(p q:List Int),0<cmpL p q→cmpL q p<0
 |[],[],h=>by simp[cmpL]at h|[],_::_,h=>by simp[cmpL]at h|_::_,[],_=>by simp[cmpL]| a :: p,b :: q,h=>by
  simp only[cmpL]at h ⊢;by_cases hc:a=b
  ·subst hc;rw[if_pos (iy.2 rfl)]at h ⊢;exact Ec p q h
  ·rw[if_neg (fun e=>hc (iy.1 e))]at h;rw[if_neg (fun e=>hc (iy.1 e).symm)];exact mJ.2 (YJ.1 h)
theorem EK:∀p:List Int,cmpL p p=0
 |[]=>rfl|a::p=>by simp only[cmpL];rw[if_pos (iy.2 rfl)];exact EK p
theorem Vu(vs:List (List Int))(a:Nat)(y:List Int)(q:Nat)(hi:a≤vs.length):(zk vs a y)[q]?=if q<a then vs[q]? else if q=a then some y else vs[q-1]?:=by
 unfold zk;by_cases h:q<a
 ·rw[if_pos h,List.getElem?_append_left (by simp;omega),List.getElem?_take,if_pos h]
 ·rw[if_neg h,List.getElem?_append_right (by simp;omega)];have hl:(vs.take a).length=a:=by simp;omega
  rw[hl];by_cases h2:q=a
  ·subst h2;simp
  ·rw[if_neg h2];obtain⟨k,rfl⟩:∃k,q=a+1+k:=⟨q-a-1,by omega⟩
   rw[show a+1+k-a=k+1 by omega,List.getElem?_cons_succ,List.getElem?_drop,show a+1+k-1=a+k by omega]
theorem A7(vs:List (List Int))(a:Nat)(y:List Int):(zk vs a y).length=vs.length+1:=by simp only[zk,List.length_append,List.length_take,List.length_cons,List.length_drop];omega
theorem Zj{vs:List (List Int)}{a:Nat}{y e:List Int}:e∈zk vs a y↔e=y∨e∈vs:=by
 unfold zk;rw[List.mem_append,List.mem_cons];constructor
 ·rintro(h|h|h)
  ·exact .inr (List.mem_of_mem_take h)
  ·exact .inl h
  ·exact .inr (List.mem_of_mem_drop h)
 ·rintro(h|h)
  ·exact .inr (.inl h)
  ·rw[←List.take_append_drop a vs]at h;rcases List.mem_append.1 h with h|h
   ·exact .inl h
   ·exact .inr (.inr h)
def Asc(vs:List (List Int)):Prop:=∀k a b,vs[k]?=some a→vs[k+1]?=some b→cmpL a b<0
theorem Asc.put{vs:List (List Int)}(h:Asc vs){a:Nat}{y:List Int}(ha:a≤vs.length)(h1:∀k x,k+1=a→vs[k]?=some x→cmpL x y<0)(h2:∀x,vs[a]?=some x→0<cmpL x y):Asc (zk vs a y):=by
 intro k p q hp hq;rw[Vu _ _ _ _ ha]at hp hq;by_cases c1:k+1<a
 ·rw[if_pos (by omega)]at hp;rw[if_pos c1]at hq;exact h k p q hp hq
 ·rw[if_neg c1]at hq;by_cases c2:k+1=a
  ·rw[if_pos c2]at hq;cases hq;rw[if_pos (by omega)]at hp;exact h1 k p c2 hp
  ·rw[if_neg c2]at hq;simp only[Nat.add_sub_cancel]at hq;rw[if_neg (by omega)]at hp;by_cases c3:k=a
   ·rw[if_pos c3]at hp;cases hp;subst c3;exact Ec _ _ (h2 q hq)
   ·rw[if_neg c3]at hp;obtain⟨j,rfl⟩:∃j,k=j+1:=⟨k-1,by omega⟩
    exact h j p q (by simpa using hp) hq
def D7:List Int→Int
 |[]=>0|[x]=>x+1|x::y::_=>3*(x+1)+(y+1)
def Sg(N:Nat)(v:List Int):Prop:=v.length=N∧∀z∈v,-1≤z∧z≤1
theorem aaw{N:Nat}(hN:N≤2){a b:List Int}(ha:Sg N a)(hb:Sg N b)(h:cmpL a b<0):D7 a<D7 b:=by
 obtain⟨la,ha⟩:=ha;obtain⟨lb,hb⟩:=hb
 match a,b,la,lb with
 |[],[],_,_=>simp[cmpL]at h|[],_::_,la,lb=>simp at la lb;omega|_::_,[],la,lb=>simp at la lb;omega|[x],[y],_,_=>
  simp only[cmpL]at h;simp only[D7];by_cases hc:oC x y=0
  ·rw[if_pos hc]at h;omega
  ·rw[if_neg hc]at h;have:=mJ.1 h;omega
 |[_],_::_::_,la,lb=>simp at la lb;omega|_::_::_,[_],la,lb=>simp at la lb;omega| [x,y],[z,u],_,_ =>
  have hx:=ha x (by simp);have hy:=ha y (by simp);have hz:=hb z (by simp);have hu:=hb u (by simp);simp only[cmpL]at h;simp only[D7];by_cases hc:oC x z=0
  ·rw[if_pos hc]at h;have hxz:=iy.1 hc;by_cases hd:oC y u=0
   ·rw[if_pos hd]at h;omega
   ·rw[if_neg hd]at h;have:=mJ.1 h;omega
  ·rw[if_neg hc]at h;have:=mJ.1 h;omega
 |[_,_],_::_::_::_,la,lb=>simp at la lb;omega|_::_::_::_,_::_::_,la,lb=>simp at la;omega
theorem Ro{N:Nat}(hN:N≤2){a:List Int}(ha:Sg N a):0≤D7 a∧D7 a≤8:=by
 obtain⟨la,ha⟩:=ha
 match a,la with
 |[],_=>simp[D7]|[x],_=>have:=ha x (by simp);simp only[D7];omega
 |[x,y],_=>have:=ha x (by simp);have:=ha y (by simp);simp only[D7];omega
 |_::_::_::_,la=>simp at la;omega
theorem Asc.few{N:Nat}(hN:N≤2){vs:List (List Int)}(h:Asc vs)(hs:∀v∈vs,Sg N v):vs.length≤9:=by
 have key:∀(k:Nat) (a:List Int),vs[k]?=some a→(k:Int)≤D7 a:=by
  intro k;induction k with
  |zero=>intro a ha;have:=(Ro hN (hs a (List.mem_of_getElem? ha))).1;omega
  |succ k ih=>intro a ha;have hl:=(gS.1 ha).1;have hb:=List.getElem?_eq_getElem (l:=vs) (i:=k) (by omega);have h1:=ih _ hb;have h2:=aaw hN (hs _ (List.mem_of_getElem? hb)) (hs a (List.mem_of_getElem? ha)) (h k _ a hb ha);omega
 by_cases hl:vs.length≤9
 ·exact hl
 ·have hb:=List.getElem?_eq_getElem (l:=vs) (i:=9) (by omega);have h1:=key 9 _ hb;have h2:=(Ro hN (hs _ (List.mem_of_getElem? hb))).2;omega
theorem aeu(ds:List Int):Sg ds.length (ds.map tJ):=⟨by simp,fun z hz=>by
 obtain⟨d,_,rfl⟩:=List.mem_map.1 hz
 unfold tJ;split<;>(try split)<;>omega⟩
def LM:List Int→Int
 |[]=>0|x::r=>if x=0 then LM r else x
theorem Si:∀(p q:List Int),p.length=q.length→cmpL p q<0→LM ((jr p q).map tJ)=1
 |[],[],_,h=>by simp[cmpL]at h| a :: p,b :: q,hl,h=>by
  simp only[cmpL]at h;simp only[jr,List.map_cons,LM];by_cases hc:a=b
  ·subst hc;rw[if_pos (iy.2 rfl)]at h;have h0:tJ (a-a)=0:=by simp[tJ]
   rw[if_pos h0];exact Si p q (by simpa using hl) h
  ·rw[if_neg (fun e=>hc (iy.1 e))]at h;have:=mJ.1 h;have h1:tJ (b-a)=1:=by unfold tJ;rw[if_neg (by omega),if_pos (by omega)]
   rw[h1,if_neg (by omega)]
theorem Em:∀ss:List Int,(aZ ss).Pairwise fun p q=>cmpL p q<0
 |[]=>by simp[aZ]| s :: ss=>by
  simp only[aZ];rw[List.pairwise_flatMap];refine⟨fun i _=>?_,?_⟩
  ·rw[List.pairwise_map];refine List.Pairwise.imp ?_ (Em ss);intro p q h;simp only[cmpL];rw[if_pos (iy.2 rfl)];exact h
  ·refine List.Pairwise.imp ?_ (List.pairwise_lt_range (n:=s.toNat));intro a c hac x hx y hy;obtain⟨p,_,rfl⟩:=List.mem_map.1 hx;obtain⟨q,_,rfl⟩:=List.mem_map.1 hy;simp only[cmpL];have h1:oC (Int.ofNat a) (Int.ofNat c)<0:=mJ.2 (by simpa using hac);rw[if_neg (by omega)];exact h1
theorem Jd:∀(t:List Stp) (j:Nat),(allI j t).Pairwise fun x y=>x.1=y.1→cmpL x.2.2 y.2.2<0
 |[],_=>by simp[allI]| s :: r,j=>by
  simp only[allI];rw[List.pairwise_append];refine⟨?_,Jd r (j+1),?_⟩
  ·rw[List.pairwise_map];refine List.Pairwise.imp ?_ (Em s.ss);intro a b h _;exact h
  ·rintro a ha ⟨k,s',p⟩ hb e;obtain⟨q,_,rfl⟩:=List.mem_map.1 ha;have:=(iR.1 hb).1;simp only at e;omega
def Za(I:List (Nat×Stp×List Int))(q:Nat×Nat)(v:List Int):Prop:=∃x y,I[q.1]?=some x∧I[q.2]?=some y∧v=vk (jr x.2.2 y.2.2)
def Q42(I:List (Nat×Stp×List Int))(N A:Nat)(d:List (Nat×Nat))(o:Option Nat)(J:List O):Prop:=
 ∃ vs:List (List Int),Asc vs∧(∀ v∈vs,Sg N v∧∃ q∈d,Za I q v)∧(d≠[]→vs≠[]) ∧
  ((o=none∧vs=[]∧J[A]?=some (.cells [.d .nils] false))∨
   ∃l2,o=some l2∧vs≠[]∧J[A]?=some (.cells [.sl (.heap l2) 1 vs.length 0 vs.length] false)∧J[l2]?=some (.vec 1 (sZ vs) false true))
theorem Sg.few{N:Nat}(hN:N≤2){v:List Int}(h:Sg N v):v.length≤100:=by have:=h.1;omega
theorem y42{t:List Stp}(ht:dL t)(h3:t.length≤3){T L A B l n m N:Nat}{c1:List D}{d:List (Nat×Nat)}{o:Option Nat}{J:List O}(hN:N≤2)
  (hT:J[T]?=some (.cells [.d (.list 2 ax),.d (bC t),.sl (.heap L) 4 (encI 0 (allI 0 t)).length 0 (encI 0 (allI 0 t)).length] false))(hL:J[L]?=some (.vec 4 (encI 0 (allI 0 t)) false true))
  (hl:J[l]?=some (uw A B T c1))(hAl:A<l)(hTl:T<l)(hLl:L<l)(hQ:Q42 (allI 0 t) N A d o J)(ho:∀i,o=some i→l<i)
  {x y:Nat×Stp×List Int}(hx:(allI 0 t)[n]?=some x)(hy:(allI 0 t)[m]?=some y)(hlen:(jr x.2.2 y.2.2).length=N) :
  ∃J' w o',ah K (.fn (.yield l) [] []) [.d (.agg [.int .i64 n,.int .i64 m])] none J=some (.ret (.d (.bool true)),false,J',w)∧Q42 (allI 0 t) N A (d++[(n,m)]) o' J'∧(o'=o∨∃i,o'=some i∧J.length≤i)∧J.length≤J'.length∧
   ∀i,i≠A→o≠some i→i<J.length→J'[i]?=J[i]?:=by
 obtain⟨vs,hasc,hvs,hnon,hcase⟩:=hQ;have hll:=(gS.1 hl).1;generalize hds:jr x.2.2 y.2.2=ds at *;have hsg:Sg N (vk ds):=by rw[←hlen];exact aeu ds
 have hof:Za (allI 0 t) (n,m) (vk ds):=⟨x,y,hx,hy,by rw[hds]⟩
 let Hb:=J.set l (IY A B T c1);have hHb:Hb.length=J.length:=by simp[Hb]
 have hb:Hb[l]?=some (IY A B T c1):=by simp only[Hb];rw[List.getElem?_set_self hll]
 have hbn:∀i,i≠l→Hb[i]?=J[i]?:=fun i hi=>by simp only[Hb];rw[List.getElem?_set_ne (Ne.symm hi)]
 obtain⟨w1,e71⟩:=aoK ht h3 (T:=T) (L:=L) (H:=Hb) (by rw[hbn _ (by omega)];exact hT) (by rw[hbn _ (by omega)];exact hL) hx hy;rw[hds]at e71;have mem1:∀v∈vs,Sg N v∧∃q∈d++[(n,m)],Za (allI 0 t) q v:=fun v hv=>by obtain⟨h1,q,hq,h2⟩:=hvs v hv;exact⟨h1,q,by simp[hq],h2⟩
 rcases hcase with ⟨rfl,rfl,hA⟩|⟨l2,rfl,hne,hA,hl2⟩
 ·obtain⟨w2,e9⟩:=as1 (vk ds) Hb;have e1:=aoo (vk ds) Hb;have hAH:=(gS.1 hA).1;obtain⟨tm,ob,w3,e⟩:=ajX (A:=A) (l:=l) (c4:=.cells (c1.map .d) true) (ro:=true) (by omega) e71 (by rw[hbn _ (by omega)];exact hA) (by rw[List.getElem?_append_left (by omega),hbn _ (by omega)];exact hA) (.inl rfl) e9 e1 (1 <<< l);obtain⟨w4,er⟩:=aiR hl (by rw[List.getElem?_set_ne (by omega),List.getElem?_append_left (by omega)];exact hb) e;refine⟨_,w4,some J.length,er,⟨[vk ds],fun k a b h1 h2=>by simp at h2,fun v hv=>?_,fun _=>by simp,.inr ⟨J.length,rfl,by simp,?_,?_⟩⟩,.inr ⟨_,rfl,Nat.le_refl _⟩,by simp[hHb],fun i hi _ hil=>?_⟩
  ·rw[List.mem_singleton]at hv;subst hv;exact⟨hsg,(n,m),by simp,hof⟩
  ·rw[List.getElem?_set_ne (by omega),List.getElem?_set_self (by simp[hHb];omega),hHb];rfl
  ·rw[List.getElem?_set_ne (by omega),List.getElem?_set_ne (by omega),List.getElem?_append_right (by omega),hHb];simp
  ·by_cases h:i=l
   ·subst h;rw[List.getElem?_set_self (by simp[hHb];omega),hl]
   ·rw[List.getElem?_set_ne (Ne.symm h),List.getElem?_set_ne (Ne.symm hi),List.getElem?_append_left (by omega),hbn _ h]
 ·have hl2l:=ho l2 rfl;have hlen2:=(gS.1 hl2).1;have hAH:=(gS.1 hA).1;have few:=Asc.few hN hasc (fun v hv=>(hvs v hv).1);obtain⟨a,w2,b,e9,ha,h1,h2,hbb⟩:=s99 (l:=l2) (y:=vk ds) (H:=Hb) (by rw[hbn _ (by omega)];exact hl2) (by omega) (fun v hv=>(hvs v hv).1.few hN);cases b with
  |true=>
   obtain⟨z,hz,hz0⟩:=hbb.1 rfl;obtain⟨tm,ob,w3,e⟩:=ayr (A:=A) (l:=l) (c4:=.cells (c1.map .d) true) (ro:=true) (by omega) e71 (by rw[hbn _ (by omega)];exact hA) (.inr ⟨_,_,rfl⟩) e9 (1 <<< l);obtain⟨w4,er⟩:=aiR hl hb e;have hback:Hb.set l (uw A B T c1)=J:=by simp only[Hb];rw[List.set_set];exact CQ hl
   rw[hback]at er;exact⟨J,w4,some l2,er,⟨vs,hasc,mem1,fun _=>hne,.inr ⟨l2,rfl,hne,hA,hl2⟩⟩,.inl rfl,Nat.le_refl _,fun _ _ _ _=>rfl⟩
  | false =>
   have hpos:∀z,vs[a]?=some z→0<cmpL z (vk ds):=fun z hz=>by
    have h0:=h2 z hz;by_cases hc:cmpL z (vk ds)=0
    ·have:=hbb.2 ⟨z,hz,hc⟩;cases this
    ·omega
   have e1:=awJ (a:=a) (y:=vk ds) (H:=Hb) (l2:=l2) (by rw[hbn _ (by omega)];exact hl2) hne ha (by omega);obtain⟨tm,ob,w3,e⟩:=ajX (A:=A) (l:=l) (c4:=.cells (c1.map .d) true) (ro:=true) (by omega) e71 (by rw[hbn _ (by omega)];exact hA) (by rw[List.getElem?_set_ne (by omega),hbn _ (by omega)];exact hA) (.inr ⟨_,_,rfl⟩) e9 e1 (1 <<< l);obtain⟨w4,er⟩:=aiR hl (by rw[List.getElem?_set_ne (by omega),List.getElem?_set_ne (by omega)];exact hb) e;refine⟨_,w4,some l2,er,⟨zk vs a (vk ds),hasc.put ha h1 hpos,fun v hv=>?_,fun _ h=>?_,.inr ⟨l2,rfl,fun h=>?_,?_,?_⟩⟩,.inl rfl,by simp[hHb],fun i hi hi2 hil=>?_⟩
   ·rcases Zj.1 hv with rfl|hv
    ·exact⟨hsg,(n,m),by simp,hof⟩
    ·exact mem1 v hv
   ·have:=A7 vs a (vk ds);rw[h]at this;simp at this
   ·have:=A7 vs a (vk ds);rw[h]at this;simp at this
   ·rw[List.getElem?_set_ne (by omega),List.getElem?_set_self (by simp[hHb];omega),A7]
   ·rw[List.getElem?_set_ne (by omega),List.getElem?_set_ne (by omega),List.getElem?_set_self (by omega)]
   ·have hi2':l2≠i:=fun h=>hi2 (by rw[h]);by_cases h:i=l
    ·subst h;rw[List.getElem?_set_self (by simp[hHb];omega),hl]
    ·rw[List.getElem?_set_ne (Ne.symm h),List.getElem?_set_ne (Ne.symm hi),List.getElem?_set_ne hi2',hbn _ h]
def E8(vs:List (List Int)):D:=match vs with
 |[]=>.nils|_=>.list 1 (sZ vs)
theorem aek(B0 B1 B2 B3:Nat){tm:List (Nat×V)}{m:Mem}(h:look 34 tm=some (.fn (.func 138) [] [.ptr (.heap B0) 0,.ptr (.heap B1) 0,.ptr (.heap B2) 0,.ptr (.heap B3) 0])) :
  aj K 42 (.rangeFunc (.tmp 34) #[35] EQ wV) (St.mk tm m [] none false none)=iQ (St.mk tm m [] none false none) m.hp.length (ah K (.fn (.func 138) [] [.ptr (.heap B0) 0,.ptr (.heap B1) 0,.ptr (.heap B2) 0,.ptr (.heap B3) 0]) [.fn (.yield m.hp.length) [] []] none (m.hp++[.loop .ready none 42 (vN m.ob tm) (uf m.ob) [35] EQ wV])):=
 kV rfl (by simp[h,bH])
theorem s42{t:List Stp}(ht:dL t)(h3:t.length≤3)(hp:List O){s u kd:Nat}{ss su:Stp}(hs:t[s]?=some ss)(hu:t[u]?=some su)(hkd:kd=1∨kd=2∨kd=3) :
  ∃H' w vs,ah K (.fn (.func 42) [] []) [.d (dw t),.d (.int .i64 s),.d (.int .i64 u),.d (.int .i64 kd)] none hp=some (.ret (.tuple [.d (E8 vs),.d (.int .i64 0)]),false,H',w)∧
   Asc vs∧(∀v∈vs,Sg (min ss.ss.length su.ss.length) v∧∃n m,jS kd s u (allI 0 t) n m∧Za (allI 0 t) (n,m) v)∧((∃n m,jS kd s u (allI 0 t) n m)→vs≠[]):=by
 have hsl:=(gS.1 hs).1;have hul:=(gS.1 hu).1;obtain⟨H0,w0,T,L,e1,hT,hL,hTp⟩:=s76 ht h3 hp hsl hul hkd;have hTl:=(gS.1 hT).1;have hLl:=(gS.1 hL).1;have fs:=(ht.ok ss (List.mem_of_getElem? hs)).sz.few;let Ha:=H0++[.cells [.d .nils] false];have hHa:Ha.length=H0.length+1:=by simp[Ha]
 have hTa:Ha[T]?=some (.cells [.d (.list 2 ax),.d (bC t),.sl (.heap L) 4 (encI 0 (allI 0 t)).length 0 (encI 0 (allI 0 t)).length] false):=by rw[List.getElem?_append_left hTl];exact hT
 have hLa:Ha[L]?=some (.vec 4 (encI 0 (allI 0 t)) false true):=by rw[List.getElem?_append_left hLl];exact hL
 obtain⟨w1,e2⟩:=s69 T s u kd Ha;obtain⟨H',w2,ps,e3,h⟩:=prs ht h3 (T:=T) (L:=L) (s:=s) (u:=u) (kd:=kd) (H:=Ha) (uw H0.length Ha.length T [.list 2 ax,bC t]) hTa hLa hkd (·=H0.length) (by rintro i rfl;omega) (by omega) (by omega)
  (fun d o J=>Q42 (allI 0 t) (min ss.ss.length su.ss.length) H0.length d o J∧(∀i,o=some i→Ha.length+5≤i∧i<J.length)∧∀q∈d,jS kd s u (allI 0 t) q.1 q.2) (fun _ _=>False)
  ⟨⟨[],fun k a b h=>by simp at h,by simp,by simp,.inl ⟨rfl,rfl,by rw[iY (by omega)];simp[Ha]⟩⟩,by simp,by simp⟩
  (fun d o J J' h g1 g=>by
   obtain⟨⟨vs,k1,k2,k3,k4⟩,k5,k6⟩:=h;refine⟨⟨vs,k1,k2,k3,?_⟩,fun i hi=>⟨(k5 i hi).1,by have:=(k5 i hi).2;omega⟩,k6⟩;rcases k4 with ⟨r1,r2,r3⟩|⟨l2,r1,r2,r3,r4⟩
   ·exact .inl ⟨r1,r2,by rw[g _ (.inl (by omega))];exact r3⟩
   ·exact .inr ⟨l2,r1,r2,by rw[g _ (.inl (by omega))];exact r3,by rw[g _ (.inr r1)];exact r4⟩)
  (fun d i J h=>(h.2.1 i rfl).2)
  (fun d o J p h1 h2 hq hd hdq hdp=>by
   obtain⟨hq,ho,hdd⟩:=hq;have hdp2:=hdp;obtain⟨x,y,hx,hy,hnm,hxs,hyu,_⟩:=hdp;have hrec:J[Ha.length+4]?=some (uw H0.length Ha.length T [.list 2 ax,bC t]):=by rw[h1 _ (by omega) (by omega)];exact nN
   have hlen:(jr x.2.2 y.2.2).length=min ss.ss.length su.ss.length:=by obtain⟨xs,xt,xp⟩:=x;obtain⟨ys,yt,yp⟩:=y;obtain⟨_,a1,a2⟩:=iR.1 (List.mem_of_getElem? hx);obtain⟨_,b1,b2⟩:=iR.1 (List.mem_of_getElem? hy);simp only at hxs hyu;subst hxs hyu;simp only[Nat.sub_zero]at a1 b1;rw[hs]at a1;rw[hu]at b1;cases a1;cases b1;rw[rU,(gZ.1 a2).len,(gZ.1 b2).len]
   obtain⟨J',w,o',e,k1,k2,k3,k4⟩:=y42 ht h3 (T:=T) (L:=L) (A:=H0.length) (B:=Ha.length) (l:=Ha.length+4) (o:=o) (by omega) (by rw[h1 _ (by omega) (by omega),iY (by omega)];exact hTa) (by rw[h1 _ (by omega) (by omega),iY (by omega)];exact hLa) hrec (by omega) (by omega) (by omega) hq (fun i hi=>by have:=(ho i hi).1;omega) hx hy hlen;refine⟨J',w,true,e,fun _=>⟨o',⟨k1,fun i hi=>?_,fun q hq=>?_⟩,k2,fun i hi hne=>?_,k3,fun i hi hoi hil=>k4 i (by omega) hoi hil⟩,fun h=>by cases h⟩
   ·rcases k2 with k2|⟨j,k2,k5⟩
    ·have:=ho i (by rw[←k2];exact hi);exact⟨this.1,by omega⟩
    ·rw[k2]at hi;cases hi;refine⟨by omega,?_⟩;obtain⟨vs,_,_,_,r⟩:=k1;rcases r with ⟨r1,_⟩|⟨l2,r1,_,_,r4⟩
     ·rw[k2]at r1;cases r1
     ·rw[k2]at r1;cases r1;exact(gS.1 r4).1
   ·rcases List.mem_append.1 hq with hq|hq
    ·exact hdd q hq
    ·rw[List.mem_singleton]at hq;subst hq;exact hdp2
   ·refine k4 i hne (fun h=>?_) (by omega)
    have:=(ho i h).1;omega)
 rcases h with ⟨g1,g2,⟨o,⟨vs,q1,q2,q3,q4⟩,q5,q6⟩,g4⟩|⟨h,_⟩
 rotate_left 1
 ·exact h.elim
 have hl:H'[Ha.length+4]?=some (uw H0.length Ha.length T [.list 2 ax,bC t]):=by rw[g1 _ (by omega) (by omega)];exact nN
 have hll:=(gS.1 hl).1;have hl2:=(gS.1 hl).2
 suffices hh:∃H2 w,ah K (.fn (.func 42) [] []) [.d (dw t),.d (.int .i64 s),.d (.int .i64 u),.d (.int .i64 kd)] none hp=some (.ret (.tuple [.d (E8 vs),.d (.int .i64 0)]),false,H2,w) by
  obtain⟨H2,w,hh⟩:=hh;refine⟨_,w,vs,hh,q1,fun v hv=>?_,fun hd=>?_⟩
  ·obtain⟨r1,q,hq,r2⟩:=q2 v hv;exact⟨r1,q.1,q.2,q6 q hq,r2⟩
  ·obtain⟨n,m,hd⟩:=hd;apply q3;intro h0;have:=(g4 n m).2 hd;rw[h0]at this;simp at this
 have e:=k42 [] [] [.d (dw t),.d (.int .i64 s),.d (.int .i64 u),.d (.int .i64 kd)] none hp;have hne:¬H0.length+1+4=H0.length:=by omega
 simp only[Hr,uw,jL]at e3;simp only[uw,jL]at hl hl2;simp only[hHa]at e2 e3 hl hl2 hll;simp only[Ha,List.append_assoc,List.cons_append,List.nil_append]at e2 e3;simp only[dw]at e e1 ⊢;simp only[bC,List.map_cons,List.map_nil]at e3 hl hl2;rcases q4 with ⟨rfl,rfl,hA⟩|⟨l2,rfl,hvne,hA,hv⟩
 ·have hA1:=(gS.1 hA).1;have hA2:=(gS.1 hA).2;simp[c42,adU,ac0,aec,adx,aes,Yd,e1,e2,aek (H0.length+1) (H0.length+1+2) (H0.length+1+3) (H0.length+1+1),vN,uf,Tm,Ux,e3,iQ,hl,hll,hl2,hA,hA1,hA2,hne]at e;exact⟨_,_,e⟩
 ·have hA1:=(gS.1 hA).1;have hA2:=(gS.1 hA).2;have hv1:=(gS.1 hv).1;have hv2:=(gS.1 hv).2;have hl5:=(q5 l2 rfl).1;have hne2:¬H0.length+1+4=l2:=by omega
  have hvl:=zG vs;have htk:(sZ vs).take vs.length=sZ vs:=List.take_of_length_le (by omega);have hvV:E8 vs=.list 1 (sZ vs):=by cases vs with
   |nil=>exact absurd rfl hvne|cons _ _=>rfl
  rw[hvV];generalize sZ vs=Z at *;simp[c42,adU,ac0,aec,adx,aes,Yd,e1,e2,aek (H0.length+1) (H0.length+1+2) (H0.length+1+3) (H0.length+1+1),vN,uf,Tm,Ux,e3,iQ,hl,hll,hl2,hA,hA1,hA2,hv,hv1,hv2,hvl,htk,hne,hne2]at e;exact⟨_,_,e⟩
end Mw
