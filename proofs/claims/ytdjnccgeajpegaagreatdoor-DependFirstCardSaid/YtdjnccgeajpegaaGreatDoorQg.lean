/- DependFirst's tied card holds; no condition beyond the card's own. -/
import Derived.Test.YtdjnccgeajpegaaGreatDoorQf
import Derived.Test.YtdjnccgeajpegaaGreatDoorXb
import Derived.Test.YtdjnccgeajpegaaGreatDoorQa
set_option linter.unusedVariables false
set_option linter.unusedSimpArgs false
set_option maxRecDepth 10000
set_option maxHeartbeats 4000000
namespace Mw
open Go Go.Proofs
theorem akN(n:Nat)(x:Nat×Stp×List Int)(H:List O) :
  ∃w,ah K (.fn (.func 192) [] []) [.d (aJ n x)] none H=some (.ret (.d (jR [gX x])),false,H,w):=by
 have ca:=uy x.2.2;simp only[D.isCell]at ca;simp[aeS,aki,agE,ahH,aJ,F8,bM,ca,jR,gX]
theorem sW:(K.P.info? 111).isSome=true:=by kernel_rfl
theorem m65(v:V)(H:List O):ah K (.fn (.func 65) [v] []) [] none H=ah K (.fn (.func 65) [] []) [v] none H:=by rw[k65,k65];rfl
theorem Uh(v:V)(H:List O):ah K (.fn (.func 192) [v] []) [] none H=ah K (.fn (.func 192) [] []) [v] none H:=by rw[aeS,aeS];rfl
theorem ah9(n:Nat)(x:Nat×Stp×List Int)(hf:x.2.1.fr.length≤3)(H:List O) :
  (∃w,ah K (.fn (.func 139) [] []) [.d (aJ n x),.d (.int .i64 1)] none H=some (.ret (.d (jR (rD (jQ x)))),false,H,w))∧
  (∃w,ah K (.fn (.func 139) [] []) [.d (aJ n x),.d (.int .i64 2)] none H=some (.ret (.d (jR [gX x])),false,H,w))∧
  (∃w,ah K (.fn (.func 139) [] []) [.d (aJ n x),.d (.int .i64 3)] none H=some (.ret (.d (jR [gX x])),false,H,w)):=by
 obtain⟨w1,e1⟩:=s65 n x hf H;obtain⟨w2,e2⟩:=akN n x H;have ca:=uy x.2.2;simp only[D.isCell]at ca;simp only[aJ]at e1 e2 ⊢;refine⟨?_,?_,?_⟩
 ·simp[aeY,c139,Lr,KD,LQ,MF,OI,Og,QB,ca,m65,Uh,sW,e1,e2]
 ·simp[aeY,c139,Lr,KD,LQ,MF,OI,Og,QB,ca,m65,Uh,sW,e1,e2]
 ·simp[aeY,c139,Lr,KD,LQ,MF,OI,Og,QB,ca,m65,Uh,sW,e1,e2]
theorem aeO(n:Nat)(x:Nat×Stp×List Int)(hf:x.2.1.fr.length≤3)(H:List O) :
  (∃w,ah K (.fn (.func 142) [] []) [.d (aJ n x),.d (.int .i64 1)] none H=some (.ret (.d (jR [gX x])),false,H,w))∧
  (∃w,ah K (.fn (.func 142) [] []) [.d (aJ n x),.d (.int .i64 2)] none H=some (.ret (.d (jR (rD (jQ x)))),false,H,w))∧
  (∃w,ah K (.fn (.func 142) [] []) [.d (aJ n x),.d (.int .i64 3)] none H=some (.ret (.d (jR [gX x])),false,H,w)):=by
 obtain⟨w1,e1⟩:=s65 n x hf H;obtain⟨w2,e2⟩:=akN n x H;have ca:=uy x.2.2;simp only[D.isCell]at ca;simp only[aJ]at e1 e2 ⊢;refine⟨?_,?_,?_⟩
 ·simp[ahQ,aaN,Pm,Oo,KU,NR,Nc,ca,m65,Uh,sW,e1,e2]
 ·simp[ahQ,aaN,Pm,Oo,KU,NR,Nc,ca,m65,Uh,sW,e1,e2]
 ·simp[ahQ,aaN,Pm,Oo,KU,NR,Nc,ca,m65,Uh,sW,e1,e2]
theorem amN:K.orc 140=some Ba:=by kernel_rfl
theorem yH:∀xs:List Int,intsOf (ints xs)=some xs
 |[]=>rfl|x::r=>by simp[intsOf,yH r]
theorem auT(hp:List O)(l:Nat)(xs:List Int)(hl:l<hp.length)(hv:hp[l]=.vec 1 (ints xs) false true)(h2:xs.length≤1000) :
  ah K (.fn (.func 140) [] []) [.sl (.heap l) 1 xs.length 0 xs.length] none hp=some (.ret (.tuple []),false,hp.set l (.vec 1 (ints (jO xs)) false true),1 <<< l):=by
 apply aF amN;have hv':hp[l]?=some (.vec 1 (ints xs) false true):=by rw[List.getElem?_eq_getElem hl,hv]
 have hb:xs.length≤100000000:=by omega
 have hln:(ints xs).length=xs.length:=by simp
 simp[Ba,hv',yH,hb]
 try rfl
theorem al7(hp:List O):ah K (.fn (.func 140) [] []) [.d .nils] none hp=some (.ret (.tuple []),false,hp,0):=by apply aF amN;rfl
def iC:Int→List Int→List Int
 |_,[]=>[]|p,x::r=>if x=p then iC p r else x::iC x r
def dA:List Int→List Int
 |[]=>[]|x::r=>x::iC x r
theorem Bv(p:Int)(r:List Int):(iC p r).length≤r.length:=by
 induction r generalizing p with
 |nil=>simp[iC]|cons x r ih=>
  simp only[iC];split
  ·have:=ih p;simp;omega
  ·have:=ih x;simp;omega
theorem VY(z p:Int)(r:List Int):(z=p∨z∈iC p r)↔(z=p∨z∈r):=by
 induction r generalizing p with
 |nil=>simp[iC]| cons x r ih =>
  simp only[iC];split
  ·rename_i h;subst h;rw[ih];simp
  ·have:=ih x;simp only[List.mem_cons];constructor
   ·rintro(h|h)
    ·exact .inl h
    ·exact .inr (this.1 h)
   ·rintro(h|h)
    ·exact .inl h
    ·exact .inr (this.2 h)
theorem UK(z:Int)(l:List Int):z∈dA l↔z∈l:=by
 cases l with
 |nil=>simp[dA]|cons x r=>simp only[dA,List.mem_cons];exact VY z x r
def xN(l n k:Nat)(tl:List (Nat×V))(H:List O)(w:Nat):St:=
 St.mk ([(0,.sl (.heap l) 1 n 0 n),(3,.d (.int .i64 (k:Nat)))]++tl) (Mem.mk [] H w) [] none false none
def BG(l n k k0 m j:Nat)(tl:List (Nat×V))(H:List O)(w:Nat):St:=
 St.mk ([(0,.sl (.heap l) 1 n 0 n),(3,.d (.int .i64 (k:Nat))),(4,.sl (.heap l) 1 n k0 m),(5,.d (.int .i64 (j:Nat)))]++tl) (Mem.mk [] H w) [] none false none
theorem TB(M:List Int)(k:Nat)(x:Int):(ints M).set k (.int .i64 x)=ints (M.set k x):=by simp[ints]
theorem ints_at{M:List Int}{k:Nat}{x:Int}(h:M[k]?=some x):(ints M)[k]?=some (.int .i64 x):=by simp[ints,h]
theorem aj9{l n k k0 m j i:Nat}{M:List Int}{x p:Int}{H:List O}(hA:H[l]?=some (.vec 1 (ints M) false true))(hn:M.length=n)(hn2:n≤1000)(hi:i=j+1)(him:i<m)(hm:k0+m=n)(hk:k<n)
  (hx:M[k0+i]?=some x)(hp:M[k0+j]?=some p)(w:Nat) :
  ∃w',aj K 141 xR (BG l n k k0 m i [] H w)=if x=p then some (.normal,BG l n k k0 m (i+1) [] H w')else some (.normal,BG l n (k+1) k0 m (i+1) [] (H.set l (.vec 1 (ints (M.set k x)) false true)) w'):=by
 have w0:wr .i64 ((i:Int)-1)=(j:Int):=by subst hi;rw[qO];simp[lT];exact wI
 have w1:wr .i64 ((i:Int)+1)=(i:Int)+1:=wI;have w2:wr .i64 ((k:Int)+1)=(k:Int)+1:=wI;have hjm:j<m:=by omega
 have b1:i+1≤m:=by omega
 have b2:j+1≤m:=by omega
 have b3:k+1≤n:=by omega
 obtain⟨hxl,hx2⟩:=gS.1 hx;obtain⟨hpl,hp2⟩:=gS.1 hp;have hkM:k<M.length:=by omega
 have ix:=ints_at hx;have ip:=ints_at hp;have ik:=ints_at (List.getElem?_eq_getElem hkM)
 have il:(ints M).length=n:=by simp[hn]
 rw[←TB];generalize ints M=N at *;obtain⟨_,ik2⟩:=gS.1 ik;by_cases h:x=p
 ·simp[BG,O5,Ou,QO,RQ,SE,SI,him,hjm,b1,b2,w0,w1,w2,hA,ix,ip,il,h]
 ·simp[BG,O5,Ou,QO,RQ,SE,SI,him,hjm,b1,b2,b3,hk,w0,w1,w2,hA,ix,ip,ik,ik2,il,h]
theorem afk{l n k k0 m:Nat}(H:List O)(w:Nat):aj K 141 xR (BG l n k k0 m m [] H w)=some (.exit 2,BG l n k k0 m m [(32,.d (.bool false))] H w):=by simp[BG,O5,Ou]
theorem lpI{l n k0 m:Nat}{xs:List Int}(hn:xs.length=n)(hn2:n≤1000)(hm:k0+m=n)(H:List O)(hl:l<H.length) :
  ∀ (r:List Int) (j k:Nat) (p:Int) (A:List Int) (w:Nat),xs.drop (k0+j+1)=r→k0+j < n→xs[k0+j]?=some p→A.length=k→k≤k0+j →
   ∃w',aj K 141 (.loop xR) (BG l n k k0 m (j+1) [] (H.set l (.vec 1 (ints (A++xs.drop k)) false true)) w) =
    some (.exit 2,BG l n (k+(iC p r).length) k0 m m [(32,.d (.bool false))] (H.set l (.vec 1 (ints (A++iC p r++xs.drop (k+(iC p r).length))) false true)) w')
 |[],j,k,p,A,w,hr,hj,hp,hA,hk=>by
  have hd:=List.drop_eq_nil_iff.1 hr;have:j+1=m:=by omega
  subst this;refine⟨w,?_⟩;rw[af,afk];simp[iC]
 | x :: r,j,k,p,A,w,hr,hj,hp,hA,hk=>by
  have hx:xs[k0+j+1]?=some x:=by have:=congrArg List.head? hr;simpa[List.head?_drop]using this
  have hlt:=(gS.1 hx).1;have hr':xs.drop (k0+(j+1)+1)=r:=by have:=congrArg List.tail hr;rw[List.tail_drop]at this;rw[show k0+(j+1)+1=k0+j+1+1 by omega];exact this
  have hML:(A++xs.drop k).length=n:=by simp;omega
  have hM:∀q,k≤q→(A++xs.drop k)[q]?=xs[q]?:=fun q hq=>by rw[List.getElem?_append_right (by omega),List.getElem?_drop];congr 1;omega
  obtain⟨w1,e1⟩:=aj9 (l:=l) (n:=n) (k:=k) (k0:=k0) (m:=m) (j:=j) (i:=j+1) (M:=A++xs.drop k) (x:=x) (p:=p) (H:=H.set l (.vec 1 (ints (A++xs.drop k)) false true)) (by simp[hl]) hML hn2 rfl (by omega) hm (by omega)
   (by rw[hM _ (by omega)];exact hx) (by rw[hM _ (by omega)];exact hp) w
  by_cases h:x=p
  ·rw[if_pos h]at e1;obtain⟨w2,e2⟩:=lpI hn hn2 hm H hl r (j+1) k p A w1 hr' (by omega) (by rw[←h];exact hx) hA (by omega);refine⟨w2,?_⟩;rw[af,e1];simp only[iC,if_pos h];exact e2
  ·rw[if_neg h]at e1;have hset:(A++xs.drop k).set k x=(A++[x])++xs.drop (k+1):=by rw[List.set_append_right _ _ (by omega),hA,Nat.sub_self,List.drop_eq_getElem_cons (by omega),List.set_cons_zero];simp
   obtain⟨w2,e2⟩:=lpI hn hn2 hm H hl r (j+1) (k+1) x (A++[x]) w1 hr' (by omega) hx (by simp[hA]) (by omega);refine⟨w2,?_⟩;rw[af,e1,List.set_set,hset];simp only[iC,if_neg h,List.length_cons];have q1:k+((iC x r).length+1)=k+1+(iC x r).length:=by omega
   rw[q1];have q2:A++x::iC x r=A++[x]++iC x r:=by simp
   rw[q2];exact e2
theorem ajO{l n j i:Nat}{xs:List Int}{x p:Int}{H:List O}(hA:H[l]?=some (.vec 1 (ints xs) false true))(hn:xs.length=n)(hn2:n≤1000)(hi:i=j+1)(him:i<n)
  (hx:xs[i]?=some x)(hp:xs[j]?=some p)(h:x≠p)(w:Nat) :
  ∃w',aj K 141 vI (xN l n i [] H w)=some (.normal,xN l n (i+1) [] H w'):=by
 have w0:wr .i64 ((i:Int)-1)=(j:Int):=by subst hi;rw[qO];simp[lT];exact wI
 have w1:wr .i64 ((i:Int)+1)=(i:Int)+1:=wI;have hjm:j<n:=by omega
 have b1:i+1≤n:=by omega
 have b2:j+1≤n:=by omega
 obtain⟨hxl,hx2⟩:=gS.1 hx;obtain⟨hpl,hp2⟩:=gS.1 hp;have ix:=ints_at hx;have ip:=ints_at hp;have il:(ints xs).length=n:=by simp[hn]
 generalize ints xs=N at *;obtain⟨_,ix2⟩:=gS.1 ix;obtain⟨_,ip2⟩:=gS.1 ip;simp[xN,Pq,Oi,ahh,Wp,him,hjm,b1,b2,w0,w1,hA,ix,ip,ix2,ip2,il,h]
theorem ao2{l n:Nat}{H:List O}(w:Nat):aj K 141 vI (xN l n n [] H w)=some (.exit 0,xN l n n [(13,.d (.bool false))] H w):=by simp[xN,Pq,Oi]
theorem CQ{H:List O}{l:Nat}{o:O}(h:H[l]?=some o):H.set l o=H:=by
 apply List.ext_getElem?;intro q;by_cases e:l=q
 ·subst e;rw[List.getElem?_set_self (gS.1 h).1,h]
 ·rw[List.getElem?_set_ne e]
def zrs(n:Nat):List Int:=List.replicate n 0
theorem ali{l n j i:Nat}{xs:List Int}{p:Int}{H:List O}(hl:l<H.length)(hA:H[l]?=some (.vec 1 (ints xs) false true))(hn:xs.length=n)(hn2:n≤1000)(hi:i=j+1)(him:i<n)
  (hx:xs[i]?=some p)(hp:xs[j]?=some p)(w:Nat) :
  ∃w',aj K 141 vI (xN l n i [] H w)=some (.ret,St.mk [(2,.sl (.heap l) 1 n 0 (i+(iC p (xs.drop (i+1))).length))] (Mem.mk [] (H.set l (.vec 1 (ints (xs.take i++iC p (xs.drop (i+1))++zrs (n-(i+(iC p (xs.drop (i+1))).length)))) false true)) w') [] none false none):=by
 have w0:wr .i64 ((i:Int)-1)=(j:Int):=by subst hi;rw[qO];simp[lT];exact wI
 have hjm:j<n:=by omega
 have b1:i+1≤n:=by omega
 have b2:j+1≤n:=by omega
 have b4:i≤n:=by omega
 obtain⟨hxl,hx2⟩:=gS.1 hx;obtain⟨hpl,hp2⟩:=gS.1 hp;have hH:H.set l (.vec 1 (ints (xs.take i++xs.drop i)) false true)=H:=by rw[List.take_append_drop];exact CQ hA
 obtain⟨w1,e1⟩:=lpI (l:=l) (n:=n) (k0:=i) (m:=n-i) (xs:=xs) hn hn2 (by omega) H hl (xs.drop (i+1)) 0 i p (xs.take i) w rfl (by omega) hx (by simp;omega) (by omega);rw[hH]at e1;have hcl:=Bv p (xs.drop (i+1));have hdl:(xs.drop (i+1)).length=n-(i+1):=by simp[hn]
 generalize hc:iC p (xs.drop (i+1))=c at *;have hk:i+c.length≤n:=by omega
 generalize hkk:i+c.length=k at *;have hdk:(xs.drop k).length=n-k:=by simp[hn]
 have htk:(xs.take i++c).length=k:=by simp;omega
 have htl:((ints (xs.take i++c++xs.drop k)).take k)=ints (xs.take i++c):=by simp only[ints,←List.map_take];rw[List.take_append_of_le_length (by omega),List.take_of_length_le (by omega)]
 have hdr:((ints (xs.take i++c++xs.drop k)).drop (k+(n-k)))=[]:=by apply List.drop_eq_nil_of_le;simp[ints];omega
 have hrep:List.replicate (n-k) (D.int .i64 0)=ints (zrs (n-k)):=by unfold ints zrs;rw[List.map_replicate]
 have hzl:(zrs (n-k)).length=n-k:=by simp[zrs]
 have hlen:(ints (xs.take i++c++xs.drop k)).length=n:=by simp[ints];omega
 have hnk:k+(n-k)≤n:=by omega
 have hnk2:k+(n-k)=n:=by omega
 have ix:=ints_at hx;have ip:=ints_at hp;have il:(ints xs).length=n:=by simp[hn]
 generalize hN:ints xs=N at *;obtain⟨_,hA2⟩:=gS.1 hA;obtain⟨_,ix2⟩:=gS.1 ix;obtain⟨_,ip2⟩:=gS.1 ip;generalize hL:ints (xs.take i++c++xs.drop k)=L at *;have hdn:L.drop n=[]:=List.drop_eq_nil_of_le (by omega);simp only[BG,xN]at e1 ⊢;simp only[Nat.zero_add,List.append_nil,List.cons_append,List.nil_append]at e1 ⊢;have one:((1:Nat):Int)=1:=rfl;rw[one]at e1;have hsl:(H.set l (.vec 1 L false true))[l]?=some (.vec 1 L false true):=by simp[hl]
 simp[Pq,Oi,Wp,aiG,aho,aa2,aaR,him,hjm,b1,b2,b4,w0,hA,hA2,ix,ip,ix2,ip2,il,e1,hlen,hk,hnk,hnk2,hl,hdr,hdn,htl,hrep,hzl,List.set_set]
theorem lpO{l n:Nat}{xs:List Int}{H:List O}(hl:l<H.length)(hA:H[l]?=some (.vec 1 (ints xs) false true))(hn:xs.length=n)(hn2:n≤1000) :
  ∀(r:List Int) (j:Nat) (p:Int) (w:Nat),xs.drop (j+1)=r→xs[j]?=some p→
   (∃w',iC p r=r∧aj K 141 (.loop vI) (xN l n (j+1) [] H w)=some (.exit 0,xN l n n [(13,.d (.bool false))] H w'))∨
   (∃w' k,(xs.take (j+1)++iC p r).length=k∧aj K 141 (.loop vI) (xN l n (j+1) [] H w)=some (.ret,St.mk [(2,.sl (.heap l) 1 n 0 k)] (Mem.mk [] (H.set l (.vec 1 (ints (xs.take (j+1)++iC p r++zrs (n-k))) false true)) w') [] none false none))
 |[],j,p,w,hr,hp=>by
  have hd:=List.drop_eq_nil_iff.1 hr;have hj:=(gS.1 hp).1;have:j+1=n:=by omega
  left;refine⟨w,rfl,?_⟩;rw[this,af,ao2];rfl
 | x :: r,j,p,w,hr,hp=>by
  have hx:xs[j+1]?=some x:=by have:=congrArg List.head? hr;simpa[List.head?_drop]using this
  have hlt:=(gS.1 hx).1;have hr':xs.drop (j+1+1)=r:=by have:=congrArg List.tail hr;simpa[List.tail_drop]using this
  by_cases h:x=p
  ·subst h;right;obtain⟨w1,e1⟩:=ali (j:=j) (i:=j+1) hl hA hn hn2 rfl (by omega) hx hp w;rw[hr']at e1;refine⟨w1,_,rfl,?_⟩;have hkk:(xs.take (j+1)++iC x (x::r)).length=j+1+(iC x r).length:=by simp[iC];omega
   rw[af,e1,hkk];simp[iC]
  ·obtain⟨w1,e1⟩:=ajO (j:=j) (i:=j+1) hA hn hn2 rfl (by omega) hx hp h w;have hc:iC p (x::r)=x::iC x r:=by simp[iC,h]
   have ht:xs.take (j+1+1)++iC x r=xs.take (j+1)++iC p (x::r):=by rw[hc,List.take_add_one,hx];simp
   rcases lpO hl hA hn hn2 r (j+1) x w1 hr' hx with ⟨w2,g,e2⟩|⟨w2,k,hk,e2⟩
   ·left;refine⟨w2,by rw[hc,g],?_⟩;rw[af,e1];exact e2
   ·right;rw[ht]at e2 hk;refine⟨w2,k,hk,?_⟩;rw[af,e1];exact e2
theorem ay3{l:Nat}{xs:List Int}{H:List O}(hl:l<H.length)(hA:H[l]?=some (.vec 1 (ints xs) false true))(hn2:xs.length≤1000)(hne:xs≠[]) :
  ∃w z,ah K (.fn (.func 141) [] []) [.sl (.heap l) 1 xs.length 0 xs.length] none H=some (.ret (.d (.list 1 (ints (dA xs)))),false,H.set l (.vec 1 (ints (dA xs++zrs z)) true true),w):=by
 have hln:∀a:List Int,(ints a).length=a.length:=fun a=>by simp[ints]
 have ee:=aoI [] [] [.sl (.heap l) 1 xs.length 0 xs.length] none H
 match xs,hA,hn2,hne,ee with
 |[x],hA,hn2,hne,ee=>simp[c141,Fj,F9,Vr,hA]at ee;exact⟨1 <<< l,0,by simpa[dA,iC,zrs]using ee⟩| x :: y :: r,hA,hn2,hne,ee =>
  have hlt:¬((r.length:Int)+1+1<2):=by omega
  have hlt2:¬((r.length:Int)+2<2):=by omega
  have one:((0+1:Nat):Int)=1:=rfl;have hc2:(x::y::r).take (0+1)++iC x (y::r)=dA (x::y::r):=rfl;rcases lpO hl hA rfl hn2 (y::r) 0 x 0 rfl rfl with ⟨w1,g,e1⟩|⟨w1,k,hk,e1⟩
  ·simp only[xN,one,List.append_nil,List.cons_append,List.nil_append]at e1;have hc:dA (x::y::r)=x::y::r:=by simp[dA,g]
   rw[hc]
   suffices hh:∃w,ah K (.fn (.func 141) [] []) [.sl (.heap l) 1 (r.length+1+1) 0 (r.length+1+1)] none H=some (.ret (.d (.list 1 (ints (x::y::r)))),false,H.set l (.vec 1 (ints (x::y::r)) true true),w) by obtain⟨w,hh⟩:=hh;exact⟨w,0,by simpa only[zrs,List.replicate_zero,List.append_nil,List.length_cons]using hh⟩
   have htk:(ints (x::y::r)).take (r.length+1+1)=ints (x::y::r):=List.take_of_length_le (by simp);have hlr:=hln (x::y::r);simp only[List.length_cons]at e1 ee hlr;generalize ints (x::y::r)=L at *;simp[c141,Fj,F9,YF,abA,hlt,hlt2,e1,hA,hlr,htk]at ee;exact⟨_,ee⟩
  ·rw[hc2]at hk e1;have hle:=Bv x (y::r);have hkl:k≤(x::y::r).length:=by rw[←hk];simp[dA]at hle ⊢;omega
   have htk:(ints (dA (x::y::r)++zrs ((x::y::r).length-k))).take k=ints (dA (x::y::r)):=by simp only[ints,←List.map_take];rw[List.take_append_of_le_length (by omega),List.take_of_length_le (by omega)]
   have hlr:(ints (dA (x::y::r)++zrs ((x::y::r).length-k))).length=(x::y::r).length:=by rw[hln,List.length_append,hk];simp only[zrs,List.length_replicate];omega
   suffices hh:∃w,ah K (.fn (.func 141) [] []) [.sl (.heap l) 1 (r.length+1+1) 0 (r.length+1+1)] none H=some (.ret (.d (.list 1 (ints (dA (x::y::r))))),false,H.set l (.vec 1 (ints (dA (x::y::r)++zrs ((x::y::r).length-k))) true true),w) by obtain⟨w,hh⟩:=hh;exact⟨w,(x::y::r).length-k,hh⟩
   simp only[xN,one,List.append_nil,List.cons_append,List.nil_append]at e1;generalize ints (dA (x::y::r)++zrs ((x::y::r).length-k))=L at *;generalize ints (dA (x::y::r))=C at *;simp only[List.length_cons]at e1 ee hkl hlr;simp[c141,Fj,F9,YF,hlt,hlt2,e1,hl,hlr,htk,hkl,List.set_set]at ee;exact⟨_,ee⟩
def oN(kd:Nat)(x:Nat×Stp×List Int):List (Nat×Int):=if kd=2 then rD (jQ x)else[gX x]
def jH(kd:Nat)(x:Nat×Stp×List Int):List (Nat×Int):=if kd=1 then rD (jQ x)else[gX x]
theorem Ea(x:Nat×Stp×List Int)(hf:x.2.1.fr.length≤3):(rD (jQ x)).length≤3:=by
 have hu:∀(ks f:List (Nat×Int)),(ks.foldl vw f).length≤f.length+ks.length:=by
  intro ks;induction ks with
  |nil=>intro f;simp|cons a r ih=>intro f;have:=ih (vw f a);have:=Ia f a;simp only[List.foldl_cons,List.length_cons];omega
 have:=hu (jQ x) [];simp only[jQ,List.length_map,List.length_nil]at this;unfold rD jQ;omega
theorem Vz(kd:Nat)(x:Nat×Stp×List Int)(hf:x.2.1.fr.length≤3):(oN kd x).length≤3:=by
 unfold oN;split
 ·exact Ea x hf
 ·simp
theorem Xt(kd:Nat)(x:Nat×Stp×List Int)(hf:x.2.1.fr.length≤3):(jH kd x).length≤3:=by
 unfold jH;split
 ·exact Ea x hf
 ·simp
theorem ajN{kd:Nat}(hk:kd=1∨kd=2∨kd=3)(n:Nat)(x:Nat×Stp×List Int)(hf:x.2.1.fr.length≤3)(H:List O) :
  ∃w,ah K (.fn (.func 139) [] []) [.d (aJ n x),.d (.int .i64 kd)] none H=some (.ret (.d (jR (jH kd x))),false,H,w):=by
 rcases hk with rfl|rfl|rfl
 ·exact(ah9 n x hf H).1
 ·exact(ah9 n x hf H).2.1
 ·exact(ah9 n x hf H).2.2
theorem aop{kd:Nat}(hk:kd=1∨kd=2∨kd=3)(n:Nat)(x:Nat×Stp×List Int)(hf:x.2.1.fr.length≤3)(H:List O) :
  ∃w,ah K (.fn (.func 142) [] []) [.d (aJ n x),.d (.int .i64 kd)] none H=some (.ret (.d (jR (oN kd x))),false,H,w):=by
 rcases hk with rfl|rfl|rfl
 ·exact(aeO n x hf H).1
 ·exact(aeO n x hf H).2.1
 ·exact(aeO n x hf H).2.2
abbrev HL:=List ((Nat×Int)×(Nat×List Int))
def bU(hs:HL):List (D×V):=hs.map fun e=>(bM e.1,.sl (.heap e.2.1) 1 e.2.2.length 0 e.2.2.length)
def dZ:HL→Nat×Int→List Int
 |[],_=>[]|e::r,k=>if e.1=k then e.2.2 else dZ r k
structure dU(Pr:Nat→Prop)(hs:HL)(H:List O):Prop where
 at':∀e∈hs,¬Pr e.2.1∧H[e.2.1]?=some (.vec 1 (ints e.2.2) false true)∧e.2.2≠[]
 one:(hs.map (·.2.1)).Nodup
theorem aod(k:Nat×Int)(hs:HL) :
  (findKey K 110 (bM k) (bU hs)=some none∧dZ hs k=[]∧∀l n c,dZ (hs++[(k,(l,[n]))]) c=if c=k then[n]else dZ hs c)∨
  (∃j l ns,hs[j]?=some (k,(l,ns))∧findKey K 110 (bM k) (bU hs)=some (some (j,.sl (.heap l) 1 ns.length 0 ns.length))∧dZ hs k=ns∧
   ∀n c,dZ (hs.set j (k,(l,ns++[n]))) c=if c=k then ns++[n]else dZ hs c):=by
 induction hs with
 | nil =>
  left;refine⟨rfl,rfl,fun l n c=>?_⟩;simp only[List.nil_append,dZ];by_cases h:k=c
  ·subst h;simp
  ·have:¬c=k:=fun e=>h e.symm;simp[h,this]
 | cons e r ih =>
  obtain⟨⟨a,b⟩,l0,ns0⟩:=e;obtain⟨c,d⟩:=k;by_cases h:(c:Int)=a∧d=b
  ·right;have hac:a=c:=by omega
   have hbd:b=d:=h.2.symm;subst hac;subst hbd;refine⟨0,l0,ns0,rfl,?_,?_,?_⟩
   ·simp[bU,findKey,bM,oz]
   ·simp[dZ]
   ·intro n z;simp only[List.set_cons_zero,dZ];by_cases hz:(a,b)=z
    ·subst hz;simp
    ·have:¬z=(a,b):=fun e=>hz e.symm;simp[hz,this]
  ·have hne:¬(((a,b):Nat×Int)=(c,d)):=by intro e;simp only[pI]at e;exact h ⟨by omega,by omega⟩
   have hd:decide ((c:Int)=a∧d=b)=false:=by simpa using h
   rcases ih with ⟨h1,h2,h3⟩|⟨j,l,ns,h0,h1,h2,h3⟩
   ·left;refine⟨?_,?_,?_⟩
    ·simp only[bU,List.map_cons,findKey,bM,ac4,hd];simp only[bU,bM]at h1;rw[h1]
    ·simp only[dZ,if_neg hne,h2]
    ·intro l n z;simp only[List.cons_append,dZ,h3 l n z];by_cases hz:(a,b)=z
     ·subst hz;simp[hne]
     ·simp[hz]
   ·right;refine⟨j+1,l,ns,by simpa using h0,?_,?_,?_⟩
    ·simp only[bU,List.map_cons,findKey,bM,ac4,hd];simp only[bU,bM]at h1;rw[h1]
    ·simp only[dZ,if_neg hne,h2]
    ·intro n z;simp only[List.set_cons_succ,dZ,h3 n z];by_cases hz:(a,b)=z
     ·subst hz;simp[hne]
     ·simp[hz]
theorem dU.off{Pr:Nat→Prop}{hs:HL}{H H':List O}(h:dU Pr hs H)(h2:∀e∈hs,H'[e.2.1]?=H[e.2.1]?):dU Pr hs H':=
 ⟨fun e he=>⟨(h.at' e he).1,by rw[h2 e he];exact(h.at' e he).2.1,(h.at' e he).2.2⟩,h.one⟩
theorem dU.keep{Pr:Nat→Prop}{hs:HL}{H H':List O}(h:dU Pr hs H)(h':∀i,¬Pr i→i<H.length→H'[i]?=H[i]?):dU Pr hs H':=
 ⟨fun e he=>by
  obtain⟨h1,h2,h3⟩:=h.at' e he
  exact⟨h1,by rw[h' _ h1 (gS.1 h2).1];exact h2,h3⟩,h.one⟩
theorem dU.new{Pr:Nat→Prop}{hs:HL}{H:List O}(h:dU Pr hs H)(hb:∀i,Pr i→i<H.length)(k:Nat×Int)(n:Int):dU Pr (hs++[(k,(H.length,[n]))]) (H++[.vec 1 (ints [n]) false true]):=by
 constructor
 ·intro e he;rcases List.mem_append.1 he with he|he
  ·obtain⟨h1,h2,h3⟩:=h.at' e he;exact⟨h1,by rw[List.getElem?_append_left (gS.1 h2).1];exact h2,h3⟩
  ·rw[List.mem_singleton]at he;subst he;exact⟨fun h=>by have:=hb _ h;simp at this,by simp,by simp⟩
 ·rw[List.map_append,List.nodup_append];refine⟨h.one,by simp,?_⟩;intro a ha c hc;simp only[List.map_cons,List.map_nil,List.mem_singleton]at hc;obtain⟨e,he,rfl⟩:=List.mem_map.1 ha;have:=(gS.1 (h.at' e he).2.1).1;omega
theorem dU.old{Pr:Nat→Prop}{hs:HL}{H:List O}(h:dU Pr hs H){j l:Nat}{k:Nat×Int}{ns:List Int}(hj:hs[j]?=some (k,(l,ns)))(n:Int) :
  dU Pr (hs.set j (k,(l,ns++[n]))) (H.set l (.vec 1 (ints (ns++[n])) false true)):=by
 obtain⟨hjl,hj2⟩:=gS.1 hj;have hm:(hs.set j (k,(l,ns++[n]))).map (·.2.1)=hs.map (·.2.1):=by
  apply List.ext_getElem?;intro q;simp only[List.getElem?_map,List.getElem?_set];split
  ·rename_i e;subst e;rw[hj];rfl
  ·rfl
 constructor
 ·intro e he;obtain⟨q,hq,rfl⟩:=List.getElem_of_mem he;have hq':q<hs.length:=by simpa using hq
  by_cases e:j=q
  ·subst e;simp only[List.getElem_set_self];obtain⟨h1,h2,h3⟩:=h.at' _ (List.mem_of_getElem? hj);exact⟨h1,by rw[List.getElem?_set_self (gS.1 h2).1],by simp⟩
  ·rw[List.getElem_set_ne e];obtain⟨h1,h2,h3⟩:=h.at' hs[q] (List.getElem_mem hq');refine⟨h1,?_,h3⟩;have hne:l≠hs[q].2.1:=by
    intro e2;have hnd:=List.pairwise_iff_getElem.1 h.one;rcases Nat.lt_or_gt_of_ne e with lt|lt
    ·exact hnd j q (by simpa using hjl) (by simpa using hq') lt (by simp[hj2,e2])
    ·exact hnd q j (by simpa using hq') (by simpa using hjl) lt (by simp[hj2,e2])
   rw[List.getElem?_set_ne hne];exact h2
 ·rw[hm];exact h.one
theorem Vt{hs:HL}{j l:Nat}{k:Nat×Int}{ns ns':List Int}(n:Nat)(hn:n=ns'.length):(bU hs).set j (bM k,.sl (.heap l) 1 n 0 n)=bU (hs.set j (k,(l,ns'))):=by subst hn;simp[bU,List.map_set]
def AX(Pr:Nat→Prop)(hs:HL)(zs:List Int)(v:V)(H:List O):Prop:=
 (zs=[]∧v=.d .nils)∨(zs≠[]∧∃l,¬Pr l∧(∀e∈hs,e.2.1≠l)∧v=.sl (.heap l) 1 zs.length 0 zs.length∧H[l]?=some (.vec 1 (ints zs) false true))
def vS(Pr:Nat→Prop)(H H':List O):Prop:=H.length≤H'.length∧∀i,Pr i→H'[i]?=H[i]?
theorem vS.refl(Pr:Nat→Prop)(H:List O):vS Pr H H:=⟨Nat.le_refl _,fun _ _=>rfl⟩
theorem vS.trans{Pr:Nat→Prop}{H1 H2 H3:List O}(h:vS Pr H1 H2)(h':vS Pr H2 H3):vS Pr H1 H3:=⟨Nat.le_trans h.1 h'.1,fun i hi=>by rw[h'.2 i hi,h.2 i hi]⟩
theorem vS.new{Pr:Nat→Prop}{H:List O}(hb:∀i,Pr i→i<H.length)(o:O):vS Pr H (H++[o]):=⟨by simp,fun i hi=>List.getElem?_append_left (hb i hi)⟩
theorem vS.set{Pr:Nat→Prop}{l:Nat}{H:List O}(hb:¬Pr l)(o:O):vS Pr H (H.set l o):=⟨by simp,fun i hi=>List.getElem?_set_ne (fun e=>hb (by rw[e];exact hi))⟩
theorem vS.lt{Pr:Nat→Prop}{H H':List O}(h:vS Pr H H')(hb:∀i,Pr i→i<H.length):∀i,Pr i→i<H'.length:=fun i hi=>Nat.lt_of_lt_of_le (hb i hi) h.1
def aH(Y b2 b3 b4 L n i:Nat)(mid tl:List (Nat×V))(ob:List (Nat×Nat×O))(es:List (D×V))(H:List O)(w:Nat):St:=
 St.mk ([(0,.fn (.yield Y) [] []),(2,.ptr (.heap b2) 0),(3,.ptr (.heap b3) 0),(4,.ptr (.heap b4) 0),(6,.map (.slot 16 0))]++(mid++([(20,.sl (.heap L) 4 n 0 n),(21,.d (.int .i64 n)),(22,.d (.int .i64 i))]++tl)))
  (Mem.mk (ob++[(16,0,.map es)]) H w) [] none false none
def aP(x:D):O:=.cells (x.cells.map .d) false
def gq(k:Nat×Int):O:=.cells [.d (.int .i64 k.1),.d (.int .i64 k.2)] false
section
variable{Y b2 b3 b4 L n i:Nat}{Pr:Nat→Prop}{es:List (D×V)}{hs:HL}{H:List O}{x:Nat×Stp×List Int}{y g8 g11 g15:Nat}{o11 o15:List (Nat×Nat×O)}{q8:O}{p8:V}{k:Nat×Int}
theorem afp{E:List D}{o8:List (Nat×Nat×O)}(hL:H[L]?=some (.vec 4 E false true))(hE:E[i]?=some (aJ y x))(hn:E.length=n)(hn2:n≤1000)(h8:O1 8 o8)(h11:O1 11 o11)(h15:O1 15 o15)(w:Nat) :
  ∃g8 w',aj K 138 (rg 138 3) (aH Y b2 b3 b4 L n i [] [(23,.d (.bool true))] (o8++(o11++o15)) es H w) =
   some (.normal,aH Y b2 b3 b4 L n i [(8,.ptr (.slot 8 g8) 0)] [] ((8,g8,aP (aJ y x))::(o11++o15)) es H w'):=by
 have hlt:=(gS.1 hE).1;have hE2:=(gS.1 hE).2;have ca:=uy x.2.2;simp only[D.isCell]at ca;subst hn;have hlt1:i+1≤E.length:=hlt;rcases h8 with rfl|⟨g10,y10,rfl⟩
 all_goals rcases h11 with rfl|⟨g11,y11,rfl⟩
 all_goals rcases h15 with rfl|⟨g14,y14,rfl⟩
 all_goals simp[aH,aP,ahv,hL,hE,hE2,hlt,hlt1,aJ,ca]
theorem agG{u r2}(h2:H[b2]?=some (.cells [.d (.int .i64 (u:Nat))] r2))(h11:O1 11 o11)(h15:O1 15 o15)(w:Nat) :
  ∃w',aj K 138 (rg 138 4) (aH Y b2 b3 b4 L n i [(8,.ptr (.slot 8 g8) 0)] [] ((8,g8,aP (aJ y x))::(o11++o15)) es H w) =
   some (.normal,aH Y b2 b3 b4 L n i [(8,.ptr (.slot 8 g8) 0)] [(29,.d (.bool (decide (x.1=u))))] ((8,g8,aP (aJ y x))::(o11++o15)) es H w'):=by
 have ca:=uy x.2.2;simp only[D.isCell]at ca;have hd:((x.1:Int)=(u:Int))↔x.1=u:=by omega
 rcases h11 with rfl|⟨g11,y11,rfl⟩
 all_goals rcases h15 with rfl|⟨g14,y14,rfl⟩
 all_goals simp[aH,aP,agM,h2,aJ,ca,hd]
theorem aga{e:V}(ob:List (Nat×Nat×O))(w:Nat) :
  aj K 138 (rg 138 5) (aH Y b2 b3 b4 L n i [(8,p8)] [(29,e)] ob es H w) =
   some (.normal,aH Y b2 b3 b4 L n i [(8,p8),(9,.d .nils)] [] ob es H w):=by
 simp[aH,aey]
theorem ag6{kd r3}(hk:kd=1∨kd=2∨kd=3)(h3:H[b3]?=some (.cells [.d (.int .i64 (kd:Nat))] r3))(hf:x.2.1.fr.length≤3)(h11:O1 11 o11)(h15:O1 15 o15)(w:Nat) :
  ∃w',aj K 138 (rg 138 6) (aH Y b2 b3 b4 L n i [(8,.ptr (.slot 8 g8) 0),(9,.d .nils)] [] ((8,g8,aP (aJ y x))::(o11++o15)) es H w) =
   some (.normal,aH Y b2 b3 b4 L n i [(8,.ptr (.slot 8 g8) 0),(9,.d .nils)] [(32,.d (jR (jH kd x))),(33,.d (.int .i64 (jH kd x).length)),(34,.d (.int .i64 (0:Nat)))] ((8,g8,aP (aJ y x))::(o11++o15)) es H w'):=by
 obtain⟨w1,e⟩:=ajN hk y x hf H;have ca:=uy x.2.2;simp only[D.isCell]at ca;have hl:lenV (V.d (jR (jH kd x)))=some (jH kd x).length:=by cases jH kd x<;>simp[jR]
 simp only[lenV]at hl;simp only[aJ]at e;generalize jH kd x=A at *;rcases h11 with rfl|⟨g11,y11,rfl⟩
 all_goals rcases h15 with rfl|⟨g14,y14,rfl⟩
 all_goals simp[aH,aP,ahM,h3,aJ,ca,e,hl]
theorem agY{v:V}{ps:List (Nat×Int)}{j:Nat}(hk:ps[j]?=some k)(h11:O1 11 o11)(h15:O1 15 o15)(w:Nat) :
  ∃g11 w',aj K 138 (rg 138 8) (aH Y b2 b3 b4 L n i [(8,p8),(9,v)] [(32,.d (jR ps)),(33,.d (.int .i64 ps.length)),(34,.d (.int .i64 (j:Nat))),(35,.d (.bool true))] ((8,g8,q8)::(o11++o15)) es H w) =
   some (.normal,aH Y b2 b3 b4 L n i [(8,p8),(9,v),(11,.ptr (.slot 11 g11) 0)] [(32,.d (jR ps)),(33,.d (.int .i64 ps.length)),(34,.d (.int .i64 (j:Nat)))] ((8,g8,q8)::(11,g11,gq k)::o15) es H w'):=by
 have hlt:=(gS.1 hk).1;have hk2:=(gS.1 hk).2;have hp:jR ps=.list 2 (ps.map bM):=by cases ps<;>simp_all[jR]
 rcases h11 with rfl|⟨g11,y11,rfl⟩
 all_goals rcases h15 with rfl|⟨g14,y14,rfl⟩
 all_goals simp[aH,gq,agZ,hp,hk,hk2,hlt,bM]
theorem ae1{v e32 e33 e34:V}{zs:List Int}(hb:∀i,Pr i→i<H.length)(hH:dU Pr hs H)(hm:AX Pr hs zs v H)(hz:zs.length+(dZ hs k).length≤1000)(h15:O1 15 o15)(w:Nat) :
  ∃v' H' w',aj K 138 (rg 138 9) (aH Y b2 b3 b4 L n i [(8,p8),(9,v),(11,.ptr (.slot 11 g11) 0)] [(32,e32),(33,e33),(34,e34)] ((8,g8,q8)::(11,g11,gq k)::o15) (bU hs) H w) =
   some (.normal,aH Y b2 b3 b4 L n i [(8,p8),(9,v')] [(32,e32),(33,e33),(34,e34)] ((8,g8,q8)::(11,g11,gq k)::o15) (bU hs) H' w')∧
   dU Pr hs H'∧AX Pr hs (zs++dZ hs k) v' H'∧vS Pr H H':=by
 rcases aod k hs with ⟨hf,hg,_⟩|⟨j,l,ns,hj,hf,hg,_⟩
 ·rw[hg,List.append_nil];refine⟨v,H,?_⟩
  suffices hh:∃w',aj K 138 (rg 138 9) (aH Y b2 b3 b4 L n i [(8,p8),(9,v),(11,.ptr (.slot 11 g11) 0)] [(32,e32),(33,e33),(34,e34)] ((8,g8,q8)::(11,g11,gq k)::o15) (bU hs) H w) =
   some (.normal,aH Y b2 b3 b4 L n i [(8,p8),(9,v)] [(32,e32),(33,e33),(34,e34)] ((8,g8,q8)::(11,g11,gq k)::o15) (bU hs) H w') by
   obtain⟨w',hh⟩:=hh;exact⟨w',hh,hH,hm,vS.refl _ _⟩
  simp only[bM]at hf;rcases hm with ⟨_,rfl⟩|⟨_,lm,_,_,rfl,hlm⟩
  all_goals rcases h15 with rfl|⟨g14,y14,rfl⟩
  all_goals simp[aH,gq,KC,hf,oz]
 ·obtain⟨hbl,hl,hne⟩:=hH.at' _ (List.mem_of_getElem? hj);simp only at hbl hl hne;rw[hg]at hz ⊢;simp only[bM]at hf;have hll:=(gS.1 hl).1;have hie:(ints ns).isEmpty=false:=by cases ns<;>simp_all
  have hin:(ints ns).length=ns.length:=by simp
  have htk:(ints ns).take ns.length=ints ns:=List.take_of_length_le (by simp);rcases hm with ⟨rfl,rfl⟩|⟨hzne,lm,hblm,hoff,rfl,hlm⟩
  ·have hln:ns.length≤4294967296:=by simp at hz;omega
   have hln8:ns.length*8≤4294967296:=by simp at hz;omega
   suffices hh:∃w',aj K 138 (rg 138 9) (aH Y b2 b3 b4 L n i [(8,p8),(9,.d .nils),(11,.ptr (.slot 11 g11) 0)] [(32,e32),(33,e33),(34,e34)] ((8,g8,q8)::(11,g11,gq k)::o15) (bU hs) H w) =
    some (.normal,aH Y b2 b3 b4 L n i [(8,p8),(9,.sl (.heap H.length) 1 ns.length 0 ns.length)] [(32,e32),(33,e33),(34,e34)] ((8,g8,q8)::(11,g11,gq k)::o15) (bU hs) (H++[.vec 1 (ints ns) false true]) w') by
    obtain⟨w',hh⟩:=hh;refine⟨_,_,w',hh,hH.keep (fun q _ hq=>List.getElem?_append_left hq),.inr ⟨by simpa using hne,H.length,fun h=>by have:=hb _ h;omega,fun e he=>?_,by simp,by simp⟩,vS.new hb _⟩;have:=(gS.1 (hH.at' e he).2.1).1;omega
   generalize hI:ints ns=I at *;rcases h15 with rfl|⟨g14,y14,rfl⟩
   all_goals simp[aH,gq,KC,hf,oz,hl,hie,hin,htk,hln,hln8]
  ·have hln:zs.length+ns.length≤4294967296:=by omega
   have hln8:(zs.length+ns.length)*8≤4294967296:=by omega
   have hiz:(ints zs).length=zs.length:=by simp
   have happ:ints zs++ints ns=ints (zs++ns):=by simp[ints]
   have hlml:=(gS.1 hlm).1;have hdiff:l≠lm:=hoff _ (List.mem_of_getElem? hj)
   suffices hh:∃w',aj K 138 (rg 138 9) (aH Y b2 b3 b4 L n i [(8,p8),(9,.sl (.heap lm) 1 zs.length 0 zs.length),(11,.ptr (.slot 11 g11) 0)] [(32,e32),(33,e33),(34,e34)] ((8,g8,q8)::(11,g11,gq k)::o15) (bU hs) H w) =
    some (.normal,aH Y b2 b3 b4 L n i [(8,p8),(9,.sl (.heap lm) 1 (zs.length+ns.length) 0 (zs.length+ns.length))] [(32,e32),(33,e33),(34,e34)] ((8,g8,q8)::(11,g11,gq k)::o15) (bU hs) (H.set lm (.vec 1 (ints (zs++ns)) false true)) w') by
    obtain⟨w',hh⟩:=hh;refine⟨_,_,w',hh,hH.off (fun e he=>List.getElem?_set_ne (fun q=>hoff e he q.symm)),.inr ⟨by simp[hzne],lm,hblm,hoff,by simp,by simp[hlml]⟩,vS.set hblm _⟩
   rw[←happ];generalize hI:ints ns=I at *;generalize hZ:ints zs=Z at *;rcases h15 with rfl|⟨g14,y14,rfl⟩
   all_goals simp[aH,gq,KC,hf,oz,hl,hlm,hie,hin,hiz,htk,hln,hln8]
theorem acw{v e32 e33:V}{j:Nat}(hj:j≤1000)(ob:List (Nat×Nat×O))(w:Nat) :
  aj K 138 (rg 138 10) (aH Y b2 b3 b4 L n i [(8,p8),(9,v)] [(32,e32),(33,e33),(34,.d (.int .i64 (j:Nat)))] ob es H w) =
   some (.normal,aH Y b2 b3 b4 L n i [(8,p8),(9,v)] [(32,e32),(33,e33),(34,.d (.int .i64 (j+1:Nat)))] ob es H w):=by
 have w1:wr .i64 ((j:Int)+1)=(j:Int)+1:=wI;simp[aH,aaJ,w1]
theorem Yk{v e32:V}{j m:Nat}(ob:List (Nat×Nat×O))(w:Nat) :
  aj K 138 (rg 138 7) (aH Y b2 b3 b4 L n i [(8,p8),(9,v)] [(32,e32),(33,.d (.int .i64 (m:Nat))),(34,.d (.int .i64 (j:Nat)))] ob es H w) =
   some (.normal,aH Y b2 b3 b4 L n i [(8,p8),(9,v)] [(32,e32),(33,.d (.int .i64 (m:Nat))),(34,.d (.int .i64 (j:Nat))),(35,.d (.bool (decide (j<m))))] ob es H w):=by
 simp[aH,agk]
theorem Q8{ps:List (Nat×Int)}(hps:ps.length≤1000)(h15:O1 15 o15) :
  ∀ (m j:Nat) (t:List (Nat × Int)) (v:V) (zs:List Int) (o11:List (Nat × Nat × O)) (H:List O) (w:Nat),t.length=m→ps.drop j=t→j≤ps.length→O1 11 o11→(∀ i,Pr i→i < H.length)→dU Pr hs H→AX Pr hs zs v H→zs.length+(t.flatMap (dZ hs)).length≤1000 →
   ∃v' o11' H' w',aj K 138 (.loop xW) (aH Y b2 b3 b4 L n i [(8,p8),(9,v)] [(32,.d (jR ps)),(33,.d (.int .i64 ps.length)),(34,.d (.int .i64 (j:Nat)))] ((8,g8,q8)::(o11++o15)) (bU hs) H w) =
    some (.exit 2,aH Y b2 b3 b4 L n i [(8,p8),(9,v')] [(32,.d (jR ps)),(33,.d (.int .i64 ps.length)),(34,.d (.int .i64 ps.length)),(35,.d (.bool false))] ((8,g8,q8)::(o11'++o15)) (bU hs) H' w')∧
    O1 11 o11'∧dU Pr hs H'∧AX Pr hs (zs++t.flatMap (dZ hs)) v' H'∧vS Pr H H'
 |0,j,t,v,zs,o11,H,w,hm,ht,hi,ho,hb,hH,hM,hz=>by
  have ht0:t=[]:=List.eq_nil_of_length_eq_zero hm;subst ht0;have hie:j=ps.length:=by have:=List.drop_eq_nil_iff.1 ht;omega
  subst hie;refine⟨v,o11,H,w,?_,ho,hH,by simpa using hM,vS.refl _ _⟩;rw[af,Wq,mr,Yk];simp[aH]
 | m+1,j,t,v,zs,o11,H,w,hm,ht,hi,ho,hb,hH,hM,hz=>by
  match t,hm,ht,hz with
  | k :: r,hm,ht,hz =>
   have hx:ps[j]?=some k:=by have:=congrArg List.head? ht;simpa[List.head?_drop]using this
   have hlt:=(gS.1 hx).1;have hr:ps.drop (j+1)=r:=by have:=congrArg List.tail ht;simpa[List.tail_drop]using this
   simp only[List.flatMap_cons,List.length_append]at hz;have e7:=Yk (Y:=Y) (b2:=b2) (b3:=b3) (b4:=b4) (L:=L) (n:=n) (i:=i) (es:=bU hs) (H:=H) (p8:=p8) (v:=v) (e32:=.d (jR ps)) (j:=j) (m:=ps.length) ((8,g8,q8)::(o11++o15)) w;obtain⟨g11,w1,e8⟩:=agY (Y:=Y) (b2:=b2) (b3:=b3) (b4:=b4) (L:=L) (n:=n) (i:=i) (es:=bU hs) (H:=H) (p8:=p8) (v:=v) (g8:=g8) (q8:=q8) hx ho h15 w;obtain⟨v1,H1,w2,e9,hH1,hM1,hG1⟩:=ae1 (Y:=Y) (b2:=b2) (b3:=b3) (b4:=b4) (L:=L) (n:=n) (i:=i) (p8:=p8) (g8:=g8) (g11:=g11) (q8:=q8) (k:=k) (e32:=.d (jR ps)) (e33:=.d (.int .i64 ps.length)) (e34:=.d (.int .i64 (j:Nat))) hb hH hM (by omega) h15 w1;have e10:=acw (Y:=Y) (b2:=b2) (b3:=b3) (b4:=b4) (L:=L) (n:=n) (i:=i) (es:=bU hs) (H:=H1) (p8:=p8) (v:=v1) (e32:=.d (jR ps)) (e33:=.d (.int .i64 ps.length)) (j:=j) (by omega) ((8,g8,q8)::(11,g11,gq k)::o15) w2;obtain⟨v2,o2,H2,w3,e2,ho2,hH2,hM2,hG2⟩:=Q8 hps h15 m (j+1) r v1 (zs++dZ hs k) [(11,g11,gq k)] H1 w2 (by simpa using hm) hr (by omega) (.inr ⟨_,_,rfl⟩) (hG1.lt hb) hH1 hM1 (by simp only[List.length_append];omega);refine⟨v2,o2,H2,w3,?_,ho2,hH2,by simpa using hM2,hG1.trans hG2⟩;have hd:decide (j<ps.length)=true:=by simpa using hlt
   rw[hd]at e7;have ec:∀c:Code,aj K 138 (.seq (.cond (.tmp 35) (.skip) (.exit 2)) c) (aH Y b2 b3 b4 L n i [(8,p8),(9,v)] [(32,.d (jR ps)),(33,.d (.int .i64 ps.length)),(34,.d (.int .i64 (j:Nat))),(35,.d (.bool true))] ((8,g8,q8)::(o11++o15)) (bU hs) H w) =
     aj K 138 c (aH Y b2 b3 b4 L n i [(8,p8),(9,v)] [(32,.d (jR ps)),(33,.d (.int .i64 ps.length)),(34,.d (.int .i64 (j:Nat))),(35,.d (.bool true))] ((8,g8,q8)::(o11++o15)) (bU hs) H w):=fun c=>by
    simp[aH]
   rw[af,Wq];simp[-List.cons_append,mr,jB,andThen,outOf,e7,ec,e8,e9,e10];simpa using e2
end
end Mw
