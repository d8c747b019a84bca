/- DependFirst's tied card holds; no condition beyond the card's own. -/
import Derived.Test.YtdjnccgeajpegaaGreatDoorXc
import Derived.Test.YtdjnccgeajpegaaGreatDoorQf
import Derived.Test.YtdjnccgeajpegaaGreatDoorQd
import Derived.Test.YtdjnccgeajpegaaGreatDoorKc
import Derived.Test.YtdjnccgeajpegaaGreatDoorXa
import Derived.Test.YtdjnccgeajpegaaGreatDoorQh
set_option linter.unusedVariables false
set_option linter.unusedSimpArgs false
set_option maxRecDepth 10000
set_option maxHeartbeats 4000000
namespace Mw
open Go Go.Proofs
theorem cSz(ss:List Int):D.isCell (fC ss)=true:=by cases ss<;>rfl
theorem cFr(l:List (Nat×List (Int×List Int))):D.isCell (yR l)=true:=by cases l<;>rfl
theorem ads{s:Stp}(h:gK s):D.isCell s.args=true:=by obtain⟨o,p,q,m,z,a,h1,h2⟩:=h.body.form;simp only[Stp.body,dK,D.agg.injEq,List.cons.injEq]at h1;obtain⟨_,_,_,_,_,rfl,_⟩:=h1;rcases h2 with h2|⟨l,h2⟩<;>rw[h2]<;>rfl
theorem apH{S A F G:D}{t o z:Int}{p q m:ByteArray}(hS:D.isCell S=true)(hA:D.isCell A=true)(hF:D.isCell F=true)(hG:D.isCell G=true)(hp:List O) :
  ah K (.fn (.func 53) [] []) [.d (.agg [S,.int .i64 t,A,F,.int .i64 o,.str p,.str q,.str m,.int .i64 z,G]),.d (.int .i64 0)] none hp=some (.ret (.d (.agg [.int .i64 t,A])),false,hp,0):=by
 rw[k53];simp only[D.isCell]at hS hA hF hG;simp[c53,adW,acZ,ac6,ad1,hS,hA,hF,hG]
theorem amy{S A G B:D}{es:List D}{a:Nat}{t o z k:Int}{p q m:ByteArray}(hS:D.isCell S=true)(hA:D.isCell A=true)(hG:D.isCell G=true)(hB:D.isCell B=true)(hp:List O)(h:es[a]?=some (.agg [.int .i64 k,B]))(hl:es.length≤1000) :
  ah K (.fn (.func 53) [] []) [.d (.agg [S,.int .i64 t,A,.list 2 es,.int .i64 o,.str p,.str q,.str m,.int .i64 z,G]),.d (.int .i64 ((a+1:Nat):Int))] none hp=some (.ret (.d (.agg [.int .i64 k,B])),false,hp,0):=by
 have hal:=(gS.1 h).1;have hae:=(gS.1 h).2;have hn:¬((a:Int)+1=0):=by omega
 have hw:wr .i64 (a:Int)=a:=wI;rw[k53];simp only[D.isCell]at hS hA hG hB;simp[c53,adW,acZ,ac6,ad1,hS,hA,hG,hB,hn,hw,hal,hae]
theorem s53(hp:List O){a:Nat}{x:Stp}{c:Nat×List (Int×List Int)}(hx:gK x)(ha:acc x a=some c):ah K (.fn (.func 53) [] []) [.d (encS x),.d (.int .i64 a)] none hp=some (.ret (.d (dJ c.1 c.2)),false,hp,0):=by
 cases a with
 |zero=>simp only[acc,List.getElem?_cons_zero,oI]at ha;subst ha;exact apH (cSz _) (mP _) (cFr _) (ads hx) hp| succ a =>
  simp only[acc,List.getElem?_cons_succ]at ha;have hal:a<x.fr.length:=(gS.1 ha).1;have hf:yR x.fr=.list 2 (x.fr.map fun c=>dJ c.1 c.2):=by
   cases h:x.fr with
   |nil=>rw[h]at hal;simp at hal|cons _ _=>rfl
  have hfew:=hx.few;simp only[encS];rw[hf];exact amy (cSz _) (mP _) (ads hx) (mP _) hp (by rw[List.getElem?_map,ha];rfl) (by simp;omega)
theorem s48(hp:List O)(n:Int):ah K (.fn (.func 48) [] []) [.d (.int .i64 n)] none hp=some (.ret (.d (.bool (decide (n=0∨n=14)))),false,hp,0):=by
 rw[k48];by_cases h:n=0
 ·simp[c48,ac7,adC,h]
 ·simp[c48,ac7,adC,h]
theorem s95(hp:List O)(n lo hi:Int):ah K (.fn (.func 95) [] []) [.d (.int .i64 n),.d (.int .i64 lo),.d (.int .i64 hi)] none hp=some (.ret (.d (.bool (decide (lo≤n∧n≤hi)))),false,hp,0):=by
 rw[k95];by_cases h:lo≤n
 ·simp[c95,adE,ael,h]
 ·simp[c95,adE,ael,h]
theorem zl(hp:List O){ss:List Int}(h:eX ss):ah K (.fn (.func 127) [] []) [.d (fC ss)] none hp=some (.ret (.d (.int .i64 (bD ss))),false,hp,0):=by
 rw[asN]
 match ss,h with
 |[],_=>simp[c127,Kr,LK,Ob,NU,Ll,NQ,NI,af,Qi,fC,bD]|[a],h=>have ha:=h.within a (by simp);have hw:wr .i64 a=a:=wI;simp[c127,Kr,LK,Ob,NU,Ll,NQ,NI,af,Qi,fC,bD,hw1,hw]
 |[a,b],h=>have ha:=h.within a (by simp);have hb:=cZ h;simp only[bD,Int.mul_one]at hb;have hw:wr .i64 a=a:=wI;have hw3:wr .i64 (a*b)=a*b:=wI;simp[c127,Kr,LK,Ob,NU,Ll,NQ,NI,af,Qi,fC,bD,hw1,hw2,hw,hw3]
 |_::_::_::_,h=>have:=h.few;simp at this
def gB:List Stp→Nat→Int
 |x::r,k+1=>bD x.ss+gB r k|_,_=>0
theorem nI:∀(t:List Stp) (k:Nat),(∀s∈t,gK s)→0≤gB t k∧gB t k≤16*t.length
 |[],k,_=>by simp[gB]|x::r,0,_=>by simp only[gB,List.length_cons];omega|x::r,k+1,h=>by have h1:=cZ (h x (by simp)).sz;have h2:=nI r k (fun s hs=>h s (by simp[hs]));simp only[gB,List.length_cons];omega
theorem s83(hp:List O){t:List Stp}(ht:dL t)(h3:t.length≤3){k:Nat}(hk:k≤t.length):ah K (.fn (.func 83) [] []) [.d (dw t),.d (.int .i64 k)] none hp=some (.ret (.d (.int .i64 (gB t k))),false,hp,0):=by
 rw[k83]
 match t,ht,h3,k,hk with
 |[],ht,_,_,_=>exact absurd ht.pos (by simp)|x::r,_,_,0,_=>simp[c83,SC,RG,QZ,SN,SS,Rf,Rt,af,QW,dw,gB]|x::r,ht,_,1,_=>have e1:=zl hp (ht.ok x (by simp)).sz;have b1:=cZ (ht.ok x (by simp)).sz;have v1:wr .i64 (bD x.ss)=bD x.ss:=wI;simp[c83,SC,RG,QZ,SN,SS,Rf,Rt,af,QW,dw,gB,encS,e1,w1,v1]
 |x::y::r,ht,_,2,_=>have e1:=zl hp (ht.ok x (by simp)).sz;have b1:=cZ (ht.ok x (by simp)).sz;have e2:=zl hp (ht.ok y (by simp)).sz;have b2:=cZ (ht.ok y (by simp)).sz;have v1:wr .i64 (bD x.ss)=bD x.ss:=wI;have v2:wr .i64 (bD x.ss+bD y.ss)=bD x.ss+bD y.ss:=wI;simp[c83,SC,RG,QZ,SN,SS,Rf,Rt,af,QW,dw,gB,encS,e1,e2,w1,w2,v1,v2]
 |x::y::z::r,ht,_,3,_=>have e1:=zl hp (ht.ok x (by simp)).sz;have b1:=cZ (ht.ok x (by simp)).sz;have e2:=zl hp (ht.ok y (by simp)).sz;have b2:=cZ (ht.ok y (by simp)).sz;have e3:=zl hp (ht.ok z (by simp)).sz;have b3:=cZ (ht.ok z (by simp)).sz;have v1:wr .i64 (bD x.ss)=bD x.ss:=wI;have v2:wr .i64 (bD x.ss+bD y.ss)=bD x.ss+bD y.ss:=wI;have v3:wr .i64 (bD x.ss+bD y.ss+bD z.ss)=bD x.ss+bD y.ss+bD z.ss:=wI;simp[c83,SC,RG,QZ,SN,SS,Rf,Rt,af,QW,dw,gB,encS,e1,e2,e3,w1,w2,w3,v1,v2,v3];omega
 |[x],_,_,k+2,hk=>simp at hk|[x,y],_,_,k+3,hk=>simp at hk|[x,y,z],_,_,k+4,hk=>simp at hk|_::_::_::_::_,_,h3,_,_=>simp at h3
theorem s61(hp:List O){t:List Stp}(ht:dL t)(h3:t.length≤3):ah K (.fn (.func 61) [] []) [.d (dw t)] none hp=some (.ret (.d (.int .i64 (gB t t.length))),false,hp,0):=by have e:=s83 hp ht h3 (Nat.le_refl t.length);simp only[dw]at e;rw[k61];simp[c61,aps,amP,dw,e]
theorem s51(hp:List O){t:List Stp}(ht:dL t)(h3:t.length≤3)(n:Int):ah K (.fn (.func 51) [] []) [.d (dw t),.d (.int .i64 n)] none hp=some (.ret (.d (.bool (decide (0≤n∧n≤gB t t.length-1)))),false,hp,0):=by have e:=s61 hp ht h3;have b:=nI t t.length ht.ok;have e2:=s95 hp n 0 (gB t t.length-1);have v:wr .i64 (gB t t.length-1)=gB t t.length-1:=wI;simp only[dw]at e;rw[k51];simp[c51,anN,an1,dw,e,e2,v]
theorem Jf(e:Int):∀(cs is:List Int) (c:Int),iU (e+c) cs is=e+iU c cs is
 |[],is,c=>by cases is<;>rfl|x::xs,[],c=>rfl|x::xs,i::is,c=>by simp only[iU];rw[Int.add_assoc,Jf e xs is]
inductive Fits:List (Int×Int)→List Int→Prop
 |nil:Fits [] []
 |cons {b m k:Int} {l:List (Int×Int)} {ks:List Int} (hb:b=0∨b=1∨b=-1) (h0:0≤k) (h1:k≤m) (h:Fits l ks):Fits ((b,m)::l) (k::ks)
theorem Fits.app{l l':List (Int×Int)}{ks ks':List Int}(h:Fits l ks)(h':Fits l' ks'):Fits (l++l') (ks++ks'):=by
 induction h with
 |nil=>exact h'|cons hb h0 h1 _ ih=>exact .cons hb h0 h1 ih
def base(t:List Stp)(k:Nat):Nat:=((t.take k).map fun s=>(aZ s.ss).length).sum
theorem abg{t:List Stp}:∀{m k j:Nat} {s:Stp} {p:List Int},t[k]?=some s→(aZ s.ss)[j]?=some p→(allI m t)[base t k+j]?=some (m+k,s,p):=by
 induction t with
 |nil=>intro m k j s p h;simp at h| cons x r ih =>
  intro m k j s p h1 h2;cases k with
  |zero=>simp only[List.getElem?_cons_zero,oI]at h1;subst h1;have hj:=(gS.1 h2).1;simp only[allI,base,List.take_zero,List.map_nil,List.sum_nil,Nat.zero_add];rw[List.getElem?_append_left (by simpa using hj),List.getElem?_map,h2];rfl
  |succ k=>simp only[List.getElem?_cons_succ]at h1;have:=ih (m:=m+1) h1 h2;simp only[allI,base,List.take_succ_cons,List.map_cons,List.sum_cons];rw[List.getElem?_append_right (by simp;omega)];simp only[List.length_map];rw[show(aZ x.ss).length+(List.map (fun s=>(aZ s.ss).length) (List.take k r)).sum+j-(aZ x.ss).length=base r k+j by simp only[base];omega,this];rw[show m+1+k=m+(k+1) by omega]
theorem uK{t:List Stp}{m:Nat}:(allI m t).length=base t t.length:=by
 induction t generalizing m with
 |nil=>rfl|cons x r ih=>simp only[allI,List.length_append,List.length_map,ih,base,List.length_cons,List.take_succ_cons,List.map_cons,List.sum_cons]
theorem aa4{t:List Stp}{n:Nat}(h:n<base t t.length):∃k s j p,t[k]?=some s∧(aZ s.ss)[j]?=some p∧n=base t k+j:=by
 induction t generalizing n with
 |nil=>simp[base]at h| cons x r ih =>
  by_cases hn:n<(aZ x.ss).length
  ·exact⟨0,x,n,_,rfl,List.getElem?_eq_getElem hn,by simp[base]⟩
  ·have:n-(aZ x.ss).length<base r r.length:=by simp only[base,List.length_cons,List.take_succ_cons,List.map_cons,List.sum_cons]at h ⊢;omega
   obtain⟨k,s,j,p,h1,h2,h3⟩:=ih this;refine⟨k+1,s,j,p,h1,h2,?_⟩;simp only[base,List.take_succ_cons,List.map_cons,List.sum_cons]at h3 ⊢;omega
def numAt:List Int→List Int→Int
 |[_],[i]=>i|[_,b],[i,j]=>i*b+j|_,_=>0
def Cj:List Int→Int→List Int
 |[a],n=>[n]|[a,b],n=>[n/b,n%b]|_,_=>[]
def uh:List Int→Int
 |[]=>1|[a]=>a|a::b::_=>a*b
theorem jq(a:Int):aZ [a]=(List.range a.toNat).map fun i=>[Int.ofNat i]:=by
 simp[aZ,List.flatMap];induction List.range a.toNat with
 |nil=>rfl|cons x r ih=>simp[ih]
theorem zM{α β:Type}(f:α→List β)(L:Nat):∀(l:List α),(∀a∈l,(f a).length=L)→∀(i j:Nat) (a:α),l[i]?=some a→j<L→(l.flatMap f)[i*L+j]?=(f a)[j]?
 |[],_,i,j,a,h,_=>by simp at h|x::r,hl,0,j,a,h,hj=>by simp only[List.getElem?_cons_zero,oI]at h;subst h;rw[List.flatMap_cons,Nat.zero_mul,Nat.zero_add,List.getElem?_append_left (by rw[hl _ (by simp)];exact hj)]|x::r,hl,i+1,j,a,h,hj=>by have h1:=hl x (by simp);rw[List.flatMap_cons,List.getElem?_append_right (by rw[h1,Nat.add_mul];omega),h1,show(i+1)*L+j-L=i*L+j by rw[Nat.add_mul];omega];exact zM f L r (fun a ha=>hl a (by simp[ha])) i j a (by simpa using h) hj
theorem vZ{α β:Type}(f:α→List β)(L:Nat):∀(l:List α),(∀a∈l,(f a).length=L)→(l.flatMap f).length=l.length*L
 |[],_=>by simp|x::r,hl=>by rw[List.flatMap_cons,List.length_append,hl x (by simp),vZ f L r (fun a ha=>hl a (by simp[ha])),List.length_cons,Nat.add_mul];omega
theorem Bl{ss:List Int}(h:eX ss):((aZ ss).length:Int)=uh ss:=by
 have hf:=h.few
 match ss,hf with
 |[],_=>rfl|[a],_=>have:=h.within a (by simp);rw[jq];simp[uh];omega
 |[a,b],_=>
  have h1:=h.within a (by simp);have h2:=h.within b (by simp);obtain⟨a,rfl⟩:∃n:Nat,a=n:=⟨a.toNat,by omega⟩
  obtain⟨b,rfl⟩:∃n:Nat,b=n:=⟨b.toNat,by omega⟩
  rw[show aZ [(a:Int),(b:Int)]=(List.range a).flatMap fun i=>(aZ [(b:Int)]).map (Int.ofNat i::·)from rfl,vZ _ b _ (fun i hi=>by rw[List.length_map,jq];simp)];simp[uh]
 |_::_::_::_,hf=>simp at hf
theorem Wx{ss p:List Int}(h:eX ss)(hp:jw p ss):(aZ ss)[(numAt ss p).toNat]?=some p∧0≤numAt ss p:=by
 have hf:=h.few
 match ss,hf,hp with
 |[],_,hp=>cases hp;exact⟨rfl,by simp[numAt]⟩|[a],_,.cons (i:=i) h0 h1 .nil=>
  refine⟨?_,h0⟩;obtain⟨i,rfl⟩:∃n:Nat,i=n:=⟨i.toNat,by omega⟩
  rw[jq];simp only[numAt,Int.toNat_natCast,List.getElem?_map];rw[List.getElem?_range (by omega)];rfl
 |[a,b],_,.cons (i:=i) h0 h1 (.cons (i:=j) h2 h3 .nil)=>
  obtain⟨i,rfl⟩:∃n:Nat,i=n:=⟨i.toNat,by omega⟩
  obtain⟨j,rfl⟩:∃n:Nat,j=n:=⟨j.toNat,by omega⟩
  obtain⟨a,rfl⟩:∃n:Nat,a=n:=⟨a.toNat,by omega⟩
  obtain⟨b,rfl⟩:∃n:Nat,b=n:=⟨b.toNat,by omega⟩
  have e:numAt [(a:Int),(b:Int)] [(i:Int),(j:Int)]=((i*b+j:Nat):Int):=by simp[numAt]
  rw[e,Int.toNat_natCast,show aZ [(a:Int),(b:Int)]=(List.range a).flatMap fun i=>(aZ [(b:Int)]).map (Int.ofNat i::·)from rfl];refine⟨?_,by omega⟩;rw[zM _ b _ (fun i hi=>by rw[List.length_map,jq];simp) i j i (List.getElem?_range (by omega)) (by omega),jq,List.getElem?_map,List.getElem?_map];rw[show((b:Int)).toNat=b from Int.toNat_natCast b,List.getElem?_range (by omega)];rfl
 |_::_::_::_,hf,_=>simp at hf
theorem YC{ss p:List Int}{j:Nat}(h:eX ss)(hj:(aZ ss)[j]?=some p):Cj ss j=p∧jw p ss∧(j:Int)=numAt ss p∧(j:Int)<uh ss:=by
 have hmem:=gZ.1 (List.mem_of_getElem? hj);have hlen:=Bl h;have hlt:=(gS.1 hj).1;have hf:=h.few;refine⟨?_,hmem,?_,by omega⟩
 ·match ss,hf,hmem with
  |[],_,hp=>cases hp;rfl|[a],_,.cons (i:=i) h0 h1 .nil=>rw[jq,List.getElem?_map]at hj;rw[jq]at hlt;simp only[List.length_map,List.length_range]at hlt;rw[List.getElem?_range hlt]at hj;simp at hj;simp[Cj,hj]| [a,b],_,.cons (i:=i) h0 h1 (.cons (i:=k) h2 h3 .nil) =>
   have hb:=h.within b (by simp);have ha:=h.within a (by simp);obtain⟨a,rfl⟩:∃n:Nat,a=n:=⟨a.toNat,by omega⟩
   obtain⟨b,rfl⟩:∃n:Nat,b=n:=⟨b.toNat,by omega⟩
   have hdm:j=(j/b)*b+j%b:=by rw[Nat.mul_comm];exact(Nat.div_add_mod j b).symm
   have hm:j%b<b:=Nat.mod_lt _ (by omega);have hL:(aZ [(a:Int),(b:Int)]).length=a*b:=by rw[show aZ [(a:Int),(b:Int)]=(List.range a).flatMap fun i=>(aZ [(b:Int)]).map (Int.ofNat i::·)from rfl,vZ _ b _ (fun i hi=>by rw[List.length_map,jq];simp)];simp
   have hq:j/b<a:=Nat.div_lt_of_lt_mul (by rw[Nat.mul_comm];omega)
   rw[show aZ [(a:Int),(b:Int)]=(List.range a).flatMap fun i=>(aZ [(b:Int)]).map (Int.ofNat i::·)from rfl,hdm,
    zM _ b _ (fun i hi=>by rw[List.length_map,jq];simp) (j/b) (j%b) (j/b) (List.getElem?_range hq) hm,jq,List.getElem?_map,List.getElem?_map,
    show((b:Int)).toNat=b from Int.toNat_natCast b,List.getElem?_range hm]at hj
   simp at hj;simp[Cj];exact⟨hj.1,hj.2⟩
  |_::_::_::_,hf,_=>simp at hf
 ·have h1:=Wx h hmem;have hnd:(numAt ss p).toNat=j:=by
   have h2:=h1.1
   match ss,hf,hmem with
   |[],_,hp=>simp[aZ]at hlt;simp[numAt,hlt]|[a],_,.cons (i:=i) h0 h3 .nil=>rw[jq,List.getElem?_map]at hj;rw[jq]at hlt;simp only[List.length_map,List.length_range]at hlt;rw[List.getElem?_range hlt]at hj;simp at hj;simp[numAt];omega| [a,b],_,.cons (i:=i) h0 h3 (.cons (i:=k) h4 h5 .nil) =>
    have hb:=h.within b (by simp);have ha:=h.within a (by simp);obtain⟨a,rfl⟩:∃n:Nat,a=n:=⟨a.toNat,by omega⟩
    obtain⟨b,rfl⟩:∃n:Nat,b=n:=⟨b.toNat,by omega⟩
    have hdm:j=(j/b)*b+j%b:=by rw[Nat.mul_comm];exact(Nat.div_add_mod j b).symm
    have hm:j%b<b:=Nat.mod_lt _ (by omega);have hL:(aZ [(a:Int),(b:Int)]).length=a*b:=by rw[show aZ [(a:Int),(b:Int)]=(List.range a).flatMap fun i=>(aZ [(b:Int)]).map (Int.ofNat i::·)from rfl,vZ _ b _ (fun i hi=>by rw[List.length_map,jq];simp)];simp
    have hq:j/b<a:=Nat.div_lt_of_lt_mul (by rw[Nat.mul_comm];omega);have hj2:=hj
    rw[show aZ [(a:Int),(b:Int)]=(List.range a).flatMap fun i=>(aZ [(b:Int)]).map (Int.ofNat i::·)from rfl,hdm,
     zM _ b _ (fun i hi=>by rw[List.length_map,jq];simp) (j/b) (j%b) (j/b) (List.getElem?_range hq) hm,jq,List.getElem?_map,List.getElem?_map,
     show((b:Int)).toNat=b from Int.toNat_natCast b,List.getElem?_range hm]at hj2
    simp at hj2;obtain⟨e1,e2⟩:=hj2;have:numAt [(a:Int),(b:Int)] [i,k]=((j/b*b+j%b:Nat):Int):=by simp[numAt,←e1,←e2]
    rw[this,←hdm];simp
   |_::_::_::_,hf,_=>simp at hf
  omega
theorem jM.bd{c:Int}{cs ss:List Int}{z:Int}(h:jM c cs ss z):0≤c∧c≤z-1:=by have h1:=h.lo;have h2:=h.hi;have h3:=bW cs ss;have h4:=bY cs ss;omega
theorem KA{a b:Int}(h:b≠0):dN .rem .i64 a b=some (.int .i64 (a.tmod b)):=by
 have:(b==0)=false:=by simpa using h
 simp only[dN,this,cond_false]
theorem N9{a b:Int}(h:b≠0):dN .quo .i64 a b=some (.int .i64 (wr .i64 (a.tdiv b))):=by
 have:(b==0)=false:=by simpa using h
 simp only[dN,this,cond_false,qO]
theorem IG{ss:List Int}(h:eX ss):bD ss=uh ss:=by
 match ss,h.few with
 |[],_=>rfl|[a],_=>simp[bD,uh]|[a,b],_=>simp[bD,uh]|_::_::_::_,hf=>simp at hf
theorem wK:∀(t:List Stp) (k:Nat),(∀s∈t,gK s)→gB t k=(base t k:Int)
 |[],k,_=>by cases k<;>rfl|x::r,0,_=>rfl|x::r,k+1,h=>by have h1:=Bl (h x (by simp)).sz;have h2:=wK r k (fun s hs=>h s (by simp[hs]));have h3:=IG (h x (by simp)).sz;simp only[gB,base,List.take_succ_cons,List.map_cons,List.sum_cons]at h2 ⊢;rw[h2,h3,←h1];simp
theorem ayK(hp:List O){ss:List Int}(h:eX ss){n:Int}(h0:0≤n)(h1:n<uh ss):ah K (.fn (.func 135) [] []) [.d (fC ss),.d (.int .i64 n)] none hp=some (.ret (.d (.list 1 (ints (Cj ss n)))),false,hp,0):=by
 have w1:wr .i64 (-1)=-1:=wI;have w2:wr .i64 1=1:=wI;rw[azk]
 match ss,h,h1 with
 |[],_,_=>simp[acu,O6,KQ,Nw,OG,Oe,ND,P8,af,Lc,fC,Cj,w0,w1,w2]|[a],h,h1=>
  have ha:=h.within a (by simp);simp only[uh]at h1;have hn:a≠0:=by omega
  have m1:n.tmod a=n:=by rw[Int.tmod_eq_emod_of_nonneg h0];exact Int.emod_eq_of_lt h0 h1
  have q1:n.tdiv a=0:=by rw[Int.tdiv_eq_ediv_of_nonneg h0];exact Int.ediv_eq_zero_of_lt h0 h1
  simp[acu,O6,KQ,Nw,OG,Oe,ND,P8,af,Lc,fC,Cj,w0,w1,w2,KA hn,N9 hn,m1,q1]
 |[a,b],h,h1=>
  have ha:=h.within a (by simp);have hb:=h.within b (by simp);simp only[uh]at h1;have hn:a≠0:=by omega
  have hm:b≠0:=by omega
  have m1:n.tmod b=n%b:=Int.tmod_eq_emod_of_nonneg h0;have q1:n.tdiv b=n/b:=Int.tdiv_eq_ediv_of_nonneg h0;have d0:0≤n/b:=Int.ediv_nonneg h0 (by omega);have d1:n/b<a:=Int.ediv_lt_of_lt_mul (by omega) h1;have wq:wr .i64 (n/b)=n/b:=wI;have m2:(n/b).tmod a=n/b:=by rw[Int.tmod_eq_emod_of_nonneg d0];exact Int.emod_eq_of_lt d0 d1
  have q2:(n/b).tdiv a=0:=by rw[Int.tdiv_eq_ediv_of_nonneg d0];exact Int.ediv_eq_zero_of_lt d0 d1
  simp[acu,O6,KQ,Nw,OG,Oe,ND,P8,af,Lc,fC,Cj,w0,w1,w2,KA hn,KA hm,N9 hn,N9 hm,m1,q1,wq,m2,q2]
 |_::_::_::_,h,_=>have:=h.few;simp at this
theorem s66(hp:List O){t:List Stp}(ht:dL t)(h3:t.length≤3){k j:Nat}{s:Stp}{p:List Int}(hk:t[k]?=some s)(hj:(aZ s.ss)[j]?=some p) :
  ah K (.fn (.func 66) [] []) [.d (dw t),.d (.int .i64 ((base t k+j:Nat):Int))] none hp=some (.ret (.tuple [.d (.int .i64 k),.d (.list 1 (ints p))]),false,hp,0):=by
 have hb:=wK t k ht.ok;have hbd:=nI t k ht.ok;have hss:=(ht.ok s (List.mem_of_getElem? hk)).sz;obtain⟨e1,e2,e3,e4⟩:=YC hss hj;have e5:=ayK hp hss (n:=(j:Int)) (by omega) e4;rw[e1]at e5;have hpp:=IG hss;have bl:=cZ hss;obtain⟨n,hn⟩:∃n:Int,n=((base t k+j:Nat):Int):=⟨_,rfl⟩
 have hn2:n=gB t k+j:=by rw[hb,hn];simp
 rw[←hn];clear hn;rw[k66]
 match t,ht,h3,k,hk,hb,hbd,hn2 with
 |[],ht,_,_,_,_,_,_=>exact absurd ht.pos (by simp)|x::r,ht,_,0,hk,_,_,hn2=>
  simp only[List.getElem?_cons_zero,oI]at hk;subst hk;simp only[gB]at hn2;have hn3:n=j:=by omega
  have f1:=zl hp hss;have c1:¬(bD x.ss≤n):=by omega
  rw[hn3]at c1 ⊢;simp[c66,Xh,WA,ZH,YK,Xn,ZF,af,Xf,dw,encS,f1,c1,e5]
 |x::y::r,ht,_,1,hk,_,hbd,hn2=>
  simp at hk;subst hk;simp only[gB]at hn2;have f1:=zl hp (ht.ok x (by simp)).sz;have f2:=zl hp hss;have c1:bD x.ss≤n:=by omega
  have v1:wr .i64 (n-bD x.ss)=j:=by rw[show n-bD x.ss=j by omega];exact wI
  have c2:¬(bD y.ss≤(j:Int)):=by omega
  simp[c66,Xh,WA,ZH,YK,Xn,ZF,af,Xf,dw,encS,f1,f2,c1,c2,v1,w1,e5]
 |x::y::z::r,ht,_,2,hk,_,hbd,hn2=>
  simp at hk;subst hk;simp only[gB]at hn2;have b1:=cZ (ht.ok x (by simp)).sz;have b2:=cZ (ht.ok y (by simp)).sz;have f1:=zl hp (ht.ok x (by simp)).sz;have f2:=zl hp (ht.ok y (by simp)).sz;have f3:=zl hp hss;have c1:bD x.ss≤n:=by omega
  have v1:wr .i64 (n-bD x.ss)=n-bD x.ss:=wI;have c2:bD y.ss≤n-bD x.ss:=by omega
  have v2:wr .i64 (n-bD x.ss-bD y.ss)=j:=by rw[show n-bD x.ss-bD y.ss=j by omega];exact wI
  have c3:¬(bD z.ss≤(j:Int)):=by omega
  simp[c66,Xh,WA,ZH,YK,Xn,ZF,af,Xf,dw,encS,f1,f2,f3,c1,c2,c3,v1,v2,w1,w2,e5]
 |x::y::z::v::r,_,h3,_,_,_,_,_=>simp at h3|[x],_,_,k+1,hk,_,_,_=>simp at hk|[x,y],_,_,k+2,hk,_,_,_=>simp at hk|[x,y,z],_,_,k+3,hk,_,_,_=>simp at hk
theorem aia(hp:List O){c z:Int}{cs ss p:List Int}(hA:jM c cs ss z)(hz:z≤5)(hs:eX ss)(hi:jw p ss) :
  ah K (.fn (.func 136) [] []) [.d (.agg [.int .i64 c,.list 1 (ints cs)]),.d (.list 1 (ints p))] none hp=some (.ret (.d (.int .i64 (iU c cs p))),false,hp,0):=by
 have hb:=hA.bd;rw[avI];have hl:=hA.len
 match ss,p,cs,hs,hi,hl,hA with
 |[],[],[],_,_,_,_=>simp[ack,Qp,MP,OX,Nl,O8,NF,LU,af,Ql,iU,w0,w1]|[a],[i],[x],hs,.cons h0 h1 .nil,_,hA=>
  have ha:=hs.within a (by simp);have p1:-3≤x*i∧x*i≤3:=by rcases hA.coef x (by simp)with h|h|h<;>rw[h]<;>omega
  have v1:wr .i64 (x*i)=x*i:=wI;have v2:wr .i64 (c+x*i)=c+x*i:=wI;simp[ack,Qp,MP,OX,Nl,O8,NF,LU,af,Ql,iU,w0,w1,v1,v2]
 |[a,b],[i,j],[x,y],hs,.cons h0 h1 (.cons h2 h3 .nil),_,hA=>
  have ha:=hs.within a (by simp);have hb:=hs.within b (by simp);have p1:-3≤x*i∧x*i≤3:=by rcases hA.coef x (by simp)with h|h|h<;>rw[h]<;>omega
  have p2:-3≤y*j∧y*j≤3:=by rcases hA.coef y (by simp)with h|h|h<;>rw[h]<;>omega
  have v1:wr .i64 (x*i)=x*i:=wI;have v2:wr .i64 (c+x*i)=c+x*i:=wI;have v3:wr .i64 (y*j)=y*j:=wI;have v4:wr .i64 (c+x*i+y*j)=c+x*i+y*j:=wI;simp[ack,Qp,MP,OX,Nl,O8,NF,LU,af,Ql,iU,w0,w1,w2,v1,v2,v3,v4]
 |_::_::_::_,_,_,hs,_,_,_=>have:=hs.few;simp at this
theorem aiw(hp:List O)(v:Int)(h:0≤v∧v≤4):ah K (.fn (.func 137) [] []) [.d (.list 1 [.int .i64 5]),.d (.list 1 [.int .i64 v])] none hp=some (.ret (.d (.int .i64 v)),false,hp,0):=by have w2:wr .i64 v=v:=wI;rw[ahX];simp[aci,O0,QA,Nz,OY,Oq,MX,Lp,af,Nk,w0,w1,w2]
theorem ahL(hp:List O)(v u:Int)(h:0≤v∧v≤4)(h':0≤u∧u≤4):ah K (.fn (.func 137) [] []) [.d (.list 1 [.int .i64 4,.int .i64 4]),.d (.list 1 [.int .i64 v,.int .i64 u])] none hp=some (.ret (.d (.int .i64 (v*4+u))),false,hp,0):=by have w2:wr .i64 v=v:=wI;have w3:wr .i64 2=2:=wI;have w4:wr .i64 (v*4)=v*4:=wI;have w5:wr .i64 (v*4+u)=v*4+u:=wI;rw[ahX];simp[aci,O0,QA,Nz,OY,Oq,MX,Lp,af,Nk,w0,w1,w2,w3,w4,w5]
theorem aii(hp:List O):ah K (.fn (.func 137) [] []) [.d .nils,.d .nils] none hp=some (.ret (.d (.int .i64 0)),false,hp,0):=by rw[ahX];simp[aci,O0,QA,Nz,OY,Oq,MX,Lp,af,Nk]
theorem s67(hp:List O){t:List Stp}(ht:dL t)(h3:t.length≤3){k a:Nat}{s:Stp}{c:Nat×List (Int×List Int)}{p:List Int}(hk:t[k]?=some s)(ha:acc s a=some c)(hc:dP c.1 c.2 s.ss)(hi:jw p s.ss) :
  ah K (.fn (.func 67) [] []) [.d (dw t),.d (.int .i64 k),.d (.int .i64 a),.d (.list 1 (ints p))] none hp=some (.ret (.d (.int .i64 (lg c.1 c.2 p))),false,hp,0):=by
 have hss:=(ht.ok s (List.mem_of_getElem? hk)).sz;have e1:=s53 hp (ht.ok s (List.mem_of_getElem? hk)) ha;have hlt:k<t.length:=(gS.1 hk).1;have hte:t[k]=s:=(gS.1 hk).2;rw[k67];obtain⟨n,x⟩:=c;have arr:=hc.arr;have len:=hc.len;simp only at hc len arr e1 ⊢;simp only[dw]
 match n,arr,x,len,hc,e1 with
 |0,_,[u],_,hc,e1=>have A:=hc.ok 0 (by simp) (by simp[dI]);simp only[List.getElem_cons_zero,dI]at A;have f1:=aia hp A (by omega) hss hi;have b:=dV hi u.1 A.len A.coef;have g1:=A.lo;have g2:=A.hi;have f2:=aiw hp (iU u.1 u.2 p) (by omega);simp[dJ,lS,ny]at e1;simp[encS]at e1;simp[c67,ZO,Xo,WY,VE,Ya,Zt,WJ,Xx,af,Ws,hlt,hte,encS,e1,f1,f2,lg,ax,w0,w1,w2]
 |1,_,[u,v],_,hc,e1=>
  have A:=hc.ok 0 (by simp) (by simp[dI]);have B:=hc.ok 1 (by simp) (by simp[dI]);simp only[List.getElem_cons_zero,List.getElem_cons_succ,dI]at A B;have f1:=aia hp A (by omega) hss hi;have f2:=aia hp B (by omega) hss hi;have b:=dV hi u.1 A.len A.coef;have b':=dV hi v.1 B.len B.coef;have g1:=A.lo;have g2:=A.hi;have g3:=B.lo;have g4:=B.hi;have f3:=ahL hp (iU u.1 u.2 p) (iU v.1 v.2 p) (by omega) (by omega);have nn:lg 1 [u,v] p=iU u.1 u.2 p*4+iU v.1 v.2 p:=by simp only[lg];exact Jf _ _ _ _
  rw[nn];simp[dJ,lS,ny]at e1;simp[encS]at e1;simp[c67,ZO,Xo,WY,VE,Ya,Zt,WJ,Xx,af,Ws,hlt,hte,encS,e1,f1,f2,f3,ax,w0,w1,w2]
 |2,_,[],_,hc,e1=>have f1:=aii hp;simp[dJ,lS]at e1;simp[encS]at e1;simp[c67,ZO,Xo,WY,VE,Ya,Zt,WJ,Xx,af,Ws,hlt,hte,encS,e1,f1,lg,ax,w0,w1,w2]
 |n+3,h,_,_,_,_=>omega
theorem ahi{s:Stp}(h:gK s){a:Nat}{c:Nat×List (Int×List Int)}(ha:acc s a=some c):dP c.1 c.2 s.ss:=by
 cases a with
 |zero=>simp only[acc,List.getElem?_cons_zero,oI]at ha;subst ha;exact h.to|succ a=>simp only[acc,List.getElem?_cons_succ]at ha;exact h.fr c (List.mem_of_getElem? ha)
def uz(t:List Stp)(i:Nat)(v:V)(tl:List (Nat×V))(o:List (Nat×Nat×O))(H:List O)(w:Nat):St:=
 St.mk ([(1,.ptr (.slot 1 0) 0),(3,v),(4,.d (.int .i64 (i:Nat)))]++tl) (Mem.mk ((1,0,.cells [.d (.list 2 ax),.d (bC t)] false)::o) H w) [] none false none
def RU(k:Nat)(p:List Int)(u:V)(a:Nat):List (Nat×V):=[(5,.d (.int .i64 (k:Nat))),(6,.d (.list 1 (ints p))),(7,u),(8,.d (.int .i64 (a:Nat)))]
def R15(v:V)(o:List (Nat×Nat×O))(rows:List D):Prop:=(rows=[]∧v=.d .nils∧o=[])∨(rows≠[]∧v=.sl (.slot 52 0) 1 rows.length 0 rows.length∧o=[(52,0,.vec 1 rows false true)])
def O15(o:List (Nat×Nat×O)):Prop:=o=[]∨∃g x,o=[(48,g,x)]
theorem ahg{t:List Stp}(ht:dL t)(h3:t.length≤3){k:Nat}{s:Stp}(hk:t[k]?=some s){p:List Int}(hi:jw p s.ss){i:Nat}{v:V}{o o2:List (Nat×Nat×O)}{rows:List D}(hv:R15 v o2 rows)(ho:O15 o)(H:List O)(w:Nat) :
  ∃g w',aj K 15 yT (uz t i v (RU k p (.d .nils) 0) (o++o2) H w)=some (.normal,uz t i v (RU k p (.sl (.slot 48 g) 2 1 0 1) 1) ((48,g,.vec 2 [nV s.to p] false true)::o2) H w'):=by
 have hs:=ht.ok s (List.mem_of_getElem? hk);have hlt:k<t.length:=(gS.1 hk).1;have hte:t[k]=s:=(gS.1 hk).2;have e1:=s53 H hs (a:=0) (c:=s.to) rfl;have e2:=s67 H ht h3 hk (a:=0) (c:=s.to) rfl hs.to hi;have hf:∀l,lenV (V.d (yR l))=some l.length:=fun l=>by cases l<;>simp[yR]
 have hf:=hf s.fr;have hfew:=hs.few;simp only[lenV]at hf;simp only[encS,dJ]at e1;simp only[dw]at e2;have z0:((0:Nat):Int)=0:=rfl;have z1:((1:Nat):Int)=1:=rfl;simp only[z0]at e1 e2;have hle:(0:Int)≤(s.fr.length:Int):=by omega
 rcases hv with ⟨rfl,rfl,rfl⟩|⟨hr,rfl,rfl⟩<;>rcases ho with rfl|⟨g,x,rfl⟩
 all_goals simp[uz,RU,XK,VK,VU,Ld,bC,hlt,hte,encS,hf,e1,e2,w1,nV,hle]
theorem afG{t:List Stp}(ht:dL t)(h3:t.length≤3){k:Nat}{s:Stp}(hk:t[k]?=some s){p:List Int}(hi:jw p s.ss){i:Nat}{v:V}{o2:List (Nat×Nat×O)}{rows:List D}(hv:R15 v o2 rows){a g:Nat}{c:Nat×List (Int×List Int)}(h1:1≤a)(ha:acc s a=some c){l:List D}(hl:l.length=a)(H:List O)(w:Nat) :
  ∃w',aj K 15 yT (uz t i v (RU k p (.sl (.slot 48 g) 2 a 0 a) a) ((48,g,.vec 2 l false true)::o2) H w)=some (.normal,uz t i v (RU k p (.sl (.slot 48 g) 2 (a+1) 0 (a+1)) (a+1)) ((48,g,.vec 2 (l++[nV c p]) false true)::o2) H w'):=by
 have hs:=ht.ok s (List.mem_of_getElem? hk);have hlt:k<t.length:=(gS.1 hk).1;have hte:t[k]=s:=(gS.1 hk).2;have hal:a≤s.fr.length:=by have:=(gS.1 ha).1;simp at this;omega
 have hfew:=hs.few;have w1:wr .i64 ((a:Int)+1)=(a:Int)+1:=wI;have e1:=s53 H hs ha;have e2:=s67 H ht h3 hk ha (ahi hs ha) hi;have hf:∀l,lenV (V.d (yR l))=some l.length:=fun l=>by cases l<;>simp[yR]
 have hf:=hf s.fr;simp only[lenV]at hf;simp only[encS,dJ]at e1;simp only[dw]at e2;have hr1:(a+1)*16≤4294967296:=by omega
 have hr2:a+1≤4294967296:=by omega
 rcases hv with ⟨rfl,rfl,rfl⟩|⟨hr,rfl,rfl⟩
 all_goals simp[uz,RU,XK,VK,VU,Ld,bC,hlt,hte,encS,hf,e1,e2,w1,nV,hal,hl,hr1,hr2]
theorem aiN{t:List Stp}(ht:dL t){k:Nat}{s:Stp}(hk:t[k]?=some s){p:List Int}{i:Nat}{v:V}{o2:List (Nat×Nat×O)}{rows:List D}(hv:R15 v o2 rows){g:Nat}{l:List D}(H:List O)(w:Nat) :
  aj K 15 yT (uz t i v (RU k p (.sl (.slot 48 g) 2 (s.fr.length+1) 0 (s.fr.length+1)) (s.fr.length+1)) ((48,g,.vec 2 l false true)::o2) H w)=some (.exit 2,uz t i v (RU k p (.sl (.slot 48 g) 2 (s.fr.length+1) 0 (s.fr.length+1)) (s.fr.length+1)++[(29,.d (.bool false))]) ((48,g,.vec 2 l false true)::o2) H w):=by
 have hs:=ht.ok s (List.mem_of_getElem? hk);have hlt:k<t.length:=(gS.1 hk).1;have hte:t[k]=s:=(gS.1 hk).2;have hf:∀l,lenV (V.d (yR l))=some l.length:=fun l=>by cases l<;>simp[yR]
 have hf:=hf s.fr;simp only[lenV]at hf;have hn:¬((s.fr.length:Int)+1≤(s.fr.length:Int)):=by omega
 rcases hv with ⟨rfl,rfl,rfl⟩|⟨hr,rfl,rfl⟩
 all_goals simp[uz,RU,XK,VK,VU,Ld,bC,hlt,hte,encS,hf,hn]
theorem afH{t:List Stp}(ht:dL t)(h3:t.length≤3){k:Nat}{s:Stp}(hk:t[k]?=some s){p:List Int}(hi:jw p s.ss){i:Nat}{v:V}{o2:List (Nat×Nat×O)}{rows:List D}(hv:R15 v o2 rows)(H:List O){g:Nat} :
  ∀(m a:Nat),a+m=s.fr.length+1→1≤a→∀w,∃w',aj K 15 (.loop yT) (uz t i v (RU k p (.sl (.slot 48 g) 2 a 0 a) a) ((48,g,.vec 2 ((dQ s p).take a) false true)::o2) H w) =
   some (.exit 2,uz t i v (RU k p (.sl (.slot 48 g) 2 (s.fr.length+1) 0 (s.fr.length+1)) (s.fr.length+1)++[(29,.d (.bool false))]) ((48,g,.vec 2 (dQ s p) false true)::o2) H w'):=by
 intro m;have hlen:(dQ s p).length=s.fr.length+1:=by simp[dQ]
 induction m with
 |zero=>
  intro a h1 h2 w;obtain rfl:a=s.fr.length+1:=by omega
  refine⟨w,?_⟩;rw[af,aiN ht hk hv];rw[show(dQ s p).take (s.fr.length+1)=dQ s p by rw[←hlen,List.take_length]];rfl
 | succ m ih =>
  intro a h1 h2 w;obtain⟨c,hc⟩:∃c,acc s a=some c:=⟨_,List.getElem?_eq_getElem (by simp;omega)⟩
  obtain⟨w1,e1⟩:=afG ht h3 hk hi (i:=i) hv (g:=g) h2 hc (l:=(dQ s p).take a) (by rw[List.length_take,hlen];omega) H w;obtain⟨w2,e2⟩:=ih (a+1) (by omega) (by omega) w1;refine⟨w2,?_⟩;rw[af,e1];have ht':(dQ s p).take (a+1)=(dQ s p).take a++[nV c p]:=by rw[List.take_add_one];have:=X5 (p:=p) hc;rw[this];rfl
  rw[←ht'];exact e2
def kX(x:Nat×Stp×List Int):D:=.list 2 (dQ x.2.1 x.2.2)
theorem avu{t:List Stp}(ht:dL t)(h3:t.length≤3){k j:Nat}{s:Stp}(hk:t[k]?=some s){p:List Int}(hj:(aZ s.ss)[j]?=some p){v:V}{o o2:List (Nat×Nat×O)}{rows:List D}(hv:R15 v o2 rows)(ho:O15 o)(hr:rows.length≤100)(hlt:((base t k+j:Nat):Int)<gB t t.length)(H:List O)(w:Nat) :
  ∃v' o' o2' w',aj K 15 yU (uz t (base t k+j) v [] (o++o2) H w)=some (.normal,uz t (base t k+j+1) v' [] (o'++o2') H w')∧R15 v' o2' (rows++[kX (k,s,p)])∧O15 o':=by
 have hbd:=nI t t.length ht.ok;have hi:=gZ.1 (List.mem_of_getElem? hj);have e1:=s61 H ht h3;have e2:=s66 H ht h3 hk hj;obtain⟨g,w1,e3⟩:=ahg ht h3 hk hi (i:=base t k+j) hv ho H w;obtain⟨w2,e4⟩:=afH ht h3 hk hi (i:=base t k+j) hv H (g:=g) s.fr.length 1 (by omega) (Nat.le_refl _) w1;have e5:aj K 15 (.loop yT) (uz t (base t k+j) v (RU k p (.d .nils) 0) (o++o2) H w)=some (.exit 2,uz t (base t k+j) v (RU k p (.sl (.slot 48 g) 2 (s.fr.length+1) 0 (s.fr.length+1)) (s.fr.length+1)++[(29,.d (.bool false))]) ((48,g,.vec 2 (dQ s p) false true)::o2) H w2):=by rw[af,e3];exact e4
 generalize base t k+j=n at *;have w3:wr .i64 ((n:Int)+1)=(n:Int)+1:=wI;simp only[dw]at e1 e2;have hlen:(dQ s p).length=s.fr.length+1:=by simp[dQ]
 have htk:(dQ s p).take (s.fr.length+1)=dQ s p:=by rw[←hlen,List.take_length]
 have hr1:(rows.length+1)*24≤4294967296:=by omega
 have hr2:rows.length+1≤4294967296:=by omega
 simp only[uz,RU,List.cons_append,List.nil_append]at e5;have z0:((0:Nat):Int)=0:=rfl;simp only[z0]at e5;simp only[bC]at e5;rcases hv with ⟨rfl,rfl,rfl⟩|⟨hr0,rfl,rfl⟩<;>rcases ho with rfl|⟨g0,x0,rfl⟩<;>simp only[List.cons_append,List.nil_append,List.append_nil]at e5
 all_goals clear e3 e4
 ·have key:∃w',aj K 15 yU (uz t n (.d .nils) [] [] H w)=some (.normal,uz t (n+1) (.sl (.slot 52 0) 1 1 0 1) [] [(48,g,.vec 2 (dQ s p) true true),(52,0,.vec 1 [kX (k,s,p)] false true)] H w'):=by simp[uz,IJ,J5,yL,Rh,Ru,S9,Fg,yL,dw,bC,hlt,e1,e2,e5,w3,hlen,htk,kX]
  obtain⟨w',key⟩:=key;exact⟨_,[(48,g,_)],[(52,0,_)],w',key,.inr ⟨by simp,rfl,rfl⟩,.inr ⟨_,_,rfl⟩⟩
 ·have key:∃w',aj K 15 yU (uz t n (.d .nils) [] [(48,g0,x0)] H w)=some (.normal,uz t (n+1) (.sl (.slot 52 0) 1 1 0 1) [] [(48,g,.vec 2 (dQ s p) true true),(52,0,.vec 1 [kX (k,s,p)] false true)] H w'):=by simp[uz,IJ,J5,yL,Rh,Ru,S9,Fg,yL,dw,bC,hlt,e1,e2,e5,w3,hlen,htk,kX]
  obtain⟨w',key⟩:=key;exact⟨_,[(48,g,_)],[(52,0,_)],w',key,.inr ⟨by simp,rfl,rfl⟩,.inr ⟨_,_,rfl⟩⟩
 ·have key:∃w',aj K 15 yU (uz t n (.sl (.slot 52 0) 1 rows.length 0 rows.length) [] [(52,0,.vec 1 rows false true)] H w)=some (.normal,uz t (n+1) (.sl (.slot 52 0) 1 (rows.length+1) 0 (rows.length+1)) [] [(48,g,.vec 2 (dQ s p) true true),(52,0,.vec 1 (rows++[kX (k,s,p)]) false true)] H w'):=by simp[uz,IJ,J5,yL,Rh,Ru,S9,Fg,yL,dw,bC,hlt,e1,e2,e5,w3,hlen,htk,kX,hr1,hr2]
  obtain⟨w',key⟩:=key;exact⟨_,[(48,g,_)],[(52,0,_)],w',key,.inr ⟨by simp,by simp,rfl⟩,.inr ⟨_,_,rfl⟩⟩
 ·have key:∃w',aj K 15 yU (uz t n (.sl (.slot 52 0) 1 rows.length 0 rows.length) [] [(48,g0,x0),(52,0,.vec 1 rows false true)] H w)=some (.normal,uz t (n+1) (.sl (.slot 52 0) 1 (rows.length+1) 0 (rows.length+1)) [] [(48,g,.vec 2 (dQ s p) true true),(52,0,.vec 1 (rows++[kX (k,s,p)]) false true)] H w'):=by simp[uz,IJ,J5,yL,Rh,Ru,S9,Fg,yL,dw,bC,hlt,e1,e2,e5,w3,hlen,htk,kX,hr1,hr2]
  obtain⟨w',key⟩:=key;exact⟨_,[(48,g,_)],[(52,0,_)],w',key,.inr ⟨by simp,by simp,rfl⟩,.inr ⟨_,_,rfl⟩⟩
theorem aut{t:List Stp}(ht:dL t)(h3:t.length≤3)(H:List O):∀(m i:Nat),i+m=(allI 0 t).length→∀(v:V) (o o2:List (Nat×Nat×O)) (w:Nat),R15 v o2 (((allI 0 t).take i).map kX)→O15 o→
  ∃v' o' o2' w',aj K 15 (.loop yU) (uz t i v [] (o++o2) H w)=some (.exit 0,uz t (allI 0 t).length v' [(12,.d (.bool false))] (o'++o2') H w')∧R15 v' o2' ((allI 0 t).map kX)∧O15 o':=by
 have htot:gB t t.length=((allI 0 t).length:Int):=by rw[wK t t.length ht.ok,uK]
 have e1:=s61 H ht h3;simp only[dw]at e1;have hn:=AQ ht h3;intro m;induction m with
 |zero=>
  intro i hi v o o2 w hv ho;obtain rfl:i=(allI 0 t).length:=by omega
  refine⟨v,o,o2,w,?_,by rwa[List.take_length]at hv,ho⟩;rw[af];rcases hv with ⟨hr,rfl,rfl⟩|⟨hr,rfl,rfl⟩<;>rcases ho with rfl|⟨g,x,rfl⟩<;>simp[uz,IJ,J5,dw,bC,e1,htot]
 | succ m ih =>
  intro i hi v o o2 w hv ho;have hlt:i<base t t.length:=by rw[←uK (m:=0)];omega
  obtain⟨k,s,j,p,h1,h2,rfl⟩:=aa4 hlt;have hx:=abg (m:=0) h1 h2;obtain⟨v1,o1,o3,w1,e2,hv1,ho1⟩:=avu ht h3 h1 h2 hv ho (by simp;omega) (by rw[htot];omega) H w;have htk:((allI 0 t).take (base t k+j+1)).map kX=((allI 0 t).take (base t k+j)).map kX++[kX (k,s,p)]:=by rw[List.take_add_one,hx];simp
  rw[←htk]at hv1;obtain⟨v2,o4,o5,w2,e3,hv2,ho2⟩:=ih (base t k+j+1) (by omega) v1 o1 o3 w1 hv1 ho1;exact⟨v2,o4,o5,w2,by rw[af,e2];exact e3,hv2,ho2⟩
def OW(t:List Stp):D:=.list 1 ((allI 0 t).map kX)
theorem acG{t:List Stp}(ht:dL t):allI 0 t≠[]:=by
 obtain⟨x,r,rfl⟩:∃x r,t=x::r:=by
  cases t with
  |nil=>exact absurd ht.pos (by simp)|cons x r=>exact⟨x,r,rfl⟩
 intro h;have hx:=(ht.ok x (by simp)).sz;have:=Jk (fun s hs=>(hx.within s hs).1);simp[allI]at h;exact this h.1
theorem s15(hp:List O){t:List Stp}(ht:dL t)(h3:t.length≤3):∃w,ah K (.fn (.func 15) [] []) [.d (dw t)] none hp=some (.ret (.d (OW t)),false,hp,w):=by
 obtain⟨v,o,o2,w,e1,hv,ho⟩:=aut ht h3 hp (allI 0 t).length 0 (by omega) (.d .nils) [] [] 0 (.inl ⟨by simp,rfl,rfl⟩) (.inl rfl);have hne:=acG ht;rcases hv with ⟨hr,_,_⟩|⟨hr,rfl,rfl⟩
 ·simp at hr;exact absurd hr hne
 ·have z0:((0:Nat):Int)=0:=rfl;have e:=k15 [] [] [.d (dw t)] none hp;have htk:((allI 0 t).map kX).take (allI 0 t).length=(allI 0 t).map kX:=by rw[←List.length_map (f:=kX),List.take_length]
  rcases ho with rfl|⟨g,x,rfl⟩<;>simp only[uz,List.cons_append,List.nil_append,z0,bC]at e1<;>simp[c15,ao9,anJ,anH,ae5,dw,e1,htk]at e
  ·exact⟨_,by simpa[dw,OW]using e⟩
  ·exact⟨_,by simpa[dw,OW]using e⟩
def jr:List Int→List Int→List Int
 |a::p,b::q=>(b-a)::jr p q|_,_=>[]
def R71(v:V)(o:List (Nat×Nat×O))(ls:List Int):Prop:=
 (ls=[]∧v=.d .nils∧o=[])∨(ls≠[]∧∃g,v=.sl (.slot 46 g) 1 ls.length 0 ls.length∧o=[(46,g,.vec 1 (ints ls) false true)])
theorem Ep:∀(p q:List Int) (i:Nat) (a b:Int),p[i]?=some a→q[i]?=some b→(jr p q).take (i+1)=(jr p q).take i++[b-a]
 |x::p,y::q,0,a,b,h1,h2=>by simp at h1 h2;subst h1;subst h2;simp[jr]|x::p,y::q,i+1,a,b,h1,h2=>by simp at h1 h2;simp[jr,Ep p q i a b h1 h2]|[],_,_,_,_,h1,_=>by simp at h1|_::_,[],_,_,_,_,h2=>by simp at h2
theorem atP{p ss:List Int}(hs:eX ss)(h:jw p ss):p.length=ss.length∧∀a∈p,0≤a∧a≤1000:=by
 have hw:=hs.within;clear hs;induction h with
 |nil=>exact⟨rfl,by simp⟩| @cons i a q r h0 h1 h ih=>
  obtain⟨e1,e2⟩:=ih (fun s hs=>hw s (List.mem_cons_of_mem _ hs));have:=hw a (by simp);refine⟨by simp[e1],?_⟩;intro z hz;rcases List.mem_cons.1 hz with rfl|hz
  ·omega
  ·exact e2 z hz
theorem s69(T s u kd:Nat)(H:List O):∃w,ah K (.fn (.func 69) [] []) [.ptr (.heap T) 0,.d (.int .i64 s),.d (.int .i64 u),.d (.int .i64 kd)] none H =
  some (.ret (.fn (.func 138) [] [.ptr (.heap H.length) 0,.ptr (.heap (H.length+2)) 0,.ptr (.heap (H.length+3)) 0,.ptr (.heap (H.length+1)) 0]),false,
   H++[.cells [.ptr (.heap T) 0] false,.cells [.d (.int .i64 s)] false,.cells [.d (.int .i64 u)] false,.cells [.d (.int .i64 kd)] false],w):=by
 have e:=k69 [] [] [.ptr (.heap T) 0,.d (.int .i64 s),.d (.int .i64 u),.d (.int .i64 kd)] none H;simp[c69,anV,amT]at e;exact⟨_,e⟩
theorem aoe{t:List Stp}(ht:dL t)(h3:t.length≤3)(hp:List O){s u kd:Nat}(hs:s<t.length)(hu:u<t.length)(hkd:kd=1∨kd=2∨kd=3) :
  ∃H' w T L,ah K (.fn (.func 76) [] []) [.d (dw t),.d (.int .i64 s),.d (.int .i64 u),.d (.int .i64 kd)] none hp=some (.ret (.tuple [.ptr (.heap T) 0,.d (.int .i64 0)]),false,H',w)∧
   H'[T]?=some (.cells [.d (.list 2 ax),.d (bC t),.sl (.heap L) 4 (encI 0 (allI 0 t)).length 0 (encI 0 (allI 0 t)).length] false)∧H'[L]?=some (.vec 4 (encI 0 (allI 0 t)) false true)∧hp.length≤T∧hp.length≤H'.length∧∀i,i<hp.length→H'[i]?=hp[i]?:=by
 obtain⟨H0,w0,T,e1,hTp,hL,hK⟩:=s64 ht h3 hp;obtain⟨L,hT1,hL1⟩:=Open.list ⟨hL⟩ ht;have a1:=s68 H0 T hT1 hs h3;have a2:=s68 H0 T hT1 hu h3;have a3:=s97 H0 kd 1 3;have hk:(1:Int)≤kd∧(kd:Int)≤3:=by omega
 rw[decide_eq_true hk]at a3;have e:=k76 [] [] [.d (dw t),.d (.int .i64 s),.d (.int .i64 u),.d (.int .i64 kd)] none hp
 suffices h:∃w,ah K (.fn (.func 76) [] []) [.d (dw t),.d (.int .i64 s),.d (.int .i64 u),.d (.int .i64 kd)] none hp=some (.ret (.tuple [.ptr (.heap T) 0,.d (.int .i64 0)]),false,H0,w) by
  obtain⟨w,h⟩:=h;refine⟨H0,w,T,L,h,hT1,hL1,hTp,?_,fun i hi=>?_⟩
  ·have:=(gS.1 hT1).1;omega
  ·have h1:=List.getElem?_eq_getElem hi;rw[h1];exact hK i _ h1 (by omega) (.inl hi)
 simp only[dw]at e e1 ⊢;simp[c76,ajU,apr,al0,akY,apA,ajS,e1,a1,a2,a3]at e;exact⟨_,e⟩
theorem s76{t:List Stp}(ht:dL t)(h3:t.length≤3)(hp:List O){s u kd:Nat}(hs:s<t.length)(hu:u<t.length)(hkd:kd=1∨kd=2∨kd=3) :
  ∃H' w T L,ah K (.fn (.func 76) [] []) [.d (dw t),.d (.int .i64 s),.d (.int .i64 u),.d (.int .i64 kd)] none hp=some (.ret (.tuple [.ptr (.heap T) 0,.d (.int .i64 0)]),false,H',w)∧
   H'[T]?=some (.cells [.d (.list 2 ax),.d (bC t),.sl (.heap L) 4 (encI 0 (allI 0 t)).length 0 (encI 0 (allI 0 t)).length] false)∧H'[L]?=some (.vec 4 (encI 0 (allI 0 t)) false true)∧hp.length≤T:=by
 obtain⟨H',w,T,L,h1,h2,h3,h4,_⟩:=aoe ht h3 hp hs hu hkd;exact⟨H',w,T,L,h1,h2,h3,h4⟩
end Mw
