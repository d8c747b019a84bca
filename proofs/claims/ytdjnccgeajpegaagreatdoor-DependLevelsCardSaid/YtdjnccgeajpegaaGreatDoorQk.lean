/- DependLevels answers true for every list of numbers: its tied card holds; no condition beyond the card's own. -/
import Derived.Test.YtdjnccgeajpegaaGreatDoorXc
import Derived.Test.YtdjnccgeajpegaaGreatDoorKc
import Derived.Test.YtdjnccgeajpegaaGreatDoorQg
import Derived.Test.YtdjnccgeajpegaaGreatDoorQf
import Derived.Test.YtdjnccgeajpegaaGreatDoorQh
import Derived.Test.YtdjnccgeajpegaaGreatDoorXa
set_option linter.unusedVariables false
set_option linter.unusedSimpArgs false
set_option maxRecDepth 10000
set_option maxHeartbeats 4000000
namespace Mw
open Go Go.Proofs
theorem cSz (ss:List Int):D.isCell (szD ss)=true:=by cases ss<;>rfl
theorem cFr (l:List (Nat × List (Int × List Int))):D.isCell (frD l)=true:=by cases l<;>rfl
theorem cArgs {s:Stp} (h:StpOk s):D.isCell s.args=true:=by
 obtain ⟨o,p,q,m,z,a,h1,h2⟩:=h.body.form
 simp only [Stp.body,exD,D.agg.injEq,List.cons.injEq] at h1
 obtain ⟨_,_,_,_,_,rfl,_⟩:=h1
 rcases h2 with h2 | ⟨l,h2⟩<;>rw [h2]<;>rfl
theorem w53_0 {S A F G:D} {t o z:Int} {p q m:ByteArray} (hS:D.isCell S=true) (hA:D.isCell A=true) (hF:D.isCell F=true) (hG:D.isCell G=true) (hp:List O) :
  callL K (.fn (.func 53) [] []) [.d (.agg [S,.int .i64 t,A,F,.int .i64 o,.str p,.str q,.str m,.int .i64 z,G]),.d (.int .i64 0)] none hp=some (.ret (.d (.agg [.int .i64 t,A])),false,hp,0):=by
 rw [k53]
 simp only [D.isCell] at hS hA hF hG
 simp [c53,x53_0,x53_1,x53_2,x53_3,hS,hA,hF,hG]
theorem w53_1 {S A G B:D} {es:List D} {a:Nat} {t o z k:Int} {p q m:ByteArray} (hS:D.isCell S=true) (hA:D.isCell A=true) (hG:D.isCell G=true) (hB:D.isCell B=true) (hp:List O) (h:es[a]?=some (.agg [.int .i64 k,B])) (hl:es.length≤1000) :
  callL K (.fn (.func 53) [] []) [.d (.agg [S,.int .i64 t,A,.list 2 es,.int .i64 o,.str p,.str q,.str m,.int .i64 z,G]),.d (.int .i64 ((a+1:Nat):Int))] none hp=some (.ret (.d (.agg [.int .i64 k,B])),false,hp,0):=by
 have hal:=(gS.1 h).1
 have hae:=(gS.1 h).2
 have hn:¬ ((a:Int)+1=0):=by omega
 have hw:wr .i64 (a:Int)=a:=wrap_id (by omega) (by omega)
 rw [k53]
 simp only [D.isCell] at hS hA hG hB
 simp [c53,x53_0,x53_1,x53_2,x53_3,hS,hA,hG,hB,hn,hw,hal,hae]
theorem s53 (hp:List O) {a:Nat} {x:Stp} {c:Nat × List (Int × List Int)} (hx:StpOk x) (ha:acc x a=some c):callL K (.fn (.func 53) [] []) [.d (encS x),.d (.int .i64 a)] none hp=some (.ret (.d (encC c.1 c.2)),false,hp,0):=by
 cases a with
 | zero =>
  simp only [acc,List.getElem?_cons_zero,Option.some.injEq] at ha
  subst ha
  exact w53_0 (cSz _) (cAtD _) (cFr _) (cArgs hx) hp
 | succ a =>
  simp only [acc,List.getElem?_cons_succ] at ha
  have hal:a < x.fr.length:=(gS.1 ha).1
  have hf:frD x.fr=.list 2 (x.fr.map fun c=>encC c.1 c.2):=by
   cases h:x.fr with
   | nil=>rw [h] at hal; simp at hal
   | cons _ _=>rfl
  have hfew:=hx.few
  simp only [encS]
  rw [hf]
  exact w53_1 (cSz _) (cAtD _) (cArgs hx) (cAtD _) hp (by rw [List.getElem?_map,ha]; rfl) (by simp; omega)
theorem s127 (hp:List O) {ss:List Int} (h:SzOk ss):callL K (.fn (.func 127) [] []) [.d (szD ss)] none hp=some (.ret (.d (.int .i64 (prodI ss))),false,hp,0):=by
 rw [k127]
 match ss,h with
 | [],_=>simp [c127,x127_0,x127_1,x127_2,x127_3,x127_4,x127_5,x127_6,execL_loop,u127_0,szD,prodI]
 | [a],h =>
  have ha:=h.within a (by simp)
  have hw:wr .i64 a=a:=wrap_id (by omega) (by omega)
  simp [c127,x127_0,x127_1,x127_2,x127_3,x127_4,x127_5,x127_6,execL_loop,u127_0,szD,prodI,hw1,hw]
 | [a,b],h =>
  have ha:=h.within a (by simp)
  have hb:=prodI_bound h
  simp only [prodI,Int.mul_one] at hb
  have hw:wr .i64 a=a:=wrap_id (by omega) (by omega)
  have hw3:wr .i64 (a * b)=a * b:=wrap_id (by omega) (by omega)
  simp [c127,x127_0,x127_1,x127_2,x127_3,x127_4,x127_5,x127_6,execL_loop,u127_0,szD,prodI,hw1,hw2,hw,hw3]
 | _ :: _ :: _ :: _,h=>have:=h.few; simp at this
def baseI:List Stp→Nat→Int
 | x :: r,k+1=>prodI x.ss+baseI r k
 | _,_=>0
theorem baseI_bound:∀ (t:List Stp) (k:Nat),(∀ s∈t,StpOk s)→0≤baseI t k∧baseI t k≤16 * t.length
 | [],k,_=>by simp [baseI]
 | x :: r,0,_=>by simp only [baseI,List.length_cons]; omega
 | x :: r,k+1,h=>by
  have h1:=prodI_bound (h x (by simp)).sz
  have h2:=baseI_bound r k (fun s hs=>h s (by simp [hs]))
  simp only [baseI,List.length_cons]; omega
theorem s83 (hp:List O) {t:List Stp} (ht:TaskOk t) (h3:t.length≤3) {k:Nat} (hk:k≤t.length):callL K (.fn (.func 83) [] []) [.d (encT t),.d (.int .i64 k)] none hp=some (.ret (.d (.int .i64 (baseI t k))),false,hp,0):=by
 rw [k83]
 match t,ht,h3,k,hk with
 | [],ht,_,_,_=>exact absurd ht.pos (by simp)
 | x :: r,_,_,0,_=>simp [c83,x83_0,x83_1,x83_2,x83_3,x83_4,x83_5,x83_6,execL_loop,u83_0,encT,baseI]
 | x :: r,ht,_,1,_ =>
  have e1:=s127 hp (ht.ok x (by simp)).sz
  have b1:=prodI_bound (ht.ok x (by simp)).sz
  have v1:wr .i64 (prodI x.ss)=prodI x.ss:=wrap_id (by omega) (by omega)
  simp [c83,x83_0,x83_1,x83_2,x83_3,x83_4,x83_5,x83_6,execL_loop,u83_0,encT,baseI,encS,e1,w1,v1]
 | x :: y :: r,ht,_,2,_ =>
  have e1:=s127 hp (ht.ok x (by simp)).sz
  have b1:=prodI_bound (ht.ok x (by simp)).sz
  have e2:=s127 hp (ht.ok y (by simp)).sz
  have b2:=prodI_bound (ht.ok y (by simp)).sz
  have v1:wr .i64 (prodI x.ss)=prodI x.ss:=wrap_id (by omega) (by omega)
  have v2:wr .i64 (prodI x.ss+prodI y.ss)=prodI x.ss+prodI y.ss:=wrap_id (by omega) (by omega)
  simp [c83,x83_0,x83_1,x83_2,x83_3,x83_4,x83_5,x83_6,execL_loop,u83_0,encT,baseI,encS,e1,e2,w1,w2,v1,v2]
 | x :: y :: z :: r,ht,_,3,_ =>
  have e1:=s127 hp (ht.ok x (by simp)).sz
  have b1:=prodI_bound (ht.ok x (by simp)).sz
  have e2:=s127 hp (ht.ok y (by simp)).sz
  have b2:=prodI_bound (ht.ok y (by simp)).sz
  have e3:=s127 hp (ht.ok z (by simp)).sz
  have b3:=prodI_bound (ht.ok z (by simp)).sz
  have v1:wr .i64 (prodI x.ss)=prodI x.ss:=wrap_id (by omega) (by omega)
  have v2:wr .i64 (prodI x.ss+prodI y.ss)=prodI x.ss+prodI y.ss:=wrap_id (by omega) (by omega)
  have v3:wr .i64 (prodI x.ss+prodI y.ss+prodI z.ss)=prodI x.ss+prodI y.ss+prodI z.ss:=wrap_id (by omega) (by omega)
  simp [c83,x83_0,x83_1,x83_2,x83_3,x83_4,x83_5,x83_6,execL_loop,u83_0,encT,baseI,encS,e1,e2,e3,w1,w2,w3,v1,v2,v3]
  omega
 | [x],_,_,k+2,hk=>simp at hk
 | [x,y],_,_,k+3,hk=>simp at hk
 | [x,y,z],_,_,k+4,hk=>simp at hk
 | _ :: _ :: _ :: _ :: _,_,h3,_,_=>simp at h3
theorem s61 (hp:List O) {t:List Stp} (ht:TaskOk t) (h3:t.length≤3):callL K (.fn (.func 61) [] []) [.d (encT t)] none hp=some (.ret (.d (.int .i64 (baseI t t.length))),false,hp,0):=by
 have e:=s83 hp ht h3 (Nat.le_refl t.length)
 simp only [encT] at e
 rw [k61]
 simp [c61,x61_0,x61_1,encT,e]
theorem valA_add (e:Int):∀ (cs is:List Int) (c:Int),valA (e+c) cs is=e+valA c cs is
 | [],is,c=>by cases is<;>rfl
 | x :: xs,[],c=>rfl
 | x :: xs,i :: is,c=>by
  simp only [valA]
  rw [Int.add_assoc,valA_add e xs is]
def valT:Int→List (Int × Int)→List Int→Int
 | c,z :: r,k :: ks=>valT (c+z.1 * k) r ks
 | c,_,_=>c
inductive Fits:List (Int × Int)→List Int→Prop
 | nil:Fits [] []
 | cons {b m k:Int} {l:List (Int × Int)} {ks:List Int} (hb:b=0∨b=1∨b=-1) (h0:0≤k) (h1:k≤m) (h:Fits l ks):Fits ((b,m) :: l) (k :: ks)
theorem Fits.app {l l':List (Int × Int)} {ks ks':List Int} (h:Fits l ks) (h':Fits l' ks'):Fits (l++l') (ks++ks'):=by
 induction h with
 | nil=>exact h'
 | cons hb h0 h1 _ ih=>exact .cons hb h0 h1 ih
def base (t:List Stp) (k:Nat):Nat:=((t.take k).map fun s=>(allAt s.ss).length).sum
theorem allI_at {t:List Stp}:∀ {m k j:Nat} {s:Stp} {p:List Int},t[k]?=some s→(allAt s.ss)[j]?=some p→(allI m t)[base t k+j]?=some (m+k,s,p):=by
 induction t with
 | nil=>intro m k j s p h; simp at h
 | cons x r ih =>
  intro m k j s p h1 h2
  cases k with
  | zero =>
   simp only [List.getElem?_cons_zero,Option.some.injEq] at h1; subst h1
   have hj:=(gS.1 h2).1
   simp only [allI,base,List.take_zero,List.map_nil,List.sum_nil,Nat.zero_add]
   rw [List.getElem?_append_left (by simpa using hj),List.getElem?_map,h2]
   rfl
  | succ k =>
   simp only [List.getElem?_cons_succ] at h1
   have:=ih (m:=m+1) h1 h2
   simp only [allI,base,List.take_succ_cons,List.map_cons,List.sum_cons]
   rw [List.getElem?_append_right (by simp; omega)]
   simp only [List.length_map]
   rw [show (allAt x.ss).length+(List.map (fun s=>(allAt s.ss).length) (List.take k r)).sum+j - (allAt x.ss).length=base r k+j by simp only [base]; omega,this]
   rw [show m+1+k=m+(k+1) by omega]
theorem allI_total {t:List Stp} {m:Nat}:(allI m t).length=base t t.length:=by
 induction t generalizing m with
 | nil=>rfl
 | cons x r ih =>
  simp only [allI,List.length_append,List.length_map,ih,base,List.length_cons,List.take_succ_cons,List.map_cons,List.sum_cons]
theorem at_base {t:List Stp} {n:Nat} (h:n < base t t.length):∃ k s j p,t[k]?=some s∧(allAt s.ss)[j]?=some p∧n=base t k+j:=by
 induction t generalizing n with
 | nil=>simp [base] at h
 | cons x r ih =>
  by_cases hn:n < (allAt x.ss).length
  ·exact ⟨0,x,n,_,rfl,List.getElem?_eq_getElem hn,by simp [base]⟩
  ·have:n - (allAt x.ss).length < base r r.length:=by
    simp only [base,List.length_cons,List.take_succ_cons,List.map_cons,List.sum_cons] at h ⊢
    omega
   obtain ⟨k,s,j,p,h1,h2,h3⟩:=ih this
   refine ⟨k+1,s,j,p,h1,h2,?_⟩
   simp only [base,List.take_succ_cons,List.map_cons,List.sum_cons] at h3 ⊢
   omega
def numAt:List Int→List Int→Int
 | [_],[i]=>i
 | [_,b],[i,j]=>i * b+j
 | _,_=>0
def atNum:List Int→Int→List Int
 | [a],n=>[n]
 | [a,b],n=>[n / b,n % b]
 | _,_=>[]
def prodS:List Int→Int
 | []=>1
 | [a]=>a
 | a :: b :: _=>a * b
theorem allAt1 (a:Int):allAt [a]=(List.range a.toNat).map fun i=>[Int.ofNat i]:=by
 simp [allAt,List.flatMap]
 induction List.range a.toNat with
 | nil=>rfl
 | cons x r ih=>simp [ih]
theorem flat_at {α β:Type} (f:α→List β) (L:Nat):∀ (l:List α),(∀ a∈l,(f a).length=L)→∀ (i j:Nat) (a:α),l[i]?=some a→j < L→(l.flatMap f)[i * L+j]?=(f a)[j]?
 | [],_,i,j,a,h,_=>by simp at h
 | x :: r,hl,0,j,a,h,hj=>by
  simp only [List.getElem?_cons_zero,Option.some.injEq] at h; subst h
  rw [List.flatMap_cons,Nat.zero_mul,Nat.zero_add,List.getElem?_append_left (by rw [hl _ (by simp)]; exact hj)]
 | x :: r,hl,i+1,j,a,h,hj=>by
  have h1:=hl x (by simp)
  rw [List.flatMap_cons,List.getElem?_append_right (by rw [h1,Nat.add_mul]; omega),h1,show (i+1) * L+j - L=i * L+j by rw [Nat.add_mul]; omega]
  exact flat_at f L r (fun a ha=>hl a (by simp [ha])) i j a (by simpa using h) hj
theorem flat_len {α β:Type} (f:α→List β) (L:Nat):∀ (l:List α),(∀ a∈l,(f a).length=L)→(l.flatMap f).length=l.length * L
 | [],_=>by simp
 | x :: r,hl=>by
  rw [List.flatMap_cons,List.length_append,hl x (by simp),flat_len f L r (fun a ha=>hl a (by simp [ha])),List.length_cons,Nat.add_mul]; omega
theorem allAt_prod {ss:List Int} (h:SzOk ss):((allAt ss).length:Int)=prodS ss:=by
 have hf:=h.few
 match ss,hf with
 | [],_=>rfl
 | [a],_ =>
  have:=h.within a (by simp)
  rw [allAt1]; simp [prodS]; omega
 | [a,b],_ =>
  have h1:=h.within a (by simp)
  have h2:=h.within b (by simp)
  obtain ⟨a,rfl⟩:∃ n:Nat,a=n:=⟨a.toNat,by omega⟩
  obtain ⟨b,rfl⟩:∃ n:Nat,b=n:=⟨b.toNat,by omega⟩
  rw [show allAt [(a:Int),(b:Int)]=(List.range a).flatMap fun i=>(allAt [(b:Int)]).map (Int.ofNat i :: ·) from rfl,flat_len _ b _ (fun i hi=>by rw [List.length_map,allAt1]; simp)]
  simp [prodS]
 | _ :: _ :: _ :: _,hf=>simp at hf
theorem allAt_at {ss p:List Int} (h:SzOk ss) (hp:AtOk p ss):(allAt ss)[(numAt ss p).toNat]?=some p∧0≤numAt ss p:=by
 have hf:=h.few
 match ss,hf,hp with
 | [],_,hp=>cases hp; exact ⟨rfl,by simp [numAt]⟩
 | [a],_,.cons (i:=i) h0 h1 .nil =>
  refine ⟨?_,h0⟩
  obtain ⟨i,rfl⟩:∃ n:Nat,i=n:=⟨i.toNat,by omega⟩
  rw [allAt1]; simp only [numAt,Int.toNat_natCast,List.getElem?_map]
  rw [List.getElem?_range (by omega)]; rfl
 | [a,b],_,.cons (i:=i) h0 h1 (.cons (i:=j) h2 h3 .nil) =>
  obtain ⟨i,rfl⟩:∃ n:Nat,i=n:=⟨i.toNat,by omega⟩
  obtain ⟨j,rfl⟩:∃ n:Nat,j=n:=⟨j.toNat,by omega⟩
  obtain ⟨a,rfl⟩:∃ n:Nat,a=n:=⟨a.toNat,by omega⟩
  obtain ⟨b,rfl⟩:∃ n:Nat,b=n:=⟨b.toNat,by omega⟩
  have e:numAt [(a:Int),(b:Int)] [(i:Int),(j:Int)]=((i * b+j:Nat):Int):=by simp [numAt]
  rw [e,Int.toNat_natCast,show allAt [(a:Int),(b:Int)]=(List.range a).flatMap fun i=>(allAt [(b:Int)]).map (Int.ofNat i :: ·) from rfl]
  refine ⟨?_,by omega⟩
  rw [flat_at _ b _ (fun i hi=>by rw [List.length_map,allAt1]; simp) i j i (List.getElem?_range (by omega)) (by omega),allAt1,List.getElem?_map,List.getElem?_map]
  rw [show ((b:Int)).toNat=b from Int.toNat_natCast b,List.getElem?_range (by omega)]
  rfl
 | _ :: _ :: _ :: _,hf,_=>simp at hf
theorem atNum_ok {ss p:List Int} {j:Nat} (h:SzOk ss) (hj:(allAt ss)[j]?=some p):atNum ss j=p∧AtOk p ss∧(j:Int)=numAt ss p∧(j:Int) < prodS ss:=by
 have hmem:=mem_allAt.1 (List.mem_of_getElem? hj)
 have hlen:=allAt_prod h
 have hlt:=(gS.1 hj).1
 have hf:=h.few
 refine ⟨?_,hmem,?_,by omega⟩
 ·match ss,hf,hmem with
  | [],_,hp=>cases hp; rfl
  | [a],_,.cons (i:=i) h0 h1 .nil =>
   rw [allAt1,List.getElem?_map] at hj
   rw [allAt1] at hlt
   simp only [List.length_map,List.length_range] at hlt
   rw [List.getElem?_range hlt] at hj
   simp at hj
   simp [atNum,hj]
  | [a,b],_,.cons (i:=i) h0 h1 (.cons (i:=k) h2 h3 .nil) =>
   have hb:=h.within b (by simp)
   have ha:=h.within a (by simp)
   obtain ⟨a,rfl⟩:∃ n:Nat,a=n:=⟨a.toNat,by omega⟩
   obtain ⟨b,rfl⟩:∃ n:Nat,b=n:=⟨b.toNat,by omega⟩
   have hdm:j=(j / b) * b+j % b:=by rw [Nat.mul_comm]; exact (Nat.div_add_mod j b).symm
   have hm:j % b < b:=Nat.mod_lt _ (by omega)
   have hL:(allAt [(a:Int),(b:Int)]).length=a * b:=by
    rw [show allAt [(a:Int),(b:Int)]=(List.range a).flatMap fun i=>(allAt [(b:Int)]).map (Int.ofNat i :: ·) from rfl,flat_len _ b _ (fun i hi=>by rw [List.length_map,allAt1]; simp)]
    simp
   have hq:j / b < a:=Nat.div_lt_of_lt_mul (by rw [Nat.mul_comm]; omega)
   rw [show allAt [(a:Int),(b:Int)]=(List.range a).flatMap fun i=>(allAt [(b:Int)]).map (Int.ofNat i :: ·) from rfl,hdm,
    flat_at _ b _ (fun i hi=>by rw [List.length_map,allAt1]; simp) (j / b) (j % b) (j / b) (List.getElem?_range hq) hm,allAt1,List.getElem?_map,List.getElem?_map,
    show ((b:Int)).toNat=b from Int.toNat_natCast b,List.getElem?_range hm] at hj
   simp at hj
   simp [atNum]
   exact ⟨hj.1,hj.2⟩
  | _ :: _ :: _ :: _,hf,_=>simp at hf
 ·have h1:=allAt_at h hmem
  have hnd:(numAt ss p).toNat=j:=by
   have h2:=h1.1
   -- both numbers lead to p
   match ss,hf,hmem with
   | [],_,hp =>
    simp [allAt] at hlt
    simp [numAt,hlt]
   | [a],_,.cons (i:=i) h0 h3 .nil =>
    rw [allAt1,List.getElem?_map] at hj
    rw [allAt1] at hlt
    simp only [List.length_map,List.length_range] at hlt
    rw [List.getElem?_range hlt] at hj
    simp at hj
    simp [numAt]; omega
   | [a,b],_,.cons (i:=i) h0 h3 (.cons (i:=k) h4 h5 .nil) =>
    have hb:=h.within b (by simp)
    have ha:=h.within a (by simp)
    obtain ⟨a,rfl⟩:∃ n:Nat,a=n:=⟨a.toNat,by omega⟩
    obtain ⟨b,rfl⟩:∃ n:Nat,b=n:=⟨b.toNat,by omega⟩
    have hdm:j=(j / b) * b+j % b:=by rw [Nat.mul_comm]; exact (Nat.div_add_mod j b).symm
    have hm:j % b < b:=Nat.mod_lt _ (by omega)
    have hL:(allAt [(a:Int),(b:Int)]).length=a * b:=by
     rw [show allAt [(a:Int),(b:Int)]=(List.range a).flatMap fun i=>(allAt [(b:Int)]).map (Int.ofNat i :: ·) from rfl,flat_len _ b _ (fun i hi=>by rw [List.length_map,allAt1]; simp)]
     simp
    have hq:j / b < a:=Nat.div_lt_of_lt_mul (by rw [Nat.mul_comm]; omega)
    have hj2:=hj
    rw [show allAt [(a:Int),(b:Int)]=(List.range a).flatMap fun i=>(allAt [(b:Int)]).map (Int.ofNat i :: ·) from rfl,hdm,
     flat_at _ b _ (fun i hi=>by rw [List.length_map,allAt1]; simp) (j / b) (j % b) (j / b) (List.getElem?_range hq) hm,allAt1,List.getElem?_map,List.getElem?_map,
     show ((b:Int)).toNat=b from Int.toNat_natCast b,List.getElem?_range hm] at hj2
    simp at hj2
    obtain ⟨e1,e2⟩:=hj2
    have:numAt [(a:Int),(b:Int)] [i,k]=((j / b * b+j % b:Nat):Int):=by simp [numAt,← e1,← e2]
    rw [this,← hdm]; simp
   | _ :: _ :: _ :: _,hf,_=>simp at hf
  omega
theorem AffOk.bd {c:Int} {cs ss:List Int} {z:Int} (h:AffOk c cs ss z):0≤c∧c≤z - 1:=by
 have h1:=h.lo
 have h2:=h.hi
 have h3:=loA_nonpos cs ss
 have h4:=hiA_nonneg cs ss
 omega
theorem bi_rem {a b:Int} (h:b≠0):binInt .rem .i64 a b=some (.int .i64 (a.tmod b)):=by
 have:(b == 0)=false:=by simpa using h
 simp only [binInt,this,cond_false]
theorem bi_quo {a b:Int} (h:b≠0):binInt .quo .i64 a b=some (.int .i64 (wr .i64 (a.tdiv b))):=by
 have:(b == 0)=false:=by simpa using h
 simp only [binInt,this,cond_false,wr_eq]
theorem prodI_eq {ss:List Int} (h:SzOk ss):prodI ss=prodS ss:=by
 match ss,h.few with
 | [],_=>rfl
 | [a],_=>simp [prodI,prodS]
 | [a,b],_=>simp [prodI,prodS]
 | _ :: _ :: _ :: _,hf=>simp at hf
theorem baseI_eq:∀ (t:List Stp) (k:Nat),(∀ s∈t,StpOk s)→baseI t k=(base t k:Int)
 | [],k,_=>by cases k<;>rfl
 | x :: r,0,_=>rfl
 | x :: r,k+1,h=>by
  have h1:=allAt_prod (h x (by simp)).sz
  have h2:=baseI_eq r k (fun s hs=>h s (by simp [hs]))
  have h3:=prodI_eq (h x (by simp)).sz
  simp only [baseI,base,List.take_succ_cons,List.map_cons,List.sum_cons] at h2 ⊢
  rw [h2,h3,← h1]; simp
theorem s135 (hp:List O) {ss:List Int} (h:SzOk ss) {n:Int} (h0:0≤n) (h1:n < prodS ss):callL K (.fn (.func 135) [] []) [.d (szD ss),.d (.int .i64 n)] none hp=some (.ret (.d (.list 1 (ints (atNum ss n)))),false,hp,0):=by
 have w1:wr .i64 (-1)=-1:=wrap_id (by omega) (by omega)
 have w2:wr .i64 1=1:=wrap_id (by omega) (by omega)
 rw [k135]
 match ss,h,h1 with
 | [],_,_=>simp [c135,x135_0,x135_1,x135_2,x135_3,x135_4,x135_5,x135_6,execL_loop,u135_0,szD,atNum,w0,w1,w2]
 | [a],h,h1 =>
  have ha:=h.within a (by simp)
  simp only [prodS] at h1
  have hn:a≠0:=by omega
  have m1:n.tmod a=n:=by rw [Int.tmod_eq_emod_of_nonneg h0]; exact Int.emod_eq_of_lt h0 h1
  have q1:n.tdiv a=0:=by rw [Int.tdiv_eq_ediv_of_nonneg h0]; exact Int.ediv_eq_zero_of_lt h0 h1
  simp [c135,x135_0,x135_1,x135_2,x135_3,x135_4,x135_5,x135_6,execL_loop,u135_0,szD,atNum,w0,w1,w2,bi_rem hn,bi_quo hn,m1,q1]
 | [a,b],h,h1 =>
  have ha:=h.within a (by simp)
  have hb:=h.within b (by simp)
  simp only [prodS] at h1
  have hn:a≠0:=by omega
  have hm:b≠0:=by omega
  have m1:n.tmod b=n % b:=Int.tmod_eq_emod_of_nonneg h0
  have q1:n.tdiv b=n / b:=Int.tdiv_eq_ediv_of_nonneg h0
  have d0:0≤n / b:=Int.ediv_nonneg h0 (by omega)
  have d1:n / b < a:=Int.ediv_lt_of_lt_mul (by omega) h1
  have wq:wr .i64 (n / b)=n / b:=wrap_id (by omega) (by omega)
  have m2:(n / b).tmod a=n / b:=by rw [Int.tmod_eq_emod_of_nonneg d0]; exact Int.emod_eq_of_lt d0 d1
  have q2:(n / b).tdiv a=0:=by rw [Int.tdiv_eq_ediv_of_nonneg d0]; exact Int.ediv_eq_zero_of_lt d0 d1
  simp [c135,x135_0,x135_1,x135_2,x135_3,x135_4,x135_5,x135_6,execL_loop,u135_0,szD,atNum,w0,w1,w2,bi_rem hn,bi_rem hm,bi_quo hn,bi_quo hm,m1,q1,wq,m2,q2]
 | _ :: _ :: _ :: _,h,_=>have:=h.few; simp at this
theorem s66 (hp:List O) {t:List Stp} (ht:TaskOk t) (h3:t.length≤3) {k j:Nat} {s:Stp} {p:List Int} (hk:t[k]?=some s) (hj:(allAt s.ss)[j]?=some p) :
  callL K (.fn (.func 66) [] []) [.d (encT t),.d (.int .i64 ((base t k+j:Nat):Int))] none hp=some (.ret (.tuple [.d (.int .i64 k),.d (.list 1 (ints p))]),false,hp,0):=by
 have hb:=baseI_eq t k ht.ok
 have hbd:=baseI_bound t k ht.ok
 have hss:=(ht.ok s (List.mem_of_getElem? hk)).sz
 obtain ⟨e1,e2,e3,e4⟩:=atNum_ok hss hj
 have e5:=s135 hp hss (n:=(j:Int)) (by omega) e4
 rw [e1] at e5
 have hpp:=prodI_eq hss
 have bl:=prodI_bound hss
 obtain ⟨n,hn⟩:∃ n:Int,n=((base t k+j:Nat):Int):=⟨_,rfl⟩
 have hn2:n=baseI t k+j:=by rw [hb,hn]; simp
 rw [← hn]
 clear hn
 rw [k66]
 match t,ht,h3,k,hk,hb,hbd,hn2 with
 | [],ht,_,_,_,_,_,_=>exact absurd ht.pos (by simp)
 | x :: r,ht,_,0,hk,_,_,hn2 =>
  simp only [List.getElem?_cons_zero,Option.some.injEq] at hk; subst hk
  simp only [baseI] at hn2
  have hn3:n=j:=by omega
  have f1:=s127 hp hss
  have c1:¬ (prodI x.ss≤n):=by omega
  rw [hn3] at c1 ⊢
  simp [c66,x66_0,x66_1,x66_2,x66_3,x66_4,x66_5,execL_loop,u66_0,encT,encS,f1,c1,e5]
 | x :: y :: r,ht,_,1,hk,_,hbd,hn2 =>
  simp at hk; subst hk
  simp only [baseI] at hn2
  have f1:=s127 hp (ht.ok x (by simp)).sz
  have f2:=s127 hp hss
  have c1:prodI x.ss≤n:=by omega
  have v1:wr .i64 (n - prodI x.ss)=j:=by rw [show n - prodI x.ss=j by omega]; exact wrap_id (by omega) (by omega)
  have c2:¬ (prodI y.ss≤(j:Int)):=by omega
  simp [c66,x66_0,x66_1,x66_2,x66_3,x66_4,x66_5,execL_loop,u66_0,encT,encS,f1,f2,c1,c2,v1,w1,e5]
 | x :: y :: z :: r,ht,_,2,hk,_,hbd,hn2 =>
  simp at hk; subst hk
  simp only [baseI] at hn2
  have b1:=prodI_bound (ht.ok x (by simp)).sz
  have b2:=prodI_bound (ht.ok y (by simp)).sz
  have f1:=s127 hp (ht.ok x (by simp)).sz
  have f2:=s127 hp (ht.ok y (by simp)).sz
  have f3:=s127 hp hss
  have c1:prodI x.ss≤n:=by omega
  have v1:wr .i64 (n - prodI x.ss)=n - prodI x.ss:=wrap_id (by omega) (by omega)
  have c2:prodI y.ss≤n - prodI x.ss:=by omega
  have v2:wr .i64 (n - prodI x.ss - prodI y.ss)=j:=by rw [show n - prodI x.ss - prodI y.ss=j by omega]; exact wrap_id (by omega) (by omega)
  have c3:¬ (prodI z.ss≤(j:Int)):=by omega
  simp [c66,x66_0,x66_1,x66_2,x66_3,x66_4,x66_5,execL_loop,u66_0,encT,encS,f1,f2,f3,c1,c2,c3,v1,v2,w1,w2,e5]
 | x :: y :: z :: v :: r,_,h3,_,_,_,_,_=>simp at h3
 | [x],_,_,k+1,hk,_,_,_=>simp at hk
 | [x,y],_,_,k+2,hk,_,_,_=>simp at hk
 | [x,y,z],_,_,k+3,hk,_,_,_=>simp at hk
theorem s136 (hp:List O) {c z:Int} {cs ss p:List Int} (hA:AffOk c cs ss z) (hz:z≤5) (hs:SzOk ss) (hi:AtOk p ss) :
  callL K (.fn (.func 136) [] []) [.d (.agg [.int .i64 c,.list 1 (ints cs)]),.d (.list 1 (ints p))] none hp=some (.ret (.d (.int .i64 (valA c cs p))),false,hp,0):=by
 have hb:=hA.bd
 rw [k136]
 have hl:=hA.len
 match ss,p,cs,hs,hi,hl,hA with
 | [],[],[],_,_,_,_=>simp [c136,x136_0,x136_1,x136_2,x136_3,x136_4,x136_5,x136_6,execL_loop,u136_0,valA,w0,w1]
 | [a],[i],[x],hs,.cons h0 h1 .nil,_,hA =>
  have ha:=hs.within a (by simp)
  have p1:-3≤x * i∧x * i≤3:=by rcases hA.coef x (by simp) with h | h | h<;>rw [h]<;>omega
  have v1:wr .i64 (x * i)=x * i:=wrap_id (by omega) (by omega)
  have v2:wr .i64 (c+x * i)=c+x * i:=wrap_id (by omega) (by omega)
  simp [c136,x136_0,x136_1,x136_2,x136_3,x136_4,x136_5,x136_6,execL_loop,u136_0,valA,w0,w1,v1,v2]
 | [a,b],[i,j],[x,y],hs,.cons h0 h1 (.cons h2 h3 .nil),_,hA =>
  have ha:=hs.within a (by simp)
  have hb:=hs.within b (by simp)
  have p1:-3≤x * i∧x * i≤3:=by rcases hA.coef x (by simp) with h | h | h<;>rw [h]<;>omega
  have p2:-3≤y * j∧y * j≤3:=by rcases hA.coef y (by simp) with h | h | h<;>rw [h]<;>omega
  have v1:wr .i64 (x * i)=x * i:=wrap_id (by omega) (by omega)
  have v2:wr .i64 (c+x * i)=c+x * i:=wrap_id (by omega) (by omega)
  have v3:wr .i64 (y * j)=y * j:=wrap_id (by omega) (by omega)
  have v4:wr .i64 (c+x * i+y * j)=c+x * i+y * j:=wrap_id (by omega) (by omega)
  simp [c136,x136_0,x136_1,x136_2,x136_3,x136_4,x136_5,x136_6,execL_loop,u136_0,valA,w0,w1,w2,v1,v2,v3,v4]
 | _ :: _ :: _ :: _,_,_,hs,_,_,_=>have:=hs.few; simp at this
theorem s137_0 (hp:List O) (v:Int) (h:0≤v∧v≤4):callL K (.fn (.func 137) [] []) [.d (.list 1 [.int .i64 5]),.d (.list 1 [.int .i64 v])] none hp=some (.ret (.d (.int .i64 v)),false,hp,0):=by
 have w2:wr .i64 v=v:=wrap_id (by omega) (by omega)
 rw [k137]
 simp [c137,x137_0,x137_1,x137_2,x137_3,x137_4,x137_5,x137_6,execL_loop,u137_0,w0,w1,w2]
theorem s137_1 (hp:List O) (v u:Int) (h:0≤v∧v≤4) (h':0≤u∧u≤4):callL K (.fn (.func 137) [] []) [.d (.list 1 [.int .i64 4,.int .i64 4]),.d (.list 1 [.int .i64 v,.int .i64 u])] none hp=some (.ret (.d (.int .i64 (v * 4+u))),false,hp,0):=by
 have w2:wr .i64 v=v:=wrap_id (by omega) (by omega)
 have w3:wr .i64 2=2:=wrap_id (by omega) (by omega)
 have w4:wr .i64 (v * 4)=v * 4:=wrap_id (by omega) (by omega)
 have w5:wr .i64 (v * 4+u)=v * 4+u:=wrap_id (by omega) (by omega)
 rw [k137]
 simp [c137,x137_0,x137_1,x137_2,x137_3,x137_4,x137_5,x137_6,execL_loop,u137_0,w0,w1,w2,w3,w4,w5]
theorem s137_2 (hp:List O):callL K (.fn (.func 137) [] []) [.d .nils,.d .nils] none hp=some (.ret (.d (.int .i64 0)),false,hp,0):=by
 rw [k137]
 simp [c137,x137_0,x137_1,x137_2,x137_3,x137_4,x137_5,x137_6,execL_loop,u137_0]
theorem s67 (hp:List O) {t:List Stp} (ht:TaskOk t) (h3:t.length≤3) {k a:Nat} {s:Stp} {c:Nat × List (Int × List Int)} {p:List Int} (hk:t[k]?=some s) (ha:acc s a=some c) (hc:CellOk c.1 c.2 s.ss) (hi:AtOk p s.ss) :
  callL K (.fn (.func 67) [] []) [.d (encT t),.d (.int .i64 k),.d (.int .i64 a),.d (.list 1 (ints p))] none hp=some (.ret (.d (.int .i64 (numC c.1 c.2 p))),false,hp,0):=by
 have hss:=(ht.ok s (List.mem_of_getElem? hk)).sz
 have e1:=s53 hp (ht.ok s (List.mem_of_getElem? hk)) ha
 have hlt:k < t.length:=(gS.1 hk).1
 have hte:t[k]=s:=(gS.1 hk).2
 rw [k67]
 obtain ⟨n,x⟩:=c
 have arr:=hc.arr
 have len:=hc.len
 simp only at hc len arr e1 ⊢
 simp only [encT]
 match n,arr,x,len,hc,e1 with
 | 0,_,[u],_,hc,e1 =>
  have A:=hc.ok 0 (by simp) (by simp [sizesOf])
  simp only [List.getElem_cons_zero,sizesOf] at A
  have f1:=s136 hp A (by omega) hss hi
  have b:=valA_bound hi u.1 A.len A.coef
  have g1:=A.lo; have g2:=A.hi
  have f2:=s137_0 hp (valA u.1 u.2 p) (by omega)
  simp [encC,atD,encA] at e1
  simp [encS] at e1
  simp [c67,x67_0,x67_1,x67_2,x67_3,x67_4,x67_5,x67_6,x67_7,execL_loop,u67_0,hlt,hte,encS,e1,f1,f2,numC,arrsD,w0,w1,w2]
 | 1,_,[u,v],_,hc,e1 =>
  have A:=hc.ok 0 (by simp) (by simp [sizesOf])
  have B:=hc.ok 1 (by simp) (by simp [sizesOf])
  simp only [List.getElem_cons_zero,List.getElem_cons_succ,sizesOf] at A B
  have f1:=s136 hp A (by omega) hss hi
  have f2:=s136 hp B (by omega) hss hi
  have b:=valA_bound hi u.1 A.len A.coef
  have b':=valA_bound hi v.1 B.len B.coef
  have g1:=A.lo; have g2:=A.hi; have g3:=B.lo; have g4:=B.hi
  have f3:=s137_1 hp (valA u.1 u.2 p) (valA v.1 v.2 p) (by omega) (by omega)
  have nn:numC 1 [u,v] p=valA u.1 u.2 p * 4+valA v.1 v.2 p:=by simp only [numC]; exact valA_add _ _ _ _
  rw [nn]
  simp [encC,atD,encA] at e1
  simp [encS] at e1
  simp [c67,x67_0,x67_1,x67_2,x67_3,x67_4,x67_5,x67_6,x67_7,execL_loop,u67_0,hlt,hte,encS,e1,f1,f2,f3,arrsD,w0,w1,w2]
 | 2,_,[],_,hc,e1 =>
  have f1:=s137_2 hp
  simp [encC,atD] at e1
  simp [encS] at e1
  simp [c67,x67_0,x67_1,x67_2,x67_3,x67_4,x67_5,x67_6,x67_7,execL_loop,u67_0,hlt,hte,encS,e1,f1,numC,arrsD,w0,w1,w2]
 | n+3,h,_,_,_,_=>omega
theorem acc_ok {s:Stp} (h:StpOk s) {a:Nat} {c:Nat × List (Int × List Int)} (ha:acc s a=some c):CellOk c.1 c.2 s.ss:=by
 cases a with
 | zero=>simp only [acc,List.getElem?_cons_zero,Option.some.injEq] at ha; subst ha; exact h.to
 | succ a=>simp only [acc,List.getElem?_cons_succ] at ha; exact h.fr c (List.mem_of_getElem? ha)
def S15 (t:List Stp) (i:Nat) (v:V) (tl:List (Nat × V)) (o:List (Nat × Nat × O)) (H:List O) (w:Nat):St :=
 St.mk ([(1,.ptr (.slot 1 0) 0),(3,v),(4,.d (.int .i64 (i:Nat)))]++tl) (Mem.mk ((1,0,.cells [.d (.list 2 arrsD),.d (stpsD t)] false) :: o) H w) [] none false none
def I15 (k:Nat) (p:List Int) (u:V) (a:Nat):List (Nat × V):=[(5,.d (.int .i64 (k:Nat))),(6,.d (.list 1 (ints p))),(7,u),(8,.d (.int .i64 (a:Nat)))]
def R15 (v:V) (o:List (Nat × Nat × O)) (rows:List D):Prop:=(rows=[]∧v=.d .nils∧o=[])∨(rows≠[]∧v=.sl (.slot 52 0) 1 rows.length 0 rows.length∧o=[(52,0,.vec 1 rows false true)])
def O15 (o:List (Nat × Nat × O)):Prop:=o=[]∨∃ g x,o=[(48,g,x)]
theorem in15_0 {t:List Stp} (ht:TaskOk t) (h3:t.length≤3) {k:Nat} {s:Stp} (hk:t[k]?=some s) {p:List Int} (hi:AtOk p s.ss) {i:Nat} {v:V} {o o2:List (Nat × Nat × O)} {rows:List D} (hv:R15 v o2 rows) (ho:O15 o) (H:List O) (w:Nat) :
  ∃ g w',execL K 15 l15_0 (S15 t i v (I15 k p (.d .nils) 0) (o++o2) H w)=some (.normal,S15 t i v (I15 k p (.sl (.slot 48 g) 2 1 0 1) 1) ((48,g,.vec 2 [placeD s.to p] false true) :: o2) H w'):=by
 have hs:=ht.ok s (List.mem_of_getElem? hk)
 have hlt:k < t.length:=(gS.1 hk).1
 have hte:t[k]=s:=(gS.1 hk).2
 have e1:=s53 H hs (a:=0) (c:=s.to) rfl
 have e2:=s67 H ht h3 hk (a:=0) (c:=s.to) rfl hs.to hi
 have hf:∀ l,lenV (V.d (frD l))=some l.length:=fun l=>by cases l<;>simp [frD]
 have hf:=hf s.fr
 have hfew:=hs.few
 simp only [lenV] at hf
 simp only [encS,encC] at e1
 simp only [encT] at e2
 have z0:((0:Nat):Int)=0:=rfl
 have z1:((1:Nat):Int)=1:=rfl
 simp only [z0] at e1 e2
 have hle:(0:Int)≤(s.fr.length:Int):=by omega
 rcases hv with ⟨rfl,rfl,rfl⟩ | ⟨hr,rfl,rfl⟩<;>rcases ho with rfl | ⟨g,x,rfl⟩
 all_goals simp [S15,I15,u15_0,x15_8,x15_9,x15_10,stpsD,hlt,hte,encS,hf,e1,e2,w1,placeD,hle]
theorem in15_1 {t:List Stp} (ht:TaskOk t) (h3:t.length≤3) {k:Nat} {s:Stp} (hk:t[k]?=some s) {p:List Int} (hi:AtOk p s.ss) {i:Nat} {v:V} {o2:List (Nat × Nat × O)} {rows:List D} (hv:R15 v o2 rows) {a g:Nat} {c:Nat × List (Int × List Int)} (h1:1≤a) (ha:acc s a=some c) {l:List D} (hl:l.length=a) (H:List O) (w:Nat) :
  ∃ w',execL K 15 l15_0 (S15 t i v (I15 k p (.sl (.slot 48 g) 2 a 0 a) a) ((48,g,.vec 2 l false true) :: o2) H w)=some (.normal,S15 t i v (I15 k p (.sl (.slot 48 g) 2 (a+1) 0 (a+1)) (a+1)) ((48,g,.vec 2 (l++[placeD c p]) false true) :: o2) H w'):=by
 have hs:=ht.ok s (List.mem_of_getElem? hk)
 have hlt:k < t.length:=(gS.1 hk).1
 have hte:t[k]=s:=(gS.1 hk).2
 have hal:a≤s.fr.length:=by have:=(gS.1 ha).1; simp at this; omega
 have hfew:=hs.few
 have w1:wr .i64 ((a:Int)+1)=(a:Int)+1:=wrap_id (by omega) (by omega)
 have e1:=s53 H hs ha
 have e2:=s67 H ht h3 hk ha (acc_ok hs ha) hi
 have hf:∀ l,lenV (V.d (frD l))=some l.length:=fun l=>by cases l<;>simp [frD]
 have hf:=hf s.fr
 simp only [lenV] at hf
 simp only [encS,encC] at e1
 simp only [encT] at e2
 have hr1:(a+1) * 16≤4294967296:=by omega
 have hr2:a+1≤4294967296:=by omega
 rcases hv with ⟨rfl,rfl,rfl⟩ | ⟨hr,rfl,rfl⟩
 all_goals simp [S15,I15,u15_0,x15_8,x15_9,x15_10,stpsD,hlt,hte,encS,hf,e1,e2,w1,placeD,hal,hl,hr1,hr2]
theorem in15_x {t:List Stp} (ht:TaskOk t) {k:Nat} {s:Stp} (hk:t[k]?=some s) {p:List Int} {i:Nat} {v:V} {o2:List (Nat × Nat × O)} {rows:List D} (hv:R15 v o2 rows) {g:Nat} {l:List D} (H:List O) (w:Nat) :
  execL K 15 l15_0 (S15 t i v (I15 k p (.sl (.slot 48 g) 2 (s.fr.length+1) 0 (s.fr.length+1)) (s.fr.length+1)) ((48,g,.vec 2 l false true) :: o2) H w)=some (.exit 2,S15 t i v (I15 k p (.sl (.slot 48 g) 2 (s.fr.length+1) 0 (s.fr.length+1)) (s.fr.length+1)++[(29,.d (.bool false))]) ((48,g,.vec 2 l false true) :: o2) H w):=by
 have hs:=ht.ok s (List.mem_of_getElem? hk)
 have hlt:k < t.length:=(gS.1 hk).1
 have hte:t[k]=s:=(gS.1 hk).2
 have hf:∀ l,lenV (V.d (frD l))=some l.length:=fun l=>by cases l<;>simp [frD]
 have hf:=hf s.fr
 simp only [lenV] at hf
 have hn:¬ ((s.fr.length:Int)+1≤(s.fr.length:Int)):=by omega
 rcases hv with ⟨rfl,rfl,rfl⟩ | ⟨hr,rfl,rfl⟩
 all_goals simp [S15,I15,u15_0,x15_8,x15_9,x15_10,stpsD,hlt,hte,encS,hf,hn]
theorem in15_l {t:List Stp} (ht:TaskOk t) (h3:t.length≤3) {k:Nat} {s:Stp} (hk:t[k]?=some s) {p:List Int} (hi:AtOk p s.ss) {i:Nat} {v:V} {o2:List (Nat × Nat × O)} {rows:List D} (hv:R15 v o2 rows) (H:List O) {g:Nat} :
  ∀ (m a:Nat),a+m=s.fr.length+1→1≤a→∀ w,∃ w',execL K 15 (.loop l15_0) (S15 t i v (I15 k p (.sl (.slot 48 g) 2 a 0 a) a) ((48,g,.vec 2 ((touchD s p).take a) false true) :: o2) H w) =
   some (.exit 2,S15 t i v (I15 k p (.sl (.slot 48 g) 2 (s.fr.length+1) 0 (s.fr.length+1)) (s.fr.length+1)++[(29,.d (.bool false))]) ((48,g,.vec 2 (touchD s p) false true) :: o2) H w'):=by
 intro m
 have hlen:(touchD s p).length=s.fr.length+1:=by simp [touchD]
 induction m with
 | zero =>
  intro a h1 h2 w
  obtain rfl:a=s.fr.length+1:=by omega
  refine ⟨w,?_⟩
  rw [execL_loop,in15_x ht hk hv]
  rw [show (touchD s p).take (s.fr.length+1)=touchD s p by rw [← hlen,List.take_length]]
  rfl
 | succ m ih =>
  intro a h1 h2 w
  obtain ⟨c,hc⟩:∃ c,acc s a=some c:=⟨_,List.getElem?_eq_getElem (by simp; omega)⟩
  obtain ⟨w1,e1⟩:=in15_1 ht h3 hk hi (i:=i) hv (g:=g) h2 hc (l:=(touchD s p).take a) (by rw [List.length_take,hlen]; omega) H w
  obtain ⟨w2,e2⟩:=ih (a+1) (by omega) (by omega) w1
  refine ⟨w2,?_⟩
  rw [execL_loop,e1]
  have ht':(touchD s p).take (a+1)=(touchD s p).take a++[placeD c p]:=by
   rw [List.take_add_one]
   have:=touch_at (p:=p) hc
   rw [this]; rfl
  rw [← ht']
  exact e2
def rowD (x:Nat × Stp × List Int):D:=.list 2 (touchD x.2.1 x.2.2)
theorem rd15 {t:List Stp} (ht:TaskOk t) (h3:t.length≤3) {k j:Nat} {s:Stp} (hk:t[k]?=some s) {p:List Int} (hj:(allAt s.ss)[j]?=some p) {v:V} {o o2:List (Nat × Nat × O)} {rows:List D} (hv:R15 v o2 rows) (ho:O15 o) (hr:rows.length≤100) (hlt:((base t k+j:Nat):Int) < baseI t t.length) (H:List O) (w:Nat) :
  ∃ v' o' o2' w',execL K 15 l15_1 (S15 t (base t k+j) v [] (o++o2) H w)=some (.normal,S15 t (base t k+j+1) v' [] (o'++o2') H w')∧R15 v' o2' (rows++[rowD (k,s,p)])∧O15 o':=by
 have hbd:=baseI_bound t t.length ht.ok
 have hi:=mem_allAt.1 (List.mem_of_getElem? hj)
 have e1:=s61 H ht h3
 have e2:=s66 H ht h3 hk hj
 obtain ⟨g,w1,e3⟩:=in15_0 ht h3 hk hi (i:=base t k+j) hv ho H w
 obtain ⟨w2,e4⟩:=in15_l ht h3 hk hi (i:=base t k+j) hv H (g:=g) s.fr.length 1 (by omega) (Nat.le_refl _) w1
 have e5:execL K 15 (.loop l15_0) (S15 t (base t k+j) v (I15 k p (.d .nils) 0) (o++o2) H w)=some (.exit 2,S15 t (base t k+j) v (I15 k p (.sl (.slot 48 g) 2 (s.fr.length+1) 0 (s.fr.length+1)) (s.fr.length+1)++[(29,.d (.bool false))]) ((48,g,.vec 2 (touchD s p) false true) :: o2) H w2):=by
  rw [execL_loop,e3]
  exact e4
 generalize base t k+j=n at *
 have w3:wr .i64 ((n:Int)+1)=(n:Int)+1:=wrap_id (by omega) (by omega)
 simp only [encT] at e1 e2
 have hlen:(touchD s p).length=s.fr.length+1:=by simp [touchD]
 have htk:(touchD s p).take (s.fr.length+1)=touchD s p:=by rw [← hlen,List.take_length]
 have hr1:(rows.length+1) * 24≤4294967296:=by omega
 have hr2:rows.length+1≤4294967296:=by omega
 simp only [S15,I15,List.cons_append,List.nil_append] at e5
 have z0:((0:Nat):Int)=0:=rfl
 simp only [z0] at e5
 simp only [stpsD] at e5
 rcases hv with ⟨rfl,rfl,rfl⟩ | ⟨hr0,rfl,rfl⟩<;>rcases ho with rfl | ⟨g0,x0,rfl⟩<;>simp only [List.cons_append,List.nil_append,List.append_nil] at e5
 all_goals clear e3 e4
 ·have key:∃ w',execL K 15 l15_1 (S15 t n (.d .nils) [] [] H w)=some (.normal,S15 t (n+1) (.sl (.slot 52 0) 1 1 0 1) [] [(48,g,.vec 2 (touchD s p) true true),(52,0,.vec 1 [rowD (k,s,p)] false true)] H w'):=by
   simp [S15,u15_1,x15_3,x15_4,x15_5,x15_6,x15_7,x15_11,x15_4,encT,stpsD,hlt,e1,e2,e5,w3,hlen,htk,rowD]
  obtain ⟨w',key⟩:=key
  exact ⟨_,[(48,g,_)],[(52,0,_)],w',key,.inr ⟨by simp,rfl,rfl⟩,.inr ⟨_,_,rfl⟩⟩
 ·have key:∃ w',execL K 15 l15_1 (S15 t n (.d .nils) [] [(48,g0,x0)] H w)=some (.normal,S15 t (n+1) (.sl (.slot 52 0) 1 1 0 1) [] [(48,g,.vec 2 (touchD s p) true true),(52,0,.vec 1 [rowD (k,s,p)] false true)] H w'):=by
   simp [S15,u15_1,x15_3,x15_4,x15_5,x15_6,x15_7,x15_11,x15_4,encT,stpsD,hlt,e1,e2,e5,w3,hlen,htk,rowD]
  obtain ⟨w',key⟩:=key
  exact ⟨_,[(48,g,_)],[(52,0,_)],w',key,.inr ⟨by simp,rfl,rfl⟩,.inr ⟨_,_,rfl⟩⟩
 ·have key:∃ w',execL K 15 l15_1 (S15 t n (.sl (.slot 52 0) 1 rows.length 0 rows.length) [] [(52,0,.vec 1 rows false true)] H w)=some (.normal,S15 t (n+1) (.sl (.slot 52 0) 1 (rows.length+1) 0 (rows.length+1)) [] [(48,g,.vec 2 (touchD s p) true true),(52,0,.vec 1 (rows++[rowD (k,s,p)]) false true)] H w'):=by
   simp [S15,u15_1,x15_3,x15_4,x15_5,x15_6,x15_7,x15_11,x15_4,encT,stpsD,hlt,e1,e2,e5,w3,hlen,htk,rowD,hr1,hr2]
  obtain ⟨w',key⟩:=key
  exact ⟨_,[(48,g,_)],[(52,0,_)],w',key,.inr ⟨by simp,by simp,rfl⟩,.inr ⟨_,_,rfl⟩⟩
 ·have key:∃ w',execL K 15 l15_1 (S15 t n (.sl (.slot 52 0) 1 rows.length 0 rows.length) [] [(48,g0,x0),(52,0,.vec 1 rows false true)] H w)=some (.normal,S15 t (n+1) (.sl (.slot 52 0) 1 (rows.length+1) 0 (rows.length+1)) [] [(48,g,.vec 2 (touchD s p) true true),(52,0,.vec 1 (rows++[rowD (k,s,p)]) false true)] H w'):=by
   simp [S15,u15_1,x15_3,x15_4,x15_5,x15_6,x15_7,x15_11,x15_4,encT,stpsD,hlt,e1,e2,e5,w3,hlen,htk,rowD,hr1,hr2]
  obtain ⟨w',key⟩:=key
  exact ⟨_,[(48,g,_)],[(52,0,_)],w',key,.inr ⟨by simp,by simp,rfl⟩,.inr ⟨_,_,rfl⟩⟩
theorem lp15 {t:List Stp} (ht:TaskOk t) (h3:t.length≤3) (H:List O):∀ (m i:Nat),i+m=(allI 0 t).length→∀ (v:V) (o o2:List (Nat × Nat × O)) (w:Nat),R15 v o2 (((allI 0 t).take i).map rowD)→O15 o →
  ∃ v' o' o2' w',execL K 15 (.loop l15_1) (S15 t i v [] (o++o2) H w)=some (.exit 0,S15 t (allI 0 t).length v' [(12,.d (.bool false))] (o'++o2') H w')∧R15 v' o2' ((allI 0 t).map rowD)∧O15 o':=by
 have htot:baseI t t.length=((allI 0 t).length:Int):=by rw [baseI_eq t t.length ht.ok,allI_total]
 have e1:=s61 H ht h3
 simp only [encT] at e1
 have hn:=allI_len ht h3
 intro m
 induction m with
 | zero =>
  intro i hi v o o2 w hv ho
  obtain rfl:i=(allI 0 t).length:=by omega
  refine ⟨v,o,o2,w,?_,by rwa [List.take_length] at hv,ho⟩
  rw [execL_loop]
  rcases hv with ⟨hr,rfl,rfl⟩ | ⟨hr,rfl,rfl⟩<;>rcases ho with rfl | ⟨g,x,rfl⟩<;>simp [S15,u15_1,x15_3,encT,stpsD,e1,htot]
 | succ m ih =>
  intro i hi v o o2 w hv ho
  have hlt:i < base t t.length:=by rw [← allI_total (m:=0)]; omega
  obtain ⟨k,s,j,p,h1,h2,rfl⟩:=at_base hlt
  have hx:=allI_at (m:=0) h1 h2
  obtain ⟨v1,o1,o3,w1,e2,hv1,ho1⟩:=rd15 ht h3 h1 h2 hv ho (by simp; omega) (by rw [htot]; omega) H w
  have htk:((allI 0 t).take (base t k+j+1)).map rowD=((allI 0 t).take (base t k+j)).map rowD++[rowD (k,s,p)]:=by
   rw [List.take_add_one,hx]
   simp
  rw [← htk] at hv1
  obtain ⟨v2,o4,o5,w2,e3,hv2,ho2⟩:=ih (base t k+j+1) (by omega) v1 o1 o3 w1 hv1 ho1
  exact ⟨v2,o4,o5,w2,by rw [execL_loop,e2]; exact e3,hv2,ho2⟩
def tableD (t:List Stp):D:=.list 1 ((allI 0 t).map rowD)
theorem allI_ne {t:List Stp} (ht:TaskOk t):allI 0 t≠[]:=by
 obtain ⟨x,r,rfl⟩:∃ x r,t=x :: r:=by
  cases t with
  | nil=>exact absurd ht.pos (by simp)
  | cons x r=>exact ⟨x,r,rfl⟩
 intro h
 have hx:=(ht.ok x (by simp)).sz
 have:=allAt_ne (fun s hs=>(hx.within s hs).1)
 simp [allI] at h
 exact this h.1
theorem s15 (hp:List O) {t:List Stp} (ht:TaskOk t) (h3:t.length≤3):∃ w,callL K (.fn (.func 15) [] []) [.d (encT t)] none hp=some (.ret (.d (tableD t)),false,hp,w):=by
 obtain ⟨v,o,o2,w,e1,hv,ho⟩:=lp15 ht h3 hp (allI 0 t).length 0 (by omega) (.d .nils) [] [] 0 (.inl ⟨by simp,rfl,rfl⟩) (.inl rfl)
 have hne:=allI_ne ht
 rcases hv with ⟨hr,_,_⟩ | ⟨hr,rfl,rfl⟩
 ·simp at hr; exact absurd hr hne
 ·have z0:((0:Nat):Int)=0:=rfl
  have e:=k15 [] [] [.d (encT t)] none hp
  have htk:((allI 0 t).map rowD).take (allI 0 t).length=(allI 0 t).map rowD:=by rw [← List.length_map (f:=rowD),List.take_length]
  rcases ho with rfl | ⟨g,x,rfl⟩<;>simp only [S15,List.cons_append,List.nil_append,z0,stpsD] at e1<;>simp [c15,x15_0,x15_1,x15_2,x15_12,encT,e1,htk] at e
  ·exact ⟨_,by simpa [encT,tableD] using e⟩
  ·exact ⟨_,by simpa [encT,tableD] using e⟩
end Mw
