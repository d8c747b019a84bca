/- DependProofs answers true for every list of numbers: its tied card holds; no condition beyond the card's own. -/
import Derived.Test.YtdjnccgeajpegaaGreatDoorQh
import Derived.Test.YtdjnccgeajpegaaGreatDoorQk
import Derived.Test.YtdjnccgeajpegaaGreatDoorXc
set_option linter.unusedVariables false
set_option linter.unusedSimpArgs false
set_option maxRecDepth 10000
set_option maxHeartbeats 4000000
namespace Mw
open Go Go.Proofs
theorem bi_rem {a b:Int} (h:b≠0):binInt .rem .i64 a b=some (.int .i64 (a.tmod b)):=by
 have:(b == 0)=false:=by simpa using h
 simp only [binInt,this,cond_false]
theorem bi_quo {a b:Int} (h:b≠0):binInt .quo .i64 a b=some (.int .i64 (wr .i64 (a.tdiv b))):=by
 have:(b == 0)=false:=by simpa using h
 simp only [binInt,this,cond_false,wr_eq]
theorem prodI_eq {ss:List Int} (h:SzOk ss):prodI ss=prodS ss:=by
 match ss,h.few with
 | [],_=>rfl
 | [a],_=>simp [prodI,prodS]
 | [a,b],_=>simp [prodI,prodS]
 | _ :: _ :: _ :: _,hf=>simp at hf
theorem baseI_eq:∀ (t:List Stp) (k:Nat),(∀ s∈t,StpOk s)→baseI t k=(base t k:Int)
 | [],k,_=>by cases k<;>rfl
 | x :: r,0,_=>rfl
 | x :: r,k+1,h=>by
  have h1:=allAt_prod (h x (by simp)).sz
  have h2:=baseI_eq r k (fun s hs=>h s (by simp [hs]))
  have h3:=prodI_eq (h x (by simp)).sz
  simp only [baseI,base,List.take_succ_cons,List.map_cons,List.sum_cons] at h2 ⊢
  rw [h2,h3,← h1]; simp
theorem s135 (hp:List O) {ss:List Int} (h:SzOk ss) {n:Int} (h0:0≤n) (h1:n < prodS ss):callL K (.fn (.func 135) [] []) [.d (szD ss),.d (.int .i64 n)] none hp=some (.ret (.d (.list 1 (ints (atNum ss n)))),false,hp,0):=by
 have w1:wr .i64 (-1)=-1:=wrap_id (by omega) (by omega)
 have w2:wr .i64 1=1:=wrap_id (by omega) (by omega)
 rw [k135]
 match ss,h,h1 with
 | [],_,_=>simp [c135,x135_0,r135_0,x135_1,r135_1,x135_2,r135_2,x135_3,r135_3,x135_4,r135_4,x135_5,r135_5,x135_6,r135_6,execL_loop,u135_0,szD,atNum,w0,w1,w2]
 | [a],h,h1 =>
  have ha:=h.within a (by simp)
  simp only [prodS] at h1
  have hn:a≠0:=by omega
  have m1:n.tmod a=n:=by rw [Int.tmod_eq_emod_of_nonneg h0]; exact Int.emod_eq_of_lt h0 h1
  have q1:n.tdiv a=0:=by rw [Int.tdiv_eq_ediv_of_nonneg h0]; exact Int.ediv_eq_zero_of_lt h0 h1
  simp [c135,x135_0,r135_0,x135_1,r135_1,x135_2,r135_2,x135_3,r135_3,x135_4,r135_4,x135_5,r135_5,x135_6,r135_6,execL_loop,u135_0,szD,atNum,w0,w1,w2,bi_rem hn,bi_quo hn,m1,q1]
 | [a,b],h,h1 =>
  have ha:=h.within a (by simp)
  have hb:=h.within b (by simp)
  simp only [prodS] at h1
  have hn:a≠0:=by omega
  have hm:b≠0:=by omega
  have m1:n.tmod b=n % b:=Int.tmod_eq_emod_of_nonneg h0
  have q1:n.tdiv b=n / b:=Int.tdiv_eq_ediv_of_nonneg h0
  have d0:0≤n / b:=Int.ediv_nonneg h0 (by omega)
  have d1:n / b < a:=Int.ediv_lt_of_lt_mul (by omega) h1
  have wq:wr .i64 (n / b)=n / b:=wrap_id (by omega) (by omega)
  have m2:(n / b).tmod a=n / b:=by rw [Int.tmod_eq_emod_of_nonneg d0]; exact Int.emod_eq_of_lt d0 d1
  have q2:(n / b).tdiv a=0:=by rw [Int.tdiv_eq_ediv_of_nonneg d0]; exact Int.ediv_eq_zero_of_lt d0 d1
  simp [c135,x135_0,r135_0,x135_1,r135_1,x135_2,r135_2,x135_3,r135_3,x135_4,r135_4,x135_5,r135_5,x135_6,r135_6,execL_loop,u135_0,szD,atNum,w0,w1,w2,bi_rem hn,bi_rem hm,bi_quo hn,bi_quo hm,m1,q1,wq,m2,q2]
 | _ :: _ :: _ :: _,h,_=>have:=h.few; simp at this
theorem s66 (hp:List O) {t:List Stp} (ht:TaskOk t) (h3:t.length≤3) {k j:Nat} {s:Stp} {p:List Int} (hk:t[k]?=some s) (hj:(allAt s.ss)[j]?=some p) :
  callL K (.fn (.func 66) [] []) [.d (encT t),.d (.int .i64 ((base t k+j:Nat):Int))] none hp=some (.ret (.tuple [.d (.int .i64 k),.d (.list 1 (ints p))]),false,hp,0):=by
 have hb:=baseI_eq t k ht.ok
 have hbd:=baseI_bound t k ht.ok
 have hss:=(ht.ok s (List.mem_of_getElem? hk)).sz
 obtain ⟨e1,e2,e3,e4⟩:=atNum_ok hss hj
 have e5:=s135 hp hss (n:=(j:Int)) (by omega) e4
 rw [e1] at e5
 have hpp:=prodI_eq hss
 have bl:=prodI_bound hss
 obtain ⟨n,hn⟩:∃ n:Int,n=((base t k+j:Nat):Int):=⟨_,rfl⟩
 have hn2:n=baseI t k+j:=by rw [hb,hn]; simp
 rw [← hn]
 clear hn
 rw [k66]
 match t,ht,h3,k,hk,hb,hbd,hn2 with
 | [],ht,_,_,_,_,_,_=>exact absurd ht.pos (by simp)
 | x :: r,ht,_,0,hk,_,_,hn2 =>
  simp only [List.getElem?_cons_zero,Option.some.injEq] at hk; subst hk
  simp only [baseI] at hn2
  have hn3:n=j:=by omega
  have f1:=s127 hp hss
  have c1:¬ (prodI x.ss≤n):=by omega
  rw [hn3] at c1 ⊢
  simp [c66,x66_0,r66_0,x66_1,r66_1,x66_2,r66_2,x66_3,r66_3,x66_4,r66_4,x66_5,r66_5,execL_loop,u66_0,encT,encS,f1,c1,e5]
 | x :: y :: r,ht,_,1,hk,_,hbd,hn2 =>
  simp at hk; subst hk
  simp only [baseI] at hn2
  have f1:=s127 hp (ht.ok x (by simp)).sz
  have f2:=s127 hp hss
  have c1:prodI x.ss≤n:=by omega
  have v1:wr .i64 (n - prodI x.ss)=j:=by rw [show n - prodI x.ss=j by omega]; exact wrap_id (by omega) (by omega)
  have c2:¬ (prodI y.ss≤(j:Int)):=by omega
  simp [c66,x66_0,r66_0,x66_1,r66_1,x66_2,r66_2,x66_3,r66_3,x66_4,r66_4,x66_5,r66_5,execL_loop,u66_0,encT,encS,f1,f2,c1,c2,v1,w1,e5]
 | x :: y :: z :: r,ht,_,2,hk,_,hbd,hn2 =>
  simp at hk; subst hk
  simp only [baseI] at hn2
  have b1:=prodI_bound (ht.ok x (by simp)).sz
  have b2:=prodI_bound (ht.ok y (by simp)).sz
  have f1:=s127 hp (ht.ok x (by simp)).sz
  have f2:=s127 hp (ht.ok y (by simp)).sz
  have f3:=s127 hp hss
  have c1:prodI x.ss≤n:=by omega
  have v1:wr .i64 (n - prodI x.ss)=n - prodI x.ss:=wrap_id (by omega) (by omega)
  have c2:prodI y.ss≤n - prodI x.ss:=by omega
  have v2:wr .i64 (n - prodI x.ss - prodI y.ss)=j:=by rw [show n - prodI x.ss - prodI y.ss=j by omega]; exact wrap_id (by omega) (by omega)
  have c3:¬ (prodI z.ss≤(j:Int)):=by omega
  simp [c66,x66_0,r66_0,x66_1,r66_1,x66_2,r66_2,x66_3,r66_3,x66_4,r66_4,x66_5,r66_5,execL_loop,u66_0,encT,encS,f1,f2,f3,c1,c2,c3,v1,v2,w1,w2,e5]
 | x :: y :: z :: v :: r,_,h3,_,_,_,_,_=>simp at h3
 | [x],_,_,k+1,hk,_,_,_=>simp at hk
 | [x,y],_,_,k+2,hk,_,_,_=>simp at hk
 | [x,y,z],_,_,k+3,hk,_,_,_=>simp at hk
theorem s136 (hp:List O) {c z:Int} {cs ss p:List Int} (hA:AffOk c cs ss z) (hz:z≤5) (hs:SzOk ss) (hi:AtOk p ss) :
  callL K (.fn (.func 136) [] []) [.d (.agg [.int .i64 c,.list 1 (ints cs)]),.d (.list 1 (ints p))] none hp=some (.ret (.d (.int .i64 (valA c cs p))),false,hp,0):=by
 have hb:=hA.bd
 rw [k136]
 have hl:=hA.len
 match ss,p,cs,hs,hi,hl,hA with
 | [],[],[],_,_,_,_=>simp [c136,x136_0,r136_0,x136_1,r136_1,x136_2,r136_2,x136_3,r136_3,x136_4,r136_4,x136_5,r136_5,x136_6,r136_6,execL_loop,u136_0,valA,w0,w1]
 | [a],[i],[x],hs,.cons h0 h1 .nil,_,hA =>
  have ha:=hs.within a (by simp)
  have p1:-3≤x * i∧x * i≤3:=by rcases hA.coef x (by simp) with h | h | h<;>rw [h]<;>omega
  have v1:wr .i64 (x * i)=x * i:=wrap_id (by omega) (by omega)
  have v2:wr .i64 (c+x * i)=c+x * i:=wrap_id (by omega) (by omega)
  simp [c136,x136_0,r136_0,x136_1,r136_1,x136_2,r136_2,x136_3,r136_3,x136_4,r136_4,x136_5,r136_5,x136_6,r136_6,execL_loop,u136_0,valA,w0,w1,v1,v2]
 | [a,b],[i,j],[x,y],hs,.cons h0 h1 (.cons h2 h3 .nil),_,hA =>
  have ha:=hs.within a (by simp)
  have hb:=hs.within b (by simp)
  have p1:-3≤x * i∧x * i≤3:=by rcases hA.coef x (by simp) with h | h | h<;>rw [h]<;>omega
  have p2:-3≤y * j∧y * j≤3:=by rcases hA.coef y (by simp) with h | h | h<;>rw [h]<;>omega
  have v1:wr .i64 (x * i)=x * i:=wrap_id (by omega) (by omega)
  have v2:wr .i64 (c+x * i)=c+x * i:=wrap_id (by omega) (by omega)
  have v3:wr .i64 (y * j)=y * j:=wrap_id (by omega) (by omega)
  have v4:wr .i64 (c+x * i+y * j)=c+x * i+y * j:=wrap_id (by omega) (by omega)
  simp [c136,x136_0,r136_0,x136_1,r136_1,x136_2,r136_2,x136_3,r136_3,x136_4,r136_4,x136_5,r136_5,x136_6,r136_6,execL_loop,u136_0,valA,w0,w1,w2,v1,v2,v3,v4]
 | _ :: _ :: _ :: _,_,_,hs,_,_,_=>have:=hs.few; simp at this
theorem s137_0 (hp:List O) (v:Int) (h:0≤v∧v≤4):callL K (.fn (.func 137) [] []) [.d (.list 1 [.int .i64 5]),.d (.list 1 [.int .i64 v])] none hp=some (.ret (.d (.int .i64 v)),false,hp,0):=by
 have w2:wr .i64 v=v:=wrap_id (by omega) (by omega)
 rw [k137]
 simp [c137,x137_0,r137_0,x137_1,r137_1,x137_2,r137_2,x137_3,r137_3,x137_4,r137_4,x137_5,r137_5,x137_6,r137_6,execL_loop,u137_0,w0,w1,w2]
theorem s137_1 (hp:List O) (v u:Int) (h:0≤v∧v≤4) (h':0≤u∧u≤4):callL K (.fn (.func 137) [] []) [.d (.list 1 [.int .i64 4,.int .i64 4]),.d (.list 1 [.int .i64 v,.int .i64 u])] none hp=some (.ret (.d (.int .i64 (v * 4+u))),false,hp,0):=by
 have w2:wr .i64 v=v:=wrap_id (by omega) (by omega)
 have w3:wr .i64 2=2:=wrap_id (by omega) (by omega)
 have w4:wr .i64 (v * 4)=v * 4:=wrap_id (by omega) (by omega)
 have w5:wr .i64 (v * 4+u)=v * 4+u:=wrap_id (by omega) (by omega)
 rw [k137]
 simp [c137,x137_0,r137_0,x137_1,r137_1,x137_2,r137_2,x137_3,r137_3,x137_4,r137_4,x137_5,r137_5,x137_6,r137_6,execL_loop,u137_0,w0,w1,w2,w3,w4,w5]
theorem s137_2 (hp:List O):callL K (.fn (.func 137) [] []) [.d .nils,.d .nils] none hp=some (.ret (.d (.int .i64 0)),false,hp,0):=by
 rw [k137]
 simp [c137,x137_0,r137_0,x137_1,r137_1,x137_2,r137_2,x137_3,r137_3,x137_4,r137_4,x137_5,r137_5,x137_6,r137_6,execL_loop,u137_0]
theorem s67 (hp:List O) {t:List Stp} (ht:TaskOk t) (h3:t.length≤3) {k a:Nat} {s:Stp} {c:Nat × List (Int × List Int)} {p:List Int} (hk:t[k]?=some s) (ha:acc s a=some c) (hc:CellOk c.1 c.2 s.ss) (hi:AtOk p s.ss) :
  callL K (.fn (.func 67) [] []) [.d (encT t),.d (.int .i64 k),.d (.int .i64 a),.d (.list 1 (ints p))] none hp=some (.ret (.d (.int .i64 (numC c.1 c.2 p))),false,hp,0):=by
 have hss:=(ht.ok s (List.mem_of_getElem? hk)).sz
 have e1:=s53 hp (ht.ok s (List.mem_of_getElem? hk)) ha
 have hlt:k < t.length:=(gS.1 hk).1
 have hte:t[k]=s:=(gS.1 hk).2
 rw [k67]
 obtain ⟨n,x⟩:=c
 have arr:=hc.arr
 have len:=hc.len
 simp only at hc len arr e1 ⊢
 simp only [encT]
 match n,arr,x,len,hc,e1 with
 | 0,_,[u],_,hc,e1 =>
  have A:=hc.ok 0 (by simp) (by simp [sizesOf])
  simp only [List.getElem_cons_zero,sizesOf] at A
  have f1:=s136 hp A (by omega) hss hi
  have b:=valA_bound hi u.1 A.len A.coef
  have g1:=A.lo; have g2:=A.hi
  have f2:=s137_0 hp (valA u.1 u.2 p) (by omega)
  simp [encC,atD,encA] at e1
  simp [encS] at e1
  simp [c67,x67_0,r67_0,x67_1,r67_1,x67_2,r67_2,x67_3,r67_3,x67_4,r67_4,x67_5,r67_5,x67_6,r67_6,x67_7,r67_7,execL_loop,u67_0,hlt,hte,encS,e1,f1,f2,numC,arrsD,w0,w1,w2]
 | 1,_,[u,v],_,hc,e1 =>
  have A:=hc.ok 0 (by simp) (by simp [sizesOf])
  have B:=hc.ok 1 (by simp) (by simp [sizesOf])
  simp only [List.getElem_cons_zero,List.getElem_cons_succ,sizesOf] at A B
  have f1:=s136 hp A (by omega) hss hi
  have f2:=s136 hp B (by omega) hss hi
  have b:=valA_bound hi u.1 A.len A.coef
  have b':=valA_bound hi v.1 B.len B.coef
  have g1:=A.lo; have g2:=A.hi; have g3:=B.lo; have g4:=B.hi
  have f3:=s137_1 hp (valA u.1 u.2 p) (valA v.1 v.2 p) (by omega) (by omega)
  have nn:numC 1 [u,v] p=valA u.1 u.2 p * 4+valA v.1 v.2 p:=by simp only [numC]; exact valA_add _ _ _ _
  rw [nn]
  simp [encC,atD,encA] at e1
  simp [encS] at e1
  simp [c67,x67_0,r67_0,x67_1,r67_1,x67_2,r67_2,x67_3,r67_3,x67_4,r67_4,x67_5,r67_5,x67_6,r67_6,x67_7,r67_7,execL_loop,u67_0,hlt,hte,encS,e1,f1,f2,f3,arrsD,w0,w1,w2]
 | 2,_,[],_,hc,e1 =>
  have f1:=s137_2 hp
  simp [encC,atD] at e1
  simp [encS] at e1
  simp [c67,x67_0,r67_0,x67_1,r67_1,x67_2,r67_2,x67_3,r67_3,x67_4,r67_4,x67_5,r67_5,x67_6,r67_6,x67_7,r67_7,execL_loop,u67_0,hlt,hte,encS,e1,f1,numC,arrsD,w0,w1,w2]
 | n+3,h,_,_,_,_=>omega
theorem acc_ok {s:Stp} (h:StpOk s) {a:Nat} {c:Nat × List (Int × List Int)} (ha:acc s a=some c):CellOk c.1 c.2 s.ss:=by
 cases a with
 | zero=>simp only [acc,List.getElem?_cons_zero,Option.some.injEq] at ha; subst ha; exact h.to
 | succ a=>simp only [acc,List.getElem?_cons_succ] at ha; exact h.fr c (List.mem_of_getElem? ha)
def S15 (t:List Stp) (i:Nat) (v:V) (tl:List (Nat × V)) (o:List (Nat × Nat × O)) (H:List O) (w:Nat):St :=
 St.mk ([(1,.ptr (.slot 1 0) 0),(3,v),(4,.d (.int .i64 (i:Nat)))]++tl) (Mem.mk ((1,0,.cells [.d (.list 2 arrsD),.d (stpsD t)] false) :: o) H w) [] none false none
def I15 (k:Nat) (p:List Int) (u:V) (a:Nat):List (Nat × V):=[(5,.d (.int .i64 (k:Nat))),(6,.d (.list 1 (ints p))),(7,u),(8,.d (.int .i64 (a:Nat)))]
def R15 (v:V) (o:List (Nat × Nat × O)) (rows:List D):Prop:=(rows=[]∧v=.d .nils∧o=[])∨(rows≠[]∧v=.sl (.slot 52 0) 1 rows.length 0 rows.length∧o=[(52,0,.vec 1 rows false true)])
def O15 (o:List (Nat × Nat × O)):Prop:=o=[]∨∃ g x,o=[(48,g,x)]
theorem in15_0 {t:List Stp} (ht:TaskOk t) (h3:t.length≤3) {k:Nat} {s:Stp} (hk:t[k]?=some s) {p:List Int} (hi:AtOk p s.ss) {i:Nat} {v:V} {o o2:List (Nat × Nat × O)} {rows:List D} (hv:R15 v o2 rows) (ho:O15 o) (H:List O) (w:Nat) :
  ∃ g w',execL K 15 l15_0 (S15 t i v (I15 k p (.d .nils) 0) (o++o2) H w)=some (.normal,S15 t i v (I15 k p (.sl (.slot 48 g) 2 1 0 1) 1) ((48,g,.vec 2 [placeD s.to p] false true) :: o2) H w'):=by
 have hs:=ht.ok s (List.mem_of_getElem? hk)
 have hlt:k < t.length:=(gS.1 hk).1
 have hte:t[k]=s:=(gS.1 hk).2
 have e1:=s53 H hs (a:=0) (c:=s.to) rfl
 have e2:=s67 H ht h3 hk (a:=0) (c:=s.to) rfl hs.to hi
 have hf:∀ l,lenV (V.d (frD l))=some l.length:=fun l=>by cases l<;>simp [frD]
 have hf:=hf s.fr
 have hfew:=hs.few
 simp only [lenV] at hf
 simp only [encS,encC] at e1
 simp only [encT] at e2
 have z0:((0:Nat):Int)=0:=rfl
 have z1:((1:Nat):Int)=1:=rfl
 simp only [z0] at e1 e2
 have hle:(0:Int)≤(s.fr.length:Int):=by omega
 rcases hv with ⟨rfl,rfl,rfl⟩ | ⟨hr,rfl,rfl⟩<;>rcases ho with rfl | ⟨g,x,rfl⟩
 all_goals simp [S15,I15,u15_0,x15_8,r15_8,x15_9,r15_9,x15_10,r15_10,stpsD,hlt,hte,encS,hf,e1,e2,w1,placeD,hle]
theorem in15_1 {t:List Stp} (ht:TaskOk t) (h3:t.length≤3) {k:Nat} {s:Stp} (hk:t[k]?=some s) {p:List Int} (hi:AtOk p s.ss) {i:Nat} {v:V} {o2:List (Nat × Nat × O)} {rows:List D} (hv:R15 v o2 rows) {a g:Nat} {c:Nat × List (Int × List Int)} (h1:1≤a) (ha:acc s a=some c) {l:List D} (hl:l.length=a) (H:List O) (w:Nat) :
  ∃ w',execL K 15 l15_0 (S15 t i v (I15 k p (.sl (.slot 48 g) 2 a 0 a) a) ((48,g,.vec 2 l false true) :: o2) H w)=some (.normal,S15 t i v (I15 k p (.sl (.slot 48 g) 2 (a+1) 0 (a+1)) (a+1)) ((48,g,.vec 2 (l++[placeD c p]) false true) :: o2) H w'):=by
 have hs:=ht.ok s (List.mem_of_getElem? hk)
 have hlt:k < t.length:=(gS.1 hk).1
 have hte:t[k]=s:=(gS.1 hk).2
 have hal:a≤s.fr.length:=by have:=(gS.1 ha).1; simp at this; omega
 have hfew:=hs.few
 have w1:wr .i64 ((a:Int)+1)=(a:Int)+1:=wrap_id (by omega) (by omega)
 have e1:=s53 H hs ha
 have e2:=s67 H ht h3 hk ha (acc_ok hs ha) hi
 have hf:∀ l,lenV (V.d (frD l))=some l.length:=fun l=>by cases l<;>simp [frD]
 have hf:=hf s.fr
 simp only [lenV] at hf
 simp only [encS,encC] at e1
 simp only [encT] at e2
 have hr1:(a+1) * 16≤4294967296:=by omega
 have hr2:a+1≤4294967296:=by omega
 rcases hv with ⟨rfl,rfl,rfl⟩ | ⟨hr,rfl,rfl⟩
 all_goals simp [S15,I15,u15_0,x15_8,r15_8,x15_9,r15_9,x15_10,r15_10,stpsD,hlt,hte,encS,hf,e1,e2,w1,placeD,hal,hl,hr1,hr2]
theorem in15_x {t:List Stp} (ht:TaskOk t) {k:Nat} {s:Stp} (hk:t[k]?=some s) {p:List Int} {i:Nat} {v:V} {o2:List (Nat × Nat × O)} {rows:List D} (hv:R15 v o2 rows) {g:Nat} {l:List D} (H:List O) (w:Nat) :
  execL K 15 l15_0 (S15 t i v (I15 k p (.sl (.slot 48 g) 2 (s.fr.length+1) 0 (s.fr.length+1)) (s.fr.length+1)) ((48,g,.vec 2 l false true) :: o2) H w)=some (.exit 2,S15 t i v (I15 k p (.sl (.slot 48 g) 2 (s.fr.length+1) 0 (s.fr.length+1)) (s.fr.length+1)++[(29,.d (.bool false))]) ((48,g,.vec 2 l false true) :: o2) H w):=by
 have hs:=ht.ok s (List.mem_of_getElem? hk)
 have hlt:k < t.length:=(gS.1 hk).1
 have hte:t[k]=s:=(gS.1 hk).2
 have hf:∀ l,lenV (V.d (frD l))=some l.length:=fun l=>by cases l<;>simp [frD]
 have hf:=hf s.fr
 simp only [lenV] at hf
 have hn:¬ ((s.fr.length:Int)+1≤(s.fr.length:Int)):=by omega
 rcases hv with ⟨rfl,rfl,rfl⟩ | ⟨hr,rfl,rfl⟩
 all_goals simp [S15,I15,u15_0,x15_8,r15_8,x15_9,r15_9,x15_10,r15_10,stpsD,hlt,hte,encS,hf,hn]
theorem in15_l {t:List Stp} (ht:TaskOk t) (h3:t.length≤3) {k:Nat} {s:Stp} (hk:t[k]?=some s) {p:List Int} (hi:AtOk p s.ss) {i:Nat} {v:V} {o2:List (Nat × Nat × O)} {rows:List D} (hv:R15 v o2 rows) (H:List O) {g:Nat} :
  ∀ (m a:Nat),a+m=s.fr.length+1→1≤a→∀ w,∃ w',execL K 15 (.loop l15_0) (S15 t i v (I15 k p (.sl (.slot 48 g) 2 a 0 a) a) ((48,g,.vec 2 ((touchD s p).take a) false true) :: o2) H w) =
   some (.exit 2,S15 t i v (I15 k p (.sl (.slot 48 g) 2 (s.fr.length+1) 0 (s.fr.length+1)) (s.fr.length+1)++[(29,.d (.bool false))]) ((48,g,.vec 2 (touchD s p) false true) :: o2) H w'):=by
 intro m
 have hlen:(touchD s p).length=s.fr.length+1:=by simp [touchD]
 induction m with
 | zero =>
  intro a h1 h2 w
  obtain rfl:a=s.fr.length+1:=by omega
  refine ⟨w,?_⟩
  rw [execL_loop,in15_x ht hk hv]
  rw [show (touchD s p).take (s.fr.length+1)=touchD s p by rw [← hlen,List.take_length]]
  rfl
 | succ m ih =>
  intro a h1 h2 w
  obtain ⟨c,hc⟩:∃ c,acc s a=some c:=⟨_,List.getElem?_eq_getElem (by simp; omega)⟩
  obtain ⟨w1,e1⟩:=in15_1 ht h3 hk hi (i:=i) hv (g:=g) h2 hc (l:=(touchD s p).take a) (by rw [List.length_take,hlen]; omega) H w
  obtain ⟨w2,e2⟩:=ih (a+1) (by omega) (by omega) w1
  refine ⟨w2,?_⟩
  rw [execL_loop,e1]
  have ht':(touchD s p).take (a+1)=(touchD s p).take a++[placeD c p]:=by
   rw [List.take_add_one]
   have:=touch_at (p:=p) hc
   rw [this]; rfl
  rw [← ht']
  exact e2
def rowD (x:Nat × Stp × List Int):D:=.list 2 (touchD x.2.1 x.2.2)
theorem rd15 {t:List Stp} (ht:TaskOk t) (h3:t.length≤3) {k j:Nat} {s:Stp} (hk:t[k]?=some s) {p:List Int} (hj:(allAt s.ss)[j]?=some p) {v:V} {o o2:List (Nat × Nat × O)} {rows:List D} (hv:R15 v o2 rows) (ho:O15 o) (hr:rows.length≤100) (hlt:((base t k+j:Nat):Int) < baseI t t.length) (H:List O) (w:Nat) :
  ∃ v' o' o2' w',execL K 15 l15_1 (S15 t (base t k+j) v [] (o++o2) H w)=some (.normal,S15 t (base t k+j+1) v' [] (o'++o2') H w')∧R15 v' o2' (rows++[rowD (k,s,p)])∧O15 o':=by
 have hbd:=baseI_bound t t.length ht.ok
 have hi:=mem_allAt.1 (List.mem_of_getElem? hj)
 have e1:=s61 H ht h3
 have e2:=s66 H ht h3 hk hj
 obtain ⟨g,w1,e3⟩:=in15_0 ht h3 hk hi (i:=base t k+j) hv ho H w
 obtain ⟨w2,e4⟩:=in15_l ht h3 hk hi (i:=base t k+j) hv H (g:=g) s.fr.length 1 (by omega) (Nat.le_refl _) w1
 have e5:execL K 15 (.loop l15_0) (S15 t (base t k+j) v (I15 k p (.d .nils) 0) (o++o2) H w)=some (.exit 2,S15 t (base t k+j) v (I15 k p (.sl (.slot 48 g) 2 (s.fr.length+1) 0 (s.fr.length+1)) (s.fr.length+1)++[(29,.d (.bool false))]) ((48,g,.vec 2 (touchD s p) false true) :: o2) H w2):=by
  rw [execL_loop,e3]
  exact e4
 generalize base t k+j=n at *
 have w3:wr .i64 ((n:Int)+1)=(n:Int)+1:=wrap_id (by omega) (by omega)
 simp only [encT] at e1 e2
 have hlen:(touchD s p).length=s.fr.length+1:=by simp [touchD]
 have htk:(touchD s p).take (s.fr.length+1)=touchD s p:=by rw [← hlen,List.take_length]
 have hr1:(rows.length+1) * 24≤4294967296:=by omega
 have hr2:rows.length+1≤4294967296:=by omega
 simp only [S15,I15,List.cons_append,List.nil_append] at e5
 have z0:((0:Nat):Int)=0:=rfl
 simp only [z0] at e5
 simp only [stpsD] at e5
 rcases hv with ⟨rfl,rfl,rfl⟩ | ⟨hr0,rfl,rfl⟩<;>rcases ho with rfl | ⟨g0,x0,rfl⟩<;>simp only [List.cons_append,List.nil_append,List.append_nil] at e5
 all_goals clear e3 e4
 ·have key:∃ w',execL K 15 l15_1 (S15 t n (.d .nils) [] [] H w)=some (.normal,S15 t (n+1) (.sl (.slot 52 0) 1 1 0 1) [] [(48,g,.vec 2 (touchD s p) true true),(52,0,.vec 1 [rowD (k,s,p)] false true)] H w'):=by
   simp [S15,u15_1,x15_3,r15_3,x15_4,r15_4,x15_5,r15_5,x15_6,r15_6,x15_7,r15_7,x15_11,r15_11,x15_4,r15_4,encT,stpsD,hlt,e1,e2,e5,w3,hlen,htk,rowD]
  obtain ⟨w',key⟩:=key
  exact ⟨_,[(48,g,_)],[(52,0,_)],w',key,.inr ⟨by simp,rfl,rfl⟩,.inr ⟨_,_,rfl⟩⟩
 ·have key:∃ w',execL K 15 l15_1 (S15 t n (.d .nils) [] [(48,g0,x0)] H w)=some (.normal,S15 t (n+1) (.sl (.slot 52 0) 1 1 0 1) [] [(48,g,.vec 2 (touchD s p) true true),(52,0,.vec 1 [rowD (k,s,p)] false true)] H w'):=by
   simp [S15,u15_1,x15_3,r15_3,x15_4,r15_4,x15_5,r15_5,x15_6,r15_6,x15_7,r15_7,x15_11,r15_11,x15_4,r15_4,encT,stpsD,hlt,e1,e2,e5,w3,hlen,htk,rowD]
  obtain ⟨w',key⟩:=key
  exact ⟨_,[(48,g,_)],[(52,0,_)],w',key,.inr ⟨by simp,rfl,rfl⟩,.inr ⟨_,_,rfl⟩⟩
 ·have key:∃ w',execL K 15 l15_1 (S15 t n (.sl (.slot 52 0) 1 rows.length 0 rows.length) [] [(52,0,.vec 1 rows false true)] H w)=some (.normal,S15 t (n+1) (.sl (.slot 52 0) 1 (rows.length+1) 0 (rows.length+1)) [] [(48,g,.vec 2 (touchD s p) true true),(52,0,.vec 1 (rows++[rowD (k,s,p)]) false true)] H w'):=by
   simp [S15,u15_1,x15_3,r15_3,x15_4,r15_4,x15_5,r15_5,x15_6,r15_6,x15_7,r15_7,x15_11,r15_11,x15_4,r15_4,encT,stpsD,hlt,e1,e2,e5,w3,hlen,htk,rowD,hr1,hr2]
  obtain ⟨w',key⟩:=key
  exact ⟨_,[(48,g,_)],[(52,0,_)],w',key,.inr ⟨by simp,by simp,rfl⟩,.inr ⟨_,_,rfl⟩⟩
 ·have key:∃ w',execL K 15 l15_1 (S15 t n (.sl (.slot 52 0) 1 rows.length 0 rows.length) [] [(48,g0,x0),(52,0,.vec 1 rows false true)] H w)=some (.normal,S15 t (n+1) (.sl (.slot 52 0) 1 (rows.length+1) 0 (rows.length+1)) [] [(48,g,.vec 2 (touchD s p) true true),(52,0,.vec 1 (rows++[rowD (k,s,p)]) false true)] H w'):=by
   simp [S15,u15_1,x15_3,r15_3,x15_4,r15_4,x15_5,r15_5,x15_6,r15_6,x15_7,r15_7,x15_11,r15_11,x15_4,r15_4,encT,stpsD,hlt,e1,e2,e5,w3,hlen,htk,rowD,hr1,hr2]
  obtain ⟨w',key⟩:=key
  exact ⟨_,[(48,g,_)],[(52,0,_)],w',key,.inr ⟨by simp,by simp,rfl⟩,.inr ⟨_,_,rfl⟩⟩
theorem lp15 {t:List Stp} (ht:TaskOk t) (h3:t.length≤3) (H:List O):∀ (m i:Nat),i+m=(allI 0 t).length→∀ (v:V) (o o2:List (Nat × Nat × O)) (w:Nat),R15 v o2 (((allI 0 t).take i).map rowD)→O15 o →
  ∃ v' o' o2' w',execL K 15 (.loop l15_1) (S15 t i v [] (o++o2) H w)=some (.exit 0,S15 t (allI 0 t).length v' [(12,.d (.bool false))] (o'++o2') H w')∧R15 v' o2' ((allI 0 t).map rowD)∧O15 o':=by
 have htot:baseI t t.length=((allI 0 t).length:Int):=by rw [baseI_eq t t.length ht.ok,allI_total]
 have e1:=s61 H ht h3
 simp only [encT] at e1
 have hn:=allI_len ht h3
 intro m
 induction m with
 | zero =>
  intro i hi v o o2 w hv ho
  obtain rfl:i=(allI 0 t).length:=by omega
  refine ⟨v,o,o2,w,?_,by rwa [List.take_length] at hv,ho⟩
  rw [execL_loop]
  rcases hv with ⟨hr,rfl,rfl⟩ | ⟨hr,rfl,rfl⟩<;>rcases ho with rfl | ⟨g,x,rfl⟩<;>simp [S15,u15_1,x15_3,r15_3,encT,stpsD,e1,htot]
 | succ m ih =>
  intro i hi v o o2 w hv ho
  have hlt:i < base t t.length:=by rw [← allI_total (m:=0)]; omega
  obtain ⟨k,s,j,p,h1,h2,rfl⟩:=at_base hlt
  have hx:=allI_at (m:=0) h1 h2
  obtain ⟨v1,o1,o3,w1,e2,hv1,ho1⟩:=rd15 ht h3 h1 h2 hv ho (by simp; omega) (by rw [htot]; omega) H w
  have htk:((allI 0 t).take (base t k+j+1)).map rowD=((allI 0 t).take (base t k+j)).map rowD++[rowD (k,s,p)]:=by
   rw [List.take_add_one,hx]
   simp
  rw [← htk] at hv1
  obtain ⟨v2,o4,o5,w2,e3,hv2,ho2⟩:=ih (base t k+j+1) (by omega) v1 o1 o3 w1 hv1 ho1
  exact ⟨v2,o4,o5,w2,by rw [execL_loop,e2]; exact e3,hv2,ho2⟩
def tableD (t:List Stp):D:=.list 1 ((allI 0 t).map rowD)
theorem allI_ne {t:List Stp} (ht:TaskOk t):allI 0 t≠[]:=by
 obtain ⟨x,r,rfl⟩:∃ x r,t=x :: r:=by
  cases t with
  | nil=>exact absurd ht.pos (by simp)
  | cons x r=>exact ⟨x,r,rfl⟩
 intro h
 have hx:=(ht.ok x (by simp)).sz
 have:=allAt_ne (fun s hs=>(hx.within s hs).1)
 simp [allI] at h
 exact this h.1
theorem s15 (hp:List O) {t:List Stp} (ht:TaskOk t) (h3:t.length≤3):∃ w,callL K (.fn (.func 15) [] []) [.d (encT t)] none hp=some (.ret (.d (tableD t)),false,hp,w):=by
 obtain ⟨v,o,o2,w,e1,hv,ho⟩:=lp15 ht h3 hp (allI 0 t).length 0 (by omega) (.d .nils) [] [] 0 (.inl ⟨by simp,rfl,rfl⟩) (.inl rfl)
 have hne:=allI_ne ht
 rcases hv with ⟨hr,_,_⟩ | ⟨hr,rfl,rfl⟩
 ·simp at hr; exact absurd hr hne
 ·have z0:((0:Nat):Int)=0:=rfl
  have e:=k15 [] [] [.d (encT t)] none hp
  have htk:((allI 0 t).map rowD).take (allI 0 t).length=(allI 0 t).map rowD:=by rw [← List.length_map (f:=rowD),List.take_length]
  rcases ho with rfl | ⟨g,x,rfl⟩<;>simp only [S15,List.cons_append,List.nil_append,z0,stpsD] at e1<;>simp [c15,x15_0,r15_0,x15_1,r15_1,x15_2,r15_2,x15_12,r15_12,encT,e1,htk] at e
  ·exact ⟨_,by simpa [encT,tableD] using e⟩
  ·exact ⟨_,by simpa [encT,tableD] using e⟩
theorem s107 (hp:List O) (k:Int):∃ w,callL K (.fn (.func 107) [] []) [.d (.int .i64 k)] none hp=some (.ret (.fn (.func 157) [] [.ptr (.heap hp.length) 0]),false,hp++[.cells [.d (.int .i64 k)] false],w):=by
 have e:=k107 [] [] [.d (.int .i64 k)] none hp
 simp [c107,x107_0,r107_0,x107_1,r107_1] at e
 exact ⟨_,e⟩
theorem s157 (hp:List O) {l T:Nat} {k:Nat} {t:List Stp} {ar:V} {ro1 ro2:Bool} (h3:t.length≤3) (hl:hp[l]?=some (.cells [.d (.int .i64 k)] ro1)) (hT:hp[T]?=some (.cells [ar,.d (.list 10 (t.map encS))] ro2)) (hk:k < t.length) :
  callL K (.fn (.func 157) [] [.ptr (.heap l) 0]) [.ptr (.heap T) 0] none hp=some (.ret (.d (.bool true)),false,hp,0):=by
 have w1:wr .i64 ((t.length:Int) - 1)=(t.length:Int) - 1:=wrap_id (by omega) (by omega)
 have e:=s109 hp (k:Int) 0 ((t.length:Int) - 1)
 have hc:(k:Int)≤(t.length:Int) - 1:=by omega
 simp [hc] at e
 rw [k157]
 simp [c157,x157_0,r157_0,x157_1,r157_1,hl,hT,w1,e]
theorem s106 (hp:List O) {l k:Nat} {t:List Stp} {ro1:Bool} (ht:TaskOk t) (h3:t.length≤3) (hl:hp[l]?=some (.cells [.d (.int .i64 k)] ro1)) (hk:k < t.length) :
  ∃ J w,callL K (.fn (.func 106) [] []) [.d (encT t),.vl [.fn (.func 157) [] [.ptr (.heap l) 0]]] none hp=some (.ret (.tuple [.ptr (.heap (hp++J).length) 0,.d (.int .i64 0)]),false,hp++J++[.cells [.d (.list 2 arrsD),.d (.list 10 (t.map encS))] false],w):=by
 obtain ⟨J,w1,e1⟩:=s120 hp ht h3
 have w2:wr .i64 1=1:=wrap_id (by omega) (by omega)
 have hll:=(gS.1 hl).1
 have e2:=s157 (hp++J++[.cells [.d (.list 2 arrsD),.d (.list 10 (t.map encS))] false]) (l:=l) (T:=(hp++J).length) (ar:=.d (.list 2 arrsD)) (ro1:=ro1) (ro2:=false) h3 (by rw [List.append_assoc,List.getElem?_append_left hll]; exact hl) (by rw [List.getElem?_append_right (Nat.le_refl _)]; simp) hk
 have e:=k106 [] [] [.d (encT t),.vl [.fn (.func 157) [] [.ptr (.heap l) 0]]] none hp
 simp only [encT] at e1 e
 simp at e2
 simp [c106,x106_0,r106_0,x106_1,r106_1,x106_2,r106_2,x106_4,r106_4,x106_5,r106_5,x106_6,r106_6,x106_7,r106_7,x106_8,r106_8,x106_10,r106_10,x106_11,r106_11,execL_loop,u106_0,e1,e2,w2] at e
 exact ⟨J,_,by simpa [encT] using e⟩
theorem s108n (hp:List O):callL K (.fn (.func 108) [] []) [.d .nils,.d (.int .i64 0)] none hp=some (.ret (.d (.int .i64 0)),false,hp,0):=by
 rw [k108]
 simp [c108,x108_0,r108_0,x108_1,r108_1,x108_2,r108_2,x108_3,r108_3,x108_4,r108_4,x108_5,r108_5]
@[simp] theorem zero_161:zeroT K 161=some .nilf:=by kernel_rfl
def S54 (k T:Nat) (st:D) (ss p:List Int) (n:Int) (i:Nat) (tl:List (Nat × V)) (H:List O) (w:Nat):St :=
 St.mk ([(1,.d (.int .i64 k)),(8,.ptr (.heap T) 0),(10,.d (szD ss)),(12,.d (.int .i64 n)),(44,.d (atV p)),(45,.d (.int .i64 p.length)),(46,.d (.int .i64 (i:Nat)))]++tl) (Mem.mk [(3,0,.cells [.d (.list 2 arrsD),.d st] false)] H w) [] none false none
theorem rd54 {k T:Nat} {st:D} {ss p:List Int} {n a b:Int} {i:Nat} (hs:SzOk ss) (hl:p.length=ss.length) (hi:p[i]?=some a) (hj:ss[i]?=some b) (h0:0≤a) (h1:a < b) (n0:0≤n) (n1:n≤100) (H:List O) (w:Nat) :
  ∃ w',execL K 54 l54_0 (S54 k T st ss p n i [] H w)=some (.normal,S54 k T st ss p (n * b+a) (i+1) [] H w'):=by
 have hb:=hs.within b (List.mem_of_getElem? hj)
 have hlt:=(gS.1 hi).1
 have hp2:=(gS.1 hi).2
 have hlt2:=(gS.1 hj).1
 have hs2:=(gS.1 hj).2
 have hfew:=hs.few
 have w1:wr .i64 ((i:Int)+1)=(i:Int)+1:=wrap_id (by omega) (by omega)
 have e1:=s109 H a 0 (b - 1) (by omega) (by omega)
 have w2:wr .i64 (b - 1)=b - 1:=wrap_id (by omega) (by omega)
 have key:0≤n * b∧n * b≤400:=by
  have:b=1∨b=2∨b=3∨b=4:=by omega
  rcases this with rfl | rfl | rfl | rfl<;>omega
 have w3:wr .i64 (n * b)=n * b:=wrap_id (by omega) (by omega)
 have w4:wr .i64 (n * b+a)=n * b+a:=wrap_id (by omega) (by omega)
 have hz:szD ss=.list 1 (ints ss):=by cases ss with
  | nil=>simp at hj
  | cons _ _=>rfl
 have ha:atV p=.list 1 (ints p):=by cases p with
  | nil=>simp at hi
  | cons _ _=>rfl
 simp [S54,u54_0,x54_10,r54_10,x54_11,r54_11,x54_12,r54_12,x54_14,r54_14,x54_15,r54_15,hz,ha,hlt,hlt2,hp2,hs2,e1,w1,w2,w3,w4]
theorem ex54 {k T:Nat} {st:D} {ss p:List Int} {n:Int} (H:List O) (w:Nat):execL K 54 l54_0 (S54 k T st ss p n p.length [] H w)=some (.exit 0,S54 k T st ss p n p.length [(47,.d (.bool false))] H w):=by
 simp [S54,u54_0,x54_10,r54_10]
theorem lp54 {k T:Nat} {st:D} {ss p:List Int} (hs:SzOk ss) (hi:AtOk p ss) (H:List O) (w:Nat) :
  ∃ w',execL K 54 (.loop l54_0) (S54 k T st ss p 0 0 [] H w)=some (.exit 0,S54 k T st ss p (numAt ss p) p.length [(47,.d (.bool false))] H w'):=by
 have hf:=hs.few
 match ss,p,hs,hf,hi with
 | [],[],hs,_,_=>exact ⟨w,by rw [execL_loop,show (0:Nat)=([]:List Int).length from rfl,ex54]; rfl⟩
 | [a],[i],hs,_,.cons h0 h1 .nil =>
  obtain ⟨w1,e1⟩:=rd54 (k:=k) (T:=T) (st:=st) (ss:=[a]) (p:=[i]) (i:=0) (n:=0) hs rfl rfl rfl h0 h1 (by omega) (by omega) H w
  refine ⟨w1,?_⟩
  rw [execL_loop,e1,show (0:Int) * a+i=i by omega]
  show execL K 54 (.loop l54_0) _=_
  rw [execL_loop,show (0+1:Nat)=[i].length from rfl,ex54]; rfl
 | [a,b],[i,j],hs,_,.cons h0 h1 (.cons h2 h3 .nil) =>
  have ha:=hs.within a (by simp)
  obtain ⟨w1,e1⟩:=rd54 (k:=k) (T:=T) (st:=st) (ss:=[a,b]) (p:=[i,j]) (i:=0) (n:=0) hs rfl rfl rfl h0 h1 (by omega) (by omega) H w
  obtain ⟨w2,e2⟩:=rd54 (k:=k) (T:=T) (st:=st) (ss:=[a,b]) (p:=[i,j]) (i:=1) (n:=i) hs rfl rfl rfl h2 h3 (by omega) (by omega) H w1
  refine ⟨w2,?_⟩
  rw [execL_loop,e1,show (0:Int) * a+i=i by omega]
  show execL K 54 (.loop l54_0) _=_
  rw [execL_loop,e2]
  show execL K 54 (.loop l54_0) _=_
  rw [execL_loop,show (1+1:Nat)=[i,j].length from rfl,ex54]; rfl
 | _ :: _ :: _ :: _,_,_,hf,_=>simp at hf
def M54 (L:List D) (k:Nat) (n:Int) (j:Nat) (tl:List (Nat × V)) (st:D) (o:List (Nat × Nat × O)) (H:List O) (w:Nat):St :=
 St.mk ([(12,.d (.int .i64 n)),(74,.d (.list 10 L)),(75,.d (.int .i64 k)),(76,.d (.int .i64 (j:Nat)))]++tl) (Mem.mk ((3,0,.cells [.d (.list 2 arrsD),.d st] false) :: o) H w) [] none false none
def O54 (o:List (Nat × Nat × O)):Prop:=o=[]∨∃ g x,o=[(16,g,x)]
theorem rm54 {L:List D} {k j:Nat} {n:Int} {st:D} {o:List (Nat × Nat × O)} {s:Stp} (hs:StpOk s) (hj:L[j]?=some (encS s)) (hk:j < k) (hk3:k≤100) (n0:0≤n) (n1:n≤1000) (ho:O54 o) (H:List O) (w:Nat) :
  ∃ o' w',execL K 54 l54_1 (M54 L k n j [] st o H w)=some (.normal,M54 L k (n+prodI s.ss) (j+1) [] st o' H w')∧O54 o':=by
 have hlt:=(gS.1 hj).1
 have hL:=(gS.1 hj).2
 have e1:=s110 H hs.sz
 have b1:=prodI_bound hs.sz
 have w1:wr .i64 ((j:Int)+1)=(j:Int)+1:=wrap_id (by omega) (by omega)
 have w2:wr .i64 (n+prodI s.ss)=n+prodI s.ss:=wrap_id (by omega) (by omega)
 have ca:=cArgs hs
 have cs:=cSz s.ss
 have cf:=cFr s.fr
 have ct:=cAtD s.to.2
 simp only [D.isCell] at ca cs cf ct
 simp only [encS] at hL
 rcases ho with rfl | ⟨g,x,rfl⟩
 ·have key:∃ g x w',execL K 54 l54_1 (M54 L k n j [] st [] H w)=some (.normal,M54 L k (n+prodI s.ss) (j+1) [] st [(16,g,x)] H w'):=by
   simp [M54,u54_1,x54_17,r54_17,x54_18,r54_18,x54_19,r54_19,x54_20,r54_20,hlt,hL,hk,e1,w1,w2,ca,cs,cf,ct]
  obtain ⟨g,x,w',key⟩:=key
  exact ⟨_,_,key,.inr ⟨_,_,rfl⟩⟩
 ·have key:∃ g' x' w',execL K 54 l54_1 (M54 L k n j [] st [(16,g,x)] H w)=some (.normal,M54 L k (n+prodI s.ss) (j+1) [] st [(16,g',x')] H w'):=by
   simp [M54,u54_1,x54_17,r54_17,x54_18,r54_18,x54_19,r54_19,x54_20,r54_20,hlt,hL,hk,e1,w1,w2,ca,cs,cf,ct]
  obtain ⟨g,x,w',key⟩:=key
  exact ⟨_,_,key,.inr ⟨_,_,rfl⟩⟩
theorem baseI_succ:∀ {t:List Stp} {j:Nat} {s:Stp},t[j]?=some s→baseI t (j+1)=baseI t j+prodI s.ss
 | [],_,_,h=>by simp at h
 | x :: r,0,s,h=>by
  simp at h; subst h
  cases r<;>simp [baseI]
 | x :: r,j+1,s,h=>by
  have:=baseI_succ (t:=r) (j:=j) (s:=s) (by simpa using h)
  simp only [baseI,this]; omega
theorem lm54 {t:List Stp} (ht:TaskOk t) (h3:t.length≤3) {k:Nat} (hk:k≤t.length) {n:Int} (n0:0≤n) (n1:n≤100) {st:D} (H:List O):∀ (m j:Nat),j+m=k→∀ (o:List (Nat × Nat × O)) (w:Nat),O54 o →
  ∃ o' w',execL K 54 (.loop l54_1) (M54 ((t.map encS).take k) k (n+baseI t j) j [] st o H w)=some (.exit 2,M54 ((t.map encS).take k) k (n+baseI t k) k [(77,.d (.bool false))] st o' H w')∧O54 o':=by
 intro m
 induction m with
 | zero =>
  intro j hj o w ho
  obtain rfl:j=k:=by omega
  refine ⟨o,w,?_,ho⟩
  rw [execL_loop]
  rcases ho with rfl | ⟨g,x,rfl⟩<;>simp [M54,u54_1,x54_17,r54_17]
 | succ m ih =>
  intro j hj o w ho
  have hlt:j < t.length:=by omega
  obtain ⟨s,hs⟩:∃ s,t[j]?=some s:=⟨_,List.getElem?_eq_getElem hlt⟩
  have bb:=baseI_bound t j ht.ok
  obtain ⟨o1,w1,e1,ho1⟩:=rm54 (k:=k) (st:=st) (n:=n+baseI t j) (ht.ok s (List.mem_of_getElem? hs)) (L:=(t.map encS).take k) (j:=j) (by rw [List.getElem?_take,if_pos (by omega),List.getElem?_map,hs]; rfl) (by omega) (by omega) (by omega) (by omega) ho H w
  obtain ⟨o2,w2,e2,ho2⟩:=ih (j+1) (by omega) o1 w1 ho1
  refine ⟨o2,w2,?_,ho2⟩
  rw [execL_loop,e1]
  rw [baseI_succ hs,← Int.add_assoc] at e2
  exact e2
theorem numAt_bd {ss p:List Int} (hs:SzOk ss) (hi:AtOk p ss):0≤numAt ss p∧numAt ss p≤100:=by
 have hf:=hs.few
 match ss,p,hs,hf,hi with
 | [],[],hs,_,_=>simp [numAt]
 | [a],[i],hs,_,.cons h0 h1 .nil=>have:=hs.within a (by simp); simp only [numAt]; omega
 | [a,b],[i,j],hs,_,.cons h0 h1 (.cons h2 h3 .nil) =>
  have ha:=hs.within a (by simp)
  have hb:=hs.within b (by simp)
  simp only [numAt]
  have:i=0∨i=1∨i=2∨i=3:=by omega
  rcases this with rfl | rfl | rfl | rfl<;>omega
 | _ :: _ :: _ :: _,_,_,hf,_=>simp at hf
theorem s54 (hp:List O) {t:List Stp} (ht:TaskOk t) (h3:t.length≤3) {k:Nat} {s:Stp} {p:List Int} (hk:t[k]?=some s) (hi:AtOk p s.ss) :
  ∃ H w,callL K (.fn (.func 54) [] []) [.d (encT t),.d (.int .i64 k),.d (atV p)] none hp=some (.ret (.tuple [.d (.int .i64 (numAt s.ss p+baseI t k)),.d (.int .i64 0)]),false,H,w):=by
 have hlt:=(gS.1 hk).1
 have hte:=(gS.1 hk).2
 have hs:=ht.ok s (List.mem_of_getElem? hk)
 obtain ⟨v1,e1⟩:=s107 hp (k:Int)
 obtain ⟨J,v2,e2⟩:=s106 (hp++[.cells [.d (.int .i64 (k:Int))] false]) (l:=hp.length) (k:=k) (ro1:=false) ht h3 (by simp) hlt
 generalize hH:hp++[O.cells [.d (.int .i64 (k:Int))] false]=H0 at *
 have hT:(H0++J++[.cells [.d (.list 2 arrsD),.d (.list 10 (t.map encS))] false])[(H0++J).length]?=some (.cells [.d (.list 2 arrsD),.d (.list 10 (t.map encS))] false):=by simp
 generalize H0++J++[O.cells [.d (.list 2 arrsD),.d (.list 10 (t.map encS))] false]=H at *
 generalize (H0++J).length=T at *
 have e3:callL K (.fn (.func 108) [] []) [.d (atV p),.d (.int .i64 s.ss.length)] none H=some (.ret (.d (.int .i64 0)),false,H,0):=by
  have:=hi.len
  match p,s.ss,this with
  | [],[],_=>exact s108n H
  | x :: xs,y :: ys,h=>exact s108 H (x :: xs) _ (by rw [h])
 have hl1:∀ ss,lenV (.d (szD ss))=some ss.length:=fun ss=>by cases ss<;>simp [szD]
 have hl1:=hl1 s.ss
 have hl2:∀ p,lenV (.d (atV p))=some p.length:=fun p=>by cases p<;>simp [atV]
 have hl2:=hl2 p
 simp only [lenV] at hl1 hl2
 have nb:=numAt_bd hs.sz hi
 -- the two loops,at the states that the run comes to
 have z0:((0:Nat):Int)=0:=rfl
 have hX:∃ X,callL K (.fn (.func 54) [] []) [.d (encT t),.d (.int .i64 k),.d (atV p)] none hp=X:=⟨_,rfl⟩
 have f1:∀ w,∃ w',execL K 54 (.loop l54_0) (S54 k T (.list 10 (t.map encS)) s.ss p 0 0 [] H w)=some (.exit 0,S54 k T (.list 10 (t.map encS)) s.ss p (numAt s.ss p) p.length [(47,.d (.bool false))] H w'):=fun w=>lp54 hs.sz hi H w
 have f2:∀ w,∃ o' w',execL K 54 (.loop l54_1) (M54 ((t.map encS).take k) k (numAt s.ss p) 0 [] (.list 10 (t.map encS)) [] H w)=some (.exit 2,M54 ((t.map encS).take k) k (numAt s.ss p+baseI t k) k [(77,.d (.bool false))] (.list 10 (t.map encS)) o' H w')∧O54 o':=fun w=>by
  have:=lm54 ht h3 (k:=k) (by omega) nb.1 nb.2 (st:=.list 10 (t.map encS)) H k 0 (by omega) [] w (.inl rfl)
  have hb0:baseI t 0=0:=by cases t<;>rfl
  rw [hb0,Int.add_zero] at this
  exact this
 simp only [S54,M54,List.cons_append,List.nil_append,z0] at f1 f2
 obtain ⟨W1,g1⟩:∃ W1,W1=v1 ||| v2:=⟨_,rfl⟩
 have e:=k54 [] [] [.d (encT t),.d (.int .i64 k),.d (atV p)] none hp
 have hkk:k≤t.length:=by omega
 simp only [encT] at e1 e2
 simp [c54,x54_0,r54_0,x54_1,r54_1,x54_2,r54_2,x54_4,r54_4,x54_5,r54_5,x54_6,r54_6,x54_8,r54_8,x54_9,r54_9,encT,e1,e2,hT,hlt,hte,encS,hl1,hl2,e3,hH] at e
 obtain ⟨u1,f1'⟩:=f1 (v1 ||| v2)
 obtain ⟨o',u2,f2',ho⟩:=f2 u1
 rcases ho with rfl | ⟨g,x,rfl⟩<;>simp [f1',f2',hT,hlt,hte,hkk,x54_16,r54_16,x54_21,r54_21] at e
 ·exact ⟨_,_,e⟩
 ·exact ⟨_,_,e⟩
end Mw
