/- DependLevels answers true for every list of numbers: its tied card holds; no condition beyond the card's own. -/
import Derived.Test.YtdjnccgeajpegaaGreatDoorQg
import Derived.Test.YtdjnccgeajpegaaGreatDoorXb
import Derived.Test.YtdjnccgeajpegaaGreatDoorXc
import Derived.Test.YtdjnccgeajpegaaGreatDoorKc
import Derived.Test.YtdjnccgeajpegaaGreatDoorXa
import Derived.Test.YtdjnccgeajpegaaGreatDoorQa
set_option linter.unusedVariables false
set_option linter.unusedSimpArgs false
namespace Mw
open Go Go.Proofs
set_option maxRecDepth 10000
set_option maxHeartbeats 4000000
theorem s97 (hp:List O) (n lo hi:Int):callL K (.fn (.func 97) [] []) [.d (.int .i64 n),.d (.int .i64 lo),.d (.int .i64 hi)] none hp=some (.ret (.d (.bool (decide (lo≤n∧n≤hi)))),false,hp,0):=by
 rw [k97]
 by_cases h1:lo≤n<;>by_cases h2:n≤hi<;>simp [c97,x97_0,x97_1,h1,h2]
theorem s68 (hp:List O) (T:Nat) {t:List Stp} {rest:List V} {ro:Bool} (hT:hp[T]?=some (.cells (.d (.list 2 arrsD) :: .d (stpsD t) :: rest) ro)) {s:Nat} (hs:s < t.length) (h3:t.length≤3) :
  callL K (.fn (.func 68) [] []) [.ptr (.heap T) 0,.d (.int .i64 s)] none hp=some (.ret (.d (.bool true)),false,hp,0):=by
 have hw:wr .i64 ((t.length:Int) - 1)=(t.length:Int) - 1:=wrap_id (by omega) (by omega)
 have h1:(s:Int)≤(t.length:Int) - 1:=by omega
 have e:=fun hp=>s97 hp s 0 ((t.length:Int) - 1)
 rw [k68]
 simp only [stpsD] at hT
 simp [c68,x68_0,x68_1,hT,hw,e,h1]
def acc (s:Stp) (a:Nat):Option (Nat × List (Int × List Int)):=(s.to :: s.fr)[a]?
structure Open (b T:Nat) (t:List Stp) (H:List O):Prop where
 ok:LAt b T (stpsD t) H (encI 0 (allI 0 t))
theorem Open.at {b T:Nat} {t:List Stp} {H:List O} (h:Open b T t H):∃ v,H[T]?=some (.cells [.d (.list 2 arrsD),.d (stpsD t),v] false):=by
 rcases h.ok with ⟨_,h⟩ | ⟨L,_,_,h,_⟩<;>exact ⟨_,h⟩
end Mw
namespace Mw
open Go Go.Proofs
set_option maxRecDepth 10000
set_option maxHeartbeats 4000000
theorem guard110:K.P.eqGuardType K.P.depth 110=false:=by kernel_rfl
theorem eq110 (a b c d:Int):eqT K 110 (.agg [.int .i64 a,.int .i64 b]) (.agg [.int .i64 c,.int .i64 d])=some (decide (a=c∧b=d)):=by
 have h1:K.P.underlying 110=some (.array 2 3):=by kernel_rfl
 have h2:K.P.eqGuardType K.P.depth 110=false:=by kernel_rfl
 have h3:K.P.underlying 3=some (.int .i64):=by kernel_rfl
 have e1:∀ x y:Int,x≠y→(x == y)=false:=fun x y h=>by simpa using h
 by_cases ha:a=c
 ·subst ha
  by_cases hb:b=d
  ·subst hb
   simp [eqT,h1,h2,eqItems,eqCell,h3]
  ·simp [eqT,h1,h2,eqItems,eqCell,h3,hb]
   rw [e1 _ _ hb]
 ·simp [eqT,h1,h2,eqItems,eqCell,h3,ha]
  rw [e1 _ _ ha]
end Mw
namespace Mw
open Go Go.Proofs
set_option maxRecDepth 10000
set_option maxHeartbeats 4000000
def LV (H:List O) (v:V) (p:List Int):Prop :=
 (p=[]∧v=.d .nils)∨(∃ l,p≠[]∧v=.sl (.heap l) 1 p.length 0 p.length∧H[l]?=some (.vec 1 (ints p) false true))
theorem LV.app {H:List O} {v:V} {p:List Int} (h:LV H v p) (J:List O):LV (H++J) v p:=by
 rcases h with h | ⟨l,h1,h2,h3⟩
 ·exact .inl h
 ·exact .inr ⟨l,h1,h2,app_at h3⟩
def pl (c:Nat × List (Int × List Int)) (p:List Int):Nat × Int:=(c.1,numC c.1 c.2 p)
def keyD (k:Nat × Int):D:=.agg [.int .i64 k.1,.int .i64 k.2]
def mapE (es:List ((Nat × Int) × List Int)):List (D × V):=es.map fun e=>(keyD e.1,.d (atV e.2))
theorem allAt_ne {ss:List Int} (h:∀ s∈ss,1≤s):allAt ss≠[]:=by
 induction ss with
 | nil=>simp [allAt]
 | cons a r ih =>
  have h1:=h a (by simp)
  have h2:=ih (fun s hs=>h s (List.mem_cons_of_mem _ hs))
  obtain ⟨n,hn⟩:∃ n:Nat,a.toNat=n+1:=⟨a.toNat - 1,by omega⟩
  simp only [allAt,hn]
  intro h3
  have:=List.flatMap_eq_nil_iff.1 h3 0 (by simp)
  simp at this
  exact h2 this
theorem mem_allAt {ss p:List Int}:p∈allAt ss↔AtOk p ss:=by
 induction ss generalizing p with
 | nil =>
  simp only [allAt,List.mem_singleton]
  constructor
  ·rintro rfl; exact .nil
  ·intro h; cases h; rfl
 | cons a r ih =>
  simp only [allAt,List.mem_flatMap,List.mem_range,List.mem_map]
  constructor
  ·rintro ⟨i,hi,q,hq,rfl⟩
   exact .cons (by simp) (by simp; omega) (ih.1 hq)
  ·intro h
   cases h with
   | @cons i _ _ _ h0 h1 h=>exact ⟨i.toNat,by omega,_,ih.2 h,by simp; omega⟩
theorem mem_allI {t:List Stp} {j k:Nat} {s:Stp} {p:List Int}:(k,s,p)∈allI j t↔j≤k∧t[k - j]?=some s∧p∈allAt s.ss:=by
 induction t generalizing j with
 | nil=>simp [allI]
 | cons x r ih =>
  simp only [allI,List.mem_append,List.mem_map,ih]
  constructor
  ·rintro (⟨q,hq,h⟩ | ⟨h1,h2,h3⟩)
   ·simp only [Prod.mk.injEq] at h
    obtain ⟨rfl,rfl,rfl⟩:=h
    simp [hq]
   ·refine ⟨by omega,?_,h3⟩
    rw [show k - j=(k - (j+1))+1 by omega]
    simpa using h2
  ·rintro ⟨h1,h2,h3⟩
   by_cases hk:k=j
   ·subst hk
    simp only [Nat.sub_self,List.getElem?_cons_zero,Option.some.injEq] at h2
    subst h2
    exact .inl ⟨p,h3,rfl⟩
   ·right
    refine ⟨by omega,?_,h3⟩
    rw [show k - j=(k - (j+1))+1 by omega] at h2
    simpa using h2
theorem encI_at {n i:Nat} {l:List (Nat × Stp × List Int)} {x:Nat × Stp × List Int} (h:l[i]?=some x):(encI n l)[i]?=some (instD (n+i) x):=by
 induction l generalizing n i with
 | nil=>simp at h
 | cons y r ih =>
  cases i with
  | zero=>simp at h; subst h; simp [encI]
  | succ i =>
   simp at h
   have:=ih (n:=n+1) h
   simp only [encI,List.getElem?_cons_succ,this]
   congr 2
   omega
theorem touch_at {s:Stp} {p:List Int} {a:Nat} {c:Nat × List (Int × List Int)} (h:acc s a=some c):(touchD s p)[a]?=some (keyD (pl c p)):=by
 cases a with
 | zero=>simp [acc] at h; subst h; rfl
 | succ a =>
  simp [acc] at h
  simp only [touchD,List.getElem?_cons_succ,List.getElem?_map,h]
  rfl
theorem Open.list {b T:Nat} {t:List Stp} {H:List O} (h:Open b T t H) (ht:TaskOk t):∃ L,H[T]?=some (.cells [.d (.list 2 arrsD),.d (stpsD t),.sl (.heap L) 4 (encI 0 (allI 0 t)).length 0 (encI 0 (allI 0 t)).length] false)∧H[L]?=some (.vec 4 (encI 0 (allI 0 t)) false true):=by
 rcases h.ok with ⟨h1,_⟩ | ⟨L,_,_,h3,h4⟩
 ·exfalso
  have hp:=ht.pos
  match t,ht,hp,h1 with
  | s :: r,ht,_,h1 =>
   have hs:=(ht.ok s (by simp)).sz
   have:=allAt_ne (fun s h=>(hs.within s h).1)
   simp only [allI] at h1
   match hA:allAt s.ss,this,h1 with
   | q :: _,_,h1=>simp [encI] at h1
 ·exact ⟨L,h3,h4⟩
theorem allI_len {t:List Stp} (ht:TaskOk t) (h3:t.length≤3):(allI 0 t).length≤48:=by
 have key:∀ (t:List Stp) (j:Nat),(∀ s∈t,StpOk s)→(allI j t).length≤16 * t.length:=by
  intro t
  induction t with
  | nil=>intro j _; simp [allI]
  | cons s r ih =>
   intro j h
   have h1:=allAt_len (h s (by simp)).sz
   have h2:=ih (j+1) (fun x hx=>h x (List.mem_cons_of_mem _ hx))
   simp [allI]
   omega
 have:=key t 0 ht.ok
 omega
end Mw
namespace Mw
open Go Go.Proofs
set_option maxRecDepth 10000
set_option maxHeartbeats 4000000
def IsPl (v:V) (ks:List (Nat × Int)):Prop:=v=.d (.list 2 (ks.map keyD))∨(v=.d .nils∧ks=[])
def plD:List (Nat × Int)→D
 | []=>.nils
 | k :: r=>.list 2 ((k :: r).map keyD)
def idxP (k:Nat × Int):Nat→List (Nat × Int)→Int
 | _,[]=>-1
 | i,x :: r=>if x=k then i else idxP k (i+1) r
theorem idxP_pos (k:Nat × Int):∀ (l:List (Nat × Int)) (i:Nat),(0≤idxP k i l)=(k∈l)
 | [],i=>by simp [idxP]
 | x :: r,i=>by
  by_cases h:x=k
  ·simp [idxP,h]
  ·simp only [idxP,if_neg h,idxP_pos k r (i+1),List.mem_cons]
   have:¬ k=x:=fun e=>h e.symm
   simp [this]
theorem idxP_neg (k:Nat × Int):∀ (l:List (Nat × Int)) (i:Nat),k ∉ l→idxP k i l=-1
 | [],i,_=>rfl
 | x :: r,i,h=>by
  have h1:¬ x=k:=fun e=>h (by simp [e])
  have h2:k ∉ r:=fun e=>h (List.mem_cons_of_mem _ e)
  simp only [idxP,if_neg h1,idxP_neg k r (i+1) h2]
def S196 (v:V) (k:Nat × Int) (n i:Nat) (tl:List (Nat × V)) (hp:List O) (w:Nat):St :=
 St.mk ([(0,v),(3,.ptr (.slot 3 0) 0),(7,.d (.int .i64 (n:Nat))),(8,.d (.int .i64 (i:Nat)))]++tl) (Mem.mk [(3,0,.cells [.d (.int .i64 k.1),.d (.int .i64 k.2)] false)] hp w) [] none false none
theorem rd196 {ks:List (Nat × Int)} {k x:Nat × Int} {i:Nat} (hn:ks.length≤1000) (hx:ks[i]?=some x) (hp:List O) (w:Nat) :
  execL K 196 l196_0 (S196 (.d (.list 2 (ks.map keyD))) k ks.length i [] hp w)=if x=k then some (.ret,{ S196 (.d (.list 2 (ks.map keyD))) k ks.length i [] hp w with tm:=[(4,.d (.int .i64 (i:Nat)))] }) else some (.normal,S196 (.d (.list 2 (ks.map keyD))) k ks.length (i+1) [] hp w):=by
 have hlt:=(gS.1 hx).1
 have hx2:=(gS.1 hx).2
 have w1:wr .i64 ((i:Int)+1)=(i:Int)+1:=wrap_id (by omega) (by omega)
 have gd:K.P.eqGuardType K.P.depth 110=false:=by kernel_rfl
 obtain ⟨a,b⟩:=x
 obtain ⟨c,d⟩:=k
 by_cases hb:(a:Int)=c
 ·by_cases hd:b=d
  ·have hac:a=c:=by omega
   subst hac; subst hd
   simp [S196,u196_0,x196_2,x196_3,x196_4,x196_5,x196_6,hlt,hx2,keyD,gd]
  ·have h1:(b == d)=false:=by simpa using hd
   have h3:(d == b)=false:=by simpa using fun e=>hd e.symm
   simp [S196,u196_0,x196_2,x196_3,x196_4,x196_5,x196_6,hlt,hx2,keyD,gd,hb,h1,h3,w1,hd]
 ·have h1:((a:Int) == c)=false:=by simpa using hb
  have hb':¬ a=c:=by omega
  have h3:((c:Int) == a)=false:=by simpa using fun e=>hb e.symm
  simp [S196,u196_0,x196_2,x196_3,x196_4,x196_5,x196_6,hlt,hx2,keyD,gd,h1,h3,w1,hb']
theorem ex196 {v:V} {n:Nat} {k:Nat × Int} (hp:List O) (w:Nat):execL K 196 l196_0 (S196 v k n n [] hp w)=some (.exit 0,S196 v k n n [(9,.d (.bool false))] hp w):=by
 simp [S196,u196_0,x196_2]
theorem lp196 {ks:List (Nat × Int)} {k:Nat × Int} (hn:ks.length≤1000) (hp:List O) (w:Nat) :
  ∀ (m i:Nat) (t:List (Nat × Int)),t.length=m→ks.drop i=t→i≤ks.length →
   execL K 196 (.loop l196_0) (S196 (.d (.list 2 (ks.map keyD))) k ks.length i [] hp w) =
    if k∈t then some (.ret,{ S196 (.d (.list 2 (ks.map keyD))) k ks.length i [] hp w with tm:=[(4,.d (.int .i64 (idxP k i t)))] })
    else some (.exit 0,S196 (.d (.list 2 (ks.map keyD))) k ks.length ks.length [(9,.d (.bool false))] hp w)
 | 0,i,t,hm,ht,hi=>by
  have ht0:t=[]:=List.eq_nil_of_length_eq_zero hm
  subst ht0
  have hie:i=ks.length:=by have:=List.drop_eq_nil_iff.1 ht; omega
  subst hie
  rw [execL_loop,ex196]; simp
 | m+1,i,t,hm,ht,hi=>by
  match t,hm,ht with
  | x :: r,hm,ht =>
   have hx:ks[i]?=some x:=by
    have:=congrArg List.head? ht; simpa [List.head?_drop] using this
   have hlt:=(gS.1 hx).1
   have hr:ks.drop (i+1)=r:=by
    have:=congrArg List.tail ht; simpa [List.tail_drop] using this
   rw [execL_loop,rd196 hn hx]
   by_cases h:x=k
   ·subst h; simp [idxP]
   ·have h':¬ k=x:=fun e=>h e.symm
    rw [if_neg h]
    show execL K 196 (.loop l196_0) _=_
    rw [lp196 hn hp w m (i+1) r (by simpa using hm) hr (by omega)]
    simp [idxP,h,h']
    rfl
theorem s196 (ks:List (Nat × Int)) (k:Nat × Int) (hn:ks.length≤1000) (hp:List O) :
  ∃ w,callL K (.fn (.func 196) [] []) [.d (plD ks),.d (keyD k)] none hp=some (.ret (.d (.int .i64 (idxP k 0 ks))),false,hp,w):=by
 cases hk:ks with
 | nil =>
  simp [plD,keyD,k196,c196,x196_0,x196_1,x196_7,execL_loop,u196_0,x196_2,idxP]
 | cons x r =>
  have e:=lp196 (ks:=ks) (k:=k) hn hp 0 ks.length 0 ks rfl (by simp) (by omega)
  rw [hk] at e
  by_cases h:k∈x :: r
  ·rw [if_pos h] at e
   simp [S196,keyD] at e
   simp [plD,keyD,k196,c196,x196_0,x196_1,x196_7,e]
  ·rw [if_neg h] at e
   simp [S196,keyD] at e
   simp [plD,keyD,k196,c196,x196_0,x196_1,x196_7,e,idxP_neg _ _ _ h]
theorem s145 (ks:List (Nat × Int)) (k:Nat × Int) (hn:ks.length≤1000) (hp:List O) :
  ∃ w,callL K (.fn (.func 145) [] []) [.d (plD ks),.d (keyD k)] none hp=some (.ret (.d (.bool (decide (k∈ks)))),false,hp,w):=by
 obtain ⟨w,e⟩:=s196 ks k hn hp
 by_cases h:k∈ks
 ·have h0:0≤idxP k 0 ks:=by rw [idxP_pos]; exact h
  simp only [keyD] at e ⊢
  simp [k145,c145,x145_0,x145_1,e,h,h0]
 ·have h0:¬ 0≤idxP k 0 ks:=by rw [idxP_pos]; exact h
  simp only [keyD] at e ⊢
  simp [k145,c145,x145_0,x145_1,e,h,h0]
end Mw
namespace Mw
open Go Go.Proofs
set_option maxRecDepth 10000
set_option maxHeartbeats 4000000
theorem plD0:plD []=.nils:=rfl
theorem plD1 (k:Nat × Int) (r:List (Nat × Int)):plD (k :: r)=.list 2 ((k :: r).map keyD):=rfl
def O134 (o:List (Nat × Nat × O)):Prop:=o=[]∨∃ g x,o=[(5,g,x)]
def S134 (ks:List (Nat × Int)) (i:Nat) (f:List (Nat × Int)) (tl:List (Nat × V)) (o:List (Nat × Nat × O)) (H:List O) (w:Nat):St :=
 St.mk ([(3,.d (plD f)),(6,.d (plD ks)),(7,.d (.int .i64 ks.length)),(8,.d (.int .i64 (i:Nat)))]++tl) (Mem.mk o H w) [] none false none
def addP (f:List (Nat × Int)) (k:Nat × Int):List (Nat × Int):=if k∈f then f else f++[k]
theorem rd134 {ks f:List (Nat × Int)} {x:Nat × Int} {i:Nat} (hn:ks.length≤1000) (hf:f.length≤i) (hx:ks[i]?=some x) {o:List (Nat × Nat × O)} (ho:O134 o) (H:List O) (w:Nat) :
  ∃ o' w',execL K 134 l134_0 (S134 ks i f [] o H w)=some (.normal,S134 ks (i+1) (addP f x) [] o' H w')∧O134 o':=by
 have hlt:=(gS.1 hx).1
 have hx2:=(gS.1 hx).2
 have w1:wr .i64 ((i:Int)+1)=(i:Int)+1:=wrap_id (by omega) (by omega)
 obtain ⟨w2,e⟩:=s145 f x (by omega) H
 have hk:plD ks=.list 2 (ks.map keyD):=by cases ks<;>simp_all [plD]
 cases f with
 | nil =>
  simp only [plD0,plD1,keyD,List.map_cons] at e
  rcases ho with rfl | ⟨g,y,rfl⟩
  all_goals simp [S134,u134_0,x134_3,x134_4,x134_5,x134_6,x134_7,hlt,hx2,hk,plD0,plD1,keyD,e,w1,addP]
  all_goals exact .inr ⟨_,_,rfl⟩
 | cons z f =>
  simp only [plD0,plD1,keyD,List.map_cons] at e
  have h0:(0:Int)≤(f.length:Int)+1:=by omega
  simp only [List.length_cons] at hf
  have h1:f.length≤4294967294:=by omega
  have h2:(f.length+1+1) * 16≤4294967296:=by omega
  have ht:List.take f.length (List.map keyD f)=List.map keyD f:=List.take_of_length_le (by simp)
  by_cases h:x∈z :: f
  ·rcases ho with rfl | ⟨g,y,rfl⟩
   all_goals simp [S134,u134_0,x134_3,x134_4,x134_5,x134_6,x134_7,hlt,hx2,hk,plD0,plD1,keyD,e,w1,addP,h,h0,h1,h2,ht]
   all_goals exact .inr ⟨_,_,rfl⟩
  ·rcases ho with rfl | ⟨g,y,rfl⟩
   all_goals simp [S134,u134_0,x134_3,x134_4,x134_5,x134_6,x134_7,hlt,hx2,hk,plD0,plD1,keyD,e,w1,addP,h,h0,h1,h2,ht]
   all_goals exact .inr ⟨_,_,rfl⟩
theorem addP_len (f:List (Nat × Int)) (k:Nat × Int):(addP f k).length≤f.length+1:=by
 unfold addP; split<;>simp
theorem ex134 {ks f:List (Nat × Int)} {o:List (Nat × Nat × O)} (H:List O) (w:Nat):execL K 134 l134_0 (S134 ks ks.length f [] o H w)=some (.exit 0,S134 ks ks.length f [(9,.d (.bool false))] o H w):=by
 simp [S134,u134_0,x134_3]
theorem lp134 {ks:List (Nat × Int)} (hn:ks.length≤1000) (H:List O) :
  ∀ (m i:Nat) (t f:List (Nat × Int)) (o:List (Nat × Nat × O)) (w:Nat),t.length=m→ks.drop i=t→i≤ks.length→f.length≤i→O134 o →
   ∃ o' w',execL K 134 (.loop l134_0) (S134 ks i f [] o H w)=some (.exit 0,S134 ks ks.length (t.foldl addP f) [(9,.d (.bool false))] o' H w')∧O134 o'
 | 0,i,t,f,o,w,hm,ht,hi,hf,ho=>by
  have ht0:t=[]:=List.eq_nil_of_length_eq_zero hm
  subst ht0
  have hie:i=ks.length:=by have:=List.drop_eq_nil_iff.1 ht; omega
  subst hie
  exact ⟨o,w,by rw [execL_loop,ex134]; rfl,ho⟩
 | m+1,i,t,f,o,w,hm,ht,hi,hf,ho=>by
  match t,hm,ht with
  | x :: r,hm,ht =>
   have hx:ks[i]?=some x:=by
    have:=congrArg List.head? ht; simpa [List.head?_drop] using this
   have hlt:=(gS.1 hx).1
   have hr:ks.drop (i+1)=r:=by
    have:=congrArg List.tail ht; simpa [List.tail_drop] using this
   obtain ⟨o1,w1,e1,ho1⟩:=rd134 hn hf hx ho H w
   obtain ⟨o2,w2,e2,ho2⟩:=lp134 hn H m (i+1) r (addP f x) o1 w1 (by simpa using hm) hr (by omega) (by have:=addP_len f x; omega) ho1
   refine ⟨o2,w2,?_,ho2⟩
   rw [execL_loop,e1]
   exact e2
def uniqP (ks:List (Nat × Int)):List (Nat × Int):=ks.foldl addP []
theorem s134 (ks:List (Nat × Int)) (hn:ks.length≤1000) (H:List O) :
  ∃ w,callL K (.fn (.func 134) [] []) [.d (plD ks)] none H=some (.ret (.d (plD (uniqP ks))),false,H,w):=by
 obtain ⟨o',w',e,ho⟩:=lp134 hn H ks.length 0 ks [] [] 0 rfl (by simp) (by omega) (by simp) (.inl rfl)
 have hl:lenV (V.d (plD ks))=some ks.length:=by cases ks<;>simp [plD]
 simp only [lenV] at hl
 have z0:((0:Nat):Int)=0:=rfl
 simp only [S134,List.append_nil,z0,plD0,List.cons_append,List.nil_append] at e
 have k:=k134 [] [] [.d (plD ks)] none H
 rcases ho with rfl | ⟨g,y,rfl⟩
 all_goals
  simp [c134,x134_0,x134_1,x134_2,x134_8,hl,e] at k
  exact ⟨_,k⟩
end Mw
namespace Mw
open Go Go.Proofs
set_option maxRecDepth 10000
set_option maxHeartbeats 4000000
def frPl (x:Nat × Stp × List Int):List (Nat × Int):=x.2.1.fr.map (pl · x.2.2)
def toPl (x:Nat × Stp × List Int):Nat × Int:=pl x.2.1.to x.2.2
theorem touchK (s:Stp) (p:List Int):touchD s p=keyD (pl s.to p) :: (s.fr.map (pl · p)).map keyD:=by
 simp [touchD,placeD,keyD,pl]
theorem s134e (H:List O):∃ w,callL K (.fn (.func 134) [] []) [.d (.list 2 [])] none H=some (.ret (.d .nils),false,H,w):=by
 simp [k134,c134,x134_0,x134_1,x134_2,x134_3,x134_8,u134_0,execL_loop]
theorem s65 (n:Nat) (x:Nat × Stp × List Int) (hf:x.2.1.fr.length≤3) (H:List O) :
  ∃ w,callL K (.fn (.func 65) [] []) [.d (instD n x)] none H=some (.ret (.d (plD (uniqP (frPl x)))),false,H,w):=by
 obtain ⟨w,e⟩:=s134 (frPl x) (by simp [frPl]; omega) H
 have ca:=cAt x.2.2
 simp only [D.isCell] at ca
 rcases hx:frPl x with _ | ⟨a,r⟩
 ·have hx':=hx; simp only [frPl] at hx'
  obtain ⟨w,e⟩:=s134e H
  have hu:plD (uniqP [])=.nils:=rfl
  rw [hu]
  simp [k65,c65,x65_0,x65_1,instD,touchK,hx',keyD,e,ca]
 ·have hx':=hx; simp only [frPl] at hx'
  rw [hx] at e
  simp only [plD1,List.map_cons,keyD] at e
  have ht:List.take r.length (List.map keyD r)=List.map keyD r:=List.take_of_length_le (by simp)
  simp [k65,c65,x65_0,x65_1,instD,touchK,hx',keyD,e,ca,ht]
end Mw
namespace Mw
section
variable {κ:Type} [DecidableEq κ]
def depOn (a b:κ × List κ):Prop:=a.1∈b.2∨b.1∈a.2∨a.1=b.1
def maxI (x y:Int):Int:=if y > x then y else x
theorem maxI_l (x y:Int):x≤maxI x y:=by unfold maxI; split<;>omega
theorem maxI_r (x y:Int):y≤maxI x y:=by unfold maxI; split<;>omega
theorem maxI_or (x y:Int):maxI x y=x∨maxI x y=y:=by unfold maxI; split<;>simp
def lvlOf (W R:κ→Int) (x:κ × List κ):Int:=x.2.foldl (fun a p=>maxI a (W p)) (maxI (W x.1) (R x.1))
def setK (f:κ→Int) (k:κ) (v:Int):κ→Int:=fun c=>if c=k then v else f c
def readsW (l:Int) (R:κ→Int) (rd:List κ):κ→Int:=rd.foldl (fun R p=>setK R p (maxI (R p) (l+1))) R
theorem fold_max {κ:Type} (W:κ→Int):∀ (rd:List κ) (a:Int),a≤rd.foldl (fun a p=>maxI a (W p)) a∧(∀ p∈rd,W p≤rd.foldl (fun a p=>maxI a (W p)) a) ∧
  (rd.foldl (fun a p=>maxI a (W p)) a=a∨∃ p∈rd,rd.foldl (fun a p=>maxI a (W p)) a=W p)
 | [],a=>⟨Int.le_refl _,by simp,.inl rfl⟩
 | p :: rd,a=>by
  obtain ⟨h1,h2,h3⟩:=fold_max W rd (maxI a (W p))
  simp only [List.foldl_cons]
  refine ⟨Int.le_trans (maxI_l _ _) h1,?_,?_⟩
  ·intro q hq
   rcases List.mem_cons.1 hq with rfl | hq
   ·exact Int.le_trans (maxI_r _ _) h1
   ·exact h2 q hq
  ·rcases h3 with h3 | ⟨q,hq,h3⟩
   ·rcases maxI_or a (W p) with h | h
    ·left; rw [h3,h]
    ·right; exact ⟨p,by simp,by rw [h3,h]⟩
   ·right; exact ⟨q,by simp [hq],h3⟩
theorem readsW_at (l:Int):∀ (rd:List κ) (R:κ→Int) (c:κ),readsW l R rd c=if c∈rd then maxI (R c) (l+1) else R c
 | [],R,c=>by simp [readsW]
 | p :: rd,R,c=>by
  have ih:=readsW_at l rd (setK R p (maxI (R p) (l+1))) c
  simp only [readsW,List.foldl_cons] at ih ⊢
  rw [ih]
  by_cases h:c=p
  ·subst h
   simp only [setK,if_true,List.mem_cons,true_or,if_true]
   split
   ·unfold maxI; split<;>(try split)<;>first | rfl | omega
   ·rfl
  ·simp only [setK,List.mem_cons,h,false_or,if_false]
structure LInv (done:List (κ × List κ)) (ls:List Int) (W R:κ→Int):Prop where
 len:ls.length=done.length
 nn:∀ (i:Nat) (l:Int),ls[i]?=some l→0≤l
 w0:∀ c,0≤W c
 r0:∀ c,0≤R c
 wlo:∀ (i:Nat) (x:κ × List κ) (l:Int),done[i]?=some x→ls[i]?=some l→l+1≤W x.1
 wat:∀ c,W c=0∨∃ (i:Nat) (x:κ × List κ) (l:Int),done[i]?=some x∧ls[i]?=some l∧x.1=c∧W c=l+1
 rlo:∀ (i:Nat) (x:κ × List κ) (l:Int) (p:κ),done[i]?=some x→ls[i]?=some l→p∈x.2→l+1≤R p
 rat:∀ c,R c=0∨∃ (i:Nat) (x:κ × List κ) (l:Int),done[i]?=some x∧ls[i]?=some l∧c∈x.2∧R c=l+1
 lv:∀ (m:Nat) (xm:κ × List κ) (lm:Int),done[m]?=some xm→ls[m]?=some lm→(∀ (n:Nat) (xn:κ × List κ) (ln:Int),n < m→done[n]?=some xn→ls[n]?=some ln→depOn xn xm→ln < lm) ∧
  (lm=0∨∃ (n:Nat) (xn:κ × List κ) (ln:Int),n < m∧done[n]?=some xn∧ls[n]?=some ln∧depOn xn xm∧ln+1=lm)
theorem LInv.nil {κ:Type}:LInv ([]:List (κ × List κ)) [] (fun _=>0) (fun _=>0):=by
 constructor<;>simp
theorem snoc_cases {α:Type} {l:List α} {a x:α} {i:Nat} (h:(l++[a])[i]?=some x):(l[i]?=some x∧i < l.length)∨(i=l.length∧x=a):=by
 by_cases hi:i < l.length
 ·rw [List.getElem?_append_left hi] at h; exact .inl ⟨h,hi⟩
 ·right
  rw [List.getElem?_append_right (by omega)] at h
  have:i - l.length=0:=by
   have:=(gS.1 h).1
   simp at this; omega
  rw [this] at h
  simp at h
  exact ⟨by omega,h.symm⟩
theorem LInv.step {done:List (κ × List κ)} {ls:List Int} {W R:κ→Int} (h:LInv done ls W R) (x:κ × List κ) :
  LInv (done++[x]) (ls++[lvlOf W R x]) (setK W x.1 (maxI (W x.1) (lvlOf W R x+1))) (readsW (lvlOf W R x) R x.2):=by
 obtain ⟨f1,f2,f3⟩:=fold_max W x.2 (maxI (W x.1) (R x.1))
 have hl:lvlOf W R x=x.2.foldl (fun a p=>maxI a (W p)) (maxI (W x.1) (R x.1)):=rfl
 rw [← hl] at f1 f2 f3
 generalize lvlOf W R x=l at *
 have g1:=maxI_l (W x.1) (R x.1)
 have g2:=maxI_r (W x.1) (R x.1)
 have hl0:0≤l:=by have:=h.w0 x.1; omega
 have inD:∀ {i y},done[i]?=some y→(done++[x])[i]?=some y:=fun {i y} hi=>by rw [List.getElem?_append_left (gS.1 hi).1]; exact hi
 have inL:∀ {i y},ls[i]?=some y→(ls++[l])[i]?=some y:=fun {i y} hi=>by rw [List.getElem?_append_left (gS.1 hi).1]; exact hi
 have lastD:(done++[x])[done.length]?=some x:=by simp
 have lastL:(ls++[l])[done.length]?=some l:=by rw [← h.len]; simp
 constructor
 ·simp [h.len]
 ·intro i y hi
  rcases snoc_cases hi with ⟨hi,_⟩ | ⟨_,rfl⟩
  ·exact h.nn i y hi
  ·exact hl0
 ·intro c
  simp only [setK]; split
  ·have:=h.w0 x.1; have:=maxI_l (W x.1) (l+1); omega
  ·exact h.w0 c
 ·intro c
  rw [readsW_at]; split
  ·have:=h.r0 c; have:=maxI_l (R c) (l+1); omega
  ·exact h.r0 c
 ·intro i y k hd hk
  have hw:∀ c,W c≤setK W x.1 (maxI (W x.1) (l+1)) c:=fun c=>by
   simp only [setK]; split
   ·rename_i e; subst e; exact maxI_l _ _
   ·exact Int.le_refl _
  rcases snoc_cases hd with ⟨hd,hlt⟩ | ⟨hd,rfl⟩
  ·rcases snoc_cases hk with ⟨hk,_⟩ | ⟨hk,_⟩
   ·exact Int.le_trans (h.wlo i y k hd hk) (hw _)
   ·have:=h.len; omega
  ·rcases snoc_cases hk with ⟨_,hk⟩ | ⟨_,rfl⟩
   ·have:=h.len; omega
   ·simp only [setK,if_true]; exact maxI_r _ _
 ·intro c
  simp only [setK]; split
  ·rename_i e; subst e
   rcases maxI_or (W x.1) (l+1) with e | e
   ·rw [e]
    rcases h.wat x.1 with h0 | ⟨i,y,k,a1,a2,a3,a4⟩
    ·exact .inl h0
    ·exact .inr ⟨i,y,k,inD a1,inL a2,a3,a4⟩
   ·rw [e]; exact .inr ⟨done.length,x,l,lastD,lastL,rfl,rfl⟩
  ·rcases h.wat c with h0 | ⟨i,y,k,a1,a2,a3,a4⟩
   ·exact .inl h0
   ·exact .inr ⟨i,y,k,inD a1,inL a2,a3,a4⟩
 ·intro i y k p hd hk hp
  rw [readsW_at]
  rcases snoc_cases hd with ⟨hd,hlt⟩ | ⟨hd,rfl⟩
  ·rcases snoc_cases hk with ⟨hk,_⟩ | ⟨hk,_⟩
   ·have:=h.rlo i y k p hd hk hp
    split
    ·exact Int.le_trans this (maxI_l _ _)
    ·exact this
   ·have:=h.len; omega
  ·rcases snoc_cases hk with ⟨_,hk⟩ | ⟨_,rfl⟩
   ·have:=h.len; omega
   ·rw [if_pos hp]; exact maxI_r _ _
 ·intro c
  rw [readsW_at]; split
  ·rename_i hc
   rcases maxI_or (R c) (l+1) with e | e
   ·rw [e]
    rcases h.rat c with h0 | ⟨i,y,k,a1,a2,a3,a4⟩
    ·exact .inl h0
    ·exact .inr ⟨i,y,k,inD a1,inL a2,a3,a4⟩
   ·rw [e]; exact .inr ⟨done.length,x,l,lastD,lastL,hc,rfl⟩
  ·rcases h.rat c with h0 | ⟨i,y,k,a1,a2,a3,a4⟩
   ·exact .inl h0
   ·exact .inr ⟨i,y,k,inD a1,inL a2,a3,a4⟩
 ·intro m xm lm hd hk
  have old:∀ {n xn ln},n < m→m≤done.length→(done++[x])[n]?=some xn→(ls++[l])[n]?=some ln→done[n]?=some xn∧ls[n]?=some ln:=fun {n xn ln} h1 h2 h3 h4=>by
   rw [List.getElem?_append_left (by omega)] at h3
   rw [List.getElem?_append_left (by rw [h.len]; omega)] at h4
   exact ⟨h3,h4⟩
  rcases snoc_cases hd with ⟨hd,hlt⟩ | ⟨rfl,rfl⟩
  ·rcases snoc_cases hk with ⟨hk,_⟩ | ⟨hk,_⟩
   ·obtain ⟨a,b⟩:=h.lv m xm lm hd hk
    refine ⟨fun n xn ln hn h1 h2 h3=>?_,?_⟩
    ·obtain ⟨h1,h2⟩:=old hn (by omega) h1 h2
     exact a n xn ln hn h1 h2 h3
    ·rcases b with b | ⟨n,xn,ln,b1,b2,b3,b4,b5⟩
     ·exact .inl b
     ·exact .inr ⟨n,xn,ln,b1,inD b2,inL b3,b4,b5⟩
   ·have:=h.len; omega
  ·rcases snoc_cases hk with ⟨_,hk⟩ | ⟨_,rfl⟩
   ·have:=h.len; omega
   ·refine ⟨fun n xn ln hn h1 h2 h3=>?_,?_⟩
    ·obtain ⟨h1,h2⟩:=old hn (Nat.le_refl _) h1 h2
     rcases h3 with h3 | h3 | h3
     ·have:=h.wlo n xn ln h1 h2
      have:=f2 xn.1 h3
      omega
     ·have:=h.rlo n xn ln xm.1 h1 h2 h3
      omega
     ·have:=h.wlo n xn ln h1 h2
      rw [h3] at this
      omega
    ·have fromW:∀ c,lm=W c→(c=xm.1∨c∈xm.2)→lm=0∨∃ (n:Nat) (xn:κ × List κ) (ln:Int),n < done.length∧(done++[xm])[n]?=some xn∧(ls++[lm])[n]?=some ln∧depOn xn xm∧ln+1=lm:=fun c hc hm=>by
      rcases h.wat c with h0 | ⟨i,y,k,a1,a2,a3,a4⟩
      ·left; omega
      ·right
       refine ⟨i,y,k,(gS.1 a1).1,inD a1,inL a2,?_,by omega⟩
       rcases hm with rfl | hm
       ·exact .inr (.inr a3)
       ·exact .inl (by rw [a3]; exact hm)
     rcases f3 with f3 | ⟨p,hp,f3⟩
     ·rcases maxI_or (W xm.1) (R xm.1) with e | e
      ·exact fromW xm.1 (by rw [f3,e]) (.inl rfl)
      ·rcases h.rat xm.1 with h0 | ⟨i,y,k,a1,a2,a3,a4⟩
       ·left; omega
       ·right
        exact ⟨i,y,k,(gS.1 a1).1,inD a1,inL a2,.inr (.inl a3),by omega⟩
     ·exact fromW p f3 (.inr hp)
end
end Mw
namespace Mw
open Go Go.Proofs
set_option maxRecDepth 10000
set_option maxHeartbeats 4000000
def mapI (es:List ((Nat × Int) × Int)):List (D × V):=es.map fun e=>(keyD e.1,.d (.int .i64 e.2))
def getE:List ((Nat × Int) × Int)→Nat × Int→Int
 | [],_=>0
 | e :: r,k=>if e.1=k then e.2 else getE r k
def setE:List ((Nat × Int) × Int)→Nat × Int→Int→List ((Nat × Int) × Int)
 | [],k,v=>[(k,v)]
 | e :: r,k,v=>if e.1=k then (k,v) :: r else e :: setE r k v
theorem get_set (es:List ((Nat × Int) × Int)) (k:Nat × Int) (v:Int):getE (setE es k v)=setK (getE es) k v:=by
 funext c
 induction es with
 | nil =>
  simp only [setE,getE,setK]
  by_cases h:c=k
  ·simp [h]
  ·have h2:¬ k=c:=fun x=>h x.symm
   simp [h,h2]
 | cons e r ih =>
  by_cases h:e.1=k
  ·simp only [setE,if_pos h,getE,setK]
   by_cases h2:c=k
   ·simp [h2]
   ·have h3:¬ k=c:=fun x=>h2 x.symm
    have h4:¬ e.1=c:=fun x=>h2 (x ▸ h)
    simp [h2,h3,h4]
  ·simp only [setE,if_neg h,getE,ih,setK]
   by_cases h2:c=k
   ·subst h2; simp [h]
   ·simp [h2]
theorem getE_nil:getE []=fun _=>0:=by funext c; rfl
theorem fndI (k:Nat × Int) (es:List ((Nat × Int) × Int)) :
  (findKey K 110 (keyD k) (mapI es)=some none∧getE es k=0∧∀ v,mapI es++[(keyD k,.d (.int .i64 v))]=mapI (setE es k v)) ∨
  (∃ j,findKey K 110 (keyD k) (mapI es)=some (some (j,.d (.int .i64 (getE es k))))∧∀ v,(mapI es).set j (keyD k,.d (.int .i64 v))=mapI (setE es k v)):=by
 induction es with
 | nil=>left; exact ⟨rfl,rfl,fun _=>rfl⟩
 | cons e r ih =>
  obtain ⟨⟨a,b⟩,q⟩:=e
  obtain ⟨c,d⟩:=k
  by_cases h:(c:Int)=a∧d=b
  ·right
   have hac:a=c:=by omega
   have hbd:b=d:=h.2.symm
   subst hac; subst hbd
   refine ⟨0,?_,?_⟩
   ·simp [mapI,findKey,keyD,guard110,getE]
   ·intro v; simp [mapI,keyD,setE]
  ·have hne:¬ (((a,b):Nat × Int)=(c,d)):=by
    intro e
    simp only [Prod.mk.injEq] at e
    exact h ⟨by omega,by omega⟩
   have hd:decide ((c:Int)=a∧d=b)=false:=by simpa using h
   rcases ih with ⟨h1,h2,h3⟩ | ⟨j,h1,h2⟩
   ·left
    refine ⟨?_,?_,?_⟩
    ·simp only [mapI,List.map_cons,findKey,keyD,eq110,hd]
     simp only [mapI,keyD] at h1
     rw [h1]
    ·simp only [getE,if_neg hne,h2]
    ·intro v
     have:=h3 v
     simp only [mapI,setE,if_neg hne,List.map_cons,List.cons_append] at this ⊢
     rw [this]
   ·right
    refine ⟨j+1,?_,?_⟩
    ·simp only [mapI,List.map_cons,findKey,keyD,eq110,hd,getE,if_neg hne]
     simp only [mapI,keyD] at h1
     rw [h1]
    ·intro v
     have:=h2 v
     simp only [mapI,setE,if_neg hne,List.map_cons,List.set_cons_succ] at this ⊢
     rw [this]
def O1 (a:Nat) (o:List (Nat × Nat × O)):Prop:=o=[]∨∃ g x,o=[(a,g,x)]
def I14 (L n i:Nat) (v8:V) (g10 g11:Nat) (l:Int) (rd:List (Nat × Int)) (j:Nat) (tl:List (Nat × V)) (o1 o10 o11:O) (o14 o16:List (Nat × Nat × O)) (m1 m2:List ((Nat × Int) × Int)) (o63:List (Nat × Nat × O)) (H:List O) (w:Nat):St :=
 St.mk ([(6,.map (.slot 25 0)),(7,.map (.slot 26 0)),(8,v8),(10,.ptr (.slot 10 g10) 0),(11,.ptr (.slot 11 g11) 0),(12,.d (.int .i64 l)),(30,.sl (.heap L) 4 n 0 n),(31,.d (.int .i64 n)),(32,.d (.int .i64 i)),(48,.d (plD rd)),(49,.d (.int .i64 rd.length)),(50,.d (.int .i64 (j:Nat)))]++tl)
  (Mem.mk ([(1,0,o1),(10,g10,o10),(11,g11,o11)]++(o14++(o16++((25,0,.map (mapI m1)) :: (26,0,.map (mapI m2)) :: o63)))) H w) [] none false none
theorem rd14_0 {L n i:Nat} {v8:V} {g10 g11:Nat} {l:Int} {rd:List (Nat × Int)} {j:Nat} {x:Nat × Int} {o1 o10 o11:O} {o14 o16:List (Nat × Nat × O)} {m1 m2:List ((Nat × Int) × Int)} {o63:List (Nat × Nat × O)}
  (hx:rd[j]?=some x) (hn:rd.length≤1000) (h14:O1 14 o14) (h16:O1 16 o16) (h63:O1 63 o63) (H:List O) (w:Nat) :
  ∃ o14' w',execL K 14 l14_0 (I14 L n i v8 g10 g11 l rd j [] o1 o10 o11 o14 o16 m1 m2 o63 H w)=some (.normal,I14 L n i v8 g10 g11 (maxI l (getE m1 x)) rd (j+1) [] o1 o10 o11 o14' o16 m1 m2 o63 H w')∧O1 14 o14':=by
 have hlt:=(gS.1 hx).1
 have hx2:=(gS.1 hx).2
 have w1:wr .i64 ((j:Int)+1)=(j:Int)+1:=wrap_id (by omega) (by omega)
 have hr:plD rd=.list 2 (rd.map keyD):=by cases rd<;>simp_all [plD]
 rcases fndI x m1 with ⟨f,hg,_⟩ | ⟨q,f,_⟩
 focus rw [hg]
 all_goals simp only [keyD] at f
 all_goals rcases h14 with rfl | ⟨g14,y14,rfl⟩
 all_goals rcases h16 with rfl | ⟨g16,y16,rfl⟩
 all_goals rcases h63 with rfl | ⟨g63,y63,rfl⟩
 all_goals simp [I14,u14_0,x14_12,x14_13,x14_14,x14_15,hlt,hx2,hr,keyD,f,w1,guard110,maxI]
 all_goals exact ⟨[(14,_,_)],rfl,.inr ⟨_,_,rfl⟩⟩
theorem ex14_0 {L n i:Nat} {v8:V} {g10 g11:Nat} {l:Int} {rd:List (Nat × Int)} {o1 o10 o11:O} {o14 o16:List (Nat × Nat × O)} {m1 m2:List ((Nat × Int) × Int)} {o63:List (Nat × Nat × O)} (H:List O) (w:Nat) :
  execL K 14 l14_0 (I14 L n i v8 g10 g11 l rd rd.length [] o1 o10 o11 o14 o16 m1 m2 o63 H w)=some (.exit 2,I14 L n i v8 g10 g11 l rd rd.length [(51,.d (.bool false))] o1 o10 o11 o14 o16 m1 m2 o63 H w):=by
 simp [I14,u14_0,x14_12]
theorem lp14_0 {L n i:Nat} {v8:V} {g10 g11:Nat} {rd:List (Nat × Int)} {o1 o10 o11:O} {o16:List (Nat × Nat × O)} {m1 m2:List ((Nat × Int) × Int)} {o63:List (Nat × Nat × O)}
  (hn:rd.length≤1000) (h16:O1 16 o16) (h63:O1 63 o63) (H:List O) :
  ∀ (m j:Nat) (t:List (Nat × Int)) (l:Int) (o14:List (Nat × Nat × O)) (w:Nat),t.length=m→rd.drop j=t→j≤rd.length→O1 14 o14 →
   ∃ o14' w',execL K 14 (.loop l14_0) (I14 L n i v8 g10 g11 l rd j [] o1 o10 o11 o14 o16 m1 m2 o63 H w)=some (.exit 2,I14 L n i v8 g10 g11 (t.foldl (fun a p=>maxI a (getE m1 p)) l) rd rd.length [(51,.d (.bool false))] o1 o10 o11 o14' o16 m1 m2 o63 H w')∧O1 14 o14'
 | 0,j,t,l,o14,w,hm,ht,hi,ho=>by
  have ht0:t=[]:=List.eq_nil_of_length_eq_zero hm
  subst ht0
  have hie:j=rd.length:=by have:=List.drop_eq_nil_iff.1 ht; omega
  subst hie
  exact ⟨o14,w,by rw [execL_loop,ex14_0]; rfl,ho⟩
 | m+1,j,t,l,o14,w,hm,ht,hi,ho=>by
  match t,hm,ht with
  | x :: r,hm,ht =>
   have hx:rd[j]?=some x:=by
    have:=congrArg List.head? ht; simpa [List.head?_drop] using this
   have hlt:=(gS.1 hx).1
   have hr:rd.drop (j+1)=r:=by
    have:=congrArg List.tail ht; simpa [List.tail_drop] using this
   obtain ⟨o1',w1,e1,ho1⟩:=rd14_0 (L:=L) (n:=n) (i:=i) (v8:=v8) (g10:=g10) (g11:=g11) (l:=l) (o1:=o1) (o10:=o10) (o11:=o11) (m1:=m1) (m2:=m2) hx hn ho h16 h63 H w
   obtain ⟨o2',w2,e2,ho2⟩:=lp14_0 hn h16 h63 H m (j+1) r (maxI l (getE m1 x)) o1' w1 (by simpa using hm) hr (by omega) ho1
   refine ⟨o2',w2,?_,ho2⟩
   rw [execL_loop,e1]
   exact e2
def J14 (L n i:Nat) (v8:V) (l:Int) (rd:List (Nat × Int)) (j:Nat) (tl:List (Nat × V)) (b:List (Nat × Nat × O)) (o14 o16:List (Nat × Nat × O)) (m1 m2:List ((Nat × Int) × Int)) (o63:List (Nat × Nat × O)) (H:List O) (w:Nat):St :=
 St.mk ([(6,.map (.slot 25 0)),(7,.map (.slot 26 0)),(8,v8),(12,.d (.int .i64 l)),(30,.sl (.heap L) 4 n 0 n),(31,.d (.int .i64 n)),(32,.d (.int .i64 i)),(73,.d (plD rd)),(74,.d (.int .i64 rd.length)),(75,.d (.int .i64 (j:Nat)))]++tl)
  (Mem.mk (b++(o14++(o16++((25,0,.map (mapI m1)) :: (26,0,.map (mapI m2)) :: o63)))) H w) [] none false none
def B14 (g10 g11:Nat) (o1 o10 o11:O):List (Nat × Nat × O):=[(1,0,o1),(10,g10,o10),(11,g11,o11)]
theorem rd14_1 {L n i:Nat} {v8:V} {g10 g11:Nat} {l:Int} {rd:List (Nat × Int)} {j:Nat} {x:Nat × Int} {o1 o10 o11:O} {o14 o16:List (Nat × Nat × O)} {m1 m2:List ((Nat × Int) × Int)} {o63:List (Nat × Nat × O)}
  (hx:rd[j]?=some x) (hn:rd.length≤1000) (hl0:0≤l) (hl1:l≤1000) (h14:O1 14 o14) (h16:O1 16 o16) (h63:O1 63 o63) (H:List O) (w:Nat) :
  ∃ o16' w',execL K 14 l14_1 (J14 L n i v8 l rd j [] (B14 g10 g11 o1 o10 o11) o14 o16 m1 m2 o63 H w)=some (.normal,J14 L n i v8 l rd (j+1) [] (B14 g10 g11 o1 o10 o11) o14 o16' m1 (setE m2 x (maxI (getE m2 x) (l+1))) o63 H w')∧O1 16 o16':=by
 have hlt:=(gS.1 hx).1
 have hx2:=(gS.1 hx).2
 have w1:wr .i64 ((j:Int)+1)=(j:Int)+1:=wrap_id (by omega) (by omega)
 have w2:wr .i64 (l+1)=l+1:=wrap_id (by omega) (by omega)
 have hr:plD rd=.list 2 (rd.map keyD):=by cases rd<;>simp_all [plD]
 rcases fndI x m2 with ⟨f,hg,hs⟩ | ⟨q,f,hs⟩
 focus rw [hg]
 all_goals simp only [keyD] at f
 all_goals rcases h14 with rfl | ⟨g14,y14,rfl⟩
 all_goals rcases h16 with rfl | ⟨g16,y16,rfl⟩
 all_goals rcases h63 with rfl | ⟨g63,y63,rfl⟩
 all_goals simp [J14,B14,u14_1,x14_19,x14_20,x14_21,x14_22,hlt,hx2,hr,keyD,f,w1,w2,guard110,maxI,← hs]
 all_goals exact ⟨[(16,_,_)],rfl,.inr ⟨_,_,rfl⟩⟩
end Mw
namespace Mw
open Go Go.Proofs
set_option maxRecDepth 10000
set_option maxHeartbeats 4000000
theorem s192 (n:Nat) (x:Nat × Stp × List Int) (H:List O) :
  ∃ w,callL K (.fn (.func 192) [] []) [.d (instD n x)] none H=some (.ret (.d (plD [toPl x])),false,H,w):=by
 have ca:=cAt x.2.2
 simp only [D.isCell] at ca
 simp [k192,c192,x192_0,x192_1,instD,touchK,keyD,ca,plD,toPl]
theorem info111:(K.P.info? 111).isSome=true:=by kernel_rfl
theorem m65 (v:V) (H:List O):callL K (.fn (.func 65) [v] []) [] none H=callL K (.fn (.func 65) [] []) [v] none H:=by rw [k65,k65]; rfl
theorem m192 (v:V) (H:List O):callL K (.fn (.func 192) [v] []) [] none H=callL K (.fn (.func 192) [] []) [v] none H:=by rw [k192,k192]; rfl
theorem s139 (n:Nat) (x:Nat × Stp × List Int) (hf:x.2.1.fr.length≤3) (H:List O) :
  (∃ w,callL K (.fn (.func 139) [] []) [.d (instD n x),.d (.int .i64 1)] none H=some (.ret (.d (plD (uniqP (frPl x)))),false,H,w)) ∧
  (∃ w,callL K (.fn (.func 139) [] []) [.d (instD n x),.d (.int .i64 2)] none H=some (.ret (.d (plD [toPl x])),false,H,w)) ∧
  (∃ w,callL K (.fn (.func 139) [] []) [.d (instD n x),.d (.int .i64 3)] none H=some (.ret (.d (plD [toPl x])),false,H,w)):=by
 obtain ⟨w1,e1⟩:=s65 n x hf H
 obtain ⟨w2,e2⟩:=s192 n x H
 have ca:=cAt x.2.2
 simp only [D.isCell] at ca
 simp only [instD] at e1 e2 ⊢
 refine ⟨?_,?_,?_⟩
 ·simp [k139,c139,x139_0,x139_1,x139_2,x139_3,x139_4,x139_5,x139_6,ca,m65,m192,info111,e1,e2]
 ·simp [k139,c139,x139_0,x139_1,x139_2,x139_3,x139_4,x139_5,x139_6,ca,m65,m192,info111,e1,e2]
 ·simp [k139,c139,x139_0,x139_1,x139_2,x139_3,x139_4,x139_5,x139_6,ca,m65,m192,info111,e1,e2]
theorem s142 (n:Nat) (x:Nat × Stp × List Int) (hf:x.2.1.fr.length≤3) (H:List O) :
  (∃ w,callL K (.fn (.func 142) [] []) [.d (instD n x),.d (.int .i64 1)] none H=some (.ret (.d (plD [toPl x])),false,H,w)) ∧
  (∃ w,callL K (.fn (.func 142) [] []) [.d (instD n x),.d (.int .i64 2)] none H=some (.ret (.d (plD (uniqP (frPl x)))),false,H,w)) ∧
  (∃ w,callL K (.fn (.func 142) [] []) [.d (instD n x),.d (.int .i64 3)] none H=some (.ret (.d (plD [toPl x])),false,H,w)):=by
 obtain ⟨w1,e1⟩:=s65 n x hf H
 obtain ⟨w2,e2⟩:=s192 n x H
 have ca:=cAt x.2.2
 simp only [D.isCell] at ca
 simp only [instD] at e1 e2 ⊢
 refine ⟨?_,?_,?_⟩
 ·simp [k142,c142,x142_0,x142_1,x142_2,x142_3,x142_4,ca,m65,m192,info111,e1,e2]
 ·simp [k142,c142,x142_0,x142_1,x142_2,x142_3,x142_4,ca,m65,m192,info111,e1,e2]
 ·simp [k142,c142,x142_0,x142_1,x142_2,x142_3,x142_4,ca,m65,m192,info111,e1,e2]
end Mw
namespace Mw
open Go Go.Proofs
set_option maxRecDepth 10000
set_option maxHeartbeats 4000000
theorem o140:K.orc 140=some sortO:=by kernel_rfl
theorem intsOf_ints:∀ xs:List Int,intsOf (ints xs)=some xs
 | []=>rfl
 | x :: r=>by simp [intsOf,intsOf_ints r]
theorem s140 (hp:List O) (l:Nat) (xs:List Int) (hl:l < hp.length) (hv:hp[l]=.vec 1 (ints xs) false true) (h2:xs.length≤1000) :
  callL K (.fn (.func 140) [] []) [.sl (.heap l) 1 xs.length 0 xs.length] none hp=some (.ret (.tuple []),false,hp.set l (.vec 1 (ints (sortI xs)) false true),1 <<< l):=by
 apply callL_orc o140
 have hv':hp[l]?=some (.vec 1 (ints xs) false true):=by rw [List.getElem?_eq_getElem hl,hv]
 have hb:xs.length≤100000000:=by omega
 have hln:(ints xs).length=xs.length:=by simp
 simp [sortO,hv',intsOf_ints,hb]
 try rfl
theorem s140e (hp:List O):callL K (.fn (.func 140) [] []) [.d .nils] none hp=some (.ret (.tuple []),false,hp,0):=by
 apply callL_orc o140
 rfl
end Mw
