/- DependProofs answers true for every list of numbers: its tied card holds; no condition beyond the card's own. -/
import Derived.Test.YtdjnccgeajpegaaGreatDoorQj
import Derived.Test.YtdjnccgeajpegaaGreatDoorXa
import Derived.Test.YtdjnccgeajpegaaGreatDoorXc
set_option linter.unusedVariables false
set_option linter.unusedSimpArgs false
set_option maxRecDepth 10000
set_option maxHeartbeats 4000000
namespace Mw
open Go Go.Proofs
theorem guard110:K.P.eqGuardType K.P.depth 110=false:=by kernel_rfl
theorem eq110 (a b c d:Int):eqT K 110 (.agg [.int .i64 a,.int .i64 b]) (.agg [.int .i64 c,.int .i64 d])=some (decide (a=c∧b=d)):=by
 have h1:K.P.underlying 110=some (.array 2 3):=by kernel_rfl
 have h2:K.P.eqGuardType K.P.depth 110=false:=by kernel_rfl
 have h3:K.P.underlying 3=some (.int .i64):=by kernel_rfl
 have e1:∀ x y:Int,x≠y→(x == y)=false:=fun x y h=>by simpa using h
 by_cases ha:a=c
 ·subst ha
  by_cases hb:b=d
  ·subst hb
   simp [eqT,h1,h2,eqItems,eqCell,h3]
  ·simp [eqT,h1,h2,eqItems,eqCell,h3,hb]
   rw [e1 _ _ hb]
 ·simp [eqT,h1,h2,eqItems,eqCell,h3,ha]
  rw [e1 _ _ ha]
theorem a30_0_A {s a u k m pa pb:Int} {b T L w i g:Nat} {H:List O} {E tl:List D} {o5 o16:O} {es:List (D × V)} {atp:D}
 (hL:H[L]?=some (.vec 4 E false true)) (hE:E[i]?=some (.agg [.int .i64 k,.int .i64 m,atp,.list 2 tl])) (hn:E.length≤1000) (cat:D.isCell atp=true)
 (hk:k≠u)
 : ∃ g' o16' w',execL K 30 l30_0 (St.mk [(1,.d (.int .i64 s)),(2,.d (.int .i64 a)),(3,.d (.int .i64 u)),(4,.d (.int .i64 (b:Nat))),(13,.ptr (.heap T) 0),(14,.map (.slot 35 0)),(39,.sl (.heap L) 4 E.length 0 E.length),(40,.d (.int .i64 E.length)),(41,.d (.int .i64 (i:Nat)))] (Mem.mk [(5,0,o5),(35,0,.map es)] H w) [] none false none)=some (.normal,(St.mk [(1,.d (.int .i64 s)),(2,.d (.int .i64 a)),(3,.d (.int .i64 u)),(4,.d (.int .i64 (b:Nat))),(13,.ptr (.heap T) 0),(14,.map (.slot 35 0)),(39,.sl (.heap L) 4 E.length 0 E.length),(40,.d (.int .i64 E.length)),(41,.d (.int .i64 ((i+1:Nat):Int)))] (Mem.mk [(5,0,o5),(16,g',o16'),(35,0,.map es)] H w') [] none false none)):=by
 have hlt:i < E.length:=(gS.1 hE).1
 have hE2:=(gS.1 hE).2
 have hlt1:i+1≤E.length:=hlt
 have hw:wr .i64 ((i:Int)+1)=(i:Int)+1:=wrap_id (by omega) (by omega)
 simp only [D.isCell] at cat
 simp [u30_0,x30_6,r30_6,x30_7,r30_7,x30_8,r30_8,x30_9,r30_9,x30_10,r30_10,x30_11,r30_11,x30_12,r30_12,hL,hE,hE2,hlt,hlt1,hw,hk,cat]
theorem a30_0_B {s a u k m pa pb:Int} {b T L w i g:Nat} {H:List O} {E tl:List D} {o5 o16:O} {es:List (D × V)} {atp:D} {fj:Nat} {atq:D}
 (hL:H[L]?=some (.vec 4 E false true)) (hE:E[i]?=some (.agg [.int .i64 k,.int .i64 m,atp,.list 2 tl])) (hn:E.length≤1000) (cat:D.isCell atp=true)
 (hk:k=u) (htl:tl[b]?=some (.agg [.int .i64 pa,.int .i64 pb])) (hf:findKey K 110 (.agg [.int .i64 pa,.int .i64 pb]) es=some (some (fj,.d atq)))
 : ∃ g' o16' w',execL K 30 l30_0 (St.mk [(1,.d (.int .i64 s)),(2,.d (.int .i64 a)),(3,.d (.int .i64 u)),(4,.d (.int .i64 (b:Nat))),(13,.ptr (.heap T) 0),(14,.map (.slot 35 0)),(39,.sl (.heap L) 4 E.length 0 E.length),(40,.d (.int .i64 E.length)),(41,.d (.int .i64 (i:Nat)))] (Mem.mk [(5,0,o5),(35,0,.map es)] H w) [] none false none)=some (.normal,(St.mk [(1,.d (.int .i64 s)),(2,.d (.int .i64 a)),(3,.d (.int .i64 u)),(4,.d (.int .i64 (b:Nat))),(13,.ptr (.heap T) 0),(14,.map (.slot 35 0)),(39,.sl (.heap L) 4 E.length 0 E.length),(40,.d (.int .i64 E.length)),(41,.d (.int .i64 ((i+1:Nat):Int)))] (Mem.mk [(5,0,o5),(16,g',o16'),(35,0,.map es)] H w') [] none false none)):=by
 have hlt:i < E.length:=(gS.1 hE).1
 have hE2:=(gS.1 hE).2
 have hlt1:i+1≤E.length:=hlt
 have hw:wr .i64 ((i:Int)+1)=(i:Int)+1:=wrap_id (by omega) (by omega)
 have hbl:b < tl.length:=(gS.1 htl).1
 have htl2:=(gS.1 htl).2
 simp only [D.isCell] at cat
 simp [u30_0,x30_6,r30_6,x30_7,r30_7,x30_8,r30_8,x30_9,r30_9,x30_10,r30_10,x30_11,r30_11,x30_12,r30_12,hL,hE,hE2,hlt,hlt1,hw,hk,cat,htl,htl2,hbl,hf,guard110]
theorem a30_0_C {s a u k m pa pb:Int} {b T L w i g:Nat} {H:List O} {E tl:List D} {o5 o16:O} {es:List (D × V)} {atp:D}
 (hL:H[L]?=some (.vec 4 E false true)) (hE:E[i]?=some (.agg [.int .i64 k,.int .i64 m,atp,.list 2 tl])) (hn:E.length≤1000) (cat:D.isCell atp=true)
 (hk:k=u) (htl:tl[b]?=some (.agg [.int .i64 pa,.int .i64 pb])) (hf:findKey K 110 (.agg [.int .i64 pa,.int .i64 pb]) es=some none)
 : ∃ g' o16' w',execL K 30 l30_0 (St.mk [(1,.d (.int .i64 s)),(2,.d (.int .i64 a)),(3,.d (.int .i64 u)),(4,.d (.int .i64 (b:Nat))),(13,.ptr (.heap T) 0),(14,.map (.slot 35 0)),(39,.sl (.heap L) 4 E.length 0 E.length),(40,.d (.int .i64 E.length)),(41,.d (.int .i64 (i:Nat)))] (Mem.mk [(5,0,o5),(35,0,.map es)] H w) [] none false none)=some (.normal,(St.mk [(1,.d (.int .i64 s)),(2,.d (.int .i64 a)),(3,.d (.int .i64 u)),(4,.d (.int .i64 (b:Nat))),(13,.ptr (.heap T) 0),(14,.map (.slot 35 0)),(39,.sl (.heap L) 4 E.length 0 E.length),(40,.d (.int .i64 E.length)),(41,.d (.int .i64 ((i+1:Nat):Int)))] (Mem.mk [(5,0,o5),(16,g',o16'),(35,0,.map (es++[(.agg [.int .i64 pa,.int .i64 pb],.d atp)]))] H w') [] none false none)):=by
 have hlt:i < E.length:=(gS.1 hE).1
 have hE2:=(gS.1 hE).2
 have hlt1:i+1≤E.length:=hlt
 have hw:wr .i64 ((i:Int)+1)=(i:Int)+1:=wrap_id (by omega) (by omega)
 have hbl:b < tl.length:=(gS.1 htl).1
 have htl2:=(gS.1 htl).2
 simp only [D.isCell] at cat
 simp [u30_0,x30_6,r30_6,x30_7,r30_7,x30_8,r30_8,x30_9,r30_9,x30_10,r30_10,x30_11,r30_11,x30_12,r30_12,hL,hE,hE2,hlt,hlt1,hw,hk,cat,htl,htl2,hbl,hf,guard110]
theorem a30_1_A {s a u k m pa pb:Int} {b T L w i g:Nat} {H:List O} {E tl:List D} {o5 o16:O} {es:List (D × V)} {atp:D}
 (hL:H[L]?=some (.vec 4 E false true)) (hE:E[i]?=some (.agg [.int .i64 k,.int .i64 m,atp,.list 2 tl])) (hn:E.length≤1000) (cat:D.isCell atp=true)
 (hk:k≠u)
 : ∃ g' o16' w',execL K 30 l30_0 (St.mk [(1,.d (.int .i64 s)),(2,.d (.int .i64 a)),(3,.d (.int .i64 u)),(4,.d (.int .i64 (b:Nat))),(13,.ptr (.heap T) 0),(14,.map (.slot 35 0)),(39,.sl (.heap L) 4 E.length 0 E.length),(40,.d (.int .i64 E.length)),(41,.d (.int .i64 (i:Nat)))] (Mem.mk [(5,0,o5),(16,g,o16),(35,0,.map es)] H w) [] none false none)=some (.normal,(St.mk [(1,.d (.int .i64 s)),(2,.d (.int .i64 a)),(3,.d (.int .i64 u)),(4,.d (.int .i64 (b:Nat))),(13,.ptr (.heap T) 0),(14,.map (.slot 35 0)),(39,.sl (.heap L) 4 E.length 0 E.length),(40,.d (.int .i64 E.length)),(41,.d (.int .i64 ((i+1:Nat):Int)))] (Mem.mk [(5,0,o5),(16,g',o16'),(35,0,.map es)] H w') [] none false none)):=by
 have hlt:i < E.length:=(gS.1 hE).1
 have hE2:=(gS.1 hE).2
 have hlt1:i+1≤E.length:=hlt
 have hw:wr .i64 ((i:Int)+1)=(i:Int)+1:=wrap_id (by omega) (by omega)
 simp only [D.isCell] at cat
 simp [u30_0,x30_6,r30_6,x30_7,r30_7,x30_8,r30_8,x30_9,r30_9,x30_10,r30_10,x30_11,r30_11,x30_12,r30_12,hL,hE,hE2,hlt,hlt1,hw,hk,cat]
theorem a30_1_B {s a u k m pa pb:Int} {b T L w i g:Nat} {H:List O} {E tl:List D} {o5 o16:O} {es:List (D × V)} {atp:D} {fj:Nat} {atq:D}
 (hL:H[L]?=some (.vec 4 E false true)) (hE:E[i]?=some (.agg [.int .i64 k,.int .i64 m,atp,.list 2 tl])) (hn:E.length≤1000) (cat:D.isCell atp=true)
 (hk:k=u) (htl:tl[b]?=some (.agg [.int .i64 pa,.int .i64 pb])) (hf:findKey K 110 (.agg [.int .i64 pa,.int .i64 pb]) es=some (some (fj,.d atq)))
 : ∃ g' o16' w',execL K 30 l30_0 (St.mk [(1,.d (.int .i64 s)),(2,.d (.int .i64 a)),(3,.d (.int .i64 u)),(4,.d (.int .i64 (b:Nat))),(13,.ptr (.heap T) 0),(14,.map (.slot 35 0)),(39,.sl (.heap L) 4 E.length 0 E.length),(40,.d (.int .i64 E.length)),(41,.d (.int .i64 (i:Nat)))] (Mem.mk [(5,0,o5),(16,g,o16),(35,0,.map es)] H w) [] none false none)=some (.normal,(St.mk [(1,.d (.int .i64 s)),(2,.d (.int .i64 a)),(3,.d (.int .i64 u)),(4,.d (.int .i64 (b:Nat))),(13,.ptr (.heap T) 0),(14,.map (.slot 35 0)),(39,.sl (.heap L) 4 E.length 0 E.length),(40,.d (.int .i64 E.length)),(41,.d (.int .i64 ((i+1:Nat):Int)))] (Mem.mk [(5,0,o5),(16,g',o16'),(35,0,.map es)] H w') [] none false none)):=by
 have hlt:i < E.length:=(gS.1 hE).1
 have hE2:=(gS.1 hE).2
 have hlt1:i+1≤E.length:=hlt
 have hw:wr .i64 ((i:Int)+1)=(i:Int)+1:=wrap_id (by omega) (by omega)
 have hbl:b < tl.length:=(gS.1 htl).1
 have htl2:=(gS.1 htl).2
 simp only [D.isCell] at cat
 simp [u30_0,x30_6,r30_6,x30_7,r30_7,x30_8,r30_8,x30_9,r30_9,x30_10,r30_10,x30_11,r30_11,x30_12,r30_12,hL,hE,hE2,hlt,hlt1,hw,hk,cat,htl,htl2,hbl,hf,guard110]
theorem a30_1_C {s a u k m pa pb:Int} {b T L w i g:Nat} {H:List O} {E tl:List D} {o5 o16:O} {es:List (D × V)} {atp:D}
 (hL:H[L]?=some (.vec 4 E false true)) (hE:E[i]?=some (.agg [.int .i64 k,.int .i64 m,atp,.list 2 tl])) (hn:E.length≤1000) (cat:D.isCell atp=true)
 (hk:k=u) (htl:tl[b]?=some (.agg [.int .i64 pa,.int .i64 pb])) (hf:findKey K 110 (.agg [.int .i64 pa,.int .i64 pb]) es=some none)
 : ∃ g' o16' w',execL K 30 l30_0 (St.mk [(1,.d (.int .i64 s)),(2,.d (.int .i64 a)),(3,.d (.int .i64 u)),(4,.d (.int .i64 (b:Nat))),(13,.ptr (.heap T) 0),(14,.map (.slot 35 0)),(39,.sl (.heap L) 4 E.length 0 E.length),(40,.d (.int .i64 E.length)),(41,.d (.int .i64 (i:Nat)))] (Mem.mk [(5,0,o5),(16,g,o16),(35,0,.map es)] H w) [] none false none)=some (.normal,(St.mk [(1,.d (.int .i64 s)),(2,.d (.int .i64 a)),(3,.d (.int .i64 u)),(4,.d (.int .i64 (b:Nat))),(13,.ptr (.heap T) 0),(14,.map (.slot 35 0)),(39,.sl (.heap L) 4 E.length 0 E.length),(40,.d (.int .i64 E.length)),(41,.d (.int .i64 ((i+1:Nat):Int)))] (Mem.mk [(5,0,o5),(16,g',o16'),(35,0,.map (es++[(.agg [.int .i64 pa,.int .i64 pb],.d atp)]))] H w') [] none false none)):=by
 have hlt:i < E.length:=(gS.1 hE).1
 have hE2:=(gS.1 hE).2
 have hlt1:i+1≤E.length:=hlt
 have hw:wr .i64 ((i:Int)+1)=(i:Int)+1:=wrap_id (by omega) (by omega)
 have hbl:b < tl.length:=(gS.1 htl).1
 have htl2:=(gS.1 htl).2
 simp only [D.isCell] at cat
 simp [u30_0,x30_6,r30_6,x30_7,r30_7,x30_8,r30_8,x30_9,r30_9,x30_10,r30_10,x30_11,r30_11,x30_12,r30_12,hL,hE,hE2,hlt,hlt1,hw,hk,cat,htl,htl2,hbl,hf,guard110]
def LV (H:List O) (v:V) (p:List Int):Prop :=
 (p=[]∧v=.d .nils)∨(∃ l,p≠[]∧v=.sl (.heap l) 1 p.length 0 p.length∧H[l]?=some (.vec 1 (ints p) false true))
theorem LV.app {H:List O} {v:V} {p:List Int} (h:LV H v p) (J:List O):LV (H++J) v p:=by
 rcases h with h | ⟨l,h1,h2,h3⟩
 ·exact .inl h
 ·exact .inr ⟨l,h1,h2,app_at h3⟩
theorem s81n (hp:List O):callL K (.fn (.func 81) [] []) [.d .nils] none hp=some (.ret (.d .nils),false,hp,0):=by
 rw [k81]
 simp [c81,x81_0,r81_0,x81_1,r81_1,x81_2,r81_2,x81_3,r81_3]
theorem s81a (hp:List O) (p:List Int) (h:p.length≤1000):∃ J v w,callL K (.fn (.func 81) [] []) [.d (atV p)] none hp=some (.ret v,false,hp++J,w)∧LV (hp++J) v p:=by
 cases p with
 | nil=>exact ⟨[],_,_,by simpa [atV] using s81n hp,.inl ⟨rfl,rfl⟩⟩
 | cons x xs =>
  refine ⟨[.vec 1 (ints (x :: xs)) false true],_,_,s81 hp x xs (by simp at h; omega),.inr ⟨hp.length,by simp,rfl,by simp⟩⟩
def pl (c:Nat × List (Int × List Int)) (p:List Int):Nat × Int:=(c.1,numC c.1 c.2 p)
def keyD (k:Nat × Int):D:=.agg [.int .i64 k.1,.int .i64 k.2]
def mapE (es:List ((Nat × Int) × List Int)):List (D × V):=es.map fun e=>(keyD e.1,.d (atV e.2))
theorem findK (k:Nat × Int) (es:List ((Nat × Int) × List Int)) :
  (findKey K 110 (keyD k) (mapE es)=some none∧∀ e∈es,e.1≠k)∨(∃ j e,e∈es∧e.1=k∧findKey K 110 (keyD k) (mapE es)=some (some (j,.d (atV e.2)))):=by
 induction es with
 | nil=>left; exact ⟨rfl,by simp⟩
 | cons e r ih =>
  obtain ⟨⟨a,b⟩,q⟩:=e
  obtain ⟨c,d⟩:=k
  by_cases h:(c:Int)=a∧d=b
  ·right
   refine ⟨0,((a,b),q),by simp,?_,?_⟩
   ·simp; omega
   ·simp only [mapE,List.map_cons,findKey,keyD,eq110,h,decide_true,and_self]
  ·have hne:((a,b):Nat × Int)≠(c,d):=by
    intro e
    simp only [Prod.mk.injEq] at e
    exact h ⟨by omega,by omega⟩
   have hd:decide ((c:Int)=a∧d=b)=false:=by simpa using h
   rcases ih with ⟨h1,h2⟩ | ⟨j,e,h1,h2,h3⟩
   ·left
    refine ⟨?_,?_⟩
    ·simp only [mapE,List.map_cons,findKey,keyD,eq110,hd]
     simp only [mapE,keyD] at h1
     rw [h1]
    ·intro e he
     rcases List.mem_cons.1 he with rfl | he
     ·exact hne
     ·exact h2 e he
   ·right
    refine ⟨j+1,e,List.mem_cons_of_mem _ h1,h2,?_⟩
    simp only [mapE,List.map_cons,findKey,keyD,eq110,hd]
    simp only [mapE,keyD] at h3
    rw [h3]
theorem allAt_ne {ss:List Int} (h:∀ s∈ss,1≤s):allAt ss≠[]:=by
 induction ss with
 | nil=>simp [allAt]
 | cons a r ih =>
  have h1:=h a (by simp)
  have h2:=ih (fun s hs=>h s (List.mem_cons_of_mem _ hs))
  obtain ⟨n,hn⟩:∃ n:Nat,a.toNat=n+1:=⟨a.toNat - 1,by omega⟩
  simp only [allAt,hn]
  intro h3
  have:=List.flatMap_eq_nil_iff.1 h3 0 (by simp)
  simp at this
  exact h2 this
theorem mem_allAt {ss p:List Int}:p∈allAt ss↔AtOk p ss:=by
 induction ss generalizing p with
 | nil =>
  simp only [allAt,List.mem_singleton]
  constructor
  ·rintro rfl; exact .nil
  ·intro h; cases h; rfl
 | cons a r ih =>
  simp only [allAt,List.mem_flatMap,List.mem_range,List.mem_map]
  constructor
  ·rintro ⟨i,hi,q,hq,rfl⟩
   exact .cons (by simp) (by simp; omega) (ih.1 hq)
  ·intro h
   cases h with
   | @cons i _ _ _ h0 h1 h=>exact ⟨i.toNat,by omega,_,ih.2 h,by simp; omega⟩
theorem mem_allI {t:List Stp} {j k:Nat} {s:Stp} {p:List Int}:(k,s,p)∈allI j t↔j≤k∧t[k - j]?=some s∧p∈allAt s.ss:=by
 induction t generalizing j with
 | nil=>simp [allI]
 | cons x r ih =>
  simp only [allI,List.mem_append,List.mem_map,ih]
  constructor
  ·rintro (⟨q,hq,h⟩ | ⟨h1,h2,h3⟩)
   ·simp only [Prod.mk.injEq] at h
    obtain ⟨rfl,rfl,rfl⟩:=h
    simp [hq]
   ·refine ⟨by omega,?_,h3⟩
    rw [show k - j=(k - (j+1))+1 by omega]
    simpa using h2
  ·rintro ⟨h1,h2,h3⟩
   by_cases hk:k=j
   ·subst hk
    simp only [Nat.sub_self,List.getElem?_cons_zero,Option.some.injEq] at h2
    subst h2
    exact .inl ⟨p,h3,rfl⟩
   ·right
    refine ⟨by omega,?_,h3⟩
    rw [show k - j=(k - (j+1))+1 by omega] at h2
    simpa using h2
theorem encI_at {n i:Nat} {l:List (Nat × Stp × List Int)} {x:Nat × Stp × List Int} (h:l[i]?=some x):(encI n l)[i]?=some (instD (n+i) x):=by
 induction l generalizing n i with
 | nil=>simp at h
 | cons y r ih =>
  cases i with
  | zero=>simp at h; subst h; simp [encI]
  | succ i =>
   simp at h
   have:=ih (n:=n+1) h
   simp only [encI,List.getElem?_cons_succ,this]
   congr 2
   omega
theorem touch_at {s:Stp} {p:List Int} {a:Nat} {c:Nat × List (Int × List Int)} (h:acc s a=some c):(touchD s p)[a]?=some (keyD (pl c p)):=by
 cases a with
 | zero=>simp [acc] at h; subst h; rfl
 | succ a =>
  simp [acc] at h
  simp only [touchD,List.getElem?_cons_succ,List.getElem?_map,h]
  rfl
theorem Open.list {b T:Nat} {t:List Stp} {H:List O} (h:Open b T t H) (ht:TaskOk t):∃ L,H[T]?=some (.cells [.d (.list 2 arrsD),.d (stpsD t),.sl (.heap L) 4 (encI 0 (allI 0 t)).length 0 (encI 0 (allI 0 t)).length] false)∧H[L]?=some (.vec 4 (encI 0 (allI 0 t)) false true):=by
 rcases h.ok with ⟨h1,_⟩ | ⟨L,_,_,h3,h4⟩
 ·exfalso
  have hp:=ht.pos
  match t,ht,hp,h1 with
  | s :: r,ht,_,h1 =>
   have hs:=(ht.ok s (by simp)).sz
   have:=allAt_ne (fun s h=>(hs.within s h).1)
   simp only [allI] at h1
   match hA:allAt s.ss,this,h1 with
   | q :: _,_,h1=>simp [encI] at h1
 ·exact ⟨L,h3,h4⟩
theorem allI_len {t:List Stp} (ht:TaskOk t) (h3:t.length≤3):(allI 0 t).length≤48:=by
 have key:∀ (t:List Stp) (j:Nat),(∀ s∈t,StpOk s)→(allI j t).length≤16 * t.length:=by
  intro t
  induction t with
  | nil=>intro j _; simp [allI]
  | cons s r ih =>
   intro j h
   have h1:=allAt_len (h s (by simp)).sz
   have h2:=ih (j+1) (fun x hx=>h x (List.mem_cons_of_mem _ hx))
   simp [allI]
   omega
 have:=key t 0 ht.ok
 omega
theorem b30_0_0_A {s k m pa pb:Int} {a T L w i g h:Nat} {H:List O} {E tl:List D} {o5 o16 o20:O} {es:List (D × V)} {atp:D}
 (hL:H[L]?=some (.vec 4 E false true)) (hE:E[i]?=some (.agg [.int .i64 k,.int .i64 m,atp,.list 2 tl])) (hn:E.length≤1000) (cat:D.isCell atp=true)
 (hk:k≠s)
 : ∃ h' o20' w',execL K 30 l30_1 (St.mk [(1,.d (.int .i64 s)),(2,.d (.int .i64 (a:Nat))),(14,.map (.slot 35 0)),(73,.sl (.heap L) 4 E.length 0 E.length),(74,.d (.int .i64 E.length)),(75,.d (.int .i64 (i:Nat)))] (Mem.mk [(5,0,o5),(35,0,.map es)] H w) [] none false none)=some (.normal,(St.mk [(1,.d (.int .i64 s)),(2,.d (.int .i64 (a:Nat))),(14,.map (.slot 35 0)),(73,.sl (.heap L) 4 E.length 0 E.length),(74,.d (.int .i64 E.length)),(75,.d (.int .i64 ((i+1:Nat):Int)))] (Mem.mk [(5,0,o5),(20,h',o20'),(35,0,.map es)] H w') [] none false none)):=by
 have hlt:i < E.length:=(gS.1 hE).1
 have hE2:=(gS.1 hE).2
 have hlt1:i+1≤E.length:=hlt
 have hw:wr .i64 ((i:Int)+1)=(i:Int)+1:=wrap_id (by omega) (by omega)
 simp only [D.isCell] at cat
 simp [u30_1,x30_14,r30_14,x30_15,r30_15,x30_16,r30_16,x30_17,r30_17,x30_18,r30_18,x30_19,r30_19,x30_20,r30_20,hL,hE,hE2,hlt,hlt1,hw,hk,cat]
theorem b30_0_0_B {s k m pa pb:Int} {a T L w i g h:Nat} {H:List O} {E tl:List D} {o5 o16 o20:O} {es:List (D × V)} {atp:D}
 (hL:H[L]?=some (.vec 4 E false true)) (hE:E[i]?=some (.agg [.int .i64 k,.int .i64 m,atp,.list 2 tl])) (hn:E.length≤1000) (cat:D.isCell atp=true)
 (hk:k=s) (htl:tl[a]?=some (.agg [.int .i64 pa,.int .i64 pb])) (hf:findKey K 110 (.agg [.int .i64 pa,.int .i64 pb]) es=some none)
 : ∃ h' o20' w',execL K 30 l30_1 (St.mk [(1,.d (.int .i64 s)),(2,.d (.int .i64 (a:Nat))),(14,.map (.slot 35 0)),(73,.sl (.heap L) 4 E.length 0 E.length),(74,.d (.int .i64 E.length)),(75,.d (.int .i64 (i:Nat)))] (Mem.mk [(5,0,o5),(35,0,.map es)] H w) [] none false none)=some (.normal,(St.mk [(1,.d (.int .i64 s)),(2,.d (.int .i64 (a:Nat))),(14,.map (.slot 35 0)),(73,.sl (.heap L) 4 E.length 0 E.length),(74,.d (.int .i64 E.length)),(75,.d (.int .i64 ((i+1:Nat):Int)))] (Mem.mk [(5,0,o5),(20,h',o20'),(35,0,.map es)] H w') [] none false none)):=by
 have hlt:i < E.length:=(gS.1 hE).1
 have hE2:=(gS.1 hE).2
 have hlt1:i+1≤E.length:=hlt
 have hw:wr .i64 ((i:Int)+1)=(i:Int)+1:=wrap_id (by omega) (by omega)
 have hbl:a < tl.length:=(gS.1 htl).1
 have htl2:=(gS.1 htl).2
 simp only [D.isCell] at cat
 simp [u30_1,x30_14,r30_14,x30_15,r30_15,x30_16,r30_16,x30_17,r30_17,x30_18,r30_18,x30_19,r30_19,x30_20,r30_20,hL,hE,hE2,hlt,hlt1,hw,hk,cat,htl,htl2,hbl,hf,guard110]
theorem b30_0_0_C {s k m pa pb:Int} {a T L w i g h:Nat} {H:List O} {E tl:List D} {o5 o16 o20:O} {es:List (D × V)} {atp:D} {fj:Nat} {atq:D} {P Q:V} {H1 H2:List O} {w1 w2:Nat}
 (hL:H[L]?=some (.vec 4 E false true)) (hE:E[i]?=some (.agg [.int .i64 k,.int .i64 m,atp,.list 2 tl])) (hn:E.length≤1000) (cat:D.isCell atp=true)
 (hk:k=s) (htl:tl[a]?=some (.agg [.int .i64 pa,.int .i64 pb])) (hf:findKey K 110 (.agg [.int .i64 pa,.int .i64 pb]) es=some (some (fj,.d atq)))
 (e1:CK 81 [.d atp] H P H1 w1) (e2:CK 81 [.d atq] H1 Q H2 w2)
 : ∃ ob w',execL K 30 l30_1 (St.mk [(1,.d (.int .i64 s)),(2,.d (.int .i64 (a:Nat))),(14,.map (.slot 35 0)),(73,.sl (.heap L) 4 E.length 0 E.length),(74,.d (.int .i64 E.length)),(75,.d (.int .i64 (i:Nat)))] (Mem.mk [(5,0,o5),(35,0,.map es)] H w) [] none false none)=some (.ret,St.mk [(10,P),(11,Q),(12,.d (.int .i64 0))] (Mem.mk ob H2 w') [] none false none):=by
 have hlt:i < E.length:=(gS.1 hE).1
 have hE2:=(gS.1 hE).2
 have hlt1:i+1≤E.length:=hlt
 have hw:wr .i64 ((i:Int)+1)=(i:Int)+1:=wrap_id (by omega) (by omega)
 have hbl:a < tl.length:=(gS.1 htl).1
 have htl2:=(gS.1 htl).2
 simp only [D.isCell] at cat
 simp [u30_1,x30_14,r30_14,x30_15,r30_15,x30_16,r30_16,x30_17,r30_17,x30_18,r30_18,x30_19,r30_19,x30_20,r30_20,hL,hE,hE2,hlt,hlt1,hw,hk,cat,htl,htl2,hbl,hf,guard110,e1,e2]
theorem b30_0_1_A {s k m pa pb:Int} {a T L w i g h:Nat} {H:List O} {E tl:List D} {o5 o16 o20:O} {es:List (D × V)} {atp:D}
 (hL:H[L]?=some (.vec 4 E false true)) (hE:E[i]?=some (.agg [.int .i64 k,.int .i64 m,atp,.list 2 tl])) (hn:E.length≤1000) (cat:D.isCell atp=true)
 (hk:k≠s)
 : ∃ h' o20' w',execL K 30 l30_1 (St.mk [(1,.d (.int .i64 s)),(2,.d (.int .i64 (a:Nat))),(14,.map (.slot 35 0)),(73,.sl (.heap L) 4 E.length 0 E.length),(74,.d (.int .i64 E.length)),(75,.d (.int .i64 (i:Nat)))] (Mem.mk [(5,0,o5),(20,h,o20),(35,0,.map es)] H w) [] none false none)=some (.normal,(St.mk [(1,.d (.int .i64 s)),(2,.d (.int .i64 (a:Nat))),(14,.map (.slot 35 0)),(73,.sl (.heap L) 4 E.length 0 E.length),(74,.d (.int .i64 E.length)),(75,.d (.int .i64 ((i+1:Nat):Int)))] (Mem.mk [(5,0,o5),(20,h',o20'),(35,0,.map es)] H w') [] none false none)):=by
 have hlt:i < E.length:=(gS.1 hE).1
 have hE2:=(gS.1 hE).2
 have hlt1:i+1≤E.length:=hlt
 have hw:wr .i64 ((i:Int)+1)=(i:Int)+1:=wrap_id (by omega) (by omega)
 simp only [D.isCell] at cat
 simp [u30_1,x30_14,r30_14,x30_15,r30_15,x30_16,r30_16,x30_17,r30_17,x30_18,r30_18,x30_19,r30_19,x30_20,r30_20,hL,hE,hE2,hlt,hlt1,hw,hk,cat]
theorem b30_0_1_B {s k m pa pb:Int} {a T L w i g h:Nat} {H:List O} {E tl:List D} {o5 o16 o20:O} {es:List (D × V)} {atp:D}
 (hL:H[L]?=some (.vec 4 E false true)) (hE:E[i]?=some (.agg [.int .i64 k,.int .i64 m,atp,.list 2 tl])) (hn:E.length≤1000) (cat:D.isCell atp=true)
 (hk:k=s) (htl:tl[a]?=some (.agg [.int .i64 pa,.int .i64 pb])) (hf:findKey K 110 (.agg [.int .i64 pa,.int .i64 pb]) es=some none)
 : ∃ h' o20' w',execL K 30 l30_1 (St.mk [(1,.d (.int .i64 s)),(2,.d (.int .i64 (a:Nat))),(14,.map (.slot 35 0)),(73,.sl (.heap L) 4 E.length 0 E.length),(74,.d (.int .i64 E.length)),(75,.d (.int .i64 (i:Nat)))] (Mem.mk [(5,0,o5),(20,h,o20),(35,0,.map es)] H w) [] none false none)=some (.normal,(St.mk [(1,.d (.int .i64 s)),(2,.d (.int .i64 (a:Nat))),(14,.map (.slot 35 0)),(73,.sl (.heap L) 4 E.length 0 E.length),(74,.d (.int .i64 E.length)),(75,.d (.int .i64 ((i+1:Nat):Int)))] (Mem.mk [(5,0,o5),(20,h',o20'),(35,0,.map es)] H w') [] none false none)):=by
 have hlt:i < E.length:=(gS.1 hE).1
 have hE2:=(gS.1 hE).2
 have hlt1:i+1≤E.length:=hlt
 have hw:wr .i64 ((i:Int)+1)=(i:Int)+1:=wrap_id (by omega) (by omega)
 have hbl:a < tl.length:=(gS.1 htl).1
 have htl2:=(gS.1 htl).2
 simp only [D.isCell] at cat
 simp [u30_1,x30_14,r30_14,x30_15,r30_15,x30_16,r30_16,x30_17,r30_17,x30_18,r30_18,x30_19,r30_19,x30_20,r30_20,hL,hE,hE2,hlt,hlt1,hw,hk,cat,htl,htl2,hbl,hf,guard110]
theorem b30_0_1_C {s k m pa pb:Int} {a T L w i g h:Nat} {H:List O} {E tl:List D} {o5 o16 o20:O} {es:List (D × V)} {atp:D} {fj:Nat} {atq:D} {P Q:V} {H1 H2:List O} {w1 w2:Nat}
 (hL:H[L]?=some (.vec 4 E false true)) (hE:E[i]?=some (.agg [.int .i64 k,.int .i64 m,atp,.list 2 tl])) (hn:E.length≤1000) (cat:D.isCell atp=true)
 (hk:k=s) (htl:tl[a]?=some (.agg [.int .i64 pa,.int .i64 pb])) (hf:findKey K 110 (.agg [.int .i64 pa,.int .i64 pb]) es=some (some (fj,.d atq)))
 (e1:CK 81 [.d atp] H P H1 w1) (e2:CK 81 [.d atq] H1 Q H2 w2)
 : ∃ ob w',execL K 30 l30_1 (St.mk [(1,.d (.int .i64 s)),(2,.d (.int .i64 (a:Nat))),(14,.map (.slot 35 0)),(73,.sl (.heap L) 4 E.length 0 E.length),(74,.d (.int .i64 E.length)),(75,.d (.int .i64 (i:Nat)))] (Mem.mk [(5,0,o5),(20,h,o20),(35,0,.map es)] H w) [] none false none)=some (.ret,St.mk [(10,P),(11,Q),(12,.d (.int .i64 0))] (Mem.mk ob H2 w') [] none false none):=by
 have hlt:i < E.length:=(gS.1 hE).1
 have hE2:=(gS.1 hE).2
 have hlt1:i+1≤E.length:=hlt
 have hw:wr .i64 ((i:Int)+1)=(i:Int)+1:=wrap_id (by omega) (by omega)
 have hbl:a < tl.length:=(gS.1 htl).1
 have htl2:=(gS.1 htl).2
 simp only [D.isCell] at cat
 simp [u30_1,x30_14,r30_14,x30_15,r30_15,x30_16,r30_16,x30_17,r30_17,x30_18,r30_18,x30_19,r30_19,x30_20,r30_20,hL,hE,hE2,hlt,hlt1,hw,hk,cat,htl,htl2,hbl,hf,guard110,e1,e2]
theorem b30_1_0_A {s k m pa pb:Int} {a T L w i g h:Nat} {H:List O} {E tl:List D} {o5 o16 o20:O} {es:List (D × V)} {atp:D}
 (hL:H[L]?=some (.vec 4 E false true)) (hE:E[i]?=some (.agg [.int .i64 k,.int .i64 m,atp,.list 2 tl])) (hn:E.length≤1000) (cat:D.isCell atp=true)
 (hk:k≠s)
 : ∃ h' o20' w',execL K 30 l30_1 (St.mk [(1,.d (.int .i64 s)),(2,.d (.int .i64 (a:Nat))),(14,.map (.slot 35 0)),(73,.sl (.heap L) 4 E.length 0 E.length),(74,.d (.int .i64 E.length)),(75,.d (.int .i64 (i:Nat)))] (Mem.mk [(5,0,o5),(16,g,o16),(35,0,.map es)] H w) [] none false none)=some (.normal,(St.mk [(1,.d (.int .i64 s)),(2,.d (.int .i64 (a:Nat))),(14,.map (.slot 35 0)),(73,.sl (.heap L) 4 E.length 0 E.length),(74,.d (.int .i64 E.length)),(75,.d (.int .i64 ((i+1:Nat):Int)))] (Mem.mk [(5,0,o5),(16,g,o16),(20,h',o20'),(35,0,.map es)] H w') [] none false none)):=by
 have hlt:i < E.length:=(gS.1 hE).1
 have hE2:=(gS.1 hE).2
 have hlt1:i+1≤E.length:=hlt
 have hw:wr .i64 ((i:Int)+1)=(i:Int)+1:=wrap_id (by omega) (by omega)
 simp only [D.isCell] at cat
 simp [u30_1,x30_14,r30_14,x30_15,r30_15,x30_16,r30_16,x30_17,r30_17,x30_18,r30_18,x30_19,r30_19,x30_20,r30_20,hL,hE,hE2,hlt,hlt1,hw,hk,cat]
theorem b30_1_0_B {s k m pa pb:Int} {a T L w i g h:Nat} {H:List O} {E tl:List D} {o5 o16 o20:O} {es:List (D × V)} {atp:D}
 (hL:H[L]?=some (.vec 4 E false true)) (hE:E[i]?=some (.agg [.int .i64 k,.int .i64 m,atp,.list 2 tl])) (hn:E.length≤1000) (cat:D.isCell atp=true)
 (hk:k=s) (htl:tl[a]?=some (.agg [.int .i64 pa,.int .i64 pb])) (hf:findKey K 110 (.agg [.int .i64 pa,.int .i64 pb]) es=some none)
 : ∃ h' o20' w',execL K 30 l30_1 (St.mk [(1,.d (.int .i64 s)),(2,.d (.int .i64 (a:Nat))),(14,.map (.slot 35 0)),(73,.sl (.heap L) 4 E.length 0 E.length),(74,.d (.int .i64 E.length)),(75,.d (.int .i64 (i:Nat)))] (Mem.mk [(5,0,o5),(16,g,o16),(35,0,.map es)] H w) [] none false none)=some (.normal,(St.mk [(1,.d (.int .i64 s)),(2,.d (.int .i64 (a:Nat))),(14,.map (.slot 35 0)),(73,.sl (.heap L) 4 E.length 0 E.length),(74,.d (.int .i64 E.length)),(75,.d (.int .i64 ((i+1:Nat):Int)))] (Mem.mk [(5,0,o5),(16,g,o16),(20,h',o20'),(35,0,.map es)] H w') [] none false none)):=by
 have hlt:i < E.length:=(gS.1 hE).1
 have hE2:=(gS.1 hE).2
 have hlt1:i+1≤E.length:=hlt
 have hw:wr .i64 ((i:Int)+1)=(i:Int)+1:=wrap_id (by omega) (by omega)
 have hbl:a < tl.length:=(gS.1 htl).1
 have htl2:=(gS.1 htl).2
 simp only [D.isCell] at cat
 simp [u30_1,x30_14,r30_14,x30_15,r30_15,x30_16,r30_16,x30_17,r30_17,x30_18,r30_18,x30_19,r30_19,x30_20,r30_20,hL,hE,hE2,hlt,hlt1,hw,hk,cat,htl,htl2,hbl,hf,guard110]
theorem b30_1_0_C {s k m pa pb:Int} {a T L w i g h:Nat} {H:List O} {E tl:List D} {o5 o16 o20:O} {es:List (D × V)} {atp:D} {fj:Nat} {atq:D} {P Q:V} {H1 H2:List O} {w1 w2:Nat}
 (hL:H[L]?=some (.vec 4 E false true)) (hE:E[i]?=some (.agg [.int .i64 k,.int .i64 m,atp,.list 2 tl])) (hn:E.length≤1000) (cat:D.isCell atp=true)
 (hk:k=s) (htl:tl[a]?=some (.agg [.int .i64 pa,.int .i64 pb])) (hf:findKey K 110 (.agg [.int .i64 pa,.int .i64 pb]) es=some (some (fj,.d atq)))
 (e1:CK 81 [.d atp] H P H1 w1) (e2:CK 81 [.d atq] H1 Q H2 w2)
 : ∃ ob w',execL K 30 l30_1 (St.mk [(1,.d (.int .i64 s)),(2,.d (.int .i64 (a:Nat))),(14,.map (.slot 35 0)),(73,.sl (.heap L) 4 E.length 0 E.length),(74,.d (.int .i64 E.length)),(75,.d (.int .i64 (i:Nat)))] (Mem.mk [(5,0,o5),(16,g,o16),(35,0,.map es)] H w) [] none false none)=some (.ret,St.mk [(10,P),(11,Q),(12,.d (.int .i64 0))] (Mem.mk ob H2 w') [] none false none):=by
 have hlt:i < E.length:=(gS.1 hE).1
 have hE2:=(gS.1 hE).2
 have hlt1:i+1≤E.length:=hlt
 have hw:wr .i64 ((i:Int)+1)=(i:Int)+1:=wrap_id (by omega) (by omega)
 have hbl:a < tl.length:=(gS.1 htl).1
 have htl2:=(gS.1 htl).2
 simp only [D.isCell] at cat
 simp [u30_1,x30_14,r30_14,x30_15,r30_15,x30_16,r30_16,x30_17,r30_17,x30_18,r30_18,x30_19,r30_19,x30_20,r30_20,hL,hE,hE2,hlt,hlt1,hw,hk,cat,htl,htl2,hbl,hf,guard110,e1,e2]
theorem b30_1_1_A {s k m pa pb:Int} {a T L w i g h:Nat} {H:List O} {E tl:List D} {o5 o16 o20:O} {es:List (D × V)} {atp:D}
 (hL:H[L]?=some (.vec 4 E false true)) (hE:E[i]?=some (.agg [.int .i64 k,.int .i64 m,atp,.list 2 tl])) (hn:E.length≤1000) (cat:D.isCell atp=true)
 (hk:k≠s)
 : ∃ h' o20' w',execL K 30 l30_1 (St.mk [(1,.d (.int .i64 s)),(2,.d (.int .i64 (a:Nat))),(14,.map (.slot 35 0)),(73,.sl (.heap L) 4 E.length 0 E.length),(74,.d (.int .i64 E.length)),(75,.d (.int .i64 (i:Nat)))] (Mem.mk [(5,0,o5),(16,g,o16),(20,h,o20),(35,0,.map es)] H w) [] none false none)=some (.normal,(St.mk [(1,.d (.int .i64 s)),(2,.d (.int .i64 (a:Nat))),(14,.map (.slot 35 0)),(73,.sl (.heap L) 4 E.length 0 E.length),(74,.d (.int .i64 E.length)),(75,.d (.int .i64 ((i+1:Nat):Int)))] (Mem.mk [(5,0,o5),(16,g,o16),(20,h',o20'),(35,0,.map es)] H w') [] none false none)):=by
 have hlt:i < E.length:=(gS.1 hE).1
 have hE2:=(gS.1 hE).2
 have hlt1:i+1≤E.length:=hlt
 have hw:wr .i64 ((i:Int)+1)=(i:Int)+1:=wrap_id (by omega) (by omega)
 simp only [D.isCell] at cat
 simp [u30_1,x30_14,r30_14,x30_15,r30_15,x30_16,r30_16,x30_17,r30_17,x30_18,r30_18,x30_19,r30_19,x30_20,r30_20,hL,hE,hE2,hlt,hlt1,hw,hk,cat]
theorem b30_1_1_B {s k m pa pb:Int} {a T L w i g h:Nat} {H:List O} {E tl:List D} {o5 o16 o20:O} {es:List (D × V)} {atp:D}
 (hL:H[L]?=some (.vec 4 E false true)) (hE:E[i]?=some (.agg [.int .i64 k,.int .i64 m,atp,.list 2 tl])) (hn:E.length≤1000) (cat:D.isCell atp=true)
 (hk:k=s) (htl:tl[a]?=some (.agg [.int .i64 pa,.int .i64 pb])) (hf:findKey K 110 (.agg [.int .i64 pa,.int .i64 pb]) es=some none)
 : ∃ h' o20' w',execL K 30 l30_1 (St.mk [(1,.d (.int .i64 s)),(2,.d (.int .i64 (a:Nat))),(14,.map (.slot 35 0)),(73,.sl (.heap L) 4 E.length 0 E.length),(74,.d (.int .i64 E.length)),(75,.d (.int .i64 (i:Nat)))] (Mem.mk [(5,0,o5),(16,g,o16),(20,h,o20),(35,0,.map es)] H w) [] none false none)=some (.normal,(St.mk [(1,.d (.int .i64 s)),(2,.d (.int .i64 (a:Nat))),(14,.map (.slot 35 0)),(73,.sl (.heap L) 4 E.length 0 E.length),(74,.d (.int .i64 E.length)),(75,.d (.int .i64 ((i+1:Nat):Int)))] (Mem.mk [(5,0,o5),(16,g,o16),(20,h',o20'),(35,0,.map es)] H w') [] none false none)):=by
 have hlt:i < E.length:=(gS.1 hE).1
 have hE2:=(gS.1 hE).2
 have hlt1:i+1≤E.length:=hlt
 have hw:wr .i64 ((i:Int)+1)=(i:Int)+1:=wrap_id (by omega) (by omega)
 have hbl:a < tl.length:=(gS.1 htl).1
 have htl2:=(gS.1 htl).2
 simp only [D.isCell] at cat
 simp [u30_1,x30_14,r30_14,x30_15,r30_15,x30_16,r30_16,x30_17,r30_17,x30_18,r30_18,x30_19,r30_19,x30_20,r30_20,hL,hE,hE2,hlt,hlt1,hw,hk,cat,htl,htl2,hbl,hf,guard110]
theorem b30_1_1_C {s k m pa pb:Int} {a T L w i g h:Nat} {H:List O} {E tl:List D} {o5 o16 o20:O} {es:List (D × V)} {atp:D} {fj:Nat} {atq:D} {P Q:V} {H1 H2:List O} {w1 w2:Nat}
 (hL:H[L]?=some (.vec 4 E false true)) (hE:E[i]?=some (.agg [.int .i64 k,.int .i64 m,atp,.list 2 tl])) (hn:E.length≤1000) (cat:D.isCell atp=true)
 (hk:k=s) (htl:tl[a]?=some (.agg [.int .i64 pa,.int .i64 pb])) (hf:findKey K 110 (.agg [.int .i64 pa,.int .i64 pb]) es=some (some (fj,.d atq)))
 (e1:CK 81 [.d atp] H P H1 w1) (e2:CK 81 [.d atq] H1 Q H2 w2)
 : ∃ ob w',execL K 30 l30_1 (St.mk [(1,.d (.int .i64 s)),(2,.d (.int .i64 (a:Nat))),(14,.map (.slot 35 0)),(73,.sl (.heap L) 4 E.length 0 E.length),(74,.d (.int .i64 E.length)),(75,.d (.int .i64 (i:Nat)))] (Mem.mk [(5,0,o5),(16,g,o16),(20,h,o20),(35,0,.map es)] H w) [] none false none)=some (.ret,St.mk [(10,P),(11,Q),(12,.d (.int .i64 0))] (Mem.mk ob H2 w') [] none false none):=by
 have hlt:i < E.length:=(gS.1 hE).1
 have hE2:=(gS.1 hE).2
 have hlt1:i+1≤E.length:=hlt
 have hw:wr .i64 ((i:Int)+1)=(i:Int)+1:=wrap_id (by omega) (by omega)
 have hbl:a < tl.length:=(gS.1 htl).1
 have htl2:=(gS.1 htl).2
 simp only [D.isCell] at cat
 simp [u30_1,x30_14,r30_14,x30_15,r30_15,x30_16,r30_16,x30_17,r30_17,x30_18,r30_18,x30_19,r30_19,x30_20,r30_20,hL,hE,hE2,hlt,hlt1,hw,hk,cat,htl,htl2,hbl,hf,guard110,e1,e2]
def S1 (s a u:Int) (b T L n:Nat) (o5:O) (o:List (Nat × Nat × O)) (es:List (D × V)) (H:List O) (i w:Nat) (t:List (Nat × V)):St :=
 St.mk ([(1,.d (.int .i64 s)),(2,.d (.int .i64 a)),(3,.d (.int .i64 u)),(4,.d (.int .i64 (b:Nat))),(13,.ptr (.heap T) 0),(14,.map (.slot 35 0)),(39,.sl (.heap L) 4 n 0 n),(40,.d (.int .i64 n)),(41,.d (.int .i64 (i:Nat)))]++t) (Mem.mk ((5,0,o5) :: o++[(35,0,.map es)]) H w) [] none false none
def V1 (o:List (Nat × Nat × O)):Prop:=o=[]∨∃ g x,o=[(16,g,x)]
structure Firsts (u:Nat) (d:Nat × List (Int × List Int)) (pre:List (Nat × Stp × List Int)) (es:List ((Nat × Int) × List Int)):Prop where
 from':∀ e∈es,∃ y q,(u,y,q)∈pre∧e=(pl d q,q)
 all':∀ y q,(u,y,q)∈pre→∃ e∈es,e.1=pl d q
theorem mapE_app (es:List ((Nat × Int) × List Int)) (k:Nat × Int) (q:List Int):mapE (es++[(k,q)])=mapE es++[(keyD k,.d (atV q))]:=by simp [mapE]
theorem loop30_0 {t:List Stp} (ht:TaskOk t) (h3:t.length≤3) {s a:Int} {u b T L:Nat} {H:List O} {y:Stp} {d:Nat × List (Int × List Int)} {o5:O}
  (hL:H[L]?=some (.vec 4 (encI 0 (allI 0 t)) false true)) (hu:t[u]?=some y) (hb:acc y b=some d) :
  ∀ (k i:Nat),i+k=(allI 0 t).length→∀ (o:List (Nat × Nat × O)) (es:List ((Nat × Int) × List Int)) (w:Nat),V1 o→Firsts u d ((allI 0 t).take i) es →
  ∃ o' es' w',execL K 30 (.loop l30_0) (S1 s a u b T L (encI 0 (allI 0 t)).length o5 o (mapE es) H i w [])=some (.exit 0,S1 s a u b T L (encI 0 (allI 0 t)).length o5 o' (mapE es') H (encI 0 (allI 0 t)).length w' [(42,.d (.bool false))])∧V1 o'∧Firsts u d (allI 0 t) es':=by
 have hn:=allI_len ht h3
 have hE:=encI_len 0 (allI 0 t)
 intro k
 induction k with
 | zero =>
  intro i hi o es w ho hF
  have hi':i=(allI 0 t).length:=by omega
  refine ⟨o,es,w,?_,ho,by rw [hi',List.take_length] at hF; exact hF⟩
  rw [execL_loop]
  rw [hE,hi']
  rcases ho with rfl | ⟨g,x,rfl⟩<;>simp [S1,u30_0,x30_6,r30_6]
 | succ k ih =>
  intro i hi o es w ho hF
  have hlt:i < (allI 0 t).length:=by omega
  obtain ⟨⟨m,z,q⟩,hx⟩:∃ x,(allI 0 t)[i]?=some x:=⟨_,List.getElem?_eq_getElem hlt⟩
  have hmem:(m,z,q)∈allI 0 t:=List.mem_of_getElem? hx
  have hmm:=mem_allI.1 hmem
  have hEi:=encI_at (n:=0) hx
  simp only [instD,Nat.zero_add] at hEi
  have htake:(allI 0 t).take (i+1)=(allI 0 t).take i++[(m,z,q)]:=by
   rw [List.take_add_one,hx]
   rfl
  have main:∃ o1 es1 w1,execL K 30 l30_0 (S1 s a u b T L (encI 0 (allI 0 t)).length o5 o (mapE es) H i w [])=some (.normal,S1 s a u b T L (encI 0 (allI 0 t)).length o5 o1 (mapE es1) H (i+1) w1 [])∧V1 o1∧Firsts u d ((allI 0 t).take (i+1)) es1:=by
   by_cases hm:m=u
   ·subst hm
    have hz:z=y:=by
     have:=hmm.2.1
     rw [Nat.sub_zero,hu] at this
     exact (Option.some.inj this).symm
    subst hz
    have htl:=touch_at (p:=q) hb
    rcases findK (pl d q) es with ⟨hf,hno⟩ | ⟨j,e,he,hek,hf⟩
    ·have hF':Firsts m d ((allI 0 t).take (i+1)) (es++[(pl d q,q)]):=by
      rw [htake]
      constructor
      ·intro e he
       rcases List.mem_append.1 he with he | he
       ·obtain ⟨y,q,h1,h2⟩:=hF.from' e he
        exact ⟨y,q,List.mem_append_left _ h1,h2⟩
       ·simp at he
        exact ⟨z,q,by simp,he⟩
      ·intro y q' h
       rcases List.mem_append.1 h with h | h
       ·obtain ⟨e,h1,h2⟩:=hF.all' y q' h
        exact ⟨e,List.mem_append_left _ h1,h2⟩
       ·simp at h
        exact ⟨(pl d q,q),by simp,by simp [h.2]⟩
     rcases ho with rfl | ⟨g,x,rfl⟩
     ·obtain ⟨g',x',w',e⟩:=a30_0_C (s:=s) (a:=a) (b:=b) (T:=T) (w:=w) (o5:=o5) (o16:=.dead) (g:=0) hL hEi (by omega) (cAt q) rfl htl hf
      exact ⟨[(16,g',x')],es++[(pl d q,q)],w',by rw [mapE_app]; exact e,.inr ⟨_,_,rfl⟩,hF'⟩
     ·obtain ⟨g',x',w',e⟩:=a30_1_C (s:=s) (a:=a) (b:=b) (T:=T) (w:=w) (o5:=o5) (o16:=x) (g:=g) hL hEi (by omega) (cAt q) rfl htl hf
      exact ⟨[(16,g',x')],es++[(pl d q,q)],w',by rw [mapE_app]; exact e,.inr ⟨_,_,rfl⟩,hF'⟩
    ·have hF':Firsts m d ((allI 0 t).take (i+1)) es:=by
      rw [htake]
      constructor
      ·intro e he
       obtain ⟨y,q,h1,h2⟩:=hF.from' e he
       exact ⟨y,q,List.mem_append_left _ h1,h2⟩
      ·intro y q' h
       rcases List.mem_append.1 h with h | h
       ·exact hF.all' y q' h
       ·simp at h
        exact ⟨e,he,by rw [hek,h.2]⟩
     rcases ho with rfl | ⟨g,x,rfl⟩
     ·obtain ⟨g',x',w',e⟩:=a30_0_B (s:=s) (a:=a) (b:=b) (T:=T) (w:=w) (o5:=o5) (o16:=.dead) (g:=0) hL hEi (by omega) (cAt q) rfl htl hf
      exact ⟨[(16,g',x')],es,w',e,.inr ⟨_,_,rfl⟩,hF'⟩
     ·obtain ⟨g',x',w',e⟩:=a30_1_B (s:=s) (a:=a) (b:=b) (T:=T) (w:=w) (o5:=o5) (o16:=x) (g:=g) hL hEi (by omega) (cAt q) rfl htl hf
      exact ⟨[(16,g',x')],es,w',e,.inr ⟨_,_,rfl⟩,hF'⟩
   ·have hm':(m:Int)≠u:=by omega
    have hF':Firsts u d ((allI 0 t).take (i+1)) es:=by
     rw [htake]
     constructor
     ·intro e he
      obtain ⟨y,q,h1,h2⟩:=hF.from' e he
      exact ⟨y,q,List.mem_append_left _ h1,h2⟩
     ·intro y q' h
      rcases List.mem_append.1 h with h | h
      ·exact hF.all' y q' h
      ·simp at h
       exact absurd h.1.symm hm
    rcases ho with rfl | ⟨g,x,rfl⟩
    ·obtain ⟨g',x',w',e⟩:=a30_0_A (s:=s) (a:=a) (u:=u) (b:=b) (T:=T) (w:=w) (pa:=0) (pb:=0) (o5:=o5) (o16:=.dead) (g:=0) (es:=mapE es) hL hEi (by omega) (cAt q) hm'
     exact ⟨[(16,g',x')],es,w',e,.inr ⟨_,_,rfl⟩,hF'⟩
    ·obtain ⟨g',x',w',e⟩:=a30_1_A (s:=s) (a:=a) (u:=u) (b:=b) (T:=T) (w:=w) (pa:=0) (pb:=0) (o5:=o5) (o16:=x) (g:=g) (es:=mapE es) hL hEi (by omega) (cAt q) hm'
     exact ⟨[(16,g',x')],es,w',e,.inr ⟨_,_,rfl⟩,hF'⟩
  obtain ⟨o1,es1,w1,e1,ho1,hF1⟩:=main
  obtain ⟨o2,es2,w2,e2,ho2,hF2⟩:=ih (i+1) (by omega) o1 es1 w1 ho1 hF1
  refine ⟨o2,es2,w2,?_,ho2,hF2⟩
  rw [execL_loop,e1]
  exact e2
def S2 (s:Int) (a L n:Nat) (o5:O) (o o':List (Nat × Nat × O)) (es:List (D × V)) (H:List O) (i w:Nat) (t:List (Nat × V)):St :=
 St.mk ([(1,.d (.int .i64 s)),(2,.d (.int .i64 (a:Nat))),(14,.map (.slot 35 0)),(73,.sl (.heap L) 4 n 0 n),(74,.d (.int .i64 n)),(75,.d (.int .i64 (i:Nat)))]++t) (Mem.mk ((5,0,o5) :: o++o'++[(35,0,.map es)]) H w) [] none false none
def V2 (o:List (Nat × Nat × O)):Prop:=o=[]∨∃ g x,o=[(20,g,x)]
theorem loop30_1 {t:List Stp} (ht:TaskOk t) (h3:t.length≤3) {s a L:Nat} {H:List O} {x:Stp} {c:Nat × List (Int × List Int)} {o5:O} {o:List (Nat × Nat × O)} {es:List ((Nat × Int) × List Int)}
  (hL:H[L]?=some (.vec 4 (encI 0 (allI 0 t)) false true)) (hs:t[s]?=some x) (ha:acc x a=some c) (ho:V1 o) (hes:∀ e∈es,e.2.length≤1000) :
  ∀ (k i:Nat),i+k=(allI 0 t).length→∀ (o':List (Nat × Nat × O)) (w:Nat),V2 o'→(∀ z p,(s,z,p)∈(allI 0 t).take i→∀ e∈es,e.1≠pl c p) →
  (∃ o'' w',execL K 30 (.loop l30_1) (S2 s a L (encI 0 (allI 0 t)).length o5 o o' (mapE es) H i w [])=some (.exit 2,S2 s a L (encI 0 (allI 0 t)).length o5 o o'' (mapE es) H (encI 0 (allI 0 t)).length w' [(76,.d (.bool false))])∧V2 o''∧(∀ z p,(s,z,p)∈allI 0 t→∀ e∈es,e.1≠pl c p)) ∨
  (∃ ob J P Q p e w',execL K 30 (.loop l30_1) (S2 s a L (encI 0 (allI 0 t)).length o5 o o' (mapE es) H i w [])=some (.ret,St.mk [(10,P),(11,Q),(12,.d (.int .i64 0))] (Mem.mk ob (H++J) w') [] none false none)∧(s,x,p)∈allI 0 t∧e∈es∧e.1=pl c p∧LV (H++J) P p∧LV (H++J) Q e.2):=by
 have hn:=allI_len ht h3
 have hE:=encI_len 0 (allI 0 t)
 intro k
 induction k with
 | zero =>
  intro i hi o' w ho' hF
  have hi':i=(allI 0 t).length:=by omega
  left
  refine ⟨o',w,?_,ho',by rw [hi',List.take_length] at hF; exact hF⟩
  rw [execL_loop]
  rw [hE,hi']
  rcases ho with rfl | ⟨g,x,rfl⟩<;>rcases ho' with rfl | ⟨g,x,rfl⟩<;>simp [S2,u30_1,x30_14,r30_14]
 | succ k ih =>
  intro i hi o' w ho' hF
  have hlt:i < (allI 0 t).length:=by omega
  obtain ⟨⟨m,z,q⟩,hx⟩:∃ x,(allI 0 t)[i]?=some x:=⟨_,List.getElem?_eq_getElem hlt⟩
  have hmem:(m,z,q)∈allI 0 t:=List.mem_of_getElem? hx
  have hmm:=mem_allI.1 hmem
  have hEi:=encI_at (n:=0) hx
  simp only [instD,Nat.zero_add] at hEi
  have htake:(allI 0 t).take (i+1)=(allI 0 t).take i++[(m,z,q)]:=by
   rw [List.take_add_one,hx]
   rfl
  have hzok:StpOk z:=by
   have:=hmm.2.1
   exact ht.ok z (List.mem_of_getElem? this)
  have hql:q.length≤1000:=by
   have h1:=(mem_allAt.1 hmm.2.2).len
   have h2:=hzok.sz.few
   omega
  have next:(∃ o1 w1,execL K 30 l30_1 (S2 s a L (encI 0 (allI 0 t)).length o5 o o' (mapE es) H i w [])=some (.normal,S2 s a L (encI 0 (allI 0 t)).length o5 o o1 (mapE es) H (i+1) w1 [])∧V2 o1∧(∀ z p,(s,z,p)∈(allI 0 t).take (i+1)→∀ e∈es,e.1≠pl c p)) ∨
   (∃ ob J P Q p e w',execL K 30 l30_1 (S2 s a L (encI 0 (allI 0 t)).length o5 o o' (mapE es) H i w [])=some (.ret,St.mk [(10,P),(11,Q),(12,.d (.int .i64 0))] (Mem.mk ob (H++J) w') [] none false none)∧(s,x,p)∈allI 0 t∧e∈es∧e.1=pl c p∧LV (H++J) P p∧LV (H++J) Q e.2):=by
   by_cases hm:m=s
   ·subst hm
    have hz:z=x:=by
     have:=hmm.2.1
     rw [Nat.sub_zero,hs] at this
     exact (Option.some.inj this).symm
    subst hz
    have htl:=touch_at (p:=q) ha
    rcases findK (pl c q) es with ⟨hf,hno⟩ | ⟨j,e,he,hek,hf⟩
    ·left
     have hF':∀ z p,(m,z,p)∈(allI 0 t).take (i+1)→∀ e∈es,e.1≠pl c p:=by
      intro z' p' h
      rw [htake] at h
      rcases List.mem_append.1 h with h | h
      ·exact hF z' p' h
      ·simp at h
       rw [h.2]
       exact hno
     rcases ho with rfl | ⟨g,y,rfl⟩<;>rcases ho' with rfl | ⟨g2,y2,rfl⟩
     ·obtain ⟨g',x',w',e⟩:=b30_0_0_B (T:=0) (w:=w) (o5:=o5) (o16:=.dead) (o20:=.dead) (g:=0) (h:=0) hL hEi (by omega) (cAt q) rfl htl hf
      exact ⟨[(20,g',x')],w',e,.inr ⟨_,_,rfl⟩,hF'⟩
     ·obtain ⟨g',x',w',e⟩:=b30_0_1_B (T:=0) (w:=w) (o5:=o5) (o16:=.dead) (o20:=y2) (g:=0) (h:=g2) hL hEi (by omega) (cAt q) rfl htl hf
      exact ⟨[(20,g',x')],w',e,.inr ⟨_,_,rfl⟩,hF'⟩
     ·obtain ⟨g',x',w',e⟩:=b30_1_0_B (T:=0) (w:=w) (o5:=o5) (o16:=y) (o20:=.dead) (g:=g) (h:=0) hL hEi (by omega) (cAt q) rfl htl hf
      exact ⟨[(20,g',x')],w',e,.inr ⟨_,_,rfl⟩,hF'⟩
     ·obtain ⟨g',x',w',e⟩:=b30_1_1_B (T:=0) (w:=w) (o5:=o5) (o16:=y) (o20:=y2) (g:=g) (h:=g2) hL hEi (by omega) (cAt q) rfl htl hf
      exact ⟨[(20,g',x')],w',e,.inr ⟨_,_,rfl⟩,hF'⟩
    ·right
     obtain ⟨J1,P,w1,e1,hP⟩:=s81a H q hql
     obtain ⟨J2,Q,w2,e2,hQ⟩:=s81a (H++J1) e.2 (hes e he)
     rw [List.append_assoc] at e2 hQ
     have hP':LV (H++(J1++J2)) P q:=by rw [← List.append_assoc]; exact hP.app J2
     rcases ho with rfl | ⟨g,y,rfl⟩<;>rcases ho' with rfl | ⟨g2,y2,rfl⟩
     ·obtain ⟨ob,w',f⟩:=b30_0_0_C (T:=0) (w:=w) (o5:=o5) (o16:=.dead) (o20:=.dead) (g:=0) (h:=0) hL hEi (by omega) (cAt q) rfl htl hf e1 e2
      exact ⟨ob,_,P,Q,q,e,w',f,hmem,he,hek,hP',hQ⟩
     ·obtain ⟨ob,w',f⟩:=b30_0_1_C (T:=0) (w:=w) (o5:=o5) (o16:=.dead) (o20:=y2) (g:=0) (h:=g2) hL hEi (by omega) (cAt q) rfl htl hf e1 e2
      exact ⟨ob,_,P,Q,q,e,w',f,hmem,he,hek,hP',hQ⟩
     ·obtain ⟨ob,w',f⟩:=b30_1_0_C (T:=0) (w:=w) (o5:=o5) (o16:=y) (o20:=.dead) (g:=g) (h:=0) hL hEi (by omega) (cAt q) rfl htl hf e1 e2
      exact ⟨ob,_,P,Q,q,e,w',f,hmem,he,hek,hP',hQ⟩
     ·obtain ⟨ob,w',f⟩:=b30_1_1_C (T:=0) (w:=w) (o5:=o5) (o16:=y) (o20:=y2) (g:=g) (h:=g2) hL hEi (by omega) (cAt q) rfl htl hf e1 e2
      exact ⟨ob,_,P,Q,q,e,w',f,hmem,he,hek,hP',hQ⟩
   ·left
    have hm':(m:Int)≠s:=by omega
    have hF':∀ z p,(s,z,p)∈(allI 0 t).take (i+1)→∀ e∈es,e.1≠pl c p:=by
     intro z' p' h
     rw [htake] at h
     rcases List.mem_append.1 h with h | h
     ·exact hF z' p' h
     ·simp at h
      exact absurd h.1.symm hm
    rcases ho with rfl | ⟨g,y,rfl⟩<;>rcases ho' with rfl | ⟨g2,y2,rfl⟩
    ·obtain ⟨g',x',w',e⟩:=b30_0_0_A (s:=s) (a:=a) (T:=0) (w:=w) (pa:=0) (pb:=0) (o5:=o5) (o16:=.dead) (o20:=.dead) (g:=0) (h:=0) (es:=mapE es) hL hEi (by omega) (cAt q) hm'
     exact ⟨[(20,g',x')],w',e,.inr ⟨_,_,rfl⟩,hF'⟩
    ·obtain ⟨g',x',w',e⟩:=b30_0_1_A (s:=s) (a:=a) (T:=0) (w:=w) (pa:=0) (pb:=0) (o5:=o5) (o16:=.dead) (o20:=y2) (g:=0) (h:=g2) (es:=mapE es) hL hEi (by omega) (cAt q) hm'
     exact ⟨[(20,g',x')],w',e,.inr ⟨_,_,rfl⟩,hF'⟩
    ·obtain ⟨g',x',w',e⟩:=b30_1_0_A (s:=s) (a:=a) (T:=0) (w:=w) (pa:=0) (pb:=0) (o5:=o5) (o16:=y) (o20:=.dead) (g:=g) (h:=0) (es:=mapE es) hL hEi (by omega) (cAt q) hm'
     exact ⟨[(20,g',x')],w',e,.inr ⟨_,_,rfl⟩,hF'⟩
    ·obtain ⟨g',x',w',e⟩:=b30_1_1_A (s:=s) (a:=a) (T:=0) (w:=w) (pa:=0) (pb:=0) (o5:=o5) (o16:=y) (o20:=y2) (g:=g) (h:=g2) (es:=mapE es) hL hEi (by omega) (cAt q) hm'
     exact ⟨[(20,g',x')],w',e,.inr ⟨_,_,rfl⟩,hF'⟩
  rcases next with ⟨o1,w1,e1,ho1,hF1⟩ | ⟨ob,J,P,Q,p,e,w',f,h⟩
  ·rcases ih (i+1) (by omega) o1 w1 ho1 hF1 with ⟨o2,w2,e2,h2⟩ | ⟨ob,J,P,Q,p,e,w',f,h⟩
   ·left
    refine ⟨o2,w2,?_,h2⟩
    rw [execL_loop,e1]
    exact e2
   ·right
    refine ⟨ob,J,P,Q,p,e,w',?_,h⟩
    rw [execL_loop,e1]
    exact f
  ·right
   refine ⟨ob,J,P,Q,p,e,w',?_,h⟩
   rw [execL_loop,f]
   rfl
theorem LV.cases {H:List O} {v:V} {p:List Int} (h:LV H v p):v=.d .nils∨∃ l n,v=.sl (.heap l) 1 n 0 n:=by
 rcases h with ⟨_,h⟩ | ⟨l,_,h,_⟩
 ·exact .inl h
 ·exact .inr ⟨l,_,h⟩
theorem s30 {t:List Stp} (ht:TaskOk t) (h3:t.length≤3) (hp:List O) {s u a b:Nat} {x y:Stp} {c d:Nat × List (Int × List Int)} (hs:t[s]?=some x) (hu:t[u]?=some y) (ha:acc x a=some c) (hb:acc y b=some d) :
  (∃ H' w,callL K (.fn (.func 30) [] []) [.d (encT t),.d (.int .i64 s),.d (.int .i64 a),.d (.int .i64 u),.d (.int .i64 b)] none hp=some (.ret (.tuple [.d .nils,.d .nils,.d (.int .i64 14)]),false,H',w) ∧
   ∀ p∈allAt x.ss,∀ q∈allAt y.ss,pl c p≠pl d q) ∨
  (∃ H' w p q,callL K (.fn (.func 30) [] []) [.d (encT t),.d (.int .i64 s),.d (.int .i64 a),.d (.int .i64 u),.d (.int .i64 b)] none hp=some (.ret (.tuple [.d (atV p),.d (atV q),.d (.int .i64 0)]),false,H',w) ∧
   p∈allAt x.ss∧q∈allAt y.ss∧pl c p=pl d q):=by
 have hal:a≤x.fr.length:=by have:=(gS.1 ha).1; simp at this; omega
 have hbl:b≤y.fr.length:=by have:=(gS.1 hb).1; simp at this; omega
 obtain ⟨H,w1,T,e1,hT,hO,hK⟩:=s80 ht h3 hp hs hu hal hbl
 obtain ⟨L,hv,hL⟩:=hO.list ht
 have hF0:Firsts u d ((allI 0 t).take 0) []:=⟨by simp,by simp⟩
 obtain ⟨o1,es,w2,f1,ho1,hF⟩:=loop30_0 ht h3 (s:=s) (a:=a) (T:=T) (o5:=.cells [.d (.list 2 arrsD),.d (stpsD t)] false) hL hu hb (allI 0 t).length 0 (by omega) [] [] w1 (.inl rfl) hF0
 have hes:∀ e∈es,e.2.length≤1000:=by
  intro e he
  obtain ⟨y',q,h1,h2⟩:=hF.from' e he
  have hm:=mem_allI.1 h1
  have hy':StpOk y':=ht.ok y' (List.mem_of_getElem? hm.2.1)
  have h4:=(mem_allAt.1 hm.2.2).len
  have h5:=hy'.sz.few
  rw [h2]
  simp only []
  omega
 have mem:∀ {k:Nat} {z:Stp} {p:List Int},t[k]?=some z→p∈allAt z.ss→(k,z,p)∈allI 0 t:=fun h1 h2=>mem_allI.2 ⟨by omega,by simpa using h1,h2⟩
 rcases loop30_1 ht h3 (s:=s) (a:=a) (o5:=.cells [.d (.list 2 arrsD),.d (stpsD t)] false) hL hs ha ho1 hes (allI 0 t).length 0 (by omega) [] w2 (.inl rfl) (by simp) with ⟨o2,w3,f2,ho2,hno⟩ | ⟨ob,J,P,Q,p,e,w3,f2,hp',he,hek,hP,hQ⟩
 ·left
  refine ⟨H,w3,?_,?_⟩
  ·simp only [encT] at e1 ⊢
   simp only [S1,S2,mapE,List.map_nil,List.append_nil] at f1 f2
   have z0:((0:Nat):Int)=0:=rfl
   simp only [z0,List.cons_append,List.nil_append] at f1 f2
   rw [k30]
   simp only [stpsD] at hv f1 f2
   rcases ho1 with rfl | ⟨g,x,rfl⟩<;>rcases ho2 with rfl | ⟨g,x,rfl⟩<;>simp only [List.cons_append,List.nil_append] at f1 f2<;>simp [c30,x30_0,r30_0,x30_1,r30_1,x30_2,r30_2,x30_3,r30_3,x30_4,r30_4,x30_5,r30_5,x30_13,r30_13,x30_21,r30_21,e1,hv,f1,f2]
  ·intro p hp1 q hq1 heq
   obtain ⟨e,h1,h2⟩:=hF.all' y q (mem hu hq1)
   exact hno x p (mem hs hp1) e h1 (by rw [h2,heq])
 ·right
  obtain ⟨y',q,h1,h2⟩:=hF.from' e he
  have hm:=mem_allI.1 h1
  have hy':y'=y:=by
   have:=hm.2.1
   rw [Nat.sub_zero,hu] at this
   exact (Option.some.inj this).symm
  subst hy'
  have hq:e.2=q:=by rw [h2]
  have hpp:=(mem_allI.1 hp').2.2
  have hfin:p∈allAt x.ss∧q∈allAt y'.ss∧pl c p=pl d q:=⟨hpp,hm.2.2,by rw [← hek,h2]⟩
  rw [hq] at hQ
  have e:=k30 [] [] [.d (encT t),.d (.int .i64 s),.d (.int .i64 a),.d (.int .i64 u),.d (.int .i64 b)] none hp
  simp only [encT] at e1 e ⊢
  simp only [S1,S2,mapE,List.map_nil,List.append_nil] at f1 f2
  have z0:((0:Nat):Int)=0:=rfl
  simp only [z0,List.cons_append,List.nil_append] at f1 f2
  simp only [stpsD] at hv f1 f2
  have tk:∀ p:List Int,(ints p).take p.length=ints p:=fun p=>by rw [← ints_length p,List.take_length]
  have il:∀ p:List Int,(ints p).length=p.length:=ints_length
  have hat:∀ p:List Int,p≠[]→atV p=.list 1 (ints p):=fun p h=>by cases p<;>simp_all [atV]
  rcases hP with ⟨hp0,rfl⟩ | ⟨lp,hp0,rfl,hlp⟩<;>rcases hQ with ⟨hq0,rfl⟩ | ⟨lq,hq0,rfl,hlq⟩<;>rcases ho1 with rfl | ⟨g,o,rfl⟩<;>simp only [List.cons_append,List.nil_append] at f1 f2
  ·simp [c30,x30_0,r30_0,x30_1,r30_1,x30_2,r30_2,x30_3,r30_3,x30_4,r30_4,x30_5,r30_5,x30_13,r30_13,x30_21,r30_21,e1,hv,f1,f2] at e
   exact ⟨_,_,p,q,by rw [hp0,hq0]; exact e,hfin⟩
  ·simp [c30,x30_0,r30_0,x30_1,r30_1,x30_2,r30_2,x30_3,r30_3,x30_4,r30_4,x30_5,r30_5,x30_13,r30_13,x30_21,r30_21,e1,hv,f1,f2] at e
   exact ⟨_,_,p,q,by rw [hp0,hq0]; exact e,hfin⟩
  ·simp [c30,x30_0,r30_0,x30_1,r30_1,x30_2,r30_2,x30_3,r30_3,x30_4,r30_4,x30_5,r30_5,x30_13,r30_13,x30_21,r30_21,e1,hv,f1,f2,hlq,tk,il] at e
   exact ⟨_,_,p,q,by rw [hp0,hat q hq0]; exact e,hfin⟩
  ·simp [c30,x30_0,r30_0,x30_1,r30_1,x30_2,r30_2,x30_3,r30_3,x30_4,r30_4,x30_5,r30_5,x30_13,r30_13,x30_21,r30_21,e1,hv,f1,f2,hlq,tk,il] at e
   exact ⟨_,_,p,q,by rw [hp0,hat q hq0]; exact e,hfin⟩
  ·simp [c30,x30_0,r30_0,x30_1,r30_1,x30_2,r30_2,x30_3,r30_3,x30_4,r30_4,x30_5,r30_5,x30_13,r30_13,x30_21,r30_21,e1,hv,f1,f2,hlp,tk,il] at e
   exact ⟨_,_,p,q,by rw [hq0,hat p hp0]; exact e,hfin⟩
  ·simp [c30,x30_0,r30_0,x30_1,r30_1,x30_2,r30_2,x30_3,r30_3,x30_4,r30_4,x30_5,r30_5,x30_13,r30_13,x30_21,r30_21,e1,hv,f1,f2,hlp,tk,il] at e
   exact ⟨_,_,p,q,by rw [hq0,hat p hp0]; exact e,hfin⟩
  ·simp [c30,x30_0,r30_0,x30_1,r30_1,x30_2,r30_2,x30_3,r30_3,x30_4,r30_4,x30_5,r30_5,x30_13,r30_13,x30_21,r30_21,e1,hv,f1,f2,hlp,hlq,tk,il] at e
   exact ⟨_,_,p,q,by rw [hat p hp0,hat q hq0]; exact e,hfin⟩
  ·simp [c30,x30_0,r30_0,x30_1,r30_1,x30_2,r30_2,x30_3,r30_3,x30_4,r30_4,x30_5,r30_5,x30_13,r30_13,x30_21,r30_21,e1,hv,f1,f2,hlp,hlq,tk,il] at e
   exact ⟨_,_,p,q,by rw [hat p hp0,hat q hq0]; exact e,hfin⟩
theorem valA_add (e:Int):∀ (cs is:List Int) (c:Int),valA (e+c) cs is=e+valA c cs is
 | [],is,c=>by cases is<;>rfl
 | x :: xs,[],c=>rfl
 | x :: xs,i :: is,c=>by
  simp only [valA]
  rw [Int.add_assoc,valA_add e xs is]
theorem numC_inj {n:Nat} {x y:List (Int × List Int)} {ss us p q:List Int} (hx:CellOk n x ss) (hy:CellOk n y us) (hp:AtOk p ss) (hq:AtOk q us) (h:numC n x p=numC n y q) :
  ∀ i (h1:i < x.length) (h2:i < y.length),valA x[i].1 x[i].2 p=valA y[i].1 y[i].2 q:=by
 have lx:=hx.len
 have ly:=hy.len
 have arr:=hx.arr
 match n,arr,lx,ly,hx,hy,h with
 | 0,_,lx,ly,hx,hy,h =>
  match x,lx,y,ly,hx,hy,h with
  | [a],_,[b],_,hx,hy,h =>
   intro i h1 h2
   have:i=0:=by simpa using h1
   subst this
   exact h
 | 1,_,lx,ly,hx,hy,h =>
  match x,lx,y,ly,hx,hy,h with
  | [a,a'],_,[b,b'],_,hx,hy,h =>
   simp only [numC,valA_add] at h
   have A0:=hx.ok 0 (by simp) (by simp [sizesOf])
   have A1:=hx.ok 1 (by simp) (by simp [sizesOf])
   have B0:=hy.ok 0 (by simp) (by simp [sizesOf])
   have B1:=hy.ok 1 (by simp) (by simp [sizesOf])
   simp only [List.getElem_cons_zero,List.getElem_cons_succ,sizesOf] at A0 A1 B0 B1
   have va:=valA_bound hp a'.1 A1.len A1.coef
   have vb:=valA_bound hq b'.1 B1.len B1.coef
   have a1:=A1.lo; have a2:=A1.hi; have b1:=B1.lo; have b2:=B1.hi
   have k1:valA a.1 a.2 p=valA b.1 b.2 q:=by omega
   have k2:valA a'.1 a'.2 p=valA b'.1 b'.2 q:=by omega
   intro i h1 h2
   match i,h1 with
   | 0,_=>exact k1
   | 1,_=>exact k2
   | k+2,h1=>simp at h1; omega
 | 2,_,lx,ly,hx,hy,h =>
  intro i h1 h2
  have:x.length=0:=lx
  omega
 | k+3,h3,_,_,_,_,_=>omega
def valT:Int→List (Int × Int)→List Int→Int
 | c,z :: r,k :: ks=>valT (c+z.1 * k) r ks
 | c,_,_=>c
theorem loS_add (e:Int):∀ (l:List (Int × Int)) (c:Int),loS (e+c) l=e+loS c l
 | [],c=>rfl
 | z :: r,c=>by simp only [loS]; rw [Int.add_assoc,loS_add e r]
theorem hiS_add (e:Int):∀ (l:List (Int × Int)) (c:Int),hiS (e+c) l=e+hiS c l
 | [],c=>rfl
 | z :: r,c=>by simp only [hiS]; rw [Int.add_assoc,hiS_add e r]
inductive Fits:List (Int × Int)→List Int→Prop
 | nil:Fits [] []
 | cons {b m k:Int} {l:List (Int × Int)} {ks:List Int} (hb:b=0∨b=1∨b=-1) (h0:0≤k) (h1:k≤m) (h:Fits l ks):Fits ((b,m) :: l) (k :: ks)
theorem Fits.app {l l':List (Int × Int)} {ks ks':List Int} (h:Fits l ks) (h':Fits l' ks'):Fits (l++l') (ks++ks'):=by
 induction h with
 | nil=>exact h'
 | cons hb h0 h1 _ ih=>exact .cons hb h0 h1 ih
theorem valT_bound {l:List (Int × Int)} {ks:List Int} (h:Fits l ks):∀ c,loS c l≤valT c l ks∧valT c l ks≤hiS c l:=by
 induction h with
 | nil=>intro c; simp [loS,hiS,valT]
 | @cons b m k l ks hb h0 h1 h ih =>
  intro c
  simp only [loS,hiS,valT]
  have:=ih (c+b * k)
  have e1:=loS_add (b * k) l c
  have e2:=hiS_add (b * k) l c
  have e3:=loS_add (if b * m < 0 then b * m else 0) l c
  have e4:=hiS_add (if 0 < b * m then b * m else 0) l c
  rw [Int.add_comm c,Int.add_comm c,Int.add_comm c]
  rw [Int.add_comm c] at this
  rw [e3,e4]
  rw [e1,e2] at this
  rcases hb with rfl | rfl | rfl
  ·simp at this ⊢; omega
  ·simp only [Int.one_mul] at this ⊢
   constructor
   ·split<;>omega
   ·split<;>omega
  ·simp only [Int.neg_mul,Int.one_mul] at this ⊢
   constructor
   ·split<;>omega
   ·split<;>omega
theorem valT_zero {l:List (Int × Int)} {ks:List Int} (h:Fits l ks) (hz:l.all (fun z=>z.1 == 0)=true):∀ c,valT c l ks=c:=by
 induction h with
 | nil=>intro c; rfl
 | @cons b m k l ks hb h0 h1 h ih =>
  intro c
  simp only [List.all_cons,Bool.and_eq_true,beq_iff_eq] at hz
  simp only [valT]
  rw [ih hz.2,hz.1]; simp
theorem fits_pos {cs ss is:List Int} (h:AtOk is ss) (hl:cs.length=ss.length) (hc:∀ x∈cs,x=0∨x=1∨x=-1):Fits ((cs.zip ss).map fun z=>(z.1,z.2 - 1)) is:=by
 induction h generalizing cs with
 | nil =>
  have:cs=[]:=by simpa using hl
  subst this; exact .nil
 | @cons i s is ss h0 h1 h ih =>
  match cs,hl with
  | x :: cs,hl=>exact .cons (hc x (by simp)) h0 (by simp only; omega) (ih (by simpa using hl) fun y hy=>hc y (by simp [hy]))
theorem fits_neg {cs ss is:List Int} (h:AtOk is ss) (hl:cs.length=ss.length) (hc:∀ x∈cs,x=0∨x=1∨x=-1):Fits ((cs.zip ss).map fun z=>(-z.1,z.2 - 1)) is:=by
 induction h generalizing cs with
 | nil =>
  have:cs=[]:=by simpa using hl
  subst this; exact .nil
 | @cons i s is ss h0 h1 h ih =>
  match cs,hl with
  | x :: cs,hl=>exact .cons (by rcases hc x (by simp) with h | h | h<;>rw [h]<;>simp) h0 (by simp only; omega) (ih (by simpa using hl) fun y hy=>hc y (by simp [hy]))
theorem valT_pos {cs ss is:List Int} (h:AtOk is ss) (hl:cs.length=ss.length):∀ (c:Int) (r:List (Int × Int)) (ks:List Int),valT c (((cs.zip ss).map fun z=>(z.1,z.2 - 1))++r) (is++ks)=valT (valA c cs is) r ks:=by
 induction h generalizing cs with
 | nil =>
  intro c r ks; have:cs=[]:=by simpa using hl
  subst this; rfl
 | @cons i s is ss h0 h1 h ih =>
  intro c r ks
  match cs,hl with
  | x :: cs,hl=>simp only [List.zip_cons_cons,List.map_cons,List.cons_append,valT,valA]; exact ih (by simpa using hl) _ r ks
theorem valT_neg {cs ss is:List Int} (h:AtOk is ss) (hl:cs.length=ss.length):∀ (c d:Int),valT (c - d) ((cs.zip ss).map fun z=>(-z.1,z.2 - 1)) is=c - valA d cs is:=by
 induction h generalizing cs with
 | nil =>
  intro c d; have:cs=[]:=by simpa using hl
  subst this; rfl
 | @cons i s is ss h0 h1 h ih =>
  intro c d
  match cs,hl with
  | x :: cs,hl =>
   simp only [List.zip_cons_cons,List.map_cons,valT,valA]
   have:c - d+-x * i=c - (d+x * i):=by rw [Int.neg_mul]; omega
   rw [this]
   exact ih (by simpa using hl) c (d+x * i)
theorem difA_val {c d:Int} {cs ds ss us p q:List Int} (hp:AtOk p ss) (hq:AtOk q us) (hc:cs.length=ss.length) (hd:ds.length=us.length) :
  valT (difA ss us (c,cs) (d,ds)).1 (difA ss us (c,cs) (d,ds)).2 (p++q)=valA c cs p - valA d ds q:=by
 simp only [difA]
 rw [valT_pos hp hc]
 have:valA (c - d) cs p=valA c cs p - d:=by
  have:=valA_add (-d) cs p c
  rw [show -d+c=c - d by omega] at this
  omega
 rw [this]
 exact valT_neg hq hd _ d
theorem no_meet {x y:Stp} {c d:Nat × List (Int × List Int)} (hc:CellOk c.1 c.2 x.ss) (hd:CellOk d.1 d.2 y.ss) {p q:List Int} (hp:AtOk p x.ss) (hq:AtOk q y.ss) (hm:pl c p=pl d q) :
  (difs x y c.2 d.2).any neverA=false∧(difs x y c.2 d.2).any apartA=false:=by
 obtain ⟨n,c⟩:=c
 obtain ⟨m,d⟩:=d
 simp only [pl,Prod.mk.injEq] at hm
 obtain ⟨rfl,hm⟩:=hm
 simp only at hc hd hm
 have key:=numC_inj hc hd hp hq hm
 have hz:∀ z∈difs x y c d,neverA z=false∧apartA z=false:=by
  intro z hz
  obtain ⟨i,hi⟩:=List.mem_iff_getElem.1 hz
  obtain ⟨hi,rfl⟩:=hi
  have hi':=hi
  simp only [difs,List.length_zipWith] at hi'
  have hi1:i < c.length:=by omega
  have hi2:i < d.length:=by omega
  have hk:=key i hi1 hi2
  have l1:=hc.len
  have l2:=hd.len
  have A:=hc.ok i hi1 (by omega)
  have B:=hd.ok i hi2 (by omega)
  have e:(difs x y c d)[i]=difA x.ss y.ss c[i] d[i]:=by simp [difs]
  rw [e]
  generalize c[i]=u at *
  generalize d[i]=v at *
  obtain ⟨u1,u2⟩:=u
  obtain ⟨v1,v2⟩:=v
  simp only at A B hk
  have hv:=difA_val (c:=u1) (d:=v1) hp hq A.len B.len
  have hf:Fits (difA x.ss y.ss (u1,u2) (v1,v2)).2 (p++q):=(fits_pos hp A.len A.coef).app (fits_neg hq B.len B.coef)
  generalize difA x.ss y.ss (u1,u2) (v1,v2)=w at *
  obtain ⟨w1,w2⟩:=w
  simp only at hv hf
  have hb:=valT_bound hf w1
  rw [hv,hk] at hb
  constructor
  ·cases h:neverA (w1,w2) with
   | false=>rfl
   | true =>
    simp only [neverA,Bool.and_eq_true,bne_iff_ne,ne_eq] at h
    have:=valT_zero hf h.1 w1
    rw [hv,hk] at this
    exact absurd (by omega) h.2
  ·simp only [apartA,decide_eq_false_iff_not]
   omega
 exact ⟨List.any_eq_false.2 fun z h=>by rw [(hz z h).1]; simp,List.any_eq_false.2 fun z h=>by rw [(hz z h).2]; simp⟩
def base (t:List Stp) (k:Nat):Nat:=((t.take k).map fun s=>(allAt s.ss).length).sum
theorem allI_at {t:List Stp}:∀ {m k j:Nat} {s:Stp} {p:List Int},t[k]?=some s→(allAt s.ss)[j]?=some p→(allI m t)[base t k+j]?=some (m+k,s,p):=by
 induction t with
 | nil=>intro m k j s p h; simp at h
 | cons x r ih =>
  intro m k j s p h1 h2
  cases k with
  | zero =>
   simp only [List.getElem?_cons_zero,Option.some.injEq] at h1; subst h1
   have hj:=(gS.1 h2).1
   simp only [allI,base,List.take_zero,List.map_nil,List.sum_nil,Nat.zero_add]
   rw [List.getElem?_append_left (by simpa using hj),List.getElem?_map,h2]
   rfl
  | succ k =>
   simp only [List.getElem?_cons_succ] at h1
   have:=ih (m:=m+1) h1 h2
   simp only [allI,base,List.take_succ_cons,List.map_cons,List.sum_cons]
   rw [List.getElem?_append_right (by simp; omega)]
   simp only [List.length_map]
   rw [show (allAt x.ss).length+(List.map (fun s=>(allAt s.ss).length) (List.take k r)).sum+j - (allAt x.ss).length=base r k+j by simp only [base]; omega,this]
   rw [show m+1+k=m+(k+1) by omega]
theorem allI_total {t:List Stp} {m:Nat}:(allI m t).length=base t t.length:=by
 induction t generalizing m with
 | nil=>rfl
 | cons x r ih =>
  simp only [allI,List.length_append,List.length_map,ih,base,List.length_cons,List.take_succ_cons,List.map_cons,List.sum_cons]
theorem at_base {t:List Stp} {n:Nat} (h:n < base t t.length):∃ k s j p,t[k]?=some s∧(allAt s.ss)[j]?=some p∧n=base t k+j:=by
 induction t generalizing n with
 | nil=>simp [base] at h
 | cons x r ih =>
  by_cases hn:n < (allAt x.ss).length
  ·exact ⟨0,x,n,_,rfl,List.getElem?_eq_getElem hn,by simp [base]⟩
  ·have:n - (allAt x.ss).length < base r r.length:=by
    simp only [base,List.length_cons,List.take_succ_cons,List.map_cons,List.sum_cons] at h ⊢
    omega
   obtain ⟨k,s,j,p,h1,h2,h3⟩:=ih this
   refine ⟨k+1,s,j,p,h1,h2,?_⟩
   simp only [base,List.take_succ_cons,List.map_cons,List.sum_cons] at h3 ⊢
   omega
def numAt:List Int→List Int→Int
 | [_],[i]=>i
 | [_,b],[i,j]=>i * b+j
 | _,_=>0
def atNum:List Int→Int→List Int
 | [a],n=>[n]
 | [a,b],n=>[n / b,n % b]
 | _,_=>[]
def prodS:List Int→Int
 | []=>1
 | [a]=>a
 | a :: b :: _=>a * b
theorem allAt1 (a:Int):allAt [a]=(List.range a.toNat).map fun i=>[Int.ofNat i]:=by
 simp [allAt,List.flatMap]
 induction List.range a.toNat with
 | nil=>rfl
 | cons x r ih=>simp [ih]
theorem flat_at {α β:Type} (f:α→List β) (L:Nat):∀ (l:List α),(∀ a∈l,(f a).length=L)→∀ (i j:Nat) (a:α),l[i]?=some a→j < L→(l.flatMap f)[i * L+j]?=(f a)[j]?
 | [],_,i,j,a,h,_=>by simp at h
 | x :: r,hl,0,j,a,h,hj=>by
  simp only [List.getElem?_cons_zero,Option.some.injEq] at h; subst h
  rw [List.flatMap_cons,Nat.zero_mul,Nat.zero_add,List.getElem?_append_left (by rw [hl _ (by simp)]; exact hj)]
 | x :: r,hl,i+1,j,a,h,hj=>by
  have h1:=hl x (by simp)
  rw [List.flatMap_cons,List.getElem?_append_right (by rw [h1,Nat.add_mul]; omega),h1,show (i+1) * L+j - L=i * L+j by rw [Nat.add_mul]; omega]
  exact flat_at f L r (fun a ha=>hl a (by simp [ha])) i j a (by simpa using h) hj
theorem flat_len {α β:Type} (f:α→List β) (L:Nat):∀ (l:List α),(∀ a∈l,(f a).length=L)→(l.flatMap f).length=l.length * L
 | [],_=>by simp
 | x :: r,hl=>by
  rw [List.flatMap_cons,List.length_append,hl x (by simp),flat_len f L r (fun a ha=>hl a (by simp [ha])),List.length_cons,Nat.add_mul]; omega
theorem allAt_prod {ss:List Int} (h:SzOk ss):((allAt ss).length:Int)=prodS ss:=by
 have hf:=h.few
 match ss,hf with
 | [],_=>rfl
 | [a],_ =>
  have:=h.within a (by simp)
  rw [allAt1]; simp [prodS]; omega
 | [a,b],_ =>
  have h1:=h.within a (by simp)
  have h2:=h.within b (by simp)
  obtain ⟨a,rfl⟩:∃ n:Nat,a=n:=⟨a.toNat,by omega⟩
  obtain ⟨b,rfl⟩:∃ n:Nat,b=n:=⟨b.toNat,by omega⟩
  rw [show allAt [(a:Int),(b:Int)]=(List.range a).flatMap fun i=>(allAt [(b:Int)]).map (Int.ofNat i :: ·) from rfl,flat_len _ b _ (fun i hi=>by rw [List.length_map,allAt1]; simp)]
  simp [prodS]
 | _ :: _ :: _ :: _,hf=>simp at hf
theorem allAt_at {ss p:List Int} (h:SzOk ss) (hp:AtOk p ss):(allAt ss)[(numAt ss p).toNat]?=some p∧0≤numAt ss p:=by
 have hf:=h.few
 match ss,hf,hp with
 | [],_,hp=>cases hp; exact ⟨rfl,by simp [numAt]⟩
 | [a],_,.cons (i:=i) h0 h1 .nil =>
  refine ⟨?_,h0⟩
  obtain ⟨i,rfl⟩:∃ n:Nat,i=n:=⟨i.toNat,by omega⟩
  rw [allAt1]; simp only [numAt,Int.toNat_natCast,List.getElem?_map]
  rw [List.getElem?_range (by omega)]; rfl
 | [a,b],_,.cons (i:=i) h0 h1 (.cons (i:=j) h2 h3 .nil) =>
  obtain ⟨i,rfl⟩:∃ n:Nat,i=n:=⟨i.toNat,by omega⟩
  obtain ⟨j,rfl⟩:∃ n:Nat,j=n:=⟨j.toNat,by omega⟩
  obtain ⟨a,rfl⟩:∃ n:Nat,a=n:=⟨a.toNat,by omega⟩
  obtain ⟨b,rfl⟩:∃ n:Nat,b=n:=⟨b.toNat,by omega⟩
  have e:numAt [(a:Int),(b:Int)] [(i:Int),(j:Int)]=((i * b+j:Nat):Int):=by simp [numAt]
  rw [e,Int.toNat_natCast,show allAt [(a:Int),(b:Int)]=(List.range a).flatMap fun i=>(allAt [(b:Int)]).map (Int.ofNat i :: ·) from rfl]
  refine ⟨?_,by omega⟩
  rw [flat_at _ b _ (fun i hi=>by rw [List.length_map,allAt1]; simp) i j i (List.getElem?_range (by omega)) (by omega),allAt1,List.getElem?_map,List.getElem?_map]
  rw [show ((b:Int)).toNat=b from Int.toNat_natCast b,List.getElem?_range (by omega)]
  rfl
 | _ :: _ :: _ :: _,hf,_=>simp at hf
theorem atNum_ok {ss p:List Int} {j:Nat} (h:SzOk ss) (hj:(allAt ss)[j]?=some p):atNum ss j=p∧AtOk p ss∧(j:Int)=numAt ss p∧(j:Int) < prodS ss:=by
 have hmem:=mem_allAt.1 (List.mem_of_getElem? hj)
 have hlen:=allAt_prod h
 have hlt:=(gS.1 hj).1
 have hf:=h.few
 refine ⟨?_,hmem,?_,by omega⟩
 ·match ss,hf,hmem with
  | [],_,hp=>cases hp; rfl
  | [a],_,.cons (i:=i) h0 h1 .nil =>
   rw [allAt1,List.getElem?_map] at hj
   rw [allAt1] at hlt
   simp only [List.length_map,List.length_range] at hlt
   rw [List.getElem?_range hlt] at hj
   simp at hj
   simp [atNum,hj]
  | [a,b],_,.cons (i:=i) h0 h1 (.cons (i:=k) h2 h3 .nil) =>
   have hb:=h.within b (by simp)
   have ha:=h.within a (by simp)
   obtain ⟨a,rfl⟩:∃ n:Nat,a=n:=⟨a.toNat,by omega⟩
   obtain ⟨b,rfl⟩:∃ n:Nat,b=n:=⟨b.toNat,by omega⟩
   have hdm:j=(j / b) * b+j % b:=by rw [Nat.mul_comm]; exact (Nat.div_add_mod j b).symm
   have hm:j % b < b:=Nat.mod_lt _ (by omega)
   have hL:(allAt [(a:Int),(b:Int)]).length=a * b:=by
    rw [show allAt [(a:Int),(b:Int)]=(List.range a).flatMap fun i=>(allAt [(b:Int)]).map (Int.ofNat i :: ·) from rfl,flat_len _ b _ (fun i hi=>by rw [List.length_map,allAt1]; simp)]
    simp
   have hq:j / b < a:=Nat.div_lt_of_lt_mul (by rw [Nat.mul_comm]; omega)
   rw [show allAt [(a:Int),(b:Int)]=(List.range a).flatMap fun i=>(allAt [(b:Int)]).map (Int.ofNat i :: ·) from rfl,hdm,
    flat_at _ b _ (fun i hi=>by rw [List.length_map,allAt1]; simp) (j / b) (j % b) (j / b) (List.getElem?_range hq) hm,allAt1,List.getElem?_map,List.getElem?_map,
    show ((b:Int)).toNat=b from Int.toNat_natCast b,List.getElem?_range hm] at hj
   simp at hj
   simp [atNum]
   exact ⟨hj.1,hj.2⟩
  | _ :: _ :: _ :: _,hf,_=>simp at hf
 ·have h1:=allAt_at h hmem
  have hnd:(numAt ss p).toNat=j:=by
   have h2:=h1.1
   -- both numbers lead to p
   match ss,hf,hmem with
   | [],_,hp =>
    simp [allAt] at hlt
    simp [numAt,hlt]
   | [a],_,.cons (i:=i) h0 h3 .nil =>
    rw [allAt1,List.getElem?_map] at hj
    rw [allAt1] at hlt
    simp only [List.length_map,List.length_range] at hlt
    rw [List.getElem?_range hlt] at hj
    simp at hj
    simp [numAt]; omega
   | [a,b],_,.cons (i:=i) h0 h3 (.cons (i:=k) h4 h5 .nil) =>
    have hb:=h.within b (by simp)
    have ha:=h.within a (by simp)
    obtain ⟨a,rfl⟩:∃ n:Nat,a=n:=⟨a.toNat,by omega⟩
    obtain ⟨b,rfl⟩:∃ n:Nat,b=n:=⟨b.toNat,by omega⟩
    have hdm:j=(j / b) * b+j % b:=by rw [Nat.mul_comm]; exact (Nat.div_add_mod j b).symm
    have hm:j % b < b:=Nat.mod_lt _ (by omega)
    have hL:(allAt [(a:Int),(b:Int)]).length=a * b:=by
     rw [show allAt [(a:Int),(b:Int)]=(List.range a).flatMap fun i=>(allAt [(b:Int)]).map (Int.ofNat i :: ·) from rfl,flat_len _ b _ (fun i hi=>by rw [List.length_map,allAt1]; simp)]
     simp
    have hq:j / b < a:=Nat.div_lt_of_lt_mul (by rw [Nat.mul_comm]; omega)
    have hj2:=hj
    rw [show allAt [(a:Int),(b:Int)]=(List.range a).flatMap fun i=>(allAt [(b:Int)]).map (Int.ofNat i :: ·) from rfl,hdm,
     flat_at _ b _ (fun i hi=>by rw [List.length_map,allAt1]; simp) (j / b) (j % b) (j / b) (List.getElem?_range hq) hm,allAt1,List.getElem?_map,List.getElem?_map,
     show ((b:Int)).toNat=b from Int.toNat_natCast b,List.getElem?_range hm] at hj2
    simp at hj2
    obtain ⟨e1,e2⟩:=hj2
    have:numAt [(a:Int),(b:Int)] [i,k]=((j / b * b+j % b:Nat):Int):=by simp [numAt,← e1,← e2]
    rw [this,← hdm]; simp
   | _ :: _ :: _ :: _,hf,_=>simp at hf
  omega
end Mw
