/- DependLevels answers true for every list of numbers: its tied card holds; no condition beyond the card's own. -/
import Derived.Test.YtdjnccgeajpegaaGreatDoorQk
import Derived.Test.YtdjnccgeajpegaaGreatDoorXc
import Derived.Test.YtdjnccgeajpegaaGreatDoorQh
import Derived.Test.YtdjnccgeajpegaaGreatDoorQj
set_option linter.unusedVariables false
set_option linter.unusedSimpArgs false
set_option maxRecDepth 10000
set_option maxHeartbeats 4000000
namespace Mw
open Go Go.Proofs
theorem s72 (n:Int) (H:List O):∃ w,callL K (.fn (.func 72) [] []) [.d (.int .i64 n)] none H=some (.ret (.d (.bool (decide (n≠0)))),false,H,w):=by
 by_cases h:n=0
 ·subst h; simp [k72,c72,x72_0,x72_1]
 ·simp [k72,c72,x72_0,x72_1,h]
def idxN:Nat→List Int→Int
 | _,[]=>-1
 | i,x :: r=>if x=0 then idxN (i+1) r else i
def S70 (ds:List Int) (i:Nat) (tl:List (Nat × V)) (H:List O) (w:Nat):St :=
 St.mk ([(0,.d (.list 1 (ints ds))),(1,.fn (.func 72) [] []),(7,.d (.int .i64 ds.length)),(8,.d (.int .i64 (i:Nat)))]++tl) (Mem.mk [] H w) [] none false none
theorem rd70 {ds:List Int} {z:Int} {i:Nat} (hz:ds[i]?=some z) (hn:ds.length≤100) (H:List O) (w:Nat) :
  ∃ w',execL K 70 l70_0 (S70 ds i [] H w)=if z=0 then some (.normal,S70 ds (i+1) [] H w') else some (.ret,St.mk [(4,.d (.int .i64 (i:Nat)))] (Mem.mk [] H w') [] none false none):=by
 have hlt:=(gS.1 hz).1
 have hz2:=(gS.1 hz).2
 have w1:wr .i64 ((i:Int)+1)=(i:Int)+1:=wrap_id (by omega) (by omega)
 obtain ⟨w2,e⟩:=s72 z H
 by_cases h:z=0
 ·subst h
  simp only [ne_eq,not_true,decide_false] at e
  simp [S70,u70_0,x70_2,x70_3,x70_4,x70_5,x70_6,hlt,hz2,w1,e]
 ·simp only [ne_eq,h,not_false_eq_true,decide_true] at e
  simp [S70,u70_0,x70_2,x70_3,x70_4,x70_5,x70_6,hlt,hz2,w1,e,h]
theorem ex70 {ds:List Int} (H:List O) (w:Nat):execL K 70 l70_0 (S70 ds ds.length [] H w)=some (.exit 0,S70 ds ds.length [(9,.d (.bool false))] H w):=by
 simp [S70,u70_0,x70_2]
theorem lp70 {ds:List Int} (hn:ds.length≤100) (H:List O) :
  ∀ (m i:Nat) (t:List Int) (w:Nat),t.length=m→ds.drop i=t→i≤ds.length →
   ∃ w',execL K 70 (.loop l70_0) (S70 ds i [] H w)=if ∀ z∈t,z=0 then some (.exit 0,S70 ds ds.length [(9,.d (.bool false))] H w') else some (.ret,St.mk [(4,.d (.int .i64 (idxN i t)))] (Mem.mk [] H w') [] none false none)
 | 0,i,t,w,hm,ht,hi=>by
  have ht0:t=[]:=List.eq_nil_of_length_eq_zero hm
  subst ht0
  have hie:i=ds.length:=by have:=List.drop_eq_nil_iff.1 ht; omega
  subst hie
  refine ⟨w,?_⟩
  rw [execL_loop,ex70]; simp
 | m+1,i,t,w,hm,ht,hi=>by
  match t,hm,ht with
  | x :: r,hm,ht =>
   have hx:ds[i]?=some x:=by
    have:=congrArg List.head? ht; simpa [List.head?_drop] using this
   have hlt:=(gS.1 hx).1
   have hr:ds.drop (i+1)=r:=by
    have:=congrArg List.tail ht; simpa [List.tail_drop] using this
   obtain ⟨w1,e1⟩:=rd70 hx hn H w
   by_cases h:x=0
   ·subst h
    obtain ⟨w2,e2⟩:=lp70 hn H m (i+1) r w1 (by simpa using hm) hr (by omega)
    refine ⟨w2,?_⟩
    rw [execL_loop,e1,if_pos rfl]
    show execL K 70 (.loop l70_0) _=_
    rw [e2]
    simp [idxN]
   ·refine ⟨w1,?_⟩
    rw [execL_loop,e1,if_neg h]
    have:¬ (∀ z∈x :: r,z=0):=fun q=>h (q x (by simp))
    rw [if_neg this]
    simp [idxN,h]
theorem idxN_neg:∀ (t:List Int) (i:Nat),(∀ z∈t,z=0)→idxN i t=-1
 | [],_,_=>rfl
 | x :: r,i,h=>by
  have:=h x (by simp); subst this
  simp only [idxN,if_true]
  exact idxN_neg r (i+1) fun z hz=>h z (List.mem_cons_of_mem _ hz)
theorem idxN_pos:∀ (t:List Int) (i:Nat),¬ (∀ z∈t,z=0)→∃ j:Nat,idxN i t=((i+j:Nat):Int)∧j < t.length
 | [],_,h=>absurd (by simp) h
 | x :: r,i,h=>by
  by_cases hx:x=0
  ·subst hx
   obtain ⟨j,h1,h2⟩:=idxN_pos r (i+1) (fun q=>h (by simpa using q))
   exact ⟨j+1,by simp only [idxN,if_true,h1]; congr 1; omega,by simpa using h2⟩
  ·exact ⟨0,by simp [idxN,hx],by simp⟩
theorem s70 (ds:List Int) (hn:ds.length≤100) (H:List O) :
  ∃ w,callL K (.fn (.func 70) [] []) [.d (.list 1 (ints ds)),.fn (.func 72) [] []] none H=some (.ret (.d (.int .i64 (idxN 0 ds))),false,H,w):=by
 obtain ⟨w,e⟩:=lp70 hn H ds.length 0 ds 0 rfl (by simp) (by omega)
 have z0:((0:Nat):Int)=0:=rfl
 by_cases h:∀ z∈ds,z=0
 ·rw [if_pos h] at e
  simp only [S70,z0,List.append_nil,List.cons_append,List.nil_append] at e
  simp [k70,c70,x70_0,x70_1,x70_7,e,idxN_neg _ _ h]
 ·rw [if_neg h] at e
  simp only [S70,z0,List.append_nil,List.cons_append,List.nil_append] at e
  simp [k70,c70,x70_0,x70_1,x70_7,e]
def difI:List Int→List Int→List Int
 | a :: p,b :: q=>(b - a) :: difI p q
 | _,_=>[]
theorem difI_len:∀ (p q:List Int),p.length=q.length→(difI p q).length=p.length
 | [],[],_=>rfl
 | a :: p,b :: q,h=>by simp [difI,difI_len p q (by simpa using h)]
theorem difI_ne:∀ (p q:List Int),p.length=q.length→p≠q→¬ (∀ z∈difI p q,z=0)
 | [],[],_,h=>absurd rfl h
 | a :: p,b :: q,hl,h=>by
  intro hz
  simp only [difI,List.mem_cons,forall_eq_or_imp] at hz
  have h1:a=b:=by omega
  subst h1
  exact difI_ne p q (by simpa using hl) (fun e=>h (by rw [e])) hz.2
def R71 (v:V) (o:List (Nat × Nat × O)) (ls:List Int):Prop :=
 (ls=[]∧v=.d .nils∧o=[])∨(ls≠[]∧∃ g,v=.sl (.slot 46 g) 1 ls.length 0 ls.length∧o=[(46,g,.vec 1 (ints ls) false true)])
def S71 (p q:List Int) (v:V) (i:Nat) (tl:List (Nat × V)) (o3:O) (o:List (Nat × Nat × O)) (H:List O) (w:Nat):St :=
 St.mk ([(5,.d (atV p)),(6,.d (atV q)),(7,v),(31,.d (.int .i64 p.length)),(32,.d (.int .i64 (i:Nat)))]++tl) (Mem.mk ((3,0,o3) :: o) H w) [] none false none
theorem rd71 {p q:List Int} {a b:Int} {i:Nat} {v:V} {o3:O} {o:List (Nat × Nat × O)} {ls:List Int} (hl:p.length=q.length) (hp:p.length≤100) (ha:p[i]?=some a) (hb:q[i]?=some b) (h0:0≤a) (h1:a≤1000) (h2:0≤b) (h3:b≤1000) (hv:R71 v o ls) (hls:ls.length=i) (H:List O) (w:Nat) :
  ∃ v' o' w',execL K 71 l71_0 (S71 p q v i [] o3 o H w)=some (.normal,S71 p q v' (i+1) [] o3 o' H w')∧R71 v' o' (ls++[b - a]):=by
 have hlt:=(gS.1 ha).1
 have ha2:=(gS.1 ha).2
 have hlt2:=(gS.1 hb).1
 have hb2:=(gS.1 hb).2
 have hpD:atV p=.list 1 (ints p):=by cases p with
  | nil=>simp at hlt
  | cons _ _=>rfl
 have hqD:atV q=.list 1 (ints q):=by cases q with
  | nil=>simp at hlt2
  | cons _ _=>rfl
 have w1:wr .i64 ((i:Int)+1)=(i:Int)+1:=wrap_id (by omega) (by omega)
 have w2:wr .i64 (b - a)=b - a:=wrap_id (by omega) (by omega)
 rcases hv with ⟨rfl,rfl,rfl⟩ | ⟨hne,g,rfl,rfl⟩
 ·refine ⟨.sl (.slot 46 0) 1 1 0 1,[(46,0,.vec 1 (ints [b - a]) false true)],?_⟩
  simp [S71,u71_0,x71_4,x71_5,x71_6,x71_7,R71,hpD,hqD,hlt,hlt2,ha2,hb2,w1,w2]
 ·have k1:(ls.length+1) * 8≤4294967296:=by omega
  have k2:ls.length+1≤4294967296:=by omega
  refine ⟨.sl (.slot 46 g) 1 (ls.length+1) 0 (ls.length+1),[(46,g,.vec 1 (ints (ls++[b - a])) false true)],?_⟩
  simp [S71,u71_0,x71_4,x71_5,x71_6,x71_7,R71,hpD,hqD,hlt,hlt2,ha2,hb2,w1,w2,k1,k2]
theorem ex71 {p q:List Int} {v:V} {o3:O} {o:List (Nat × Nat × O)} (H:List O) (w:Nat):execL K 71 l71_0 (S71 p q v p.length [] o3 o H w)=some (.exit 0,S71 p q v p.length [(33,.d (.bool false))] o3 o H w):=by
 simp [S71,u71_0,x71_4]
theorem difI_snoc:∀ (p q:List Int) (i:Nat) (a b:Int),p[i]?=some a→q[i]?=some b→(difI p q).take (i+1)=(difI p q).take i++[b - a]
 | x :: p,y :: q,0,a,b,h1,h2=>by simp at h1 h2; subst h1; subst h2; simp [difI]
 | x :: p,y :: q,i+1,a,b,h1,h2=>by
  simp at h1 h2
  simp [difI,difI_snoc p q i a b h1 h2]
 | [],_,_,_,_,h1,_=>by simp at h1
 | _ :: _,[],_,_,_,_,h2=>by simp at h2
theorem lp71 {p q:List Int} {o3:O} (hl:p.length=q.length) (hp:p.length≤100) (bp:∀ a∈p,0≤a∧a≤1000) (bq:∀ a∈q,0≤a∧a≤1000) (H:List O) :
  ∀ (m i:Nat) (v:V) (o:List (Nat × Nat × O)) (w:Nat),i+m=p.length→R71 v o ((difI p q).take i) →
   ∃ v' o' w',execL K 71 (.loop l71_0) (S71 p q v i [] o3 o H w)=some (.exit 0,S71 p q v' p.length [(33,.d (.bool false))] o3 o' H w')∧R71 v' o' (difI p q)
 | 0,i,v,o,w,hi,hv=>by
  have hie:i=p.length:=by omega
  subst hie
  rw [← difI_len p q hl,List.take_length] at hv
  exact ⟨v,o,w,by rw [execL_loop,ex71]; rfl,hv⟩
 | m+1,i,v,o,w,hi,hv=>by
  have h1:i < p.length:=by omega
  have h2:i < q.length:=by omega
  have ha:=List.getElem?_eq_getElem h1
  have hb:=List.getElem?_eq_getElem h2
  have ba:=bp _ (List.getElem_mem h1)
  have bb:=bq _ (List.getElem_mem h2)
  have hlen:((difI p q).take i).length=i:=by rw [List.length_take,difI_len p q hl]; omega
  obtain ⟨v1,o1,w1,e1,hv1⟩:=rd71 (o3:=o3) hl hp ha hb ba.1 ba.2 bb.1 bb.2 hv hlen H w
  rw [← difI_snoc p q i _ _ ha hb] at hv1
  obtain ⟨v2,o2,w2,e2,hv2⟩:=lp71 hl hp bp bq H m (i+1) v1 o1 w1 (by omega) hv1
  refine ⟨v2,o2,w2,?_,hv2⟩
  rw [execL_loop,e1]
  exact e2
theorem atP {p ss:List Int} (hs:SzOk ss) (h:AtOk p ss):p.length=ss.length∧∀ a∈p,0≤a∧a≤1000:=by
 have hw:=hs.within
 clear hs
 induction h with
 | nil=>exact ⟨rfl,by simp⟩
 | @cons i a q r h0 h1 h ih =>
  obtain ⟨e1,e2⟩:=ih (fun s hs=>hw s (List.mem_cons_of_mem _ hs))
  have:=hw a (by simp)
  refine ⟨by simp [e1],?_⟩
  intro z hz
  rcases List.mem_cons.1 hz with rfl | hz
  ·omega
  ·exact e2 z hz
theorem s71 {t:List Stp} (ht:TaskOk t) (h3:t.length≤3) {b T:Nat} {H:List O} (hO:Open b T t H) {j k:Nat} {s:Stp} {m:Nat} {p q:List Int} (hj:(allI 0 t)[j]?=some (m,s,p)) (hk:(allI 0 t)[k]?=some (m,s,q)) :
  ∃ w,callL K (.fn (.func 71) [] []) [.ptr (.heap T) 0,.d (.agg [.int .i64 j,.int .i64 k])] none H=some (.ret (.d (atV (difI p q))),false,H,w):=by
 obtain ⟨L,hT,hL⟩:=hO.list ht
 obtain ⟨_,m1,m2⟩:=mem_allI.1 (List.mem_of_getElem? hj)
 obtain ⟨_,_,m3⟩:=mem_allI.1 (List.mem_of_getElem? hk)
 have hs:=ht.ok s (List.mem_of_getElem? m1)
 obtain ⟨l1,b1⟩:=atP hs.sz (mem_allAt.1 m2)
 obtain ⟨l2,b2⟩:=atP hs.sz (mem_allAt.1 m3)
 have few:=hs.sz.few
 have hj1:=encI_at (n:=0) hj
 have hk1:=encI_at (n:=0) hk
 have hjl:=(gS.1 hj1).1
 have hkl:=(gS.1 hk1).1
 have hj2:=(gS.1 hj1).2
 have hk2:=(gS.1 hk1).2
 simp only [instD,Nat.zero_add] at hj1 hk1 hj2 hk2
 have hjl':j+1≤(encI 0 (allI 0 t)).length:=hjl
 have hkl':k+1≤(encI 0 (allI 0 t)).length:=hkl
 have hlp:lenV (V.d (atV p))=some p.length:=by cases p<;>simp [atV]
 have hlq:lenV (V.d (atV q))=some q.length:=by cases q<;>simp [atV]
 simp only [lenV] at hlp hlq
 obtain ⟨v,o,w,e,hv⟩:=lp71 (o3:=.cells [.d (.int .i64 j),.d (.int .i64 k)] false) (by omega) (by omega) b1 b2 H p.length 0 (.d .nils) [] 0 (by omega) (.inl ⟨by simp,rfl,rfl⟩)
 have hmin:¬ ((q.length:Int) < p.length):=by omega
 have z0:((0:Nat):Int)=0:=rfl
 simp only [S71,z0,List.append_nil,List.cons_append,List.nil_append] at e
 have hpq:q.length=p.length:=by omega
 have ee:=k71 [] [] [.ptr (.heap T) 0,.d (.agg [.int .i64 j,.int .i64 k])] none H
 rcases hv with ⟨h,rfl,rfl⟩ | ⟨hne,g,rfl,rfl⟩
 ·rw [h]
  simp [c71,x71_0,x71_1,x71_2,x71_3,x71_8,hT,hL,hj1,hk1,hj2,hk2,hjl,hkl,hjl',hkl',hlp,hlq,hmin,hpq,e] at ee
  exact ⟨_,by simpa [atV] using ee⟩
 ·have hd:atV (difI p q)=.list 1 (ints (difI p q)):=by cases h:difI p q with
   | nil=>exact absurd h hne
   | cons _ _=>rfl
  rw [hd]
  simp [c71,x71_0,x71_1,x71_2,x71_3,x71_8,hT,hL,hj1,hk1,hj2,hk2,hjl,hkl,hjl',hkl',hlp,hlq,hmin,hpq,e] at ee
  exact ⟨_,by simpa using ee⟩
theorem s69 (T s u kd:Nat) (H:List O):∃ w,callL K (.fn (.func 69) [] []) [.ptr (.heap T) 0,.d (.int .i64 s),.d (.int .i64 u),.d (.int .i64 kd)] none H =
  some (.ret (.fn (.func 138) [] [.ptr (.heap H.length) 0,.ptr (.heap (H.length+2)) 0,.ptr (.heap (H.length+3)) 0,.ptr (.heap (H.length+1)) 0]),false,
   H++[.cells [.ptr (.heap T) 0] false,.cells [.d (.int .i64 s)] false,.cells [.d (.int .i64 u)] false,.cells [.d (.int .i64 kd)] false],w):=by
 have e:=k69 [] [] [.ptr (.heap T) 0,.d (.int .i64 s),.d (.int .i64 u),.d (.int .i64 kd)] none H
 simp [c69,x69_0,x69_1] at e
 exact ⟨_,e⟩
theorem allAt_nd:∀ ss:List Int,(allAt ss).Nodup
 | []=>by simp [allAt]
 | s :: ss=>by
  simp only [allAt,List.Nodup]
  rw [List.pairwise_flatMap]
  refine ⟨fun i _=>?_,?_⟩
  ·rw [List.pairwise_map]
   exact List.Pairwise.imp (fun h e=>h (by injection e)) (allAt_nd ss)
  ·refine List.Pairwise.imp ?_ (List.nodup_range (n:=s.toNat))
   intro a c hac x hx y hy e
   obtain ⟨p,_,rfl⟩:=List.mem_map.1 hx
   obtain ⟨q,_,rfl⟩:=List.mem_map.1 hy
   injection e with e1 _
   exact hac (by
    have:(a:Int)=c:=e1
    omega)
theorem allI_nd:∀ (t:List Stp) (j:Nat),(allI j t).Nodup
 | [],_=>by simp [allI]
 | s :: r,j=>by
  simp only [allI]
  rw [List.nodup_append]
  refine ⟨?_,allI_nd r (j+1),?_⟩
  ·simp only [List.Nodup]
   rw [List.pairwise_map]
   exact List.Pairwise.imp (fun h e=>h (by injection e with _ e; injection e)) (allAt_nd s.ss)
  ·rintro a ha ⟨k,s',p⟩ hb rfl
   obtain ⟨q,_,e⟩:=List.mem_map.1 ha
   have:=(mem_allI.1 hb).1
   injection e with e _
   omega
theorem allI_inj {t:List Stp} {n m k:Nat} {s:Stp} {p q:List Int} (h:n < m) (h1:(allI 0 t)[n]?=some (k,s,p)) (h2:(allI 0 t)[m]?=some (k,s,q)):p≠q:=by
 rintro rfl
 have hnd:=List.pairwise_iff_getElem.1 (allI_nd t 0)
 obtain ⟨l1,g1⟩:=gS.1 h1
 obtain ⟨l2,g2⟩:=gS.1 h2
 exact hnd n m l1 l2 h (by rw [g1,g2])
theorem ua17 (s:St):execL K 17 a17_0 s=execL K 17 (rg 17 11) s:=rfl
theorem ud17 (s:St):execL K 17 d17_0 s=execL K 17 (.block 3 (.seq (rg 17 12) (rg 17 13))) s:=rfl
noncomputable def rec17 (T A B s kd:Nat) (c1:List D):O :=
 .loop .ready none 17 [(1,.d (.int .i64 s)),(4,.d .nils),(5,.d (.int .i64 0)),(6,.ptr (.slot 6 0) 0),(8,.ptr (.heap A) 0),(9,.d (.int .i64 kd)),
   (34,.fn (.func 138) [] [.ptr (.heap B) 0,.ptr (.heap (B+2)) 0,.ptr (.heap (B+3)) 0,.ptr (.heap (B+1)) 0])]
  [(2,0,.cells (c1.map .d) true),(6,0,.cells [.ptr (.heap T) 0] true)] [35] a17_0 d17_0
def boolsV (cb:List Bool):List V:=cb.map fun x=>.d (.bool x)
theorem y17 {t:List Stp} (ht:TaskOk t) (h3:t.length≤3) {T L A B l s kd n m k:Nat} {c1:List D} {st:Stp} {p q:List Int} {H:List O} {cb:List Bool}
  (hT:H[T]?=some (.cells [.d (.list 2 arrsD),.d (stpsD t),.sl (.heap L) 4 (encI 0 (allI 0 t)).length 0 (encI 0 (allI 0 t)).length] false)) (hL:H[L]?=some (.vec 4 (encI 0 (allI 0 t)) false true))
  (hA:H[A]?=some (.cells (boolsV cb) false)) (hcb:cb.length=4) (hl:H[l]?=some (rec17 T A B s kd c1)) (hTl:T < l) (hLl:L < l) (hAl:A < l)
  (hn:(allI 0 t)[n]?=some (k,st,p)) (hm:(allI 0 t)[m]?=some (k,st,q)) (hnm:n < m) :
  ∃ i w,callL K (.fn (.yield l) [] []) [.d (.agg [.int .i64 n,.int .i64 m])] none H=some (.ret (.d (.bool true)),false,H.set A (.cells (boolsV (cb.set i true)) false),w)∧i < st.ss.length:=by
 have hne:=allI_inj hnm hn hm
 obtain ⟨_,m1,m2⟩:=mem_allI.1 (List.mem_of_getElem? hn)
 obtain ⟨_,_,m3⟩:=mem_allI.1 (List.mem_of_getElem? hm)
 have hs:=ht.ok st (List.mem_of_getElem? m1)
 obtain ⟨l1,_⟩:=atP hs.sz (mem_allAt.1 m2)
 obtain ⟨l2,_⟩:=atP hs.sz (mem_allAt.1 m3)
 have few:=hs.sz.few
 have hdl:=difI_len p q (by omega)
 have hdn:=difI_ne p q (by omega) hne
 obtain ⟨i,hi,hil⟩:=idxN_pos (difI p q) 0 hdn
 have hdne:difI p q≠[]:=by intro h; rw [h] at hil; simp at hil
 have hll:l < H.length:=(gS.1 hl).1
 have hAll:A < H.length:=by omega
 have eH:∀ o,∃ w,callL K (.fn (.func 71) [] []) [.ptr (.heap T) 0,.d (.agg [.int .i64 n,.int .i64 m])] none (H.set l o)=some (.ret (.d (.list 1 (ints (difI p q)))),false,H.set l o,w):=fun o=>by
  have hO:Open 0 T t (H.set l o):=⟨.inr ⟨L,Nat.zero_le _,?_,by rw [List.getElem?_set_ne (by omega)]; exact hT,by rw [List.getElem?_set_ne (by omega)]; exact hL⟩⟩
  ·have:=s71 ht h3 hO hn hm
   rwa [atV_ne hdne] at this
  ·intro h
   have:=encI_len 0 (allI 0 t)
   rw [h] at this
   exact allI_ne ht (List.eq_nil_of_length_eq_zero this.symm)
 have e7:∀ H',∃ w,callL K (.fn (.func 70) [] []) [.d (.list 1 (ints (difI p q))),.fn (.func 72) [] []] none H'=some (.ret (.d (.int .i64 (i:Nat))),false,H',w):=fun H'=>by
  have:=s70 (difI p q) (by omega) H'
  rw [hi,Nat.zero_add] at this
  exact this
 have hl2:=hl
 have hA2:=hA
 rw [List.getElem?_eq_getElem hll] at hl2
 rw [List.getElem?_eq_getElem hAll] at hA2
 simp only [Option.some.injEq] at hl2 hA2
 have hi4:i < 4:=by omega
 have hne1:¬ A=l:=by omega
 have hne2:¬ l=A:=by omega
 have hne3:¬ T=l:=by omega
 have hne4:¬ l=T:=by omega
 have hTH:T < H.length:=by omega
 have hT2:=hT
 rw [List.getElem?_eq_getElem hTH] at hT2
 simp only [Option.some.injEq] at hT2
 refine ⟨i,?_⟩
 suffices hh:∃ w,callL K (.fn (.yield l) [] []) [.d (.agg [.int .i64 n,.int .i64 m])] none H=some (.ret (.d (.bool true)),false,H.set A (.cells (boolsV (cb.set i true)) false),w) by
  obtain ⟨w,hh⟩:=hh
  exact ⟨w,hh,by omega⟩
 obtain ⟨w1,e1⟩:=eH (.loop .busy none 17 [(1,.d (.int .i64 s)),(4,.d .nils),(5,.d (.int .i64 0)),(6,.ptr (.slot 6 0) 0),(8,.ptr (.heap A) 0),(9,.d (.int .i64 kd)),
   (34,.fn (.func 138) [] [.ptr (.heap B) 0,.ptr (.heap (B+2)) 0,.ptr (.heap (B+3)) 0,.ptr (.heap (B+1)) 0])]
  [(2,0,.cells (c1.map .d) true),(6,0,.cells [.ptr (.heap T) 0] true)] [35] a17_0 d17_0)
 obtain ⟨w2,e2⟩:=e7 (H.set l (.loop .busy none 17 [(1,.d (.int .i64 s)),(4,.d .nils),(5,.d (.int .i64 0)),(6,.ptr (.slot 6 0) 0),(8,.ptr (.heap A) 0),(9,.d (.int .i64 kd)),
   (34,.fn (.func 138) [] [.ptr (.heap B) 0,.ptr (.heap (B+2)) 0,.ptr (.heap (B+3)) 0,.ptr (.heap (B+1)) 0])]
  [(2,0,.cells (c1.map .d) true),(6,0,.cells [.ptr (.heap T) 0] true)] [35] a17_0 d17_0))
 simp only [rec17] at hl hl2
 have back:∀ o,(((H.set l o).set A (.cells (boolsV (cb.set i true)) false)).set l (.loop .ready none 17 [(1,.d (.int .i64 s)),(4,.d .nils),(5,.d (.int .i64 0)),(6,.ptr (.slot 6 0) 0),(8,.ptr (.heap A) 0),(9,.d (.int .i64 kd)),
   (34,.fn (.func 138) [] [.ptr (.heap B) 0,.ptr (.heap (B+2)) 0,.ptr (.heap (B+3)) 0,.ptr (.heap (B+1)) 0])]
  [(2,0,.cells (c1.map .d) true),(6,0,.cells [.ptr (.heap T) 0] true)] [35] a17_0 d17_0))=H.set A (.cells (boolsV (cb.set i true)) false):=fun o=>by
  apply List.ext_getElem?
  intro z
  by_cases hz:z=l
  ·subst hz
   rw [List.getElem?_set_self (by simpa using hll),List.getElem?_set_ne (by omega),hl]
  ·rw [List.getElem?_set_ne (by omega)]
   by_cases hz2:z=A
   ·subst hz2
    rw [List.getElem?_set_self (by simpa using hAll),List.getElem?_set_self hAll]
   ·rw [List.getElem?_set_ne (by omega),List.getElem?_set_ne (by omega),List.getElem?_set_ne (by omega)]
 match cb,hcb with
 | [b0,b1,b2,b3],_ =>
  rw [callL_yield]
  unfold roundL
  rw [hl]
  have hi4':i=0∨i=1∨i=2∨i=3:=by omega
  simp only [boolsV,List.map_cons,List.map_nil] at back hA hA2 ⊢
  rcases hi4' with rfl | rfl | rfl | rfl
  all_goals simp only [List.set_cons_zero,List.set_cons_succ,List.map_cons,List.map_nil] at back ⊢
  all_goals simp [ua17,ud17,x17_11,x17_12,x17_13,endR,insL,hl,hl2,hA,hA2,hT,hT2,hne1,hne2,hne3,hne4,hll,hAll,hTH,e1,e2]
  all_goals exact back _
def S17 (T A s kd:Nat) (c1:List D) (tl:List (Nat × V)) (H:List O) (w:Nat):St :=
 St.mk ([(1,.d (.int .i64 s)),(4,.d .nils),(5,.d (.int .i64 0)),(6,.ptr (.slot 6 0) 0),(8,.ptr (.heap A) 0),(9,.d (.int .i64 kd))]++tl)
  (Mem.mk [(2,0,.cells (c1.map .d) false),(6,0,.cells [.ptr (.heap T) 0] false)] H w) [] none false none
structure F17 (t:List Stp) (T L A s:Nat) (H:List O):Prop where
 hT:H[T]?=some (.cells [.d (.list 2 arrsD),.d (stpsD t),.sl (.heap L) 4 (encI 0 (allI 0 t)).length 0 (encI 0 (allI 0 t)).length] false)
 hL:H[L]?=some (.vec 4 (encI 0 (allI 0 t)) false true)
 tA:T < A
 lA:L < A
 aH:A < H.length
def Car (A N:Nat) (P:Prop) (H:List O):Prop:=∃ cb:List Bool,cb.length=4∧H[A]?=some (.cells (boolsV cb) false)∧(P→∃ k,k < N∧cb[k]?=some true)
theorem F17.grw {t:List Stp} {T L A s b:Nat} {H H':List O} (h:F17 t T L A s H) (hb:A < b) (g:Grw b H H'):F17 t T L A s H' :=
 ⟨by rw [g.2 T (by have:=h.tA; omega)]; exact h.hT,by rw [g.2 L (by have:=h.lA; omega)]; exact h.hL,h.tA,h.lA,by have:=h.aH; have:=g.1; omega⟩
theorem Car.grw {A N b:Nat} {P:Prop} {H H':List O} (h:Car A N P H) (hb:A < b) (g:Grw b H H'):Car A N P H':=by
 obtain ⟨cb,h1,h2,h3⟩:=h
 exact ⟨cb,h1,by rw [g.2 A hb]; exact h2,h3⟩
theorem rng17 (B0 B1 B2 B3:Nat) {tm:List (Nat × V)} {m:Mem} (h:look 34 tm=some (.fn (.func 138) [] [.ptr (.heap B0) 0,.ptr (.heap B1) 0,.ptr (.heap B2) 0,.ptr (.heap B3) 0])) :
  execL K 17 (.rangeFunc (.tmp 34) #[35] a17_0 d17_0) (St.mk tm m [] none false none)=rangeR (St.mk tm m [] none false none) m.hp.length (callL K (.fn (.func 138) [] [.ptr (.heap B0) 0,.ptr (.heap B1) 0,.ptr (.heap B2) 0,.ptr (.heap B3) 0]) [.fn (.yield m.hp.length) [] []] none (m.hp++[.loop .ready none 17 (roT m.ob tm) (roL m.ob) [35] a17_0 d17_0])) :=
 execL_range rfl (by simp [h,expo])
theorem rd17 {t:List Stp} (ht:TaskOk t) (h3:t.length≤3) {T L A s kd:Nat} {st:Stp} {c1:List D} (hst:t[s]?=some st) (hkd:kd=1∨kd=2∨kd=3) (hI:(allI 0 t).length≤100) {P:Prop} {H:List O} (hF:F17 t T L A s H) (hC:Car A st.ss.length P H) (w:Nat) :
  ∃ H' w',execL K 17 l17_1 (S17 T A s kd c1 [] H w)=some (.normal,S17 T A s (kd+1) c1 [] H' w')∧F17 t T L A s H'∧Car A st.ss.length (P∨∃ n m,DepK kd s s (allI 0 t) n m) H':=by
 obtain ⟨w1,e1⟩:=s69 T s s kd H
 obtain ⟨cb0,hcb0,hA0,hP0⟩:=hC
 have hAH:=hF.aH
 have hTA:=hF.tA
 have hLA:=hF.lA
 let H1:=H++[.cells [.ptr (.heap T) 0] false,.cells [.d (.int .i64 s)] false,.cells [.d (.int .i64 s)] false,.cells [.d (.int .i64 kd)] false]
 have hH1:H1.length=H.length+4:=by simp [H1]
 let H2:=H1++[rec17 T A H.length s kd c1]
 have hH2:H2.length=H.length+5:=by simp [H2,H1]
 have low:∀ i,i < H.length→H2[i]?=H[i]?:=fun i hi=>by simp only [H2,H1,List.append_assoc]; rw [List.getElem?_append_left hi]
 have hi0:H2[H.length]?=some (.cells [.ptr (.heap T) 0] false):=by simp [H2,H1]
 have hi1:H2[H.length+1]?=some (.cells [.d (.int .i64 s)] false):=by simp [H2,H1]
 have hi2:H2[H.length+2]?=some (.cells [.d (.int .i64 s)] false):=by simp [H2,H1]
 have hi3:H2[H.length+3]?=some (.cells [.d (.int .i64 kd)] false):=by simp [H2,H1]
 have hi4:H2[H.length+4]?=some (rec17 T A H.length s kd c1):=by simp [H2,H1]
 let Inv:List (Nat × Nat)→List O→Prop:=fun d J=>(∀ i,i < H.length+5→i≠A→J[i]?=H2[i]?)∧H.length+5≤J.length∧Car A st.ss.length (P∨d≠[]) J
 have R:Pairing (H.length+4) (H.length+2) (H.length+3) (H.length+1) L (H.length+5) s s kd (allI 0 t) Inv:=by
  refine ⟨?_,?_,?_,?_,?_,?_,?_⟩
  ·exact fun d J h=>⟨false,by rw [h.1 _ (by omega) (by omega)]; exact hi2⟩
  ·exact fun d J h=>⟨false,by rw [h.1 _ (by omega) (by omega)]; exact hi3⟩
  ·exact fun d J h=>⟨false,by rw [h.1 _ (by omega) (by omega)]; exact hi1⟩
  ·exact fun d J h=>by rw [h.1 _ (by omega) (by omega),low _ (by omega)]; exact hF.hL
  ·exact fun d J h=>h.2.1
  ·intro d J J' h g
   exact ⟨fun i hi hne=>by rw [g.2 i hi,h.1 i hi hne],by have:=g.1; have:=h.2.1; omega,h.2.2.grw (by omega) g⟩
  ·rintro d J ⟨n,m⟩ ⟨k1,k2,cb,hcb,hA,hP⟩ ⟨x,y,hx,hy,hnm,hxs,hys,_⟩
   obtain ⟨xs,xt,xp⟩:=x
   obtain ⟨ys,yt,yp⟩:=y
   simp only at hxs hys
   subst hxs hys
   have hx2:=(mem_allI.1 (List.mem_of_getElem? hx)).2.1
   have hy2:=(mem_allI.1 (List.mem_of_getElem? hy)).2.1
   simp only [Nat.sub_zero] at hx2 hy2
   rw [hst] at hx2 hy2
   cases hx2; cases hy2
   obtain ⟨i,w,e,hi⟩:=y17 ht h3 (T:=T) (L:=L) (A:=A) (B:=H.length) (l:=H.length+4) (kd:=kd) (c1:=c1) (by rw [k1 _ (by omega) (by omega),low _ (by omega)]; exact hF.hT) (by rw [k1 _ (by omega) (by omega),low _ (by omega)]; exact hF.hL) hA hcb (by rw [k1 _ (by omega) (by omega)]; exact hi4) (by omega) (by omega) (by omega) hx hy hnm
   have hAJ:A < J.length:=by omega
   have few:=(ht.ok st (List.mem_of_getElem? hst)).sz.few
   refine ⟨_,w,e,⟨fun z hz hne=>by rw [List.getElem?_set_ne (Ne.symm hne)]; exact k1 z hz hne,by simpa using k2,cb.set i true,by simpa using hcb,by rw [List.getElem?_set_self hAJ],fun _=>⟨i,hi,by rw [List.getElem?_set_self (by omega)]⟩⟩,by simp,fun z hz _=>by rw [List.getElem?_set_ne (by omega)]⟩
 have hI0:Inv [] H2:=⟨fun _ _ _=>rfl,by omega,cb0,hcb0,by rw [low _ hAH]; exact hA0,fun h=>hP0 (h.resolve_right (by simp))⟩
 have hcst:D.isCell (stpsD t)=true:=rfl
 have few:∀ x∈allI 0 t,x.2.1.fr.length≤3:=by
  rintro ⟨k,s,p⟩ hx
  obtain ⟨_,hk,_⟩:=mem_allI.1 hx
  exact (ht.ok s (List.mem_of_getElem? hk)).few
 obtain ⟨H',w2,ps,e2,hI',hps⟩:=s138 R hkd few hI (b1:=H.length) (T:=T) (r1:=false) (stp:=stpsD t) hI0 hi0 (by rw [low _ (by omega)]; have:=hF.hT; rwa [encI_len] at this) hcst
 rw [List.nil_append] at hI'
 obtain ⟨k1,k2,cb,hcb,hA,hP⟩:=hI'
 have hl:H'[H.length+4]?=some (rec17 T A H.length s kd c1):=by rw [k1 _ (by omega) (by omega)]; exact hi4
 refine ⟨H'.set (H.length+4) .dead,?_⟩
 suffices hh:∃ w',execL K 17 l17_1 (S17 T A s kd c1 [] H w)=some (.normal,S17 T A s (kd+1) c1 [] (H'.set (H.length+4) .dead) w') by
  obtain ⟨w',hh⟩:=hh
  refine ⟨w',hh,⟨?_,?_,hTA,hLA,by simp; omega⟩,cb,hcb,?_,?_⟩
  ·rw [List.getElem?_set_ne (by omega),k1 _ (by omega) (by omega),low _ (by omega)]; exact hF.hT
  ·rw [List.getElem?_set_ne (by omega),k1 _ (by omega) (by omega),low _ (by omega)]; exact hF.hL
  ·rw [List.getElem?_set_ne (by omega)]; exact hA
  ·rintro (h | ⟨n,m,h⟩)
   ·exact hP (.inl h)
   ·refine hP (.inr ?_)
    intro h0
    have:=(hps n m).2 h
    rw [h0] at this; simp at this
 have w9:wr .i64 ((kd:Int)+1)=(kd:Int)+1:=wrap_id (by omega) (by omega)
 have hk3:(kd:Int)≤3:=by omega
 have hk3':kd≤3:=by omega
 simp only [H2,H1,rec17] at e2
 simp only [List.append_assoc,List.cons_append,List.nil_append] at e2
 simp only [rec17] at hl
 have hll:=(gS.1 hl).1
 have hl2:=hl
 rw [List.getElem?_eq_getElem hll] at hl2
 simp only [Option.some.injEq] at hl2
 simp [S17,u17_1,x17_8,x17_9,x17_10,hk3,hk3',e1,rng17 H.length (H.length+2) (H.length+3) (H.length+1),roT,roL,roO,roV,e2,rangeR,hl,hll,hl2,w9]
theorem ex17 {T A s:Nat} {c1:List D} (H:List O) (w:Nat):execL K 17 l17_1 (S17 T A s 4 c1 [] H w)=some (.exit 0,S17 T A s 4 c1 [(27,.d (.bool false))] H w):=by
 simp [S17,u17_1,x17_8]
def R17 (v:V) (o:List (Nat × Nat × O)) (ls:List Int):Prop :=
 (ls=[]∧v=.d .nils∧o=[])∨(ls≠[]∧∃ g,v=.sl (.slot 62 g) 1 ls.length 0 ls.length∧o=[(62,g,.vec 1 (ints ls) false true)])
def E17 (T A N i:Nat) (c1:List D) (v:V) (tl:List (Nat × V)) (o:List (Nat × Nat × O)) (H:List O) (w:Nat):St :=
 St.mk ([(8,.ptr (.heap A) 0),(12,v),(51,.d (.int .i64 (N:Nat))),(52,.d (.int .i64 (i:Nat)))]++tl)
  (Mem.mk ([(2,0,.cells (c1.map .d) false),(6,0,.cells [.ptr (.heap T) 0] false)]++o) H w) [] none false none
theorem rd17_1 {T A N i:Nat} {c1:List D} {v:V} {o:List (Nat × Nat × O)} {ls:List Int} {cb:List Bool} {c:Bool} {H:List O} (hA:H[A]?=some (.cells (boolsV cb) false)) (hcb:cb.length=4) (hc:cb[i]?=some c) (hN:N≤4) (hi:i < N) (hls:ls.length≤i) (hv:R17 v o ls) (w:Nat) :
  ∃ v' o' w',execL K 17 l17_2 (E17 T A N i c1 v [] o H w)=some (.normal,E17 T A N (i+1) c1 v' [] o' H w')∧R17 v' o' (if c=true then ls else ls++[(i:Int)]):=by
 have w1:wr .i64 ((i:Int)+1)=(i:Int)+1:=wrap_id (by omega) (by omega)
 have hdt:((boolsV cb).drop i).take 1=[.d (.bool c)]:=by
  have:(boolsV cb)[i]?=some (.d (.bool c)):=by simp [boolsV,hc]
  obtain ⟨h1,h2⟩:=gS.1 this
  rw [List.drop_eq_getElem_cons h1,h2]; rfl
 have hBl:(boolsV cb).length=4:=by simp [boolsV,hcb]
 generalize boolsV cb=B at *
 have hAl:=(gS.1 hA).1
 have hA2:=(gS.1 hA).2
 have hi4:i+1≤4:=by omega
 have hi3:i≤3:=by omega
 cases c with
 | true =>
  have hh:∃ w',execL K 17 l17_2 (E17 T A N i c1 v [] o H w)=some (.normal,E17 T A N (i+1) c1 v [] o H w'):=by
   rcases hv with ⟨_,rfl,rfl⟩ | ⟨_,g,rfl,rfl⟩
   all_goals simp [E17,u17_2,x17_16,x17_17,x17_18,x17_19,x17_20,hi,hA,hA2,hAl,hdt,hBl,hi4,hi3,w1]
  obtain ⟨w',hh⟩:=hh
  exact ⟨v,o,w',hh,by simpa using hv⟩
 | false =>
  rcases hv with ⟨rfl,rfl,rfl⟩ | ⟨hne,g,rfl,rfl⟩
  ·suffices hh:∃ w',execL K 17 l17_2 (E17 T A N i c1 (.d .nils) [] [] H w)=some (.normal,E17 T A N (i+1) c1 (.sl (.slot 62 0) 1 1 0 1) [] [(62,0,.vec 1 (ints [(i:Int)]) false true)] H w') by
    obtain ⟨w',hh⟩:=hh
    exact ⟨_,_,w',hh,.inr ⟨by simp,0,by simp,by simp⟩⟩
   simp [E17,u17_2,x17_16,x17_17,x17_18,x17_19,x17_20,hi,hA,hA2,hAl,hdt,hBl,hi4,hi3,w1]
  ·have h2:ls.length+1≤4294967296:=by omega
   have h3:(ls.length+1) * 8≤4294967296:=by omega
   suffices hh:∃ w',execL K 17 l17_2 (E17 T A N i c1 (.sl (.slot 62 g) 1 ls.length 0 ls.length) [] [(62,g,.vec 1 (ints ls) false true)] H w)=some (.normal,E17 T A N (i+1) c1 (.sl (.slot 62 g) 1 (ls.length+1) 0 (ls.length+1)) [] [(62,g,.vec 1 (ints (ls++[(i:Int)])) false true)] H w') by
    obtain ⟨w',hh⟩:=hh
    exact ⟨_,_,w',hh,.inr ⟨by simp,g,by simp,by simp⟩⟩
   have hap:ints (ls++[(i:Int)])=ints ls++[.int .i64 i]:=by simp [ints]
   have hin:(ints ls).length=ls.length:=by simp
   rw [hap]
   generalize ints ls=J at *
   simp [E17,u17_2,x17_16,x17_17,x17_18,x17_19,x17_20,hi,hA,hA2,hAl,hdt,hBl,hi4,hi3,hin,h2,h3,w1]
theorem ex17_1 {T A N:Nat} {c1:List D} {v:V} {o:List (Nat × Nat × O)} {H:List O} (w:Nat):execL K 17 l17_2 (E17 T A N N c1 v [] o H w)=some (.exit 4,E17 T A N N c1 v [(53,.d (.bool false))] o H w):=by
 simp [E17,u17_2,x17_16]
theorem lp17_1 {T A N:Nat} {c1:List D} {cb:List Bool} {H:List O} (hA:H[A]?=some (.cells (boolsV cb) false)) (hcb:cb.length=4) (hN:N≤4) :
  ∀ (m i:Nat) (v:V) (o:List (Nat × Nat × O)) (ls:List Int) (w:Nat),i+m=N→ls.length≤i→(ls.length=i→∀ k,k < i→cb[k]?=some false)→R17 v o ls →
   ∃ v' o' ls' w',execL K 17 (.loop l17_2) (E17 T A N i c1 v [] o H w)=some (.exit 4,E17 T A N N c1 v' [(53,.d (.bool false))] o' H w')∧R17 v' o' ls'∧ls'.length≤N∧(ls'.length=N→∀ k,k < N→cb[k]?=some false)
 | 0,i,v,o,ls,w,hi,hl,hc,hv=>by
  have:i=N:=by omega
  subst this
  exact ⟨v,o,ls,w,by rw [execL_loop,ex17_1]; rfl,hv,hl,hc⟩
 | m+1,i,v,o,ls,w,hi,hl,hc,hv=>by
  have hx:=List.getElem?_eq_getElem (l:=cb) (i:=i) (by omega)
  obtain ⟨v1,o1,w1,e1,hv1⟩:=rd17_1 (T:=T) (c1:=c1) hA hcb hx hN (by omega) hl hv w
  have h1:(if cb[i]=true then ls else ls++[(i:Int)]).length≤i+1:=by
   split
   ·omega
   ·rw [List.length_append]; simp only [List.length_cons,List.length_nil]; omega
  have h2:(if cb[i]=true then ls else ls++[(i:Int)]).length=i+1→∀ k,k < i+1→cb[k]?=some false:=by
   intro h k hk
   cases hb:cb[i] with
   | true=>rw [hb] at h; simp at h; omega
   | false =>
    rw [hb] at h; simp at h
    by_cases hki:k=i
    ·subst hki; rw [hx,hb]
    ·exact hc h k (by omega)
  obtain ⟨v2,o2,ls2,w2,e2,r⟩:=lp17_1 hA hcb hN m (i+1) v1 o1 _ w1 (by omega) h1 h2 hv1
  refine ⟨v2,o2,ls2,w2,?_,r⟩
  rw [execL_loop,e1]
  exact e2
theorem s17 {t:List Stp} (ht:TaskOk t) (h3:t.length≤3) {s:Nat} {st:Stp} (hst:t[s]?=some st) (hI:(allI 0 t).length≤100) (hp:List O) :
  ∃ H' w ls,callL K (.fn (.func 17) [] []) [.d (encT t),.d (.int .i64 s)] none hp=some (.ret (.tuple [.d (atV ls),.d (.int .i64 0)]),false,H',w) ∧
   ls.length≤st.ss.length∧(ls.length=st.ss.length→∀ kd,(kd=1∨kd=2∨kd=3)→∀ n m,¬ DepK kd s s (allI 0 t) n m):=by
 obtain ⟨H0,w0,T,e1,hTp,hL,hK⟩:=s64 ht h3 hp
 obtain ⟨L,hT1,hL1⟩:=Open.list ⟨hL⟩ ht
 have hTl:=(gS.1 hT1).1
 have hLl:=(gS.1 hL1).1
 have hsl:=(gS.1 hst).1
 have hs2:=(gS.1 hst).2
 have few:=(ht.ok st (List.mem_of_getElem? hst)).sz.few
 let A:=H0.length
 have e68:=s68 H0 T hT1 hsl h3
 have hF:F17 t T L A s (H0++[.cells (boolsV [false,false,false,false]) false]) :=
  ⟨by rw [List.getElem?_append_left hTl]; exact hT1,by rw [List.getElem?_append_left hLl]; exact hL1,hTl,hLl,by simp [A]⟩
 have hC:Car A st.ss.length False (H0++[.cells (boolsV [false,false,false,false]) false]):=⟨[false,false,false,false],rfl,by simp [A],False.elim⟩
 obtain ⟨H1,w1,r1,hF1,hC1⟩:=rd17 (kd:=1) (c1:=[.list 2 arrsD,stpsD t]) ht h3 hst (by omega) hI hF hC w0
 obtain ⟨H2,w2,r2,hF2,hC2⟩:=rd17 (kd:=2) (c1:=[.list 2 arrsD,stpsD t]) ht h3 hst (by omega) hI hF1 hC1 w1
 obtain ⟨H3,w3,r3,hF3,hC3⟩:=rd17 (kd:=3) (c1:=[.list 2 arrsD,stpsD t]) ht h3 hst (by omega) hI hF2 hC2 w2
 have el:execL K 17 (.loop l17_1) (S17 T A s 1 [.list 2 arrsD,stpsD t] [] (H0++[.cells (boolsV [false,false,false,false]) false]) w0)=some (.exit 0,S17 T A s 4 [.list 2 arrsD,stpsD t] [(27,.d (.bool false))] H3 w3):=by
  rw [execL_loop,r1]
  show execL K 17 (.loop l17_1) _=_
  rw [execL_loop,r2]
  show execL K 17 (.loop l17_1) _=_
  rw [execL_loop,r3]
  show execL K 17 (.loop l17_1) _=_
  rw [execL_loop,ex17]
  rfl
 obtain ⟨cb,hcb,hA3,hP⟩:=hC3
 obtain ⟨v',o',ls,w4,e4,hv,hle,hall⟩:=lp17_1 (T:=T) (N:=st.ss.length) (c1:=[.list 2 arrsD,stpsD t]) hA3 hcb (by omega) st.ss.length 0 (.d .nils) [] [] w3 (by omega) (by simp) (by simp) (.inl ⟨rfl,rfl,rfl⟩)
 suffices h:∃ w,callL K (.fn (.func 17) [] []) [.d (encT t),.d (.int .i64 s)] none hp=some (.ret (.tuple [.d (atV ls),.d (.int .i64 0)]),false,H3,w) by
  obtain ⟨w,h⟩:=h
  refine ⟨H3,w,ls,h,hle,fun hl kd hkd n m hd=>?_⟩
  have hany:((False∨∃ n m,DepK 1 s s (allI 0 t) n m)∨∃ n m,DepK 2 s s (allI 0 t) n m)∨∃ n m,DepK 3 s s (allI 0 t) n m:=by
   rcases hkd with rfl | rfl | rfl
   ·exact .inl (.inl (.inr ⟨n,m,hd⟩))
   ·exact .inl (.inr ⟨n,m,hd⟩)
   ·exact .inr ⟨n,m,hd⟩
  obtain ⟨k,hk,hkc⟩:=hP hany
  rw [hall hl k hk] at hkc
  cases hkc
 have e:=k17 [] [] [.d (encT t),.d (.int .i64 s)] none hp
 have z0:((0:Nat):Int)=0:=rfl
 have z1:((1:Nat):Int)=1:=rfl
 have cz:D.isCell (szD st.ss)=true:=by cases st.ss<;>rfl
 have hlz:lenV (.d (szD st.ss))=some st.ss.length:=by cases st.ss<;>simp [szD]
 simp only [lenV] at hlz
 simp only [D.isCell] at cz
 simp only [boolsV,List.map_cons,List.map_nil,S17,E17,z0,z1,A,List.append_nil,List.cons_append,List.nil_append] at el e4
 have hT3:=hF3.hT
 simp only [encT] at e e1 ⊢
 simp only [stpsD] at hT3 hT1 e68 el e4
 rcases hv with ⟨rfl,rfl,rfl⟩ | ⟨hne,g,rfl,rfl⟩
 ·simp [c17,x17_0,x17_1,x17_2,x17_4,x17_6,x17_7,x17_14,x17_15,x17_21,e1,hT1,e68,el,hT3,hst,hs2,hsl,encS,cz,hlz,e4] at e
  exact ⟨_,e⟩
 ·rw [atV_ne hne]
  have hin:(ints ls).length=ls.length:=by simp
  have htk:(ints ls).take ls.length=ints ls:=List.take_of_length_le (by simp)
  generalize ints ls=Z at *
  simp [c17,x17_0,x17_1,x17_2,x17_4,x17_6,x17_7,x17_14,x17_15,x17_21,e1,hT1,e68,el,hT3,hst,hs2,hsl,encS,cz,hlz,e4,hin,htk] at e
  exact ⟨_,e⟩
def G14 (L n i:Nat) (v8:V) (mid tl:List (Nat × V)) (b:List (Nat × Nat × O)) (o14 o16:List (Nat × Nat × O)) (m1 m2:List ((Nat × Int) × Int)) (o63:List (Nat × Nat × O)) (H:List O) (w:Nat):St :=
 St.mk ([(6,.map (.slot 25 0)),(7,.map (.slot 26 0)),(8,v8)]++(mid++([(30,.sl (.heap L) 4 n 0 n),(31,.d (.int .i64 n)),(32,.d (.int .i64 i))]++tl)))
  (Mem.mk (b++(o14++(o16++((25,0,.map (mapI m1)) :: (26,0,.map (mapI m2)) :: o63)))) H w) [] none false none
def instO (x:D):O:=.cells (x.cells.map .d) false
def keyO (k:Nat × Int):O:=.cells [.d (.int .i64 k.1),.d (.int .i64 k.2)] false
theorem a14_8 {L n i:Nat} {v8:V} {E:List D} {x:Nat × Stp × List Int} {y:Nat} {o1:O} {o10 o11 o14 o16 o63:List (Nat × Nat × O)} {m1 m2:List ((Nat × Int) × Int)} {H:List O}
  (hL:H[L]?=some (.vec 4 E false true)) (hE:E[i]?=some (instD y x)) (hn:E.length=n) (hn2:n≤1000) (h10:O1 10 o10) (h11:O1 11 o11) (h14:O1 14 o14) (h16:O1 16 o16) (h63:O1 63 o63) (w:Nat) :
  ∃ g10 w',execL K 14 (rg 14 8) (G14 L n i v8 [] [(33,.d (.bool true))] ((1,0,o1) :: (o10++o11)) o14 o16 m1 m2 o63 H w) =
   some (.normal,G14 L n i v8 [(10,.ptr (.slot 10 g10) 0)] [] ((1,0,o1) :: (10,g10,instO (instD y x)) :: o11) o14 o16 m1 m2 o63 H w'):=by
 have hlt:=(gS.1 hE).1
 have hE2:=(gS.1 hE).2
 have ca:=cAt x.2.2
 simp only [D.isCell] at ca
 subst hn
 have hlt1:i+1≤E.length:=hlt
 rcases h10 with rfl | ⟨g10,y10,rfl⟩
 all_goals rcases h11 with rfl | ⟨g11,y11,rfl⟩
 all_goals rcases h14 with rfl | ⟨g14,y14,rfl⟩
 all_goals rcases h16 with rfl | ⟨g16,y16,rfl⟩
 all_goals rcases h63 with rfl | ⟨g63,y63,rfl⟩
 all_goals simp [G14,instO,x14_8,hL,hE,hE2,hlt,hlt1,instD,ca]
theorem a14_9 {L n i:Nat} {v8:V} {x:Nat × Stp × List Int} {y g10:Nat} {o1:O} {o11 o14 o16 o63:List (Nat × Nat × O)} {m1 m2:List ((Nat × Int) × Int)} {H:List O}
  (h11:O1 11 o11) (h14:O1 14 o14) (h16:O1 16 o16) (h63:O1 63 o63) (w:Nat) :
  ∃ g11 w',execL K 14 (rg 14 9) (G14 L n i v8 [(10,.ptr (.slot 10 g10) 0)] [] ((1,0,o1) :: (10,g10,instO (instD y x)) :: o11) o14 o16 m1 m2 o63 H w) =
   some (.normal,G14 L n i v8 [(10,.ptr (.slot 10 g10) 0),(11,.ptr (.slot 11 g11) 0)] [] [(1,0,o1),(10,g10,instO (instD y x)),(11,g11,keyO (toPl x))] o14 o16 m1 m2 o63 H w'):=by
 have ca:=cAt x.2.2
 simp only [D.isCell] at ca
 rcases h11 with rfl | ⟨g11,y11,rfl⟩
 all_goals rcases h14 with rfl | ⟨g14,y14,rfl⟩
 all_goals rcases h16 with rfl | ⟨g16,y16,rfl⟩
 all_goals rcases h63 with rfl | ⟨g63,y63,rfl⟩
 all_goals simp [G14,instO,keyO,toPl,touchK,keyD,x14_9,instD,ca]
theorem a14_10 {L n i:Nat} {v8:V} {k:Nat × Int} {g10 g11:Nat} {o1 o10:O} {o14 o16 o63:List (Nat × Nat × O)} {m1 m2:List ((Nat × Int) × Int)} {H:List O}
  (h14:O1 14 o14) (h16:O1 16 o16) (h63:O1 63 o63) (w:Nat) :
  ∃ w',execL K 14 (.region 10 (opsAt K.P 14 10) true) (G14 L n i v8 [(10,.ptr (.slot 10 g10) 0),(11,.ptr (.slot 11 g11) 0)] [] [(1,0,o1),(10,g10,o10),(11,g11,keyO k)] o14 o16 m1 m2 o63 H w) =
   some (.normal,G14 L n i v8 [(10,.ptr (.slot 10 g10) 0),(11,.ptr (.slot 11 g11) 0),(12,.d (.int .i64 (maxI (getE m1 k) (getE m2 k))))] [] [(1,0,o1),(10,g10,o10),(11,g11,keyO k)] o14 o16 m1 m2 o63 H w'):=by
 rcases fndI k m1 with ⟨f1,hg1,_⟩ | ⟨q1,f1,_⟩
 focus rw [hg1]
 all_goals rcases fndI k m2 with ⟨f2,hg2,_⟩ | ⟨q2,f2,_⟩
 focus rw [hg2]
 rotate_left 2
 focus rw [hg2]
 all_goals simp only [keyD] at f1 f2
 all_goals rcases h14 with rfl | ⟨g14,y14,rfl⟩
 all_goals rcases h16 with rfl | ⟨g16,y16,rfl⟩
 all_goals rcases h63 with rfl | ⟨g63,y63,rfl⟩
 all_goals simp [G14,keyO,x14_10,f1,f2,guard110,maxI]
theorem a14_11 {L n i:Nat} {v8:V} {x:Nat × Stp × List Int} {y:Nat} {g10 g11:Nat} {o1 o11:O} {l:Int} {o14 o16 o63:List (Nat × Nat × O)} {m1 m2:List ((Nat × Int) × Int)} {H:List O}
  (hf:x.2.1.fr.length≤3) (h14:O1 14 o14) (h16:O1 16 o16) (h63:O1 63 o63) (w:Nat) :
  ∃ w',execL K 14 (rg 14 11) (G14 L n i v8 [(10,.ptr (.slot 10 g10) 0),(11,.ptr (.slot 11 g11) 0),(12,.d (.int .i64 l))] [] [(1,0,o1),(10,g10,instO (instD y x)),(11,g11,o11)] o14 o16 m1 m2 o63 H w) =
   some (.normal,I14 L n i v8 g10 g11 l (uniqP (frPl x)) 0 [] o1 (instO (instD y x)) o11 o14 o16 m1 m2 o63 H w'):=by
 obtain ⟨w1,e⟩:=s65 y x hf H
 have ca:=cAt x.2.2
 simp only [D.isCell] at ca
 have hl:lenV (V.d (plD (uniqP (frPl x))))=some (uniqP (frPl x)).length:=by cases uniqP (frPl x)<;>simp [plD]
 simp only [lenV] at hl
 simp only [instD] at e
 rcases h14 with rfl | ⟨g14,y14,rfl⟩
 all_goals rcases h16 with rfl | ⟨g16,y16,rfl⟩
 all_goals rcases h63 with rfl | ⟨g63,y63,rfl⟩
 all_goals simp [G14,I14,instO,x14_11,instD,ca,e,hl]
end Mw
