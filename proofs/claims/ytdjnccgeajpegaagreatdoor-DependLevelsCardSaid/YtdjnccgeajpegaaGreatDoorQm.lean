/- DependLevels answers true for every list of numbers: its tied card holds; no condition beyond the card's own. -/
import Derived.Test.YtdjnccgeajpegaaGreatDoorQl
import Derived.Test.YtdjnccgeajpegaaGreatDoorQh
import Derived.Test.YtdjnccgeajpegaaGreatDoorQg
import Derived.Test.YtdjnccgeajpegaaGreatDoorQk
import Derived.Test.YtdjnccgeajpegaaGreatDoorXc
import Derived.Test.YtdjnccgeajpegaaGreatDoorQe
set_option linter.unusedVariables false
set_option linter.unusedSimpArgs false
set_option maxRecDepth 20000
set_option maxHeartbeats 8000000
namespace Mw
open Go Go.Proofs
def R14 (v:V) (o:List (Nat × Nat × O)) (ls:List Int):Prop :=
 (ls=[]∧v=.d .nils∧o=[])∨(ls≠[]∧∃ g,v=.sl (.slot 63 g) 1 ls.length 0 ls.length∧o=[(63,g,.vec 1 (ints ls) false true)])
theorem R14.o1 {v:V} {o:List (Nat × Nat × O)} {ls:List Int} (h:R14 v o ls):O1 63 o:=by
 rcases h with ⟨_,_,h⟩ | ⟨_,g,_,h⟩
 ·exact .inl h
 ·exact .inr ⟨g,_,h⟩
theorem a14_16 {L n i:Nat} {v8:V} {g10 g11:Nat} {o1 o10 o11:O} {l:Int} {rd:List (Nat × Int)} {o14 o16 o63:List (Nat × Nat × O)} {m1 m2:List ((Nat × Int) × Int)} {H:List O} {ls:List Int}
  (hv:R14 v8 o63 ls) (hls:ls.length≤1000) (h14:O1 14 o14) (h16:O1 16 o16) (w:Nat) :
  ∃ v8' o63' w',execL K 14 (rg 14 16) (I14 L n i v8 g10 g11 l rd rd.length [(51,.d (.bool false))] o1 o10 o11 o14 o16 m1 m2 o63 H w) =
   some (.normal,G14 L n i v8' [(10,.ptr (.slot 10 g10) 0),(11,.ptr (.slot 11 g11) 0),(12,.d (.int .i64 l))] [] [(1,0,o1),(10,g10,o10),(11,g11,o11)] o14 o16 m1 m2 o63' H w')∧R14 v8' o63' (ls++[l]):=by
 rcases hv with ⟨rfl,rfl,rfl⟩ | ⟨hne,g63,rfl,rfl⟩
 ·rcases h14 with rfl | ⟨g14,y14,rfl⟩
  all_goals rcases h16 with rfl | ⟨g16,y16,rfl⟩
  all_goals refine ⟨.sl (.slot 63 0) 1 1 0 1,[(63,0,.vec 1 (ints [l]) false true)],?_⟩
  all_goals simp [G14,I14,x14_16,R14]
 ·have h1:(ls.length+1) * 16≤4294967296:=by omega
  have h2:ls.length+1≤4294967296:=by omega
  have h3:(ls.length+1) * 8≤4294967296:=by omega
  rcases h14 with rfl | ⟨g14,y14,rfl⟩
  all_goals rcases h16 with rfl | ⟨g16,y16,rfl⟩
  all_goals refine ⟨.sl (.slot 63 g63) 1 (ls.length+1) 0 (ls.length+1),[(63,g63,.vec 1 (ints (ls++[l])) false true)],?_⟩
  all_goals simp [G14,I14,x14_16,R14,h1,h2,h3]
theorem a14_17 {L n i:Nat} {v8:V} {k:Nat × Int} {g10 g11:Nat} {o1 o10:O} {l:Int} {o14 o16 o63:List (Nat × Nat × O)} {m1 m2:List ((Nat × Int) × Int)} {H:List O}
  (hl0:0≤l) (hl1:l≤1000) (h14:O1 14 o14) (h16:O1 16 o16) (h63:O1 63 o63) (w:Nat) :
  ∃ w',execL K 14 (.region 17 (opsAt K.P 14 17) true) (G14 L n i v8 [(10,.ptr (.slot 10 g10) 0),(11,.ptr (.slot 11 g11) 0),(12,.d (.int .i64 l))] [] [(1,0,o1),(10,g10,o10),(11,g11,keyO k)] o14 o16 m1 m2 o63 H w) =
   some (.normal,G14 L n i v8 [(10,.ptr (.slot 10 g10) 0),(12,.d (.int .i64 l))] [] [(1,0,o1),(10,g10,o10),(11,g11,keyO k)] o14 o16 (setE m1 k (maxI (getE m1 k) (l+1))) m2 o63 H w'):=by
 have w2:wr .i64 (l+1)=l+1:=wrap_id (by omega) (by omega)
 rcases fndI k m1 with ⟨f,hg,hs⟩ | ⟨q,f,hs⟩
 focus rw [hg]
 all_goals simp only [keyD] at f
 all_goals rcases h14 with rfl | ⟨g14,y14,rfl⟩
 all_goals rcases h16 with rfl | ⟨g16,y16,rfl⟩
 all_goals rcases h63 with rfl | ⟨g63,y63,rfl⟩
 all_goals simp [G14,keyO,x14_17,f,w2,guard110,keyD,maxI,← hs]
theorem a14_18 {L n i:Nat} {v8:V} {x:Nat × Stp × List Int} {y:Nat} {g10 g11:Nat} {o1 o11:O} {l:Int} {o14 o16 o63:List (Nat × Nat × O)} {m1 m2:List ((Nat × Int) × Int)} {H:List O}
  (hf:x.2.1.fr.length≤3) (h14:O1 14 o14) (h16:O1 16 o16) (h63:O1 63 o63) (w:Nat) :
  ∃ w',execL K 14 (rg 14 18) (G14 L n i v8 [(10,.ptr (.slot 10 g10) 0),(12,.d (.int .i64 l))] [] [(1,0,o1),(10,g10,instO (instD y x)),(11,g11,o11)] o14 o16 m1 m2 o63 H w) =
   some (.normal,J14 L n i v8 l (uniqP (frPl x)) 0 [] (B14 g10 g11 o1 (instO (instD y x)) o11) o14 o16 m1 m2 o63 H w'):=by
 obtain ⟨w1,e⟩:=s65 y x hf H
 have ca:=cAt x.2.2
 simp only [D.isCell] at ca
 have hl:lenV (V.d (plD (uniqP (frPl x))))=some (uniqP (frPl x)).length:=by cases uniqP (frPl x)<;>simp [plD]
 simp only [lenV] at hl
 simp only [instD] at e
 rcases h14 with rfl | ⟨g14,y14,rfl⟩
 all_goals rcases h16 with rfl | ⟨g16,y16,rfl⟩
 all_goals rcases h63 with rfl | ⟨g63,y63,rfl⟩
 all_goals simp [G14,J14,B14,instO,x14_18,instD,ca,e,hl]
theorem ex14_1 {L n i:Nat} {v8:V} {l:Int} {rd:List (Nat × Int)} {b:List (Nat × Nat × O)} {o14 o16:List (Nat × Nat × O)} {m1 m2:List ((Nat × Int) × Int)} {o63:List (Nat × Nat × O)} (H:List O) (w:Nat) :
  execL K 14 l14_1 (J14 L n i v8 l rd rd.length [] b o14 o16 m1 m2 o63 H w)=some (.exit 4,J14 L n i v8 l rd rd.length [(76,.d (.bool false))] b o14 o16 m1 m2 o63 H w):=by
 simp [J14,u14_1,x14_19]
def rdsE (l:Int) (m2:List ((Nat × Int) × Int)) (rd:List (Nat × Int)):List ((Nat × Int) × Int):=rd.foldl (fun m p=>setE m p (maxI (getE m p) (l+1))) m2
theorem rdsE_get (l:Int):∀ (rd:List (Nat × Int)) (m2:List ((Nat × Int) × Int)),getE (rdsE l m2 rd)=readsW l (getE m2) rd
 | [],m2=>rfl
 | p :: rd,m2=>by
  have:=rdsE_get l rd (setE m2 p (maxI (getE m2 p) (l+1)))
  simp only [rdsE,readsW,List.foldl_cons] at this ⊢
  rw [this,get_set]
theorem lp14_1 {L n i:Nat} {v8:V} {g10 g11:Nat} {l:Int} {rd:List (Nat × Int)} {o1 o10 o11:O} {o14:List (Nat × Nat × O)} {m1:List ((Nat × Int) × Int)} {o63:List (Nat × Nat × O)}
  (hn:rd.length≤1000) (hl0:0≤l) (hl1:l≤1000) (h14:O1 14 o14) (h63:O1 63 o63) (H:List O) :
  ∀ (m j:Nat) (t:List (Nat × Int)) (m2:List ((Nat × Int) × Int)) (o16:List (Nat × Nat × O)) (w:Nat),t.length=m→rd.drop j=t→j≤rd.length→O1 16 o16 →
   ∃ o16' w',execL K 14 (.loop l14_1) (J14 L n i v8 l rd j [] (B14 g10 g11 o1 o10 o11) o14 o16 m1 m2 o63 H w)=some (.exit 4,J14 L n i v8 l rd rd.length [(76,.d (.bool false))] (B14 g10 g11 o1 o10 o11) o14 o16' m1 (rdsE l m2 t) o63 H w')∧O1 16 o16'
 | 0,j,t,m2,o16,w,hm,ht,hi,ho=>by
  have ht0:t=[]:=List.eq_nil_of_length_eq_zero hm
  subst ht0
  have hie:j=rd.length:=by have:=List.drop_eq_nil_iff.1 ht; omega
  subst hie
  exact ⟨o16,w,by rw [execL_loop,ex14_1]; rfl,ho⟩
 | m+1,j,t,m2,o16,w,hm,ht,hi,ho=>by
  match t,hm,ht with
  | x :: r,hm,ht =>
   have hx:rd[j]?=some x:=by
    have:=congrArg List.head? ht; simpa [List.head?_drop] using this
   have hlt:=(gS.1 hx).1
   have hr:rd.drop (j+1)=r:=by
    have:=congrArg List.tail ht; simpa [List.tail_drop] using this
   obtain ⟨o1',w1,e1,ho1⟩:=rd14_1 (L:=L) (n:=n) (i:=i) (v8:=v8) (g10:=g10) (g11:=g11) (l:=l) (o1:=o1) (o10:=o10) (o11:=o11) (m1:=m1) (m2:=m2) hx hn hl0 hl1 h14 ho h63 H w
   obtain ⟨o2',w2,e2,ho2⟩:=lp14_1 hn hl0 hl1 h14 h63 H m (j+1) r (setE m2 x (maxI (getE m2 x) (l+1))) o1' w1 (by simpa using hm) hr (by omega) ho1
   refine ⟨o2',w2,?_,ho2⟩
   rw [execL_loop,e1]
   exact e2
theorem a14_7 {L n i:Nat} {v8:V} {b o14 o16 o63:List (Nat × Nat × O)} {m1 m2:List ((Nat × Int) × Int)} {H:List O} (c:Code) (h:i < n) (w:Nat) :
  execL K 14 (.seq (rg 14 7) (.seq (.cond (.tmp 33) (.skip) (.exit 0)) c)) (G14 L n i v8 [] [] b o14 o16 m1 m2 o63 H w)=execL K 14 c (G14 L n i v8 [] [(33,.d (.bool true))] b o14 o16 m1 m2 o63 H w):=by
 simp [G14,x14_7,h]
theorem ex14_2 {L n:Nat} {v8:V} {b o14 o16 o63:List (Nat × Nat × O)} {m1 m2:List ((Nat × Int) × Int)} {H:List O} (w:Nat) :
  execL K 14 l14_2 (G14 L n n v8 [] [] b o14 o16 m1 m2 o63 H w)=some (.exit 0,G14 L n n v8 [] [(33,.d (.bool false))] b o14 o16 m1 m2 o63 H w):=by
 simp [G14,u14_2,x14_7]
theorem a14_23 {L n i:Nat} {v8:V} {l:Int} {rd:List (Nat × Int)} {b o14 o16 o63:List (Nat × Nat × O)} {m1 m2:List ((Nat × Int) × Int)} {H:List O} (h:i≤1000) (w:Nat) :
  execL K 14 (rg 14 23) (J14 L n i v8 l rd rd.length [(76,.d (.bool false))] b o14 o16 m1 m2 o63 H w)=some (.normal,G14 L n (i+1) v8 [] [] b o14 o16 m1 m2 o63 H w):=by
 have w1:wr .i64 ((i:Int)+1)=(i:Int)+1:=wrap_id (by omega) (by omega)
 simp [G14,J14,x14_23,w1]
def lvlE (m1 m2:List ((Nat × Int) × Int)) (x:Nat × Stp × List Int):Int:=lvlOf (getE m1) (getE m2) (toPl x,uniqP (frPl x))
theorem rd14_2 {L n i:Nat} {v8:V} {E:List D} {x:Nat × Stp × List Int} {y:Nat} {o1:O} {o10 o11 o14 o16 o63:List (Nat × Nat × O)} {m1 m2:List ((Nat × Int) × Int)} {H:List O} {ls:List Int}
  (hL:H[L]?=some (.vec 4 E false true)) (hE:E[i]?=some (instD y x)) (hn:E.length=n) (hn2:n≤1000) (hf:x.2.1.fr.length≤3) (hv:R14 v8 o63 ls) (hls:ls.length=i)
  (hl0:0≤lvlE m1 m2 x) (hl1:lvlE m1 m2 x≤1000) (h10:O1 10 o10) (h11:O1 11 o11) (h14:O1 14 o14) (h16:O1 16 o16) (w:Nat) :
  ∃ v8' o10' o11' o14' o16' o63' w',execL K 14 l14_2 (G14 L n i v8 [] [] ((1,0,o1) :: (o10++o11)) o14 o16 m1 m2 o63 H w) =
   some (.normal,G14 L n (i+1) v8' [] [] ((1,0,o1) :: (o10'++o11')) o14' o16' (setE m1 (toPl x) (maxI (getE m1 (toPl x)) (lvlE m1 m2 x+1))) (rdsE (lvlE m1 m2 x) m2 (uniqP (frPl x))) o63' H w')
   ∧ R14 v8' o63' (ls++[lvlE m1 m2 x])∧O1 10 o10'∧O1 11 o11'∧O1 14 o14'∧O1 16 o16':=by
 have hlt:=(gS.1 hE).1
 have hu:∀ (ks f:List (Nat × Int)),(ks.foldl addP f).length≤f.length+ks.length:=by
  intro ks
  induction ks with
  | nil=>intro f; simp
  | cons a r ih=>intro f; have:=ih (addP f a); have:=addP_len f a; simp only [List.foldl_cons,List.length_cons]; omega
 have hu:(uniqP (frPl x)).length≤1000:=by
  have:=hu (frPl x) []
  simp only [frPl,List.length_map,List.length_nil] at this
  unfold uniqP frPl; omega
 obtain ⟨g10,w1,e8⟩:=a14_8 (v8:=v8) (o1:=o1) (m1:=m1) (m2:=m2) hL hE hn hn2 h10 h11 h14 h16 hv.o1 w
 obtain ⟨g11,w2,e9⟩:=a14_9 (L:=L) (n:=n) (i:=i) (v8:=v8) (x:=x) (y:=y) (g10:=g10) (o1:=o1) (m1:=m1) (m2:=m2) (H:=H) h11 h14 h16 hv.o1 w1
 obtain ⟨w3,e10⟩:=a14_10 (L:=L) (n:=n) (i:=i) (v8:=v8) (k:=toPl x) (g10:=g10) (g11:=g11) (o1:=o1) (o10:=instO (instD y x)) (m1:=m1) (m2:=m2) (H:=H) h14 h16 hv.o1 w2
 obtain ⟨w4,e11⟩:=a14_11 (L:=L) (n:=n) (i:=i) (v8:=v8) (x:=x) (y:=y) (g10:=g10) (g11:=g11) (o1:=o1) (o11:=keyO (toPl x)) (l:=maxI (getE m1 (toPl x)) (getE m2 (toPl x))) (m1:=m1) (m2:=m2) (H:=H) hf h14 h16 hv.o1 w3
 obtain ⟨o14',w5,e12,h14'⟩:=lp14_0 (L:=L) (n:=n) (i:=i) (v8:=v8) (g10:=g10) (g11:=g11) (o1:=o1) (o10:=instO (instD y x)) (o11:=keyO (toPl x)) (m1:=m1) (m2:=m2) hu h16 hv.o1 H (uniqP (frPl x)).length 0 (uniqP (frPl x)) (maxI (getE m1 (toPl x)) (getE m2 (toPl x))) o14 w4 rfl (by simp) (by omega) h14
 have hlv:(uniqP (frPl x)).foldl (fun a p=>maxI a (getE m1 p)) (maxI (getE m1 (toPl x)) (getE m2 (toPl x)))=lvlE m1 m2 x:=rfl
 rw [hlv] at e12
 obtain ⟨v8',o63',w6,e16,hv'⟩:=a14_16 (L:=L) (n:=n) (i:=i) (g10:=g10) (g11:=g11) (o1:=o1) (o10:=instO (instD y x)) (o11:=keyO (toPl x)) (l:=lvlE m1 m2 x) (rd:=uniqP (frPl x)) (m1:=m1) (m2:=m2) (H:=H) hv (by omega) h14' h16 w5
 obtain ⟨w7,e17⟩:=a14_17 (L:=L) (n:=n) (i:=i) (v8:=v8') (k:=toPl x) (g10:=g10) (g11:=g11) (o1:=o1) (o10:=instO (instD y x)) (m1:=m1) (m2:=m2) (H:=H) hl0 hl1 h14' h16 hv'.o1 w6
 obtain ⟨w8,e18⟩:=a14_18 (L:=L) (n:=n) (i:=i) (v8:=v8') (x:=x) (y:=y) (g10:=g10) (g11:=g11) (o1:=o1) (o11:=keyO (toPl x)) (l:=lvlE m1 m2 x) (m1:=setE m1 (toPl x) (maxI (getE m1 (toPl x)) (lvlE m1 m2 x+1))) (m2:=m2) (H:=H) hf h14' h16 hv'.o1 w7
 obtain ⟨o16',w9,e19,h16'⟩:=lp14_1 (L:=L) (n:=n) (i:=i) (v8:=v8') (g10:=g10) (g11:=g11) (l:=lvlE m1 m2 x) (o1:=o1) (o10:=instO (instD y x)) (o11:=keyO (toPl x)) (m1:=setE m1 (toPl x) (maxI (getE m1 (toPl x)) (lvlE m1 m2 x+1))) hu hl0 hl1 h14' hv'.o1 H (uniqP (frPl x)).length 0 (uniqP (frPl x)) m2 o16 w8 rfl (by simp) (by omega) h16
 have e23:=a14_23 (L:=L) (n:=n) (v8:=v8') (l:=lvlE m1 m2 x) (rd:=uniqP (frPl x)) (b:=B14 g10 g11 o1 (instO (instD y x)) (keyO (toPl x))) (o14:=o14') (o16:=o16') (o63:=o63') (m1:=setE m1 (toPl x) (maxI (getE m1 (toPl x)) (lvlE m1 m2 x+1))) (m2:=rdsE (lvlE m1 m2 x) m2 (uniqP (frPl x))) (H:=H) (i:=i) (by omega) w9
 refine ⟨v8',[(10,g10,instO (instD y x))],[(11,g11,keyO (toPl x))],o14',o16',o63',w9,?_,hv',.inr ⟨_,_,rfl⟩,.inr ⟨_,_,rfl⟩,h14',h16'⟩
 rw [u14_2,a14_7 _ (by omega)]
 simp [execL_seq,execL_block,andThen,outOf,e8,e9,e10,e11,e12,e16,e17,e18,e19,e23]
 rfl
theorem LInv.bound {κ:Type} [DecidableEq κ] {done:List (κ × List κ)} {ls:List Int} {W R:κ→Int} (h:LInv done ls W R):∀ (m:Nat) (l:Int),ls[m]?=some l→l≤m:=by
 intro m
 induction m using Nat.strongRecOn with
 | _ m ih =>
  intro l hl
  have hm:m < done.length:=by rw [← h.len]; exact (gS.1 hl).1
  rcases (h.lv m done[m] l (List.getElem?_eq_getElem hm) hl).2 with h0 | ⟨n,xn,ln,hn,_,hln,_,e⟩
  ·omega
  ·have:=ih n hn ln hln; omega
def krP (x:Nat × Stp × List Int):(Nat × Int) × List (Nat × Int):=(toPl x,uniqP (frPl x))
theorem lp14_2 {L n:Nat} {E:List D} {I:List (Nat × Stp × List Int)} {o1:O} {H:List O}
  (hL:H[L]?=some (.vec 4 E false true)) (hE:E=encI 0 I) (hn:I.length=n) (hn2:n≤1000) (hf:∀ x∈I,x.2.1.fr.length≤3) :
  ∀ (m i:Nat) (tt:List (Nat × Stp × List Int)) (v8:V) (o10 o11 o14 o16 o63:List (Nat × Nat × O)) (m1 m2:List ((Nat × Int) × Int)) (ls:List Int) (w:Nat),
   tt.length=m→I.drop i=tt→i≤n→R14 v8 o63 ls→LInv ((I.take i).map krP) ls (getE m1) (getE m2)→O1 10 o10→O1 11 o11→O1 14 o14→O1 16 o16 →
   ∃ v8' b' o14' o16' o63' m1' m2' ls' w',execL K 14 (.loop l14_2) (G14 L n i v8 [] [] ((1,0,o1) :: (o10++o11)) o14 o16 m1 m2 o63 H w) =
    some (.exit 0,G14 L n n v8' [] [(33,.d (.bool false))] b' o14' o16' m1' m2' o63' H w')∧R14 v8' o63' ls'∧LInv (I.map krP) ls' (getE m1') (getE m2')∧O1 14 o14'∧O1 16 o16'∧(∃ o10' o11',b'=(1,0,o1) :: (o10'++o11')∧O1 10 o10'∧O1 11 o11')
 | 0,i,tt,v8,o10,o11,o14,o16,o63,m1,m2,ls,w,hm,ht,hi,hv,hI,h10,h11,h14,h16=>by
  have ht0:tt=[]:=List.eq_nil_of_length_eq_zero hm
  subst ht0
  have hie:i=n:=by have:=List.drop_eq_nil_iff.1 ht; omega
  subst hie
  rw [← hn,List.take_length] at hI
  exact ⟨v8,_,o14,o16,o63,m1,m2,ls,w,by rw [execL_loop,ex14_2]; rfl,hv,hI,h14,h16,_,_,rfl,h10,h11⟩
 | m+1,i,tt,v8,o10,o11,o14,o16,o63,m1,m2,ls,w,hm,ht,hi,hv,hI,h10,h11,h14,h16=>by
  match tt,hm,ht with
  | x :: r,hm,ht =>
   have hx:I[i]?=some x:=by
    have:=congrArg List.head? ht; simpa [List.head?_drop] using this
   have hlt:=(gS.1 hx).1
   have hr:I.drop (i+1)=r:=by
    have:=congrArg List.tail ht; simpa [List.tail_drop] using this
   have hEl:E.length=n:=by
    have:∀ (l:List (Nat × Stp × List Int)) (k:Nat),(encI k l).length=l.length:=by
     intro l
     induction l with
     | nil=>intro k; rfl
     | cons a l ih=>intro k; simp [encI,ih]
    rw [hE,this]; exact hn
   have hEi:E[i]?=some (instD (0+i) x):=by rw [hE]; exact encI_at hx
   have hS:=hI.step (krP x)
   have hll:ls.length=i:=by rw [hI.len]; simp; omega
   have hlast:(ls++[lvlOf (getE m1) (getE m2) (krP x)])[i]?=some (lvlE m1 m2 x):=by rw [← hll]; simp [lvlE,krP]
   have hl0:=hS.nn i _ hlast
   have hl1:=hS.bound i _ hlast
   obtain ⟨v8',o10',o11',o14',o16',o63',w1,e1,hv',h10',h11',h14',h16'⟩:=rd14_2 (o1:=o1) hL hEi hEl hn2 (hf x (List.mem_of_getElem? hx)) hv hll hl0 (by omega) h10 h11 h14 h16 w
   have htk:(I.take (i+1)).map krP=(I.take i).map krP++[krP x]:=by
    rw [List.take_add_one,hx]; simp
   have hI':LInv ((I.take (i+1)).map krP) (ls++[lvlE m1 m2 x]) (getE (setE m1 (toPl x) (maxI (getE m1 (toPl x)) (lvlE m1 m2 x+1)))) (getE (rdsE (lvlE m1 m2 x) m2 (uniqP (frPl x)))):=by
    rw [htk,get_set,rdsE_get]; exact hS
   obtain ⟨v8'',b'',o14'',o16'',o63'',m1'',m2'',ls'',w2,e2,q⟩:=lp14_2 hL hE hn hn2 hf m (i+1) r v8' o10' o11' o14' o16' o63' _ _ _ w1 (by simpa using hm) hr (by omega) hv' hI' h10' h11' h14' h16'
   refine ⟨v8'',b'',o14'',o16'',o63'',m1'',m2'',ls'',w2,?_,q⟩
   rw [execL_loop,e1]
   exact e2
theorem s14 {t:List Stp} (ht:TaskOk t) (h3:t.length≤3) (hp:List O) :
  ∃ H' w ls W R,callL K (.fn (.func 14) [] []) [.d (encT t)] none hp=some (.ret (.tuple [.d (.list 1 (ints ls)),.d (.int .i64 0)]),false,H',w) ∧
   LInv ((allI 0 t).map krP) ls W R:=by
 obtain ⟨H',w1,T,e1,hT,hL,hK⟩:=s64 ht h3 hp
 obtain ⟨L,hT1,hL1⟩:=Open.list ⟨hL⟩ ht
 have hbd:=baseI_bound t t.length ht.ok
 have htot:baseI t t.length=((allI 0 t).length:Int):=by rw [baseI_eq t t.length ht.ok,allI_total]
 have hlen:(allI 0 t).length≤1000:=by omega
 have hfr:∀ x∈allI 0 t,x.2.1.fr.length≤3:=by
  intro x hx
  obtain ⟨k,s,p⟩:=x
  obtain ⟨_,hk,_⟩:=mem_allI.1 hx
  exact (ht.ok s (List.mem_of_getElem? hk)).few
 have hEl:(encI 0 (allI 0 t)).length=(allI 0 t).length:=by
  have:∀ (l:List (Nat × Stp × List Int)) (k:Nat),(encI k l).length=l.length:=by
   intro l
   induction l with
   | nil=>intro k; rfl
   | cons a l ih=>intro k; simp [encI,ih]
  exact this _ _
 have e:=k14 [] [] [.d (encT t)] none hp
 obtain ⟨v8',b',o14',o16',o63',m1',m2',ls',w',e2,hv,hI,h14,h16,o10',o11',rfl,h10,h11⟩:=lp14_2 (o1:=.cells [.d (.list 2 arrsD),.d (.list 10 (t.map encS))] false) hL1 rfl rfl hlen hfr (allI 0 t).length 0 (allI 0 t) (.d .nils) [] [] [] [] [] [] [] [] w1 rfl (by simp) (by omega) (.inl ⟨rfl,rfl,rfl⟩) (by rw [getE_nil]; exact LInv.nil) (.inl rfl) (.inl rfl) (.inl rfl) (.inl rfl)
 suffices h:∃ w,callL K (.fn (.func 14) [] []) [.d (encT t)] none hp=some (.ret (.tuple [.d (.list 1 (ints ls')),.d (.int .i64 0)]),false,H',w) by
  obtain ⟨w,h⟩:=h
  exact ⟨H',w,ls',_,_,h,hI⟩
 simp only [encT] at e e1 ⊢
 rcases hv with ⟨rfl,_,_⟩ | ⟨hne,g63,rfl,rfl⟩
 ·exfalso
  have:=hI.len
  have hne:=allI_ne ht
  cases h:allI 0 t with
  | nil=>exact hne h
  | cons a r=>rw [h] at this; simp at this
 ·rcases h10 with rfl | ⟨g10,y10,rfl⟩
  all_goals rcases h11 with rfl | ⟨g11,y11,rfl⟩
  all_goals rcases h14 with rfl | ⟨g14,y14,rfl⟩
  all_goals rcases h16 with rfl | ⟨g16,y16,rfl⟩
  all_goals simp [G14,mapI] at e2
  all_goals simp [c14,x14_0,x14_1,x14_2,x14_4,x14_5,x14_6,x14_24,e1,hT1,hL1,hEl,e2,G14,mapI] at e
  all_goals exact ⟨_,e⟩
def keysP (x:Nat × Stp × List Int):List (Nat × Int):=toPl x :: frPl x
theorem touchKs (x:Nat × Stp × List Int):touchD x.2.1 x.2.2=(keysP x).map keyD:=by rw [touchK]; rfl
def S52 (ks:List (Nat × Int)) (b:Nat × Int) (v:List (Nat × Int)) (j:Nat) (tl:List (Nat × V)) (H:List O) (w:Nat):St :=
 St.mk ([(9,.d (.list 2 (ks.map keyD))),(10,.d (.list 2 (keyD b :: v.map keyD))),(11,.d (.int .i64 (j:Nat)))]++tl) (Mem.mk [] H w) [] none false none
def T52 (b:Nat × Int) (v:List (Nat × Int)) (ks:List (Nat × Int)) (j:Nat) (tl:List (Nat × V)) (H:List O) (w:Nat):St :=
 St.mk ([(9,.d (.list 2 (keyD b :: v.map keyD))),(10,.d (.list 2 (ks.map keyD))),(12,.d (.int .i64 (j:Nat)))]++tl) (Mem.mk [] H w) [] none false none
def F52 (r:Bool) (H:List O) (w:Nat):St:=St.mk [(8,.d (.bool r))] (Mem.mk [] H w) [] none false none
theorem rd52_0 {ks:List (Nat × Int)} {b z:Nat × Int} {v:List (Nat × Int)} {j:Nat} (hz:ks[j]?=some z) (hn:ks.length≤100) (H:List O) (w:Nat) :
  execL K 52 l52_0 (S52 ks b v j [] H w)=if z=b then some (.ret,F52 true H w) else some (.normal,S52 ks b v (j+1) [] H w):=by
 have hlt:=(gS.1 hz).1
 have hz2:=(gS.1 hz).2
 have w1:wr .i64 ((j:Int)+1)=(j:Int)+1:=wrap_id (by omega) (by omega)
 have gd:K.P.eqGuardType K.P.depth 86=false:=by kernel_rfl
 have gs:K.P.stoodInHeld 86=false:=by kernel_rfl
 obtain ⟨a,e⟩:=z
 obtain ⟨c,d⟩:=b
 by_cases hb:(a:Int)=c
 ·by_cases hd:e=d
  ·have hac:a=c:=by omega
   subst hac; subst hd
   simp [S52,F52,u52_0,x52_9,x52_10,x52_11,x52_12,hlt,hz2,keyD,gd,gs,w1]
  ·have h1:(e == d)=false:=by simpa using hd
   simp [S52,F52,u52_0,x52_9,x52_10,x52_11,x52_12,hlt,hz2,keyD,gd,gs,w1,hb,hd,h1]
 ·have hb':¬ a=c:=by omega
  have h1:((a:Int) == c)=false:=by simpa using hb
  simp [S52,F52,u52_0,x52_9,x52_10,x52_11,x52_12,hlt,hz2,keyD,gd,gs,w1,hb',h1]
theorem rd52_1 {ks:List (Nat × Int)} {b z:Nat × Int} {v:List (Nat × Int)} {j:Nat} (hz:ks[j]?=some z) (hn:ks.length≤100) (H:List O) (w:Nat) :
  execL K 52 l52_1 (T52 b v ks j [] H w)=if z=b then some (.ret,F52 true H w) else some (.normal,T52 b v ks (j+1) [] H w):=by
 have hlt:=(gS.1 hz).1
 have hz2:=(gS.1 hz).2
 have w1:wr .i64 ((j:Int)+1)=(j:Int)+1:=wrap_id (by omega) (by omega)
 have gd:K.P.eqGuardType K.P.depth 86=false:=by kernel_rfl
 have gs:K.P.stoodInHeld 86=false:=by kernel_rfl
 obtain ⟨a,e⟩:=z
 obtain ⟨c,d⟩:=b
 by_cases hb:(a:Int)=c
 ·by_cases hd:e=d
  ·have hac:a=c:=by omega
   subst hac; subst hd
   simp [T52,F52,u52_1,x52_15,x52_16,x52_17,x52_18,hlt,hz2,keyD,gd,gs,w1]
  ·have h1:(e == d)=false:=by simpa using hd
   simp [T52,F52,u52_1,x52_15,x52_16,x52_17,x52_18,hlt,hz2,keyD,gd,gs,w1,hb,hd,h1]
 ·have hb':¬ a=c:=by omega
  have h1:((a:Int) == c)=false:=by simpa using hb
  simp [T52,F52,u52_1,x52_15,x52_16,x52_17,x52_18,hlt,hz2,keyD,gd,gs,w1,hb',h1]
theorem ex52_0 {ks:List (Nat × Int)} {b:Nat × Int} {v:List (Nat × Int)} (H:List O) (w:Nat):execL K 52 l52_0 (S52 ks b v ks.length [] H w)=some (.exit 1,S52 ks b v ks.length [(39,.d (.bool false))] H w):=by
 simp [S52,u52_0,x52_9]
theorem ex52_1 {ks:List (Nat × Int)} {b:Nat × Int} {v:List (Nat × Int)} (H:List O) (w:Nat):execL K 52 l52_1 (T52 b v ks ks.length [] H w)=some (.exit 3,T52 b v ks ks.length [(53,.d (.bool false))] H w):=by
 simp [T52,u52_1,x52_15]
theorem lp52_0 {ks:List (Nat × Int)} {b:Nat × Int} {v:List (Nat × Int)} (hn:ks.length≤100) (H:List O) (w:Nat) :
  ∀ (m j:Nat) (t:List (Nat × Int)),t.length=m→ks.drop j=t→j≤ks.length →
   execL K 52 (.loop l52_0) (S52 ks b v j [] H w)=if b∈t then some (.ret,F52 true H w) else some (.exit 1,S52 ks b v ks.length [(39,.d (.bool false))] H w)
 | 0,j,t,hm,ht,hi=>by
  have ht0:t=[]:=List.eq_nil_of_length_eq_zero hm
  subst ht0
  have hie:j=ks.length:=by have:=List.drop_eq_nil_iff.1 ht; omega
  subst hie
  rw [execL_loop,ex52_0]; simp
 | m+1,j,t,hm,ht,hi=>by
  match t,hm,ht with
  | x :: r,hm,ht =>
   have hx:ks[j]?=some x:=by
    have:=congrArg List.head? ht; simpa [List.head?_drop] using this
   have hlt:=(gS.1 hx).1
   have hr:ks.drop (j+1)=r:=by
    have:=congrArg List.tail ht; simpa [List.tail_drop] using this
   rw [execL_loop,rd52_0 hx hn]
   by_cases h:x=b
   ·subst h; simp
   ·have h':¬ b=x:=fun e=>h e.symm
    rw [if_neg h]
    show execL K 52 (.loop l52_0) _=_
    rw [lp52_0 hn H w m (j+1) r (by simpa using hm) hr (by omega)]
    simp [h']
theorem lp52_1 {ks:List (Nat × Int)} {b:Nat × Int} {v:List (Nat × Int)} (hn:ks.length≤100) (H:List O) (w:Nat) :
  ∀ (m j:Nat) (t:List (Nat × Int)),t.length=m→ks.drop j=t→j≤ks.length →
   execL K 52 (.loop l52_1) (T52 b v ks j [] H w)=if b∈t then some (.ret,F52 true H w) else some (.exit 3,T52 b v ks ks.length [(53,.d (.bool false))] H w)
 | 0,j,t,hm,ht,hi=>by
  have ht0:t=[]:=List.eq_nil_of_length_eq_zero hm
  subst ht0
  have hie:j=ks.length:=by have:=List.drop_eq_nil_iff.1 ht; omega
  subst hie
  rw [execL_loop,ex52_1]; simp
 | m+1,j,t,hm,ht,hi=>by
  match t,hm,ht with
  | x :: r,hm,ht =>
   have hx:ks[j]?=some x:=by
    have:=congrArg List.head? ht; simpa [List.head?_drop] using this
   have hlt:=(gS.1 hx).1
   have hr:ks.drop (j+1)=r:=by
    have:=congrArg List.tail ht; simpa [List.tail_drop] using this
   rw [execL_loop,rd52_1 hx hn]
   by_cases h:x=b
   ·subst h; simp
   ·have h':¬ b=x:=fun e=>h e.symm
    rw [if_neg h]
    show execL K 52 (.loop l52_1) _=_
    rw [lp52_1 hn H w m (j+1) r (by simpa using hm) hr (by omega)]
    simp [h']
theorem s52 {I:List (Nat × Stp × List Int)} (hl:I.length≤1000) {m n:Nat} {x y:Nat × Stp × List Int} (hm:I[m]?=some x) (hn:I[n]?=some y) (hfx:x.2.1.fr.length≤3) (hfy:y.2.1.fr.length≤3) (hlt:m < n) (H:List O) :
  (∃ w,callL K (.fn (.func 52) [] []) [.d (.list 1 (I.map rowD)),.d (.int .i64 m),.d (.int .i64 n),.d (.int .i64 1)] none H=some (.ret (.d (.bool (decide (toPl x∈frPl y)))),false,H,w)) ∧
  (∃ w,callL K (.fn (.func 52) [] []) [.d (.list 1 (I.map rowD)),.d (.int .i64 m),.d (.int .i64 n),.d (.int .i64 2)] none H=some (.ret (.d (.bool (decide (toPl y∈frPl x)))),false,H,w)) ∧
  (∃ w,callL K (.fn (.func 52) [] []) [.d (.list 1 (I.map rowD)),.d (.int .i64 m),.d (.int .i64 n),.d (.int .i64 3)] none H=some (.ret (.d (.bool (decide (toPl x=toPl y)))),false,H,w)):=by
 have hm1:=(gS.1 hm).1
 have hm2:=(gS.1 hm).2
 have hn1:=(gS.1 hn).1
 have hn2:=(gS.1 hn).2
 have rx:rowD x=.list 2 (keyD (toPl x) :: (frPl x).map keyD):=by simp only [rowD,touchKs]; rfl
 have ry:rowD y=.list 2 (keyD (toPl y) :: (frPl y).map keyD):=by simp only [rowD,touchKs]; rfl
 have hng:¬ ((n:Int)≤(m:Int)):=by omega
 have gd:K.P.eqGuardType K.P.depth 86=false:=by kernel_rfl
 have gs:K.P.stoodInHeld 86=false:=by kernel_rfl
 have z1:((1:Nat):Int)=1:=rfl
 refine ⟨?_,?_,?_⟩
 ·have e:=lp52_1 (ks:=keysP y) (b:=toPl x) (v:=frPl x) (by simp [keysP,frPl]; omega) H 0 (frPl y).length 1 (frPl y) rfl rfl (by simp [keysP])
  simp only [T52,z1,List.append_nil,keysP,List.map_cons,keyD] at e
  simp only [keyD] at rx ry
  by_cases h:toPl x∈frPl y
  ·rw [if_pos h] at e
   simp [k52,c52,x52_0,x52_1,x52_3,x52_4,x52_5,x52_7,x52_14,x52_19,hm1,hm2,hn1,hn2,rx,ry,hlt,hng,e,h,F52]
  ·rw [if_neg h] at e
   simp [k52,c52,x52_0,x52_1,x52_3,x52_4,x52_5,x52_7,x52_14,x52_19,hm1,hm2,hn1,hn2,rx,ry,hlt,hng,e,h,F52]
 ·have e:=lp52_0 (ks:=keysP x) (b:=toPl y) (v:=frPl y) (by simp [keysP,frPl]; omega) H 0 (frPl x).length 1 (frPl x) rfl rfl (by simp [keysP])
  simp only [S52,z1,List.append_nil,keysP,List.map_cons,keyD] at e
  simp only [keyD] at rx ry
  by_cases h:toPl y∈frPl x
  ·rw [if_pos h] at e
   simp [k52,c52,x52_0,x52_1,x52_3,x52_4,x52_5,x52_7,x52_8,x52_13,hm1,hm2,hn1,hn2,rx,ry,hlt,hng,e,h,F52]
  ·rw [if_neg h] at e
   simp [k52,c52,x52_0,x52_1,x52_3,x52_4,x52_5,x52_7,x52_8,x52_13,hm1,hm2,hn1,hn2,rx,ry,hlt,hng,e,h,F52]
 ·simp only [keyD] at rx ry
  have hd:decide (toPl x=toPl y)=(decide (((toPl x).1:Int)=(toPl y).1)&&decide ((toPl x).2=(toPl y).2)):=by
   by_cases h:toPl x=toPl y
   ·simp [h]
   ·rw [decide_eq_false h]
    by_cases h1:((toPl x).1:Int)=(toPl y).1
    ·have h2:¬ (toPl x).2=(toPl y).2:=fun h2=>h (Prod.ext (by omega) h2)
     simp [h2]
    ·rw [decide_eq_false h1]; rfl
  by_cases h1:((toPl x).1:Int)=(toPl y).1
  ·by_cases h2:(toPl x).2=(toPl y).2
   ·simp [k52,c52,x52_0,x52_1,x52_3,x52_4,x52_5,x52_6,hm1,hm2,hn1,hn2,rx,ry,hlt,hng,gd,gs,h1,h2,hd]
   ·have h3:((toPl x).2 == (toPl y).2)=false:=by simpa using h2
    simp [k52,c52,x52_0,x52_1,x52_3,x52_4,x52_5,x52_6,hm1,hm2,hn1,hn2,rx,ry,hlt,hng,gd,gs,h1,h2,h3,hd]
  ·have h3:(((toPl x).1:Int) == (toPl y).1)=false:=by simpa using h1
   simp [k52,c52,x52_0,x52_1,x52_3,x52_4,x52_5,x52_6,hm1,hm2,hn1,hn2,rx,ry,hlt,hng,gd,gs,h1,h3,hd]
theorem s16 {I:List (Nat × Stp × List Int)} (hl:I.length≤1000) {m n:Nat} {x y:Nat × Stp × List Int} (hm:I[m]?=some x) (hn:I[n]?=some y) (hfx:x.2.1.fr.length≤3) (hfy:y.2.1.fr.length≤3) (hlt:m < n) (H:List O) :
  ∃ w,callL K (.fn (.func 16) [] []) [.d (.list 1 (I.map rowD)),.d (.int .i64 m),.d (.int .i64 n)] none H=some (.ret (.d (.bool (decide (toPl x∈frPl y) || decide (toPl y∈frPl x) || decide (toPl x=toPl y)))),false,H,w):=by
 obtain ⟨⟨w1,e1⟩,⟨w2,e2⟩,⟨w3,e3⟩⟩:=s52 hl hm hn hfx hfy hlt H
 generalize decide (toPl x∈frPl y)=b1 at *
 generalize decide (toPl y∈frPl x)=b2 at *
 generalize decide (toPl x=toPl y)=b3 at *
 cases b1<;>cases b2<;>cases b3
 all_goals simp [k16,c16,x16_0,x16_1,e1,e2,e3]
theorem mem_foldP (z:Nat × Int):∀ (ks f:List (Nat × Int)),z∈ks.foldl addP f↔z∈f∨z∈ks
 | [],f=>by simp
 | k :: ks,f=>by
  rw [List.foldl_cons,mem_foldP z ks (addP f k)]
  have:z∈addP f k↔z∈f∨z=k:=by
   unfold addP
   split
   ·rename_i h
    constructor
    ·exact .inl
    ·rintro (h' | rfl)
     ·exact h'
     ·exact h
   ·simp
  rw [this]
  simp only [List.mem_cons,or_assoc]
theorem mem_uniqP (z:Nat × Int) (ks:List (Nat × Int)):z∈uniqP ks↔z∈ks:=by
 have:=mem_foldP z ks []
 simpa [uniqP] using this
theorem on_dep (x y:Nat × Stp × List Int):(decide (toPl x∈frPl y) || decide (toPl y∈frPl x) || decide (toPl x=toPl y))=true↔depOn (krP x) (krP y):=by
 simp [depOn,krP,mem_uniqP,or_assoc]
theorem dep_kind {I:List (Nat × Stp × List Int)} {n m:Nat} {x y:Nat × Stp × List Int} (hx:I[n]?=some x) (hy:I[m]?=some y) (hnm:n < m) {s:Nat} (h1:x.1=s) (h2:y.1=s) (h:depOn (krP x) (krP y)) :
  ∃ kd,(kd=1∨kd=2∨kd=3)∧DepK kd s s I n m:=by
 simp only [depOn,krP] at h
 rcases h with h | h | h
 ·exact ⟨1,.inl rfl,x,y,hx,hy,hnm,h1,h2,toPl x,by simp [befP],by simpa [aftP] using h⟩
 ·exact ⟨2,.inr (.inl rfl),x,y,hx,hy,hnm,h1,h2,toPl y,by simpa [befP] using h,by simp [aftP]⟩
 ·exact ⟨3,.inr (.inr rfl),x,y,hx,hy,hnm,h1,h2,toPl x,by simp [befP],by simp [aftP,h]⟩
def S3 (c1:List D) (ls:List Int) (I:List (Nat × Stp × List Int)) (m:Nat) (tl:List (Nat × V)) (H:List O) (w:Nat):St :=
 St.mk ([(4,.ptr (.slot 4 0) 0),(5,.d (.list 1 (ints ls))),(7,.d (.list 1 (I.map rowD))),(8,.d (.int .i64 (m:Nat)))]++tl) (Mem.mk [(4,0,.cells (c1.map .d) false)] H w) [] none false none
def I3 (c1:List D) (ls:List Int) (I:List (Nat × Stp × List Int)) (m n:Nat) (below:Bool) (tl:List (Nat × V)) (H:List O) (w:Nat):St :=
 St.mk ([(4,.ptr (.slot 4 0) 0),(5,.d (.list 1 (ints ls))),(7,.d (.list 1 (I.map rowD))),(8,.d (.int .i64 (m:Nat))),(9,.d (.bool below)),(10,.d (.int .i64 (n:Nat)))]++tl) (Mem.mk [(4,0,.cells (c1.map .d) false)] H w) [] none false none
section
variable {c1:List D} {ls:List Int} {I:List (Nat × Stp × List Int)} {m n:Nat} {H:List O}
theorem rd3_0 (hI:I.length≤1000) {x y:Nat × Stp × List Int} (hn:I[n]?=some x) (hm:I[m]?=some y) (hfx:x.2.1.fr.length≤3) (hfy:y.2.1.fr.length≤3) (hnm:n < m) {ln lm:Int} (hln:ls[n]?=some ln) (hlm:ls[m]?=some lm) (h0:0≤lm) (h1:lm≤1000)
  {b:Bool} (hb:(decide (toPl x∈frPl y) || decide (toPl y∈frPl x) || decide (toPl x=toPl y))=b) (hlt:b=true→ln < lm) (below:Bool) (w:Nat) :
  ∃ w',execL K 3 l3_0 (I3 c1 ls I m n below [] H w)=some (.normal,I3 c1 ls I m (n+1) (below || (b&&decide (ln=lm - 1))) [] H w'):=by
 obtain ⟨w1,e⟩:=s16 hI hn hm hfx hfy hnm H
 rw [hb] at e
 have hl1:=(gS.1 hln).1
 have hl2:=(gS.1 hln).2
 have hl3:=(gS.1 hlm).1
 have hl4:=(gS.1 hlm).2
 have hil:=(gS.1 hn).1
 have wm:wr .i64 (lm - 1)=lm - 1:=wrap_id (by omega) (by omega)
 have wn:wr .i64 ((n:Int)+1)=(n:Int)+1:=wrap_id (by omega) (by omega)
 generalize hM:I.map rowD=M at *
 cases b with
 | false=>simp [I3,u3_0,x3_12,x3_13,x3_14,hM,hnm,e,wn]
 | true =>
  have hlt:=hlt rfl
  have hge:¬ (lm≤ln):=by omega
  have hge2:decide (lm≤ln)=false:=by simpa using hge
  cases below with
  | true=>simp [I3,u3_0,x3_12,x3_13,x3_14,x3_15,x3_17,hM,hnm,e,wn,wm,hln,hlm,hl1,hl2,hl3,hl4,hge,hge2]
  | false=>simp [I3,u3_0,x3_12,x3_13,x3_14,x3_15,x3_17,hM,hnm,e,wn,wm,hln,hlm,hl1,hl2,hl3,hl4,hge,hge2]
theorem ex3_0 {below:Bool} (w:Nat):execL K 3 l3_0 (I3 c1 ls I m m below [] H w)=some (.exit 2,I3 c1 ls I m m below [(47,.d (.bool false))] H w):=by
 simp [I3,u3_0,x3_12]
theorem lp3_0 {W R:Nat × Int→Int} (hL:LInv (I.map krP) ls W R) (hI:I.length≤1000) (hf:∀ x∈I,x.2.1.fr.length≤3) {y:Nat × Stp × List Int} (hm:I[m]?=some y) {lm:Int} (hlm:ls[m]?=some lm) :
  ∀ (k n:Nat) (below:Bool) (w:Nat),n+k=m→∃ B w',execL K 3 (.loop l3_0) (I3 c1 ls I m n below [] H w)=some (.exit 2,I3 c1 ls I m m B [(47,.d (.bool false))] H w')∧(below=true→B=true) ∧
   ∀ (j:Nat) (x:Nat × Stp × List Int) (lj:Int),n≤j→j < m→I[j]?=some x→ls[j]?=some lj→depOn (krP x) (krP y)→lj+1=lm→B=true
 | 0,n,below,w,hk=>by
  have:n=m:=by omega
  subst this
  exact ⟨below,w,by rw [execL_loop,ex3_0]; rfl,id,fun j x lj h1 h2=>by omega⟩
 | k+1,n,below,w,hk=>by
  have hml:=(gS.1 hm).1
  have hx:=List.getElem?_eq_getElem (l:=I) (i:=n) (by omega)
  have hll:ls.length=I.length:=by rw [hL.len]; simp
  have hln:=List.getElem?_eq_getElem (l:=ls) (i:=n) (by omega)
  have h0:=hL.nn m lm hlm
  have h1:=hL.bound m lm hlm
  have kx:(I.map krP)[n]?=some (krP I[n]):=by rw [List.getElem?_map,hx]; rfl
  have ky:(I.map krP)[m]?=some (krP y):=by rw [List.getElem?_map,hm]; rfl
  have hlv:=(hL.lv m (krP y) lm ky hlm).1 n (krP I[n]) ls[n] (by omega) kx hln
  obtain ⟨w1,e1⟩:=rd3_0 (c1:=c1) (H:=H) hI hx hm (hf _ (List.getElem_mem _)) (hf _ (List.mem_of_getElem? hm)) (by omega) hln hlm h0 (by omega) rfl (fun hb=>hlv ((on_dep _ _).1 hb)) below w
  obtain ⟨B,w2,e2,hB1,hB2⟩:=lp3_0 hL hI hf hm hlm k (n+1) (below || ((decide (toPl I[n]∈frPl y) || decide (toPl y∈frPl I[n]) || decide (toPl I[n]=toPl y))&&decide (ls[n]=lm - 1))) w1 (by omega)
  refine ⟨B,w2,?_,fun hb=>hB1 (by rw [hb]; rfl),fun j x lj h1 h2 h3 h4 h5 h6=>?_⟩
  ·rw [execL_loop,e1]
   exact e2
  ·by_cases hj:j=n
   ·subst hj
    rw [hx] at h3; cases h3
    rw [hln] at h4; cases h4
    apply hB1
    rw [(on_dep _ _).2 h5]
    have:ls[j]=lm - 1:=by omega
    simp [this]
   ·exact hB2 j x lj (by omega) h2 h3 h4 h5 h6
theorem rd3_1 {W R:Nat × Int→Int} (hL:LInv (I.map krP) ls W R) (hI:I.length≤1000) (hf:∀ x∈I,x.2.1.fr.length≤3) (hmI:m < I.length) (w:Nat) :
  ∃ w',execL K 3 l3_1 (S3 c1 ls I m [] H w)=some (.normal,S3 c1 ls I (m+1) [] H w'):=by
 have hm:=List.getElem?_eq_getElem hmI
 have hll:ls.length=I.length:=by rw [hL.len]; simp
 have hml:m < ls.length:=by omega
 have hlm:=List.getElem?_eq_getElem hml
 have ky:(I.map krP)[m]?=some (krP I[m]):=by rw [List.getElem?_map,hm]; rfl
 have h0:=hL.nn m _ hlm
 obtain ⟨B,w1,e1,hB1,hB2⟩:=lp3_0 (c1:=c1) (H:=H) hL hI hf hm hlm m 0 (decide (ls[m]=0)) w (by omega)
 have hB:B=true:=by
  rcases (hL.lv m _ _ ky hlm).2 with h | ⟨n,xn,ln,hn,hxn,hln,hd,hl⟩
  ·exact hB1 (by simpa using h)
  ·rw [List.getElem?_map] at hxn
   obtain ⟨z,hz,rfl⟩:=Option.map_eq_some_iff.1 hxn
   exact hB2 n z ln (by omega) hn hz hln hd hl
 subst hB
 have wm:wr .i64 ((m:Int)+1)=(m:Int)+1:=wrap_id (by omega) (by omega)
 have hlt:¬ (ls[m] < 0):=by omega
 have hlt2:decide (ls[m] < 0)=false:=by simpa using hlt
 generalize hM:I.map rowD=M at *
 simp only [I3] at e1
 simp only [hM] at e1
 have z0:((0:Nat):Int)=0:=rfl
 simp only [z0,List.append_nil,List.cons_append,List.nil_append] at e1
 simp [S3,u3_1,x3_8,x3_9,x3_10,x3_11,x3_18,hM,hml,hlm,e1,wm,hlt,hlt2]
theorem ex3_1 (hn:ls.length=n) (w:Nat):execL K 3 l3_1 (S3 c1 ls I n [] H w)=some (.exit 0,S3 c1 ls I n [(37,.d (.bool false))] H w):=by
 subst hn
 simp [S3,u3_1,x3_8]
theorem lp3_1 {W R:Nat × Int→Int} (hL:LInv (I.map krP) ls W R) (hI:I.length≤1000) (hf:∀ x∈I,x.2.1.fr.length≤3) :
  ∀ (k m w:Nat),m+k=I.length→∃ w',execL K 3 (.loop l3_1) (S3 c1 ls I m [] H w)=some (.exit 0,S3 c1 ls I I.length [(37,.d (.bool false))] H w')
 | 0,m,w,hk=>by
  have:m=I.length:=by omega
  subst this
  exact ⟨w,by rw [execL_loop,ex3_1 (by rw [hL.len]; simp)]; rfl⟩
 | k+1,m,w,hk=>by
  obtain ⟨w1,e1⟩:=rd3_1 (c1:=c1) (H:=H) hL hI hf (m:=m) (by omega) w
  obtain ⟨w2,e2⟩:=lp3_1 hL hI hf k (m+1) w1 (by omega)
  refine ⟨w2,?_⟩
  rw [execL_loop,e1]
  exact e2
def F3 (t:List Stp) (ls fr:List Int) (n:Nat) (tl:List (Nat × V)) (H:List O) (w:Nat):St :=
 St.mk ([(4,.ptr (.slot 4 0) 0),(5,.d (.list 1 (ints ls))),(11,.d (atV fr)),(13,.d (.int .i64 (n:Nat)))]++tl) (Mem.mk [(4,0,.cells [.d (.list 2 arrsD),.d (.list 10 (t.map encS))] false)] H w) [] none false none
theorem lenAt (fr:List Int):lenV (.d (atV fr))=some fr.length:=by cases fr<;>simp [atV]
theorem rd3_2 {t:List Stp} {st:Stp} {fr:List Int} (h0:t[0]?=some st) (h3:t.length≤3) (hn:n < ls.length) (hls:ls.length≤1000) (hz:t.length=1→fr.length=st.ss.length→∀ l∈ls,l=0) (w:Nat) :
  ∃ w',execL K 3 l3_2 (F3 t ls fr n [] H w)=(if t.length=1∧fr.length=st.ss.length then some (.normal,F3 t ls fr (n+1) [] H w') else some (.exit 4,F3 t ls fr n [(123,.d (.bool false))] H w')):=by
 have wn:wr .i64 ((n:Int)+1)=(n:Int)+1:=wrap_id (by omega) (by omega)
 have hlf:=lenAt fr
 have hlz:lenV (.d (szD st.ss))=some st.ss.length:=by cases st.ss<;>simp [szD]
 have cz:D.isCell (szD st.ss)=true:=by cases st.ss<;>rfl
 have h01:=(gS.1 h0).1
 have h02:=(gS.1 h0).2
 have hln:=List.getElem?_eq_getElem hn
 simp only [D.isCell] at cz
 simp only [lenV] at hlf hlz
 by_cases ht:t.length=1
 ·have ht':(t.length:Int)=1:=by omega
  by_cases hf:fr.length=st.ss.length
  ·have hl0:=hz ht hf _ (List.getElem_mem hn)
   have hf':(fr.length:Int)=st.ss.length:=by omega
   simp [F3,u3_2,x3_24,x3_25,x3_26,hn,hln,hl0,ht,hf,h0,h01,h02,encS,hlf,hlz,cz,wn]
  ·have hf':¬ ((fr.length:Int)=st.ss.length):=by omega
   simp [F3,u3_2,x3_24,x3_25,x3_26,hn,hln,ht,hf,hf',h0,h01,h02,encS,hlf,hlz,cz,wn]
 ·have ht':¬ ((t.length:Int)=1):=by omega
  simp [F3,u3_2,x3_24,x3_25,x3_26,hn,hln,ht,ht',h0,h01,h02,encS,hlf,hlz,cz,wn]
theorem ex3_2 {t:List Stp} {fr:List Int} (w:Nat):∃ w',execL K 3 l3_2 (F3 t ls fr ls.length [] H w)=some (.exit 4,F3 t ls fr ls.length [(123,.d (.bool false))] H w'):=by
 simp [F3,u3_2,x3_24]
theorem lp3_2 {t:List Stp} {st:Stp} {fr:List Int} (h0:t[0]?=some st) (h3:t.length≤3) (hls:ls.length≤1000) (hz:t.length=1→fr.length=st.ss.length→∀ l∈ls,l=0) :
  ∀ (k n w:Nat),n+k=ls.length→∃ n' w',execL K 3 (.loop l3_2) (F3 t ls fr n [] H w)=some (.exit 4,F3 t ls fr n' [(123,.d (.bool false))] H w')
 | 0,n,w,hk=>by
  have:n=ls.length:=by omega
  subst this
  obtain ⟨w',e⟩:=ex3_2 (ls:=ls) (H:=H) (t:=t) (fr:=fr) w
  exact ⟨_,w',by rw [execL_loop,e]; rfl⟩
 | k+1,n,w,hk=>by
  obtain ⟨w1,e1⟩:=rd3_2 (H:=H) (fr:=fr) (n:=n) h0 h3 (by omega) hls hz w
  by_cases hc:t.length=1∧fr.length=st.ss.length
  ·rw [if_pos hc] at e1
   obtain ⟨n2,w2,e2⟩:=lp3_2 h0 h3 hls hz k (n+1) w1 (by omega)
   refine ⟨n2,w2,?_⟩
   rw [execL_loop,e1]
   exact e2
  ·rw [if_neg hc] at e1
   refine ⟨n,w1,?_⟩
   rw [execL_loop,e1]; rfl
end
theorem s3 {v:V} {nums:List Int} (hv:IsInts v nums):∃ H w,callL K (.fn (.func 3) [] []) [v] none []=some (.ret (.d (.bool true)),false,H,w):=by
 obtain ⟨dv,rfl⟩:∃ dv,v=.d dv:=by rcases hv with rfl | ⟨rfl,_⟩<;>exact ⟨_,rfl⟩
 obtain ⟨st0,w0,e0⟩:=s12 (hp:=[]) hv
 obtain ⟨k1,st1,t,w1,e1,ht,ht2,_,_⟩:=s13 (hp:=[rodO (.d dv) 0 st0]) (l:=0) (k:=0) (st:=st0) (most:=2) hv (by simp) (by omega) (by omega) (by omega) (by omega)
 have h3:t.length≤3:=by omega
 simp only [List.set_cons_zero] at e1
 generalize hH1:[rodO (.d dv) k1 st1]=H1 at e1
 obtain ⟨H2,w2,ls,W,R,e14,hL⟩:=s14 ht h3 H1
 obtain ⟨w3,e15⟩:=s15 H2 ht h3
 have hI48:=allI_len ht h3
 have hf:∀ x∈allI 0 t,x.2.1.fr.length≤3:=by
  rintro ⟨k,s,p⟩ hx
  obtain ⟨_,hk,_⟩:=mem_allI.1 hx
  exact (ht.ok s (List.mem_of_getElem? hk)).few
 obtain ⟨st,hst⟩:∃ st,t[0]?=some st:=⟨_,List.getElem?_eq_getElem ht.pos⟩
 have hst1:=(gS.1 hst).1
 have hst2:=(gS.1 hst).2
 obtain ⟨H3,w4,fr,e17,hle,hall⟩:=s17 ht h3 hst (by omega) H2
 have hll:ls.length=(allI 0 t).length:=by rw [hL.len]; simp
 have hz:t.length=1→fr.length=st.ss.length→∀ l∈ls,l=0:=by
  intro h1 h2 l hl
  obtain ⟨m,hm⟩:=List.getElem?_of_mem hl
  have hml:=(gS.1 hm).1
  have hy:=List.getElem?_eq_getElem (l:=allI 0 t) (i:=m) (by omega)
  have ky:((allI 0 t).map krP)[m]?=some (krP (allI 0 t)[m]):=by rw [List.getElem?_map,hy]; rfl
  rcases (hL.lv m _ l ky hm).2 with h | ⟨n,xn,ln,hn,hxn,hln,hd,_⟩
  ·exact h
  ·rw [List.getElem?_map] at hxn
   obtain ⟨z,hz,rfl⟩:=Option.map_eq_some_iff.1 hxn
   have step:∀ q∈allI 0 t,q.1=0:=by
    rintro ⟨k,s,p⟩ hq
    obtain ⟨_,hk,_⟩:=mem_allI.1 hq
    have:=(gS.1 hk).1
    simp only at this ⊢; omega
   obtain ⟨kd,hkd,hdep⟩:=dep_kind hz hy hn (step _ (List.mem_of_getElem? hz)) (step _ (List.mem_of_getElem? hy)) hd
   exact absurd hdep (hall h2 kd hkd n m)
 have l1:∃ f:Nat→Nat,∀ w,execL K 3 (.loop l3_1) (S3 [.list 2 arrsD,.list 10 (t.map encS)] ls (allI 0 t) 0 [] H2 w)=some (.exit 0,S3 [.list 2 arrsD,.list 10 (t.map encS)] ls (allI 0 t) (allI 0 t).length [(37,.d (.bool false))] H2 (f w)) :=
  ⟨fun w=>(lp3_1 (c1:=[.list 2 arrsD,.list 10 (t.map encS)]) (H:=H2) hL (by omega) hf (allI 0 t).length 0 w (by omega)).choose,fun w=>(lp3_1 (c1:=[.list 2 arrsD,.list 10 (t.map encS)]) (H:=H2) hL (by omega) hf (allI 0 t).length 0 w (by omega)).choose_spec⟩
 have l2:∃ f g:Nat→Nat,∀ w,execL K 3 (.loop l3_2) (F3 t ls fr 0 [] H3 w)=some (.exit 4,F3 t ls fr (g w) [(123,.d (.bool false))] H3 (f w)) :=
  ⟨fun w=>(lp3_2 (H:=H3) hst h3 (by omega) hz ls.length 0 w (by omega)).choose_spec.choose,fun w=>(lp3_2 (H:=H3) hst h3 (by omega) hz ls.length 0 w (by omega)).choose,fun w=>(lp3_2 (H:=H3) hst h3 (by omega) hz ls.length 0 w (by omega)).choose_spec.choose_spec⟩
 obtain ⟨f1,l1⟩:=l1
 obtain ⟨f2,g2,l2⟩:=l2
 have z0:((0:Nat):Int)=0:=rfl
 have hlf:=lenAt fr
 have hlz:lenV (.d (szD st.ss))=some st.ss.length:=by cases st.ss<;>simp [szD]
 have cz:D.isCell (szD st.ss)=true:=by cases st.ss<;>rfl
 have hgt:¬ ((st.ss.length:Int) < fr.length):=by omega
 have hgt2:¬ (st.ss.length < fr.length):=by omega
 have e:=k3 [] [] [.d dv] none []
 simp only [S3,F3,z0,List.map_cons,List.map_nil,List.append_nil,List.cons_append,List.nil_append] at l1 l2
 simp only [D.isCell] at cz
 simp only [lenV] at hlf hlz
 rw [z0] at e17
 simp only [encT] at e1 e14 e15 e17
 simp only [tableD] at e15
 simp only [List.length_nil,List.nil_append] at e0
 generalize hM:(allI 0 t).map rowD=M at *
 have hML:M.length=ls.length:=by rw [← hM]; simp [hll]
 simp (maxSteps:=2000000) [c3,x3_0,x3_1,x3_2,x3_3,x3_4,x3_5,x3_7,x3_20,x3_21,x3_23,x3_28,e0,e1,e14,e15,e17,l1,l2,hML,hst,hst1,hst2,encS,cz,hlf,hlz,hgt,hgt2] at e
 exact ⟨_,_,e⟩
end Mw
