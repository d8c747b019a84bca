/- DependLevels answers true for every list of numbers: its tied card holds; no condition beyond the card's own. -/
import Derived.Test.YtdjnccgeajpegaaGreatDoorQi
import Derived.Test.YtdjnccgeajpegaaGreatDoorQh
set_option linter.unusedVariables false
set_option linter.unusedSimpArgs false
set_option maxRecDepth 10000
set_option maxHeartbeats 4000000
namespace Mw
open Go Go.Proofs
theorem seqN {f:Nat} {a b:Code} {s s':St} (h:execL K f a s=some (.normal,s')):execL K f (.seq a b) s=execL K f b s':=by rw [execL_seq,h]; rfl
theorem seqX {f:Nat} {a b:Code} {s s':St} {x:X} (h:execL K f a s=some (x,s')) (hx:x≠.normal):execL K f (.seq a b) s=some (x,s'):=by
 rw [execL_seq,h]; cases x<;>first | rfl | exact absurd rfl hx
theorem blkN {f id:Nat} {b:Code} {s s':St} (h:execL K f b s=some (.normal,s')):execL K f (.block id b) s=some (.normal,s'):=by rw [execL_block,h]; rfl
theorem blkE {f id:Nat} {b:Code} {s s':St} (h:execL K f b s=some (.exit id,s')):execL K f (.block id b) s=some (.normal,s'):=by rw [execL_block,h]; simp [outOf]
theorem cdT {f:Nat} {t:Operand} {a b:Code} {s:St} (h:evalV K s t=.d (.bool true)):execL K f (.cond t a b) s=execL K f a s:=by rw [execL_cond h]; rfl
theorem cdF {f:Nat} {t:Operand} {a b:Code} {s:St} (h:evalV K s t=.d (.bool false)):execL K f (.cond t a b) s=execL K f b s:=by rw [execL_cond h]; rfl
theorem skipN {f:Nat} {s:St}:execL K f .skip s=some (.normal,s):=by simp
theorem sortI_len (zs:List Int):(sortI zs).length=zs.length:=List.length_mergeSort _
theorem mem_sortI (z:Int) (zs:List Int):z∈sortI zs↔z∈zs:=List.mem_mergeSort
section
variable {Y b2 b3 b4 L n i b:Nat} {es:List (D × V)} {hs:HL} {H:List O} {x:Nat × Stp × List Int} {y g8 g11 g15:Nat} {o11 o15 ob:List (Nat × Nat × O)} {q8:O} {p8:V} {k:Nat × Int}
theorem a138_11 {v e32 e33 e34 e35:V} {zs:List Int} (hH:HadOk b hs H) (hm:MetOk b hs zs v H) (hz:zs.length≤1000) (w:Nat) :
  ∃ H' w',execL K 138 (rg 138 11) (G138 Y b2 b3 b4 L n i [(8,p8),(9,v)] [(32,e32),(33,e33),(34,e34),(35,e35)] ob es H w) =
   some (.normal,G138 Y b2 b3 b4 L n i [(8,p8),(9,v)] [] ob es H' w')∧HadOk b hs H'∧MetOk b hs (sortI zs) v H'∧Grw b H H':=by
 rcases hm with ⟨rfl,rfl⟩ | ⟨hne,l,hbl,hoff,rfl,hl⟩
 ·have hs0:sortI []=[]:=List.eq_nil_of_length_eq_zero (by rw [sortI_len]; rfl)
  suffices hh:∃ w',execL K 138 (rg 138 11) (G138 Y b2 b3 b4 L n i [(8,p8),(9,.d .nils)] [(32,e32),(33,e33),(34,e34),(35,e35)] ob es H w) =
   some (.normal,G138 Y b2 b3 b4 L n i [(8,p8),(9,.d .nils)] [] ob es H w') by
   obtain ⟨w',hh⟩:=hh
   exact ⟨H,w',hh,hH,.inl ⟨hs0,rfl⟩,Grw.refl _ _⟩
  have e:=s140e H
  simp [G138,x138_11,e]
 ·have hll:=(gS.1 hl).1
  have e:=s140 H l zs hll (gS.1 hl).2 hz
  suffices hh:∃ w',execL K 138 (rg 138 11) (G138 Y b2 b3 b4 L n i [(8,p8),(9,.sl (.heap l) 1 zs.length 0 zs.length)] [(32,e32),(33,e33),(34,e34),(35,e35)] ob es H w) =
   some (.normal,G138 Y b2 b3 b4 L n i [(8,p8),(9,.sl (.heap l) 1 zs.length 0 zs.length)] [] ob es (H.set l (.vec 1 (ints (sortI zs)) false true)) w') by
   obtain ⟨w',hh⟩:=hh
   refine ⟨_,w',hh,hH.off (fun _ _ _ _=>.inr trivial) (fun e he=>List.getElem?_set_ne (fun q=>hoff e he q.symm)),.inr ⟨?_,l,hbl,hoff,by rw [sortI_len],by simp [hll]⟩,Grw.set hbl _⟩
   intro h
   have:=sortI_len zs
   rw [h] at this
   exact hne (List.eq_nil_of_length_eq_zero this.symm)
  simp [G138,x138_11,e]
theorem atV_ne {cs:List Int} (h:cs≠[]):atV cs=.list 1 (ints cs):=by cases cs with
 | nil=>exact absurd rfl h
 | cons _ _=>rfl
theorem compI_ne {zs:List Int} (h:zs≠[]):compI zs≠[]:=by cases zs with
 | nil=>exact absurd rfl h
 | cons _ _=>simp [compI]
theorem a138_12 {v:V} {zs:List Int} (hH:HadOk b hs H) (hm:MetOk b hs zs v H) (hz:zs.length≤1000) (w:Nat) :
  ∃ H' w',execL K 138 (rg 138 12) (G138 Y b2 b3 b4 L n i [(8,p8),(9,v)] [] ob es H w) =
   some (.normal,G138 Y b2 b3 b4 L n i [(8,p8)] [(47,.d (atV (compI zs))),(48,.d (.int .i64 (compI zs).length)),(49,.d (.int .i64 0))] ob es H' w')∧HadOk b hs H'∧Grw b H H':=by
 rcases hm with ⟨rfl,rfl⟩ | ⟨hne,l,hbl,hoff,rfl,hl⟩
 ·have e:=k141 [] [] [.d .nils] none H
  simp [c141,x141_0,x141_1,x141_2] at e
  suffices hh:∃ w',execL K 138 (rg 138 12) (G138 Y b2 b3 b4 L n i [(8,p8),(9,.d .nils)] [] ob es H w) =
   some (.normal,G138 Y b2 b3 b4 L n i [(8,p8)] [(47,.d (atV (compI []))),(48,.d (.int .i64 (compI []).length)),(49,.d (.int .i64 0))] ob es H w') by
   obtain ⟨w',hh⟩:=hh
   exact ⟨H,w',hh,hH,Grw.refl _ _⟩
  simp [G138,x138_12,e,compI,atV]
 ·have hll:=(gS.1 hl).1
  obtain ⟨w1,z,e,hlen⟩:∃ w z,callL K (.fn (.func 141) [] []) [.sl (.heap l) 1 zs.length 0 zs.length] none H=some (.ret (.d (.list 1 (ints (compI zs)))),false,H.set l (.vec 1 (ints (compI zs++zrs z)) true true),w)∧True:=by
   obtain ⟨w,z,e⟩:=s141 hll hl hz hne
   exact ⟨w,z,e,trivial⟩
  rw [atV_ne (compI_ne hne)]
  suffices hh:∃ w',execL K 138 (rg 138 12) (G138 Y b2 b3 b4 L n i [(8,p8),(9,.sl (.heap l) 1 zs.length 0 zs.length)] [] ob es H w) =
   some (.normal,G138 Y b2 b3 b4 L n i [(8,p8)] [(47,.d (.list 1 (ints (compI zs)))),(48,.d (.int .i64 (compI zs).length)),(49,.d (.int .i64 0))] ob es (H.set l (.vec 1 (ints (compI zs++zrs z)) true true)) w') by
   obtain ⟨w',hh⟩:=hh
   exact ⟨_,w',hh,hH.off (fun _ _ _ _=>.inr trivial) (fun e he=>List.getElem?_set_ne (fun q=>hoff e he q.symm)),Grw.set hbl _⟩
  have hil:(ints (compI zs)).length=(compI zs).length:=by simp
  generalize hI:ints (compI zs)=I at *
  simp [G138,x138_12,e,hil]
theorem a138_13 {v:V} {j m:Nat} (w:Nat) :
  execL K 138 (rg 138 13) (G138 Y b2 b3 b4 L n i [(8,p8)] [(47,v),(48,.d (.int .i64 (m:Nat))),(49,.d (.int .i64 (j:Nat)))] ob es H w) =
   some (.normal,G138 Y b2 b3 b4 L n i [(8,p8)] [(47,v),(48,.d (.int .i64 (m:Nat))),(49,.d (.int .i64 (j:Nat))),(50,.d (.bool (decide (j < m))))] ob es H w):=by
 simp [G138,x138_13]
theorem a138_14 {cs:List Int} {c:Int} {j:Nat} {e48:V} (hc:cs[j]?=some c) (w:Nat) :
  ∃ w',execL K 138 (rg 138 14) (G138 Y b2 b3 b4 L n i [(8,p8)] [(47,.d (atV cs)),(48,e48),(49,.d (.int .i64 (j:Nat))),(50,.d (.bool true))] ob es H w) =
   some (.normal,G138 Y b2 b3 b4 L n i [(8,p8),(13,.d (.int .i64 c))] [(47,.d (atV cs)),(48,e48),(49,.d (.int .i64 (j:Nat)))] ob es H w'):=by
 have hlt:=(gS.1 hc).1
 have hc2:=(gS.1 hc).2
 have hne:cs≠[]:=by rintro rfl; simp at hlt
 rw [atV_ne hne]
 simp [G138,x138_14,hc,hc2,hlt]
theorem a138_15 {c:Int} {e47 e48 e49:V} {H':List O} {w1:Nat} (h11:O1 11 o11) (h15:O1 15 o15)
  (e:callL K (.fn (.yield Y) [] []) [.d (.agg [.int .i64 c,.int .i64 y])] none H=some (.ret (.d (.bool true)),false,H',w1)) (w:Nat) :
  ∃ w',execL K 138 (rg 138 15) (G138 Y b2 b3 b4 L n i [(8,.ptr (.slot 8 g8) 0),(13,.d (.int .i64 c))] [(47,e47),(48,e48),(49,e49)] ((8,g8,instO8 (instD y x)) :: (o11++o15)) es H w) =
   some (.normal,G138 Y b2 b3 b4 L n i [(8,.ptr (.slot 8 g8) 0)] [(47,e47),(48,e48),(49,e49),(59,.d (.bool false))] ((8,g8,instO8 (instD y x)) :: (o11++o15)) es H' w'):=by
 have ca:=cAt x.2.2
 simp only [D.isCell] at ca
 rcases h11 with rfl | ⟨g11,y11,rfl⟩
 all_goals rcases h15 with rfl | ⟨g14,y14,rfl⟩
 all_goals simp [G138,instO8,x138_15,instD,ca,e]
theorem a138_16 {e47 e48 e59:V} {j:Nat} (hj:j≤1000) (w:Nat) :
  execL K 138 (rg 138 16) (G138 Y b2 b3 b4 L n i [(8,p8)] [(47,e47),(48,e48),(49,.d (.int .i64 (j:Nat))),(59,e59)] ob es H w) =
   some (.normal,G138 Y b2 b3 b4 L n i [(8,p8)] [(47,e47),(48,e48),(49,.d (.int .i64 (j+1:Nat)))] ob es H w):=by
 have w1:wr .i64 ((j:Int)+1)=(j:Int)+1:=wrap_id (by omega) (by omega)
 simp [G138,x138_16,w1]
def DepK (kd s u:Nat) (I:List (Nat × Stp × List Int)) (n m:Nat):Prop :=
 ∃ x y,I[n]?=some x∧I[m]?=some y∧n < m∧x.1=s∧y.1=u∧∃ p,p∈befP kd x∧p∈aftP kd y
structure Pairing (Y b2 b3 b4 L b s u kd:Nat) (I:List (Nat × Stp × List Int)) (Inv:List (Nat × Nat)→List O→Prop):Prop where
 c2:∀ d H,Inv d H→∃ r,H[b2]?=some (.cells [.d (.int .i64 (u:Nat))] r)
 c3:∀ d H,Inv d H→∃ r,H[b3]?=some (.cells [.d (.int .i64 (kd:Nat))] r)
 c4:∀ d H,Inv d H→∃ r,H[b4]?=some (.cells [.d (.int .i64 (s:Nat))] r)
 cL:∀ d H,Inv d H→H[L]?=some (.vec 4 (encI 0 I) false true)
 le:∀ d H,Inv d H→b≤H.length
 mono:∀ d H H',Inv d H→Grw b H H'→Inv d H'
 go:∀ d H p,Inv d H→DepK kd s u I p.1 p.2→∃ H' w,callL K (.fn (.yield Y) [] []) [.d (.agg [.int .i64 (p.1:Nat),.int .i64 (p.2:Nat)])] none H=some (.ret (.d (.bool true)),false,H',w) ∧
  Inv (d++[p]) H'∧H.length≤H'.length∧∀ i,b≤i→i < H.length→H'[i]?=H[i]?
theorem lp138_1 {s u kd:Nat} {I:List (Nat × Stp × List Int)} {Inv:List (Nat × Nat)→List O→Prop} (R:Pairing Y b2 b3 b4 L b s u kd I Inv) {cs:List Int} (hcs:cs.length≤1000) (hc:∀ c∈cs,∃ q:Nat,c=q∧DepK kd s u I q y) (h11:O1 11 o11) (h15:O1 15 o15) :
  ∀ (m j:Nat) (t:List Int) (d:List (Nat × Nat)) (H:List O) (w:Nat),t.length=m→cs.drop j=t→j≤cs.length→HadOk b hs H→Inv d H →
   ∃ H' w',execL K 138 (.loop l138_1) (G138 Y b2 b3 b4 L n i [(8,.ptr (.slot 8 g8) 0)] [(47,.d (atV cs)),(48,.d (.int .i64 cs.length)),(49,.d (.int .i64 (j:Nat)))] ((8,g8,instO8 (instD y x)) :: (o11++o15)) es H w) =
    some (.exit 4,G138 Y b2 b3 b4 L n i [(8,.ptr (.slot 8 g8) 0)] [(47,.d (atV cs)),(48,.d (.int .i64 cs.length)),(49,.d (.int .i64 cs.length)),(50,.d (.bool false))] ((8,g8,instO8 (instD y x)) :: (o11++o15)) es H' w') ∧
    HadOk b hs H'∧Inv (d++t.map fun z=>(z.toNat,y)) H'
 | 0,j,t,d,H,w,hm,ht,hi,hH,hI=>by
  have ht0:t=[]:=List.eq_nil_of_length_eq_zero hm
  subst ht0
  have hie:j=cs.length:=by have:=List.drop_eq_nil_iff.1 ht; omega
  subst hie
  refine ⟨H,w,?_,hH,by simpa using hI⟩
  rw [execL_loop,u138_1,seqN (a138_13 w)]
  simp [G138]
 | m+1,j,t,d,H,w,hm,ht,hi,hH,hI=>by
  match t,hm,ht with
  | c :: r,hm,ht =>
   have hx:cs[j]?=some c:=by
    have:=congrArg List.head? ht; simpa [List.head?_drop] using this
   have hlt:=(gS.1 hx).1
   have hr:cs.drop (j+1)=r:=by
    have:=congrArg List.tail ht; simpa [List.tail_drop] using this
   obtain ⟨q,rfl,hd⟩:=hc c (List.mem_of_getElem? hx)
   have e13:=a138_13 (Y:=Y) (b2:=b2) (b3:=b3) (b4:=b4) (L:=L) (n:=n) (i:=i) (es:=es) (H:=H) (p8:=.ptr (.slot 8 g8) 0) (v:=.d (atV cs)) (j:=j) (m:=cs.length) (ob:=(8,g8,instO8 (instD y x)) :: (o11++o15)) w
   have hdt:decide (j < cs.length)=true:=by simpa using hlt
   rw [hdt] at e13
   obtain ⟨w1,e14⟩:=a138_14 (Y:=Y) (b2:=b2) (b3:=b3) (b4:=b4) (L:=L) (n:=n) (i:=i) (es:=es) (H:=H) (p8:=.ptr (.slot 8 g8) 0) (e48:=.d (.int .i64 cs.length)) (ob:=(8,g8,instO8 (instD y x)) :: (o11++o15)) hx w
   obtain ⟨H1,w2,e,hI1,hle,hk⟩:=R.go d H (q,y) hI hd
   obtain ⟨w3,e15⟩:=a138_15 (Y:=Y) (b2:=b2) (b3:=b3) (b4:=b4) (L:=L) (n:=n) (i:=i) (es:=es) (x:=x) (y:=y) (g8:=g8) (e47:=.d (atV cs)) (e48:=.d (.int .i64 cs.length)) (e49:=.d (.int .i64 (j:Nat))) h11 h15 e w1
   have e16:=a138_16 (Y:=Y) (b2:=b2) (b3:=b3) (b4:=b4) (L:=L) (n:=n) (i:=i) (es:=es) (H:=H1) (p8:=.ptr (.slot 8 g8) 0) (e47:=.d (atV cs)) (e48:=.d (.int .i64 cs.length)) (e59:=.d (.bool false)) (j:=j) (ob:=(8,g8,instO8 (instD y x)) :: (o11++o15)) (by omega) w3
   obtain ⟨H2,w4,e2,hH2,hI2⟩:=lp138_1 R hcs hc h11 h15 m (j+1) r (d++[(q,y)]) H1 w3 (by simpa using hm) hr (by omega) (hH.keep hk) hI1
   refine ⟨H2,w4,?_,hH2,by simpa using hI2⟩
   have er:execL K 138 l138_1 (G138 Y b2 b3 b4 L n i [(8,.ptr (.slot 8 g8) 0)] [(47,.d (atV cs)),(48,.d (.int .i64 cs.length)),(49,.d (.int .i64 (j:Nat)))] ((8,g8,instO8 (instD y x)) :: (o11++o15)) es H w) =
     some (.normal,G138 Y b2 b3 b4 L n i [(8,.ptr (.slot 8 g8) 0)] [(47,.d (atV cs)),(48,.d (.int .i64 cs.length)),(49,.d (.int .i64 (j+1:Nat)))] ((8,g8,instO8 (instD y x)) :: (o11++o15)) es H1 w3):=by
    rw [u138_1]
    refine (seqN e13).trans ?_
    refine (seqN ((cdT (by simp [G138])).trans skipN)).trans ?_
    refine (seqN (blkN ((seqN e14).trans ((seqN e15).trans ((cdF (by simp [G138])).trans skipN))))).trans ?_
    exact e16
   rw [execL_loop,er]
   exact e2
theorem a138_17a {s r4 e29} (h4:H[b4]?=some (.cells [.d (.int .i64 (s:Nat))] r4)) (h11:O1 11 o11) (h15:O1 15 o15) (w:Nat) :
  ∃ w',execL K 138 (rg 138 17) (G138 Y b2 b3 b4 L n i [(8,.ptr (.slot 8 g8) 0)] [(29,e29)] ((8,g8,instO8 (instD y x)) :: (o11++o15)) es H w) =
   some (.normal,G138 Y b2 b3 b4 L n i [(8,.ptr (.slot 8 g8) 0)] [(64,.d (.bool (!decide (x.1=s))))] ((8,g8,instO8 (instD y x)) :: (o11++o15)) es H w'):=by
 have ca:=cAt x.2.2
 simp only [D.isCell] at ca
 have hd:((x.1:Int)=(s:Int))↔x.1=s:=by omega
 rcases h11 with rfl | ⟨g11,y11,rfl⟩
 all_goals rcases h15 with rfl | ⟨g14,y14,rfl⟩
 all_goals simp [G138,instO8,x138_17,h4,instD,ca,hd]
theorem a138_17b {s r4 e1 e2 e3 e4} (h4:H[b4]?=some (.cells [.d (.int .i64 (s:Nat))] r4)) (h11:O1 11 o11) (h15:O1 15 o15) (w:Nat) :
  ∃ w',execL K 138 (rg 138 17) (G138 Y b2 b3 b4 L n i [(8,.ptr (.slot 8 g8) 0)] [(47,e1),(48,e2),(49,e3),(50,e4)] ((8,g8,instO8 (instD y x)) :: (o11++o15)) es H w) =
   some (.normal,G138 Y b2 b3 b4 L n i [(8,.ptr (.slot 8 g8) 0)] [(64,.d (.bool (!decide (x.1=s))))] ((8,g8,instO8 (instD y x)) :: (o11++o15)) es H w'):=by
 have ca:=cAt x.2.2
 simp only [D.isCell] at ca
 have hd:((x.1:Int)=(s:Int))↔x.1=s:=by omega
 rcases h11 with rfl | ⟨g11,y11,rfl⟩
 all_goals rcases h15 with rfl | ⟨g14,y14,rfl⟩
 all_goals simp [G138,instO8,x138_17,h4,instD,ca,hd]
theorem a138_18 {kd r3 e} (hk:kd=1∨kd=2∨kd=3) (h3:H[b3]?=some (.cells [.d (.int .i64 (kd:Nat))] r3)) (hf:x.2.1.fr.length≤3) (h11:O1 11 o11) (h15:O1 15 o15) (w:Nat) :
  ∃ w',execL K 138 (rg 138 18) (G138 Y b2 b3 b4 L n i [(8,.ptr (.slot 8 g8) 0)] [(64,e)] ((8,g8,instO8 (instD y x)) :: (o11++o15)) es H w) =
   some (.normal,G138 Y b2 b3 b4 L n i [(8,.ptr (.slot 8 g8) 0)] [(67,.d (plD (befP kd x))),(68,.d (.int .i64 (befP kd x).length)),(69,.d (.int .i64 0))] ((8,g8,instO8 (instD y x)) :: (o11++o15)) es H w'):=by
 obtain ⟨w1,e⟩:=s142k hk y x hf H
 have ca:=cAt x.2.2
 simp only [D.isCell] at ca
 have hl:lenV (V.d (plD (befP kd x)))=some (befP kd x).length:=by cases befP kd x<;>simp [plD]
 simp only [lenV] at hl
 simp only [instD] at e
 generalize befP kd x=A at *
 rcases h11 with rfl | ⟨g11,y11,rfl⟩
 all_goals rcases h15 with rfl | ⟨g14,y14,rfl⟩
 all_goals simp [G138,instO8,x138_18,h3,instD,ca,e,hl]
theorem a138_19 {v:V} {j m:Nat} (w:Nat) :
  execL K 138 (rg 138 19) (G138 Y b2 b3 b4 L n i [(8,p8)] [(67,v),(68,.d (.int .i64 (m:Nat))),(69,.d (.int .i64 (j:Nat)))] ob es H w) =
   some (.normal,G138 Y b2 b3 b4 L n i [(8,p8)] [(67,v),(68,.d (.int .i64 (m:Nat))),(69,.d (.int .i64 (j:Nat))),(70,.d (.bool (decide (j < m))))] ob es H w):=by
 simp [G138,x138_19]
theorem a138_20 {ps:List (Nat × Int)} {j:Nat} {e68:V} (hk:ps[j]?=some k) (h11:O1 11 o11) (h15:O1 15 o15) (w:Nat) :
  ∃ g15 w',execL K 138 (rg 138 20) (G138 Y b2 b3 b4 L n i [(8,p8)] [(67,.d (plD ps)),(68,e68),(69,.d (.int .i64 (j:Nat))),(70,.d (.bool true))] ((8,g8,q8) :: (o11++o15)) es H w) =
   some (.normal,G138 Y b2 b3 b4 L n i [(8,p8),(15,.ptr (.slot 15 g15) 0)] [(67,.d (plD ps)),(68,e68),(69,.d (.int .i64 (j:Nat)))] ((8,g8,q8) :: (o11++[(15,g15,keyO8 k)])) es H w'):=by
 have hlt:=(gS.1 hk).1
 have hk2:=(gS.1 hk).2
 have hp:plD ps=.list 2 (ps.map keyD):=by cases ps<;>simp_all [plD]
 rcases h11 with rfl | ⟨g11,y11,rfl⟩
 all_goals rcases h15 with rfl | ⟨g14,y14,rfl⟩
 all_goals simp [G138,keyO8,x138_20,hp,hk,hk2,hlt,keyD]
theorem a138_21 {e67 e68 e69:V} (hb:b≤H.length) (hH:HadOk b hs H) (hz:(getH hs k).length≤1000) (h11:O1 11 o11) (w:Nat) :
  ∃ hs' H' w',execL K 138 (rg 138 21) (G138 Y b2 b3 b4 L n i [(8,.ptr (.slot 8 g8) 0),(15,.ptr (.slot 15 g15) 0)] [(67,e67),(68,e68),(69,e69)] ((8,g8,instO8 (instD y x)) :: (o11++[(15,g15,keyO8 k)])) (mapH hs) H w) =
   some (.normal,G138 Y b2 b3 b4 L n i [(8,.ptr (.slot 8 g8) 0)] [(67,e67),(68,e68),(69,e69)] ((8,g8,instO8 (instD y x)) :: (o11++[(15,g15,keyO8 k)])) (mapH hs') H' w') ∧
   HadOk b hs' H'∧Grw b H H'∧∀ c,getH hs' c=if c=k then getH hs k++[(y:Int)] else getH hs c:=by
 have ca:=cAt x.2.2
 simp only [D.isCell] at ca
 rcases fndH k hs with ⟨hf,hg,h3⟩ | ⟨j,l,ns,hj,hf,hg,h3⟩
 ·rw [hg,List.nil_append]
  suffices hh:∃ w',execL K 138 (rg 138 21) (G138 Y b2 b3 b4 L n i [(8,.ptr (.slot 8 g8) 0),(15,.ptr (.slot 15 g15) 0)] [(67,e67),(68,e68),(69,e69)] ((8,g8,instO8 (instD y x)) :: (o11++[(15,g15,keyO8 k)])) (mapH hs) H w) =
   some (.normal,G138 Y b2 b3 b4 L n i [(8,.ptr (.slot 8 g8) 0)] [(67,e67),(68,e68),(69,e69)] ((8,g8,instO8 (instD y x)) :: (o11++[(15,g15,keyO8 k)])) (mapH (hs++[(k,(H.length,[(y:Int)]))])) (H++[.vec 1 (ints [(y:Int)]) false true]) w') by
   obtain ⟨w',hh⟩:=hh
   exact ⟨_,_,w',hh,hH.new hb k y,Grw.new hb _,h3 _ _⟩
  have hmp:mapH (hs++[(k,(H.length,[(y:Int)]))])=mapH hs++[(keyD k,.sl (.heap H.length) 1 1 0 1)]:=by simp [mapH]
  have hst:∀ v v':V,(mapH hs++[(keyD k,v)]).set (mapH hs).length (keyD k,v')=mapH hs++[(keyD k,v')]:=fun v v'=>by simp
  rw [hmp]
  generalize mapH hs=M at *
  simp only [keyD] at hf hst ⊢
  rcases h11 with rfl | ⟨g11,y11,rfl⟩
  all_goals simp [G138,instO8,keyO8,instD,ca,x138_21,hf,hst,guard110]
 ·obtain ⟨hbl,hl,hne⟩:=hH.at' _ (List.mem_of_getElem? hj)
  simp only at hbl hl hne
  rw [hg] at hz ⊢
  have hll:=(gS.1 hl).1
  have hjl:=(gS.1 hj).1
  suffices hh:∃ w',execL K 138 (rg 138 21) (G138 Y b2 b3 b4 L n i [(8,.ptr (.slot 8 g8) 0),(15,.ptr (.slot 15 g15) 0)] [(67,e67),(68,e68),(69,e69)] ((8,g8,instO8 (instD y x)) :: (o11++[(15,g15,keyO8 k)])) (mapH hs) H w) =
   some (.normal,G138 Y b2 b3 b4 L n i [(8,.ptr (.slot 8 g8) 0)] [(67,e67),(68,e68),(69,e69)] ((8,g8,instO8 (instD y x)) :: (o11++[(15,g15,keyO8 k)])) (mapH (hs.set j (k,(l,ns++[(y:Int)])))) (H.set l (.vec 1 (ints (ns++[(y:Int)])) false true)) w') by
   obtain ⟨w',hh⟩:=hh
   exact ⟨_,_,w',hh,hH.old hj y,Grw.set hbl _,h3 _⟩
  have hmp:=mapH_old (hs:=hs) (j:=j) (l:=l) (k:=k) (ns:=ns) (ns':=ns++[(y:Int)]) (ns.length+1) (by simp)
  have hml:j < (mapH hs).length:=by simpa [mapH] using hjl
  have hln:ns.length+1≤4294967296:=by omega
  have hln8:(ns.length+1) * 8≤4294967296:=by omega
  have hin:(ints ns).length=ns.length:=by simp
  have hap:ints (ns++[(y:Int)])=ints ns++[.int .i64 y]:=by simp [ints]
  rw [← hmp,hap]
  generalize mapH hs=M at *
  generalize hI:ints ns=N at *
  simp only [keyD] at hf ⊢
  rcases h11 with rfl | ⟨g11,y11,rfl⟩
  all_goals simp [G138,instO8,keyO8,instD,ca,x138_21,hf,hl,hml,hin,hln,hln8,guard110,List.set_set]
theorem a138_22 {e67 e68:V} {j:Nat} (hj:j≤1000) (w:Nat) :
  execL K 138 (rg 138 22) (G138 Y b2 b3 b4 L n i [(8,p8)] [(67,e67),(68,e68),(69,.d (.int .i64 (j:Nat)))] ob es H w) =
   some (.normal,G138 Y b2 b3 b4 L n i [(8,p8)] [(67,e67),(68,e68),(69,.d (.int .i64 (j+1:Nat)))] ob es H w):=by
 have w1:wr .i64 ((j:Int)+1)=(j:Int)+1:=wrap_id (by omega) (by omega)
 simp [G138,x138_22,w1]
theorem lp138_2 {ps:List (Nat × Int)} (hps:ps.length≤100) (h11:O1 11 o11) :
  ∀ (m j:Nat) (t:List (Nat × Int)) (hs:HL) (o15:List (Nat × Nat × O)) (H:List O) (w:Nat),t.length=m→ps.drop j=t→j≤ps.length→O1 15 o15→b≤H.length→HadOk b hs H→(∀ c,(getH hs c).length+t.length≤1000) →
   ∃ hs' o15' H' w',execL K 138 (.loop l138_2) (G138 Y b2 b3 b4 L n i [(8,.ptr (.slot 8 g8) 0)] [(67,.d (plD ps)),(68,.d (.int .i64 ps.length)),(69,.d (.int .i64 (j:Nat)))] ((8,g8,instO8 (instD y x)) :: (o11++o15)) (mapH hs) H w) =
    some (.exit 6,G138 Y b2 b3 b4 L n i [(8,.ptr (.slot 8 g8) 0)] [(67,.d (plD ps)),(68,.d (.int .i64 ps.length)),(69,.d (.int .i64 ps.length)),(70,.d (.bool false))] ((8,g8,instO8 (instD y x)) :: (o11++o15')) (mapH hs') H' w') ∧
    O1 15 o15'∧HadOk b hs' H'∧Grw b H H'∧(∀ c z,z∈getH hs' c↔z∈getH hs c∨(z=(y:Int)∧c∈t))∧∀ c,(getH hs' c).length≤(getH hs c).length+t.length
 | 0,j,t,hs,o15,H,w,hm,ht,hi,ho,hb,hH,hz=>by
  have ht0:t=[]:=List.eq_nil_of_length_eq_zero hm
  subst ht0
  have hie:j=ps.length:=by have:=List.drop_eq_nil_iff.1 ht; omega
  subst hie
  refine ⟨hs,o15,H,w,?_,ho,hH,Grw.refl _ _,by simp,by simp⟩
  rw [execL_loop,u138_2,seqN (a138_19 w)]
  simp [G138]
 | m+1,j,t,hs,o15,H,w,hm,ht,hi,ho,hb,hH,hz=>by
  match t,hm,ht,hz with
  | k :: r,hm,ht,hz =>
   have hx:ps[j]?=some k:=by
    have:=congrArg List.head? ht; simpa [List.head?_drop] using this
   have hlt:=(gS.1 hx).1
   have hr:ps.drop (j+1)=r:=by
    have:=congrArg List.tail ht; simpa [List.tail_drop] using this
   have e19:=a138_19 (Y:=Y) (b2:=b2) (b3:=b3) (b4:=b4) (L:=L) (n:=n) (i:=i) (es:=mapH hs) (H:=H) (p8:=.ptr (.slot 8 g8) 0) (v:=.d (plD ps)) (j:=j) (m:=ps.length) (ob:=(8,g8,instO8 (instD y x)) :: (o11++o15)) w
   have hdt:decide (j < ps.length)=true:=by simpa using hlt
   rw [hdt] at e19
   obtain ⟨g15,w1,e20⟩:=a138_20 (Y:=Y) (b2:=b2) (b3:=b3) (b4:=b4) (L:=L) (n:=n) (i:=i) (es:=mapH hs) (H:=H) (p8:=.ptr (.slot 8 g8) 0) (g8:=g8) (q8:=instO8 (instD y x)) (e68:=.d (.int .i64 ps.length)) hx h11 ho w
   have hz0:=hz k
   simp only [List.length_cons] at hz0 hz
   obtain ⟨hs1,H1,w2,e21,hH1,hG1,hc1⟩:=a138_21 (Y:=Y) (b2:=b2) (b3:=b3) (b4:=b4) (L:=L) (n:=n) (i:=i) (x:=x) (y:=y) (g8:=g8) (g15:=g15) (k:=k) (e67:=.d (plD ps)) (e68:=.d (.int .i64 ps.length)) (e69:=.d (.int .i64 (j:Nat))) hb hH (by omega) h11 w1
   have e22:=a138_22 (Y:=Y) (b2:=b2) (b3:=b3) (b4:=b4) (L:=L) (n:=n) (i:=i) (es:=mapH hs1) (H:=H1) (p8:=.ptr (.slot 8 g8) 0) (e67:=.d (plD ps)) (e68:=.d (.int .i64 ps.length)) (j:=j) (ob:=(8,g8,instO8 (instD y x)) :: (o11++[(15,g15,keyO8 k)])) (by omega) w2
   have hl1:∀ c,(getH hs1 c).length≤(getH hs c).length+1:=fun c=>by
    rw [hc1]; split
    ·rename_i e; subst e; simp
    ·omega
   obtain ⟨hs2,o2,H2,w3,e2,ho2,hH2,hG2,hc2,hl2⟩:=lp138_2 hps h11 m (j+1) r hs1 [(15,g15,keyO8 k)] H1 w2 (by simpa using hm) hr (by omega) (.inr ⟨_,_,rfl⟩) (by have:=hG1.1; omega) hH1 (fun c=>by have:=hl1 c; have:=hz c; omega)
   refine ⟨hs2,o2,H2,w3,?_,ho2,hH2,hG1.trans hG2,fun c z=>?_,fun c=>?_⟩
   ·have er:execL K 138 l138_2 (G138 Y b2 b3 b4 L n i [(8,.ptr (.slot 8 g8) 0)] [(67,.d (plD ps)),(68,.d (.int .i64 ps.length)),(69,.d (.int .i64 (j:Nat)))] ((8,g8,instO8 (instD y x)) :: (o11++o15)) (mapH hs) H w) =
      some (.normal,G138 Y b2 b3 b4 L n i [(8,.ptr (.slot 8 g8) 0)] [(67,.d (plD ps)),(68,.d (.int .i64 ps.length)),(69,.d (.int .i64 (j+1:Nat)))] ((8,g8,instO8 (instD y x)) :: (o11++[(15,g15,keyO8 k)])) (mapH hs1) H1 w2):=by
     rw [u138_2]
     refine (seqN e19).trans ?_
     refine (seqN ((cdT (by simp [G138])).trans skipN)).trans ?_
     refine (seqN (blkN ((seqN e20).trans e21))).trans ?_
     exact e22
    rw [execL_loop,er]
    exact e2
   ·rw [hc2,hc1]
    by_cases hck:c=k
    ·subst hck
     simp only [if_true,List.mem_append,List.mem_cons,List.not_mem_nil,or_false,true_or,and_true]
     constructor
     ·rintro ((h | h) | h)
      ·exact .inl h
      ·exact .inr h
      ·exact .inr h.1
     ·rintro (h | h)
      ·exact .inl (.inl h)
      ·exact .inl (.inr h)
    ·simp [hck]
   ·have:=hl2 c; have:=hl1 c; simp only [List.length_cons]; omega
end
def HadSpec (s kd:Nat) (I:List (Nat × Stp × List Int)) (i:Nat) (hs:HL):Prop :=
 (∀ c z,z∈getH hs c↔∃ (j:Nat) (x:Nat × Stp × List Int),z=(j:Int)∧j < i∧I[j]?=some x∧x.1=s∧c∈befP kd x)∧∀ c,(getH hs c).length≤3 * i
theorem flatB_len {α β:Type} {f:α→List β} {B:Nat}:∀ (l:List α),(∀ c,(f c).length≤B)→(l.flatMap f).length≤l.length * B
 | [],_=>by simp
 | a :: l,h=>by
  have:=flatB_len l h
  have:=h a
  simp only [List.flatMap_cons,List.length_append,List.length_cons,Nat.succ_mul]; omega
theorem compI_len (zs:List Int):(compI zs).length≤zs.length:=by
 cases zs with
 | nil=>simp [compI]
 | cons x r=>have:=cmp1_len x r; simp [compI]; omega
section
variable {Y b2 b3 b4 L n i b s u kd:Nat} {hs:HL} {H:List O} {x:Nat × Stp × List Int} {o8 o11 o15 ob:List (Nat × Nat × O)} {p8:V} {es:List (D × V)} {I:List (Nat × Stp × List Int)} {Inv:List (Nat × Nat)→List O→Prop}
theorem a138_2 (w:Nat) :
  execL K 138 (rg 138 2) (G138 Y b2 b3 b4 L n i [] [] ob es H w)=some (.normal,G138 Y b2 b3 b4 L n i [] [(23,.d (.bool (decide (i < n))))] ob es H w):=by
 simp [G138,x138_2]
theorem a138_23a {e:V} (hi:i≤1000) (w:Nat) :
  execL K 138 (rg 138 23) (G138 Y b2 b3 b4 L n i [(8,p8)] [(64,e)] ob es H w)=some (.normal,G138 Y b2 b3 b4 L n (i+1) [] [] ob es H w):=by
 have w1:wr .i64 ((i:Int)+1)=(i:Int)+1:=wrap_id (by omega) (by omega)
 simp [G138,x138_23,w1]
theorem a138_23b {e1 e2 e3 e4:V} (hi:i≤1000) (w:Nat) :
  execL K 138 (rg 138 23) (G138 Y b2 b3 b4 L n i [(8,p8)] [(67,e1),(68,e2),(69,e3),(70,e4)] ob es H w)=some (.normal,G138 Y b2 b3 b4 L n (i+1) [] [] ob es H w):=by
 have w1:wr .i64 ((i:Int)+1)=(i:Int)+1:=wrap_id (by omega) (by omega)
 simp [G138,x138_23,w1]
theorem exitX {f id:Nat} {s:St}:execL K f (.exit id) s=some (.exit id,s):=by simp
theorem h138 (R:Pairing Y b2 b3 b4 L b s u kd I Inv) (hkd:kd=1∨kd=2∨kd=3) (hf:∀ x∈I,x.2.1.fr.length≤3) (hn:I.length≤100) (hx:I[i]?=some x) {d:List (Nat × Nat)} (hI:Inv d H) (hH:HadOk b hs H) (hS:HadSpec s kd I i hs)
  (h11:O1 11 o11) (h15:O1 15 o15) {g8:Nat} (w:Nat) :
  ∃ tl o11' H' w' ps,((∃ e,tl=[(29,e)])∨∃ e1 e2 e3 e4,tl=[(47,e1),(48,e2),(49,e3),(50,e4)])∧O1 11 o11'∧HadOk b hs H'∧Inv (d++ps) H'∧(∀ a c,(a,c)∈ps↔c=i∧DepK kd s u I a c) ∧
   ∀ c:Code,execL K 138 (.seq (.seq (rg 138 4) (.cond (.tmp 29) (.seq (rg 138 5) (.seq (.seq (rg 138 6) (.block 2 (.loop l138_0))) (.seq (rg 138 11) (.seq (rg 138 12) (.block 4 (.loop l138_1)))))) .skip)) c)
     (G138 Y b2 b3 b4 L n i [(8,.ptr (.slot 8 g8) 0)] [] ((8,g8,instO8 (instD i x)) :: (o11++o15)) (mapH hs) H w) =
    execL K 138 c (G138 Y b2 b3 b4 L n i [(8,.ptr (.slot 8 g8) 0)] tl ((8,g8,instO8 (instD i x)) :: (o11'++o15)) (mapH hs) H' w'):=by
 obtain ⟨r2,c2⟩:=R.c2 d H hI
 obtain ⟨r3,c3⟩:=R.c3 d H hI
 have hb:=R.le d H hI
 have hfx:=hf x (List.mem_of_getElem? hx)
 have hil:=(gS.1 hx).1
 obtain ⟨w1,e4⟩:=a138_4 (Y:=Y) (b3:=b3) (b4:=b4) (L:=L) (n:=n) (i:=i) (es:=mapH hs) (x:=x) (y:=i) (g8:=g8) c2 h11 h15 w
 by_cases hu:x.1=u
 ·rw [decide_eq_true hu] at e4
  have e5:=a138_5 (Y:=Y) (b2:=b2) (b3:=b3) (b4:=b4) (L:=L) (n:=n) (i:=i) (es:=mapH hs) (H:=H) (p8:=.ptr (.slot 8 g8) 0) (e:=.d (.bool true)) ((8,g8,instO8 (instD i x)) :: (o11++o15)) w1
  obtain ⟨w2,e6⟩:=a138_6 (Y:=Y) (b2:=b2) (b4:=b4) (L:=L) (n:=n) (i:=i) (es:=mapH hs) (x:=x) (y:=i) (g8:=g8) hkd c3 hfx h11 h15 w1
  have hal:=aftP_len kd x hfx
  have hfl:=flatB_len (f:=getH hs) (aftP kd x) hS.2
  have hfl2:((aftP kd x).flatMap (getH hs)).length≤900:=by
   refine Nat.le_trans hfl (Nat.le_trans (Nat.mul_le_mul hal (Nat.mul_le_mul_left 3 (by omega:i≤100))) (by omega))
  obtain ⟨v1,o11',H1,w3,e0,h11',hH1,hM1,hG1⟩:=lp138_0 (Y:=Y) (b2:=b2) (b3:=b3) (b4:=b4) (L:=L) (n:=n) (i:=i) (b:=b) (hs:=hs) (p8:=.ptr (.slot 8 g8) 0) (g8:=g8) (q8:=instO8 (instD i x)) (ps:=aftP kd x) (by omega) h15 (aftP kd x).length 0 (aftP kd x) (.d .nils) [] o11 H w2 rfl (by simp) (by omega) h11 hb hH (.inl ⟨rfl,rfl⟩) (by simp only [List.length_nil]; omega)
  rw [List.nil_append] at hM1
  obtain ⟨H2,w4,e11,hH2,hM2,hG2⟩:=a138_11 (Y:=Y) (b2:=b2) (b3:=b3) (b4:=b4) (L:=L) (n:=n) (i:=i) (b:=b) (es:=mapH hs) (p8:=.ptr (.slot 8 g8) 0) (ob:=(8,g8,instO8 (instD i x)) :: (o11'++o15)) (e32:=.d (plD (aftP kd x))) (e33:=.d (.int .i64 (aftP kd x).length)) (e34:=.d (.int .i64 (aftP kd x).length)) (e35:=.d (.bool false)) hH1 hM1 (by omega) w3
  have hsl:=sortI_len ((aftP kd x).flatMap (getH hs))
  obtain ⟨H3,w5,e12,hH3,hG3⟩:=a138_12 (Y:=Y) (b2:=b2) (b3:=b3) (b4:=b4) (L:=L) (n:=n) (i:=i) (b:=b) (es:=mapH hs) (p8:=.ptr (.slot 8 g8) 0) (ob:=(8,g8,instO8 (instD i x)) :: (o11'++o15)) hH2 hM2 (by omega) w4
  have hI3:=R.mono _ _ _ hI (hG1.trans (hG2.trans hG3))
  have hcl:=compI_len (sortI ((aftP kd x).flatMap (getH hs)))
  have hmem:∀ z,z∈compI (sortI ((aftP kd x).flatMap (getH hs)))↔∃ a:Nat,z=a∧DepK kd s u I a i:=fun z=>by
   rw [mem_compI,mem_sortI,List.mem_flatMap]
   constructor
   ·rintro ⟨p,hp,hz⟩
    obtain ⟨j,xj,rfl,hj,hjx,hjs,hb⟩:=(hS.1 p z).1 hz
    exact ⟨j,rfl,xj,x,hjx,hx,hj,hjs,hu,p,hb,hp⟩
   ·rintro ⟨a,rfl,xa,xi,h1,h2,h3,h4,h5,p,h6,h7⟩
    rw [hx] at h2; cases h2
    exact ⟨p,h7,(hS.1 p _).2 ⟨a,xa,rfl,h3,h1,h4,h6⟩⟩
  obtain ⟨H4,w6,e1,hH4,hI4⟩:=lp138_1 (n:=n) (i:=i) (es:=mapH hs) (hs:=hs) (x:=x) (y:=i) (g8:=g8) R (cs:=compI (sortI ((aftP kd x).flatMap (getH hs)))) (by omega) (fun c hc=>(hmem c).1 hc) h11' h15 (compI (sortI ((aftP kd x).flatMap (getH hs)))).length 0 _ d H3 w5 rfl (by simp) (by omega) hH3 hI3
  refine ⟨[(47,.d (atV (compI (sortI ((aftP kd x).flatMap (getH hs)))))),(48,.d (.int .i64 (compI (sortI ((aftP kd x).flatMap (getH hs)))).length)),(49,.d (.int .i64 (compI (sortI ((aftP kd x).flatMap (getH hs)))).length)),(50,.d (.bool false))],o11',H4,w6,_,.inr ⟨_,_,_,_,rfl⟩,h11',hH4,hI4,fun a c=>?_,fun c=>?_⟩
  ·simp only [List.mem_map,Prod.mk.injEq]
   constructor
   ·rintro ⟨z,hz,rfl,rfl⟩
    obtain ⟨a,rfl,h⟩:=(hmem z).1 hz
    exact ⟨rfl,by simpa using h⟩
   ·rintro ⟨rfl,h⟩
    exact ⟨(a:Int),(hmem _).2 ⟨a,rfl,h⟩,by simp,rfl⟩
  ·refine seqN ?_
   refine (seqN e4).trans ?_
   refine (cdT (by simp [G138])).trans ?_
   refine (seqN e5).trans ?_
   refine (seqN ((seqN e6).trans (blkE e0))).trans ?_
   refine (seqN e11).trans ?_
   refine (seqN e12).trans ?_
   exact blkE e1
 ·rw [decide_eq_false hu] at e4
  refine ⟨[(29,.d (.bool false))],o11,H,w1,[],.inl ⟨_,rfl⟩,h11,hH,by simpa using hI,fun a c=>?_,fun c=>?_⟩
  ·simp only [List.not_mem_nil,false_iff]
   rintro ⟨rfl,xa,xi,h1,h2,h3,h4,h5,_⟩
   rw [hx] at h2; cases h2
   exact hu h5
  ·refine seqN ?_
   refine (seqN e4).trans ?_
   exact (cdF (by simp [G138])).trans skipN
theorem rd138 (R:Pairing Y b2 b3 b4 L b s u kd I Inv) (hkd:kd=1∨kd=2∨kd=3) (hf:∀ x∈I,x.2.1.fr.length≤3) (hn:I.length≤100) (hx:I[i]?=some x) {d:List (Nat × Nat)} (hI:Inv d H) (hH:HadOk b hs H) (hS:HadSpec s kd I i hs)
  (h8:O1 8 o8) (h11:O1 11 o11) (h15:O1 15 o15) (w:Nat) :
  ∃ o8' o11' o15' hs' H' w' ps,execL K 138 l138_3 (G138 Y b2 b3 b4 L I.length i [] [] (o8++(o11++o15)) (mapH hs) H w)=some (.normal,G138 Y b2 b3 b4 L I.length (i+1) [] [] (o8'++(o11'++o15')) (mapH hs') H' w') ∧
   O1 8 o8'∧O1 11 o11'∧O1 15 o15'∧HadOk b hs' H'∧HadSpec s kd I (i+1) hs'∧Inv (d++ps) H'∧∀ a c,(a,c)∈ps↔c=i∧DepK kd s u I a c:=by
 have hil:=(gS.1 hx).1
 have hfx:=hf x (List.mem_of_getElem? hx)
 have e2:=a138_2 (Y:=Y) (b2:=b2) (b3:=b3) (b4:=b4) (L:=L) (n:=I.length) (i:=i) (ob:=o8++(o11++o15)) (es:=mapH hs) (H:=H) w
 rw [decide_eq_true hil] at e2
 have hEi:(encI 0 I)[i]?=some (instD i x):=by have:=encI_at (n:=0) hx; rwa [Nat.zero_add] at this
 obtain ⟨g8,w1,e3⟩:=a138_3 (Y:=Y) (b2:=b2) (b3:=b3) (b4:=b4) (es:=mapH hs) (R.cL d H hI) hEi (encI_len 0 I) (by omega) h8 h11 h15 w
 obtain ⟨tl,o11',H1,w2,ps,htl,h11',hH1,hI1,hps,eh⟩:=h138 (n:=I.length) (g8:=g8) R hkd hf hn hx hI hH hS h11 h15 w1
 obtain ⟨r4,c4⟩:=R.c4 _ _ hI1
 obtain ⟨r3,c3⟩:=R.c3 _ _ hI1
 have hb1:=R.le _ _ hI1
 have e17:∃ w',execL K 138 (rg 138 17) (G138 Y b2 b3 b4 L I.length i [(8,.ptr (.slot 8 g8) 0)] tl ((8,g8,instO8 (instD i x)) :: (o11'++o15)) (mapH hs) H1 w2) =
   some (.normal,G138 Y b2 b3 b4 L I.length i [(8,.ptr (.slot 8 g8) 0)] [(64,.d (.bool (!decide (x.1=s))))] ((8,g8,instO8 (instD i x)) :: (o11'++o15)) (mapH hs) H1 w'):=by
  rcases htl with ⟨e,rfl⟩ | ⟨e1,e2,e3,e4,rfl⟩
  ·exact a138_17a c4 h11' h15 w2
  ·exact a138_17b c4 h11' h15 w2
 obtain ⟨w3,e17⟩:=e17
 by_cases hs':x.1=s
 ·rw [decide_eq_true hs'] at e17
  obtain ⟨w4,e18⟩:=a138_18 (Y:=Y) (b2:=b2) (b4:=b4) (L:=L) (n:=I.length) (i:=i) (es:=mapH hs) (x:=x) (y:=i) (g8:=g8) (e:=.d (.bool (!true))) hkd c3 hfx h11' h15 w3
  have hbl:=befP_len kd x hfx
  obtain ⟨hs2,o15',H2,w5,e0,h15',hH2,hG2,hc2,hl2⟩:=lp138_2 (Y:=Y) (b2:=b2) (b3:=b3) (b4:=b4) (L:=L) (n:=I.length) (i:=i) (b:=b) (x:=x) (y:=i) (g8:=g8) (ps:=befP kd x) (by omega) h11' (befP kd x).length 0 (befP kd x) hs o15 H1 w4 rfl (by simp) (by omega) h15 hb1 hH1 (fun c=>by have:=hS.2 c; omega)
  have e23:=a138_23b (Y:=Y) (b2:=b2) (b3:=b3) (b4:=b4) (L:=L) (n:=I.length) (i:=i) (es:=mapH hs2) (H:=H2) (p8:=.ptr (.slot 8 g8) 0) (ob:=(8,g8,instO8 (instD i x)) :: (o11'++o15')) (e1:=.d (plD (befP kd x))) (e2:=.d (.int .i64 (befP kd x).length)) (e3:=.d (.int .i64 (befP kd x).length)) (e4:=.d (.bool false)) (by omega) w5
  refine ⟨[(8,g8,instO8 (instD i x))],o11',o15',hs2,H2,w5,ps,?_,.inr ⟨_,_,rfl⟩,h11',h15',hH2,⟨fun c z=>?_,fun c=>?_⟩,R.mono _ _ _ hI1 hG2,hps⟩
  ·rw [u138_3]
   refine (seqN e2).trans ?_
   refine (seqN ((cdT (by simp [G138])).trans skipN)).trans ?_
   refine (seqN (blkN ((seqN e3).trans ((eh _).trans ((seqN ((seqN e17).trans ((cdF (by simp [G138])).trans skipN))).trans ((seqN e18).trans (blkE e0))))))).trans ?_
   exact e23
  ·rw [hc2,hS.1]
   constructor
   ·rintro (⟨j,xj,h1,h2,h3⟩ | ⟨h1,h2⟩)
    ·exact ⟨j,xj,h1,by omega,h3⟩
    ·exact ⟨i,x,h1,by omega,hx,hs',h2⟩
   ·rintro ⟨j,xj,h1,h2,h3,h4,h5⟩
    by_cases hji:j=i
    ·subst hji
     rw [hx] at h3; cases h3
     exact .inr ⟨h1,h5⟩
    ·exact .inl ⟨j,xj,h1,by omega,h3,h4,h5⟩
  ·have:=hl2 c; have:=hS.2 c; omega
 ·rw [decide_eq_false hs'] at e17
  have e23:=a138_23a (Y:=Y) (b2:=b2) (b3:=b3) (b4:=b4) (L:=L) (n:=I.length) (i:=i) (es:=mapH hs) (H:=H1) (p8:=.ptr (.slot 8 g8) 0) (ob:=(8,g8,instO8 (instD i x)) :: (o11'++o15)) (e:=.d (.bool (!false))) (by omega) w3
  refine ⟨[(8,g8,instO8 (instD i x))],o11',o15,hs,H1,w3,ps,?_,.inr ⟨_,_,rfl⟩,h11',h15,hH1,⟨fun c z=>?_,fun c=>?_⟩,hI1,hps⟩
  ·rw [u138_3]
   refine (seqN e2).trans ?_
   refine (seqN ((cdT (by simp [G138])).trans skipN)).trans ?_
   refine (seqN (blkE ((seqN e3).trans ((eh _).trans (seqX ((seqN e17).trans ((cdT (by simp [G138])).trans exitX)) (by simp)))))).trans ?_
   exact e23
  ·rw [hS.1]
   constructor
   ·rintro ⟨j,xj,h1,h2,h3⟩
    exact ⟨j,xj,h1,by omega,h3⟩
   ·rintro ⟨j,xj,h1,h2,h3,h4,h5⟩
    by_cases hji:j=i
    ·subst hji
     rw [hx] at h3; cases h3
     exact absurd h4 hs'
    ·exact ⟨j,xj,h1,by omega,h3,h4,h5⟩
  ·have:=hS.2 c; omega
theorem lp138_3 (R:Pairing Y b2 b3 b4 L b s u kd I Inv) (hkd:kd=1∨kd=2∨kd=3) (hf:∀ x∈I,x.2.1.fr.length≤3) (hn:I.length≤100) :
  ∀ (m i:Nat) (tt:List (Nat × Stp × List Int)) (d:List (Nat × Nat)) (hs:HL) (o8 o11 o15:List (Nat × Nat × O)) (H:List O) (w:Nat),tt.length=m→I.drop i=tt→i≤I.length→Inv d H→HadOk b hs H→HadSpec s kd I i hs→O1 8 o8→O1 11 o11→O1 15 o15 →
   ∃ ob' es' H' w' ps,execL K 138 (.loop l138_3) (G138 Y b2 b3 b4 L I.length i [] [] (o8++(o11++o15)) (mapH hs) H w)=some (.exit 0,G138 Y b2 b3 b4 L I.length I.length [] [(23,.d (.bool false))] ob' es' H' w') ∧
    Inv (d++ps) H'∧∀ a c,(a,c)∈ps↔i≤c∧DepK kd s u I a c
 | 0,i,tt,d,hs,o8,o11,o15,H,w,hm,ht,hi,hI,hH,hS,h8,h11,h15=>by
  have ht0:tt=[]:=List.eq_nil_of_length_eq_zero hm
  subst ht0
  have hie:i=I.length:=by have:=List.drop_eq_nil_iff.1 ht; omega
  subst hie
  refine ⟨o8++(o11++o15),mapH hs,H,w,[],?_,by simpa using hI,fun a c=>?_⟩
  ·rw [execL_loop,u138_3,seqN (a138_2 w)]
   simp [G138]
  ·simp only [List.not_mem_nil,false_iff]
   rintro ⟨h,xa,xc,h1,h2,_⟩
   have:=(gS.1 h2).1
   omega
 | m+1,i,tt,d,hs,o8,o11,o15,H,w,hm,ht,hi,hI,hH,hS,h8,h11,h15=>by
  match tt,hm,ht with
  | x :: r,hm,ht =>
   have hx:I[i]?=some x:=by
    have:=congrArg List.head? ht; simpa [List.head?_drop] using this
   have hlt:=(gS.1 hx).1
   have hr:I.drop (i+1)=r:=by
    have:=congrArg List.tail ht; simpa [List.tail_drop] using this
   obtain ⟨o8',o11',o15',hs1,H1,w1,ps1,e1,h8',h11',h15',hH1,hS1,hI1,hp1⟩:=rd138 R hkd hf hn hx hI hH hS h8 h11 h15 w
   obtain ⟨ob',es',H2,w2,ps2,e2,hI2,hp2⟩:=lp138_3 R hkd hf hn m (i+1) r (d++ps1) hs1 o8' o11' o15' H1 w1 (by simpa using hm) hr (by omega) hI1 hH1 hS1 h8' h11' h15'
   refine ⟨ob',es',H2,w2,ps1++ps2,?_,by simpa using hI2,fun a c=>?_⟩
   ·rw [execL_loop,e1]
    exact e2
   ·rw [List.mem_append,hp1,hp2]
    constructor
    ·rintro (⟨h1,h2⟩ | ⟨h1,h2⟩)
     ·exact ⟨by omega,h2⟩
     ·exact ⟨by omega,h2⟩
    ·rintro ⟨h1,h2⟩
     by_cases hci:c=i
     ·exact .inl ⟨hci,h2⟩
     ·exact .inr ⟨by omega,h2⟩
theorem s138 (R:Pairing Y b2 b3 b4 L b s u kd I Inv) (hkd:kd=1∨kd=2∨kd=3) (hf:∀ x∈I,x.2.1.fr.length≤3) (hn:I.length≤100) {b1 T:Nat} {r1:Bool} {stp:D} {d:List (Nat × Nat)} (hI:Inv d H)
  (h1:H[b1]?=some (.cells [.ptr (.heap T) 0] r1)) (hT:H[T]?=some (.cells [.d (.list 2 arrsD),.d stp,.sl (.heap L) 4 I.length 0 I.length] false)) (hst:D.isCell stp=true) :
  ∃ H' w ps,callL K (.fn (.func 138) [] [.ptr (.heap b1) 0,.ptr (.heap b2) 0,.ptr (.heap b3) 0,.ptr (.heap b4) 0]) [.fn (.yield Y) [] []] none H=some (.ret (.tuple []),false,H',w) ∧
   Inv (d++ps) H'∧∀ a c,(a,c)∈ps↔DepK kd s u I a c:=by
 obtain ⟨ob',es',H',w',ps,e1,hI',hps⟩:=lp138_3 R hkd hf hn I.length 0 I d [] [] [] [] H 0 rfl (by simp) (by omega) hI ⟨by simp,by simp⟩ ⟨by simp [getH],by simp [getH]⟩ (.inl rfl) (.inl rfl) (.inl rfl)
 have ee:=k138 [] [.ptr (.heap b1) 0,.ptr (.heap b2) 0,.ptr (.heap b3) 0,.ptr (.heap b4) 0] [.fn (.yield Y) [] []] none H
 have z0:((0:Nat):Int)=0:=rfl
 have m0:mapH []=[]:=rfl
 simp only [G138,z0,m0,List.append_nil,List.cons_append,List.nil_append] at e1
 simp only [D.isCell] at hst
 suffices hh:∃ w,callL K (.fn (.func 138) [] [.ptr (.heap b1) 0,.ptr (.heap b2) 0,.ptr (.heap b3) 0,.ptr (.heap b4) 0]) [.fn (.yield Y) [] []] none H=some (.ret (.tuple []),false,H',w) by
  obtain ⟨w,hh⟩:=hh
  exact ⟨H',w,ps,hh,hI',fun a c=>by rw [hps]; simp⟩
 ·simp [c138,x138_0,x138_1,h1,hT,hst,e1] at ee
  exact ⟨_,ee⟩
end
end Mw
