/- DependLevels answers true for every list of numbers: its tied card holds; no condition beyond the card's own. -/
import Derived.Test.YtdjnccgeajpegaaGreatDoorXa
import Derived.Test.YtdjnccgeajpegaaGreatDoorKc
set_option linter.unusedVariables false
set_option linter.unusedSimpArgs false
set_option maxRecDepth 10000
set_option maxHeartbeats 1000000
namespace Mw
open Go Go.Proofs
def q73_1 (n:Int):List Oper:=[⟨(some 5),.move (.tmp 0),0,"",#[],none⟩,
 ⟨(some 6),.nilCheck (.tmp 5),0,"",#[],none⟩,
 ⟨(some 7),.fieldAddr 96 (.tmp 6) 1,0,"",#[],none⟩,
 ⟨(some 8),.load 3 (.tmp 7),0,"",#[],none⟩,
 ⟨(some 9),.binOp .add 3 (.tmp 8) (.const (.int .i64 (1))) 3,0,"",#[],none⟩,
 ⟨(some 10),.convert 3 94 (.tmp 9),0,"",#[],none⟩,
 ⟨(some 11),.binOp .mul 94 (.tmp 10) (.const (.int .u64 n)) 94,0,"",#[],none⟩,
 ⟨(some 3),.assign (.tmp 11),0,"",#[],none⟩]
def q73_3 (n:Int):List Oper:=[⟨(some 22),.move (.tmp 3),0,"",#[],none⟩,
 ⟨(some 23),.move (.tmp 0),0,"",#[],none⟩,
 ⟨(some 24),.nilCheck (.tmp 23),0,"",#[],none⟩,
 ⟨(some 25),.fieldAddr 96 (.tmp 24) 0,0,"",#[],none⟩,
 ⟨(some 26),.load 22 (.tmp 25),0,"",#[],none⟩,
 ⟨(some 27),.move (.tmp 0),0,"",#[],none⟩,
 ⟨(some 28),.nilCheck (.tmp 27),0,"",#[],none⟩,
 ⟨(some 29),.fieldAddr 96 (.tmp 28) 1,0,"",#[],none⟩,
 ⟨(some 30),.load 3 (.tmp 29),0,"",#[],none⟩,
 ⟨(some 31),.indexAddr 22 (.tmp 26) (.tmp 30),0,"",#[],none⟩,
 ⟨(some 32),.load 3 (.tmp 31),0,"",#[],none⟩,
 ⟨(some 33),.convert 3 94 (.tmp 32),0,"",#[],none⟩,
 ⟨(some 34),.binOp .mul 94 (.tmp 33) (.const (.int .u64 n)) 94,0,"",#[],none⟩,
 ⟨(some 35),.binOp .add 94 (.tmp 22) (.tmp 34) 94,0,"",#[],none⟩,
 ⟨(some 3),.assign (.tmp 35),0,"",#[],none⟩]
def q73_5 (n:Int):List Oper:=[⟨(some 43),.move (.tmp 0),0,"",#[],none⟩,
 ⟨(some 44),.move (.tmp 0),0,"",#[],none⟩,
 ⟨(some 45),.nilCheck (.tmp 44),0,"",#[],none⟩,
 ⟨(some 46),.fieldAddr 96 (.tmp 45) 2,0,"",#[],none⟩,
 ⟨(some 47),.load 94 (.tmp 46),0,"",#[],none⟩,
 ⟨(some 48),.move (.tmp 3),0,"",#[],none⟩,
 ⟨(some 49),.binOp .xor 94 (.tmp 47) (.tmp 48) 94,0,"",#[],none⟩,
 ⟨(some 50),.binOp .mul 94 (.tmp 49) (.const (.int .u64 n)) 94,0,"",#[],none⟩,
 ⟨(some 51),.nilCheck (.tmp 43),0,"",#[],none⟩,
 ⟨(some 52),.fieldAddr 96 (.tmp 51) 2,0,"",#[],none⟩,
 ⟨none,.store 94 (.tmp 52) (.tmp 50),0,"",#[],none⟩]
def q73_7 (n:Int):List Oper:=[⟨(some 66),.move (.tmp 0),0,"",#[],none⟩,
 ⟨(some 67),.nilCheck (.tmp 66),0,"",#[],none⟩,
 ⟨(some 68),.fieldAddr 96 (.tmp 67) 2,0,"",#[],none⟩,
 ⟨(some 69),.load 94 (.tmp 68),0,"",#[],none⟩,
 ⟨(some 70),.binOp .mul 94 (.tmp 69) (.const (.int .u64 n)) 94,0,"",#[],none⟩,
 ⟨(some 4),.assign (.tmp 70),0,"",#[],none⟩]
theorem s73 {hp:List O} {l:Nat} {v:V} {nums:List Int} {k st:Int} (hv:IsInts v nums) (hl:l < hp.length) (h:hp[l]=rodO v k st) (hk0:0≤k) (hk:k < 1099511627776) :
  ∃ st' out,callL K (.fn (.func 73) [] []) [.ptr (.heap l) 0] none hp=some (.ret (.d (.int .u64 out)),false,hp.set l (rodO v (k+1) st'),1 <<< l)∧0≤out:=by
 have hw:wr .i64 (k+1)=k+1:=wrap_id (by omega) (by omega)
 have h0:¬ (k < 0):=by omega
 unfold rodO at *
 have e:=k73 [] [] [.ptr (.heap l) 0] none hp
 obtain ⟨n1,y1⟩:∃ n1:Int,∀ s:St,execL K 73 (rg 73 1) s=stepK 9 (opsS K (callL K) 73 (q73_1 n1) (q73_1 n1) s):=⟨13503953896175478587,x73_1⟩
 obtain ⟨n3,y3⟩:∃ n3:Int,∀ s:St,execL K 73 (.region 3 (opsAt K.P 73 3) true) s=stepP s.m.hp.length 9 [(4,8)] (opsRun K (callL K) 73 (q73_3 n3) (q73_3 n3) s):=⟨4354685564936845355,x73_3⟩
 obtain ⟨n5,y5⟩:∃ n5:Int,∀ s:St,execL K 73 (rg 73 5) s=stepK 1 (opsS K (callL K) 73 (q73_5 n5) (q73_5 n5) s):=⟨11912009170470909681,x73_5⟩
 obtain ⟨n7,y7⟩:∃ n7:Int,∀ s:St,execL K 73 (rg 73 7) s=stepK 16 (opsS K (callL K) 73 (q73_7 n7) (q73_7 n7) s):=⟨5840696475078001361,x73_7⟩
 rcases hv with rfl | ⟨rfl,rfl⟩
 ·by_cases hlt:k < nums.length
  ·have hlt':k.toNat < nums.length:=by omega
   simp [c73,x73_0,x73_2,x73_4,x73_6,x73_8,y1,q73_1,y3,q73_3,y5,q73_5,y7,q73_7,h,hl,hw,hlt,hlt',hk0] at e
   exact ⟨_,_,e,shr_pos _ (xor_pos _ _)⟩
  ·simp [c73,x73_0,x73_2,x73_4,x73_6,x73_8,y1,q73_1,y3,q73_3,y5,q73_5,y7,q73_7,h,hl,hw,hlt] at e
   exact ⟨_,_,e,shr_pos _ (xor_pos _ _)⟩
 ·simp [c73,x73_0,x73_2,x73_4,x73_6,x73_8,y1,q73_1,y3,q73_3,y5,q73_5,y7,q73_7,h,hl,hw,h0] at e
  exact ⟨_,_,e,shr_pos _ (xor_pos _ _)⟩
theorem rem_u {a n:Int} (ha:0≤a) (hn:0 < n):0≤au .rem a n∧au .rem a n < n:=by
 rw [au_eq]
 exact ⟨Int.tmod_nonneg _ ha,Int.tmod_lt_of_pos _ hn⟩
theorem s20 {hp:List O} {l:Nat} {v:V} {nums:List Int} {k st n:Int} (hv:IsInts v nums) (hl:l < hp.length) (hk0:0≤k) (hk:k < 1099511627776) (hn:n≤1099511627776) :
  ∃ st' r,callL K (.fn (.func 20) [] []) [.ptr (.heap l) 0,.d (.int .i64 n)] none (hp.set l (rodO v k st))=some (.ret (.d (.int .i64 r)),false,hp.set l (rodO v (k+1) st'),1 <<< l)∧0≤r∧(r≤n∨n < 1∧r=0):=by
 obtain ⟨st',out,h1,h2⟩:=s73 (hp:=hp.set l (rodO v k st)) (k:=k) (st:=st) hv (by simpa using hl) (by simp) hk0 hk
 have e:=k20 [] [] [.ptr (.heap l) 0,.d (.int .i64 n)] none (hp.set l (rodO v k st))
 by_cases hlt:n < 1
 ·simp [c20,x20_0,x20_1,x20_2,x20_3,h1,hlt] at e
  exact ⟨_,_,e,by omega,.inr ⟨hlt,rfl⟩⟩
 ·have hA:au .add (wr .u64 n) 1=n+1:=by
   rw [wrapu_id (by omega) (by omega),au_eq]
   show IntKind.wrap .u64 (n+1)=n+1
   rw [← wr_eq,wrapu_id (by omega) (by omega)]
  obtain ⟨hr0,hr1⟩:=rem_u h2 (show 0 < n+1 by omega)
  have hR:binInt .rem .u64 out (n+1)=some (.int .u64 (au .rem out (n+1))):=bu_rem (by omega)
  have hW:wr .i64 (au .rem out (n+1))=au .rem out (n+1):=wrap_id (by omega) (by omega)
  simp [c20,x20_0,x20_1,x20_2,x20_3,x20_4,h1,hlt,hA,hR,hW] at e
  exact ⟨_,_,e,hr0,.inl (by omega)⟩
theorem s21 {hp:List O} {l:Nat} {v:V} {nums:List Int} {k st lo hi:Int} (hv:IsInts v nums) (hl:l < hp.length) (hk0:0≤k) (hk:k < 1099511627776) (h1:0≤lo) (h2:lo≤hi) (h3:hi≤1000) :
  ∃ st' r,callL K (.fn (.func 21) [] []) [.ptr (.heap l) 0,.d (.int .i64 lo),.d (.int .i64 hi)] none (hp.set l (rodO v k st))=some (.ret (.d (.int .i64 r)),false,hp.set l (rodO v (k+1) st'),1 <<< l)∧lo≤r∧r≤hi:=by
 obtain ⟨st',r,e1,r0,r1⟩:=s20 (n:=hi - lo) (st:=st) hv hl hk0 hk (by omega)
 have e:=k21 [] [] [.ptr (.heap l) 0,.d (.int .i64 lo),.d (.int .i64 hi)] none (hp.set l (rodO v k st))
 have hw:wr .i64 (hi - lo)=hi - lo:=wrap_id (by omega) (by omega)
 have hw2:wr .i64 (lo+r)=lo+r:=wrap_id (by omega) (by omega)
 simp [c21,x21_0,x21_1,e1,hw,hw2] at e
 exact ⟨_,_,e,by omega,by omega⟩
theorem s129 {hp:List O} {l:Nat} {v:V} {nums:List Int} {k st n:Int} (hv:IsInts v nums) (hl:l < hp.length) (hk0:0≤k) (hk:k < 1099511627776) (h1:0≤n) (h3:n≤1000) :
  ∃ st' b,callL K (.fn (.func 129) [] []) [.ptr (.heap l) 0,.d (.int .i64 n)] none (hp.set l (rodO v k st))=some (.ret (.d (.bool b)),false,hp.set l (rodO v (k+1) st'),1 <<< l):=by
 obtain ⟨st',r,e1,r0,r1⟩:=s20 (n:=n - 1) (st:=st) hv hl hk0 hk (by omega)
 have e:=k129 [] [] [.ptr (.heap l) 0,.d (.int .i64 n)] none (hp.set l (rodO v k st))
 have hw:wr .i64 (n - 1)=n - 1:=wrap_id (by omega) (by omega)
 simp [c129,x129_0,x129_1,e1,hw] at e
 exact ⟨_,_,e⟩
theorem s58 {hp:List O} {l:Nat} {v:V} {nums xs:List Int} {k st:Int} (hv:IsInts v nums) (hl:l < hp.length) (hk0:0≤k) (hk:k < 1099511627776) (h1:0 < xs.length) (h3:xs.length≤1000) :
  ∃ st' r,callL K (.fn (.func 58) [] []) [.ptr (.heap l) 0,.d (.list 1 (ints xs))] none (hp.set l (rodO v k st))=some (.ret (.d (.int .i64 r)),false,hp.set l (rodO v (k+1) st'),1 <<< l)∧r∈xs:=by
 obtain ⟨st',r,e1,r0,r1⟩:=s20 (n:=(xs.length:Int) - 1) (st:=st) hv hl hk0 hk (by omega)
 have e:=k58 [] [] [.ptr (.heap l) 0,.d (.list 1 (ints xs))] none (hp.set l (rodO v k st))
 have hw:wr .i64 ((xs.length:Int) - 1)=(xs.length:Int) - 1:=wrap_id (by omega) (by omega)
 have hr:r.toNat < xs.length:=by omega
 simp [c58,x58_0,x58_1,e1,hw,r0,hr] at e
 exact ⟨_,_,e,List.getElem_mem hr⟩
@[simp] theorem ints_set (cs:List Int) (i:Nat) (x:Int):(ints cs).set i (.int .i64 x)=ints (cs.set i x):=by simp [ints]
theorem ints_rep (n:Nat):List.replicate n (D.int .i64 0)=ints (List.replicate n 0):=by simp [ints]
def loA:List Int→List Int→Int
 | c :: cs,s :: ss=>min 0 (c * (s - 1))+loA cs ss
 | _,_=>0
def hiA:List Int→List Int→Int
 | c :: cs,s :: ss=>max 0 (c * (s - 1))+hiA cs ss
 | _,_=>0
theorem loA_set:∀ (cs ss:List Int) (i:Nat) (v:Int) (h:i < cs.length) (h':i < ss.length),cs[i]=0→loA (cs.set i v) ss=loA cs ss+min 0 (v * (ss[i] - 1))
 | c :: cs,s :: ss,0,v,_,_,h=>by simp at h; subst h; simp [loA]; omega
 | c :: cs,s :: ss,i+1,v,h1,h2,h=>by
  simp only [List.set_cons_succ,loA,List.getElem_cons_succ]
  rw [loA_set cs ss i v (by simpa using h1) (by simpa using h2) (by simpa using h)]
  omega
theorem hiA_set:∀ (cs ss:List Int) (i:Nat) (v:Int) (h:i < cs.length) (h':i < ss.length),cs[i]=0→hiA (cs.set i v) ss=hiA cs ss+max 0 (v * (ss[i] - 1))
 | c :: cs,s :: ss,0,v,_,_,h=>by simp at h; subst h; simp [hiA]; omega
 | c :: cs,s :: ss,i+1,v,h1,h2,h=>by
  simp only [List.set_cons_succ,hiA,List.getElem_cons_succ]
  rw [hiA_set cs ss i v (by simpa using h1) (by simpa using h2) (by simpa using h)]
  omega
theorem loA_zero:∀ (n:Nat) (ss:List Int),loA (List.replicate n 0) ss=0
 | 0,ss=>by cases ss<;>rfl
 | n+1,[]=>rfl
 | n+1,s :: ss=>by simp [List.replicate_succ,loA,loA_zero n ss]
theorem hiA_zero:∀ (n:Nat) (ss:List Int),hiA (List.replicate n 0) ss=0
 | 0,ss=>by cases ss<;>rfl
 | n+1,[]=>rfl
 | n+1,s :: ss=>by simp [List.replicate_succ,hiA,hiA_zero n ss]
theorem loA_nonpos:∀ (cs ss:List Int),loA cs ss≤0
 | [],_=>by simp [loA]
 | _ :: _,[]=>by simp [loA]
 | c :: cs,s :: ss=>by have:=loA_nonpos cs ss; simp only [loA]; omega
theorem hiA_nonneg:∀ (cs ss:List Int),0≤hiA cs ss
 | [],_=>by simp [hiA]
 | _ :: _,[]=>by simp [hiA]
 | c :: cs,s :: ss=>by have:=hiA_nonneg cs ss; simp only [hiA]; omega
structure AffInv (cs ss:List Int) (c ρ size:Int):Prop where
 len:cs.length=ss.length
 coef:∀ x∈cs,x=0∨x=1∨x=-1
 room:0≤ρ
 const:c=-(loA cs ss)
 sum:ρ=size - 1 - (hiA cs ss - loA cs ss)
abbrev st186 (l:Nat) (ss cs:List Int) (hp:List O) (c ρ k:Int) (t:List (Nat × V)):St :=
 {tm:=(0,.ptr (.heap l) 0) :: (1,.d (.list 1 (ints ss))) :: (6,.ptr (.slot 6 0) 0) :: (7,.ptr (.slot 7 0) 0) :: (8,.d (.int .i64 ρ)) :: (9,.d (.int .i64 k)) :: t,
  m:={ ob:=[(6,0,.cells [.d (.int .i64 0),.d .nils] false),(7,0,.cells [.d (.int .i64 c),.sl (.slot 14 0) 1 ss.length 0 ss.length] false),(14,0,.vec 1 (ints cs) false false)],hp:=hp,wl:=1 <<< l },df:=[] }
theorem l186 {hp:List O} {l:Nat} {v:V} {nums ss:List Int} {size:Int} (hv:IsInts v nums) (hl:l < hp.length) (hs:∀ s∈ss,1≤s∧s≤4) (h0:0 < ss.length) (h2:ss.length≤10) :
  ∀ (j:Nat) (k st c ρ:Int) (cs:List Int),j≤2→AffInv cs ss c ρ size→size≤10→0≤k→k+2 * j < 1099511627776→∃ k' st' c' ρ' cs',execL K 186 (.loop l186_0) (st186 l ss cs (hp.set l (rodO v k st)) c ρ j []) =
   some (.exit 0,st186 l ss cs' (hp.set l (rodO v k' st')) c' ρ' 0 [(26,.d (.bool false))])∧AffInv cs' ss c' ρ' size∧k≤k'∧k'≤k+2 * j:=by
 intro j
 induction j with
 | zero =>
  intro k st c ρ cs hj hI hz hk hk'
  refine ⟨k,st,c,ρ,cs,?_,hI,by omega,by omega⟩
  rw [execL_loop]
  simp [u186_0,x186_4]
 | succ j ih =>
  intro k st c ρ cs hj hI hz hk hk'
  rw [execL_loop]
  obtain ⟨st1,r,e1,r0,r1⟩:=s20 (n:=(ss.length:Int) - 1) (st:=st) (k:=k) hv hl hk (by omega) (by omega)
  have hw1:wr .i64 ((ss.length:Int) - 1)=(ss.length:Int) - 1:=wrap_id (by omega) (by omega)
  have hr:r.toNat < ss.length:=by omega
  have hr1:r.toNat+1≤ss.length:=hr
  have hrc:r.toNat < cs.length:=by rw [hI.len]; exact hr
  obtain ⟨hs1,hs4⟩:=hs ss[r.toNat] (List.getElem_mem hr)
  have hw2:wr .i64 (ss[r.toNat] - 1)=ss[r.toNat] - 1:=wrap_id (by omega) (by omega)
  have hw3:wr .i64 (j:Int)=(j:Int):=wrap_id (by omega) (by omega)
  have hA:loA cs ss≤0:=loA_nonpos cs ss
  have hB:0≤hiA cs ss:=hiA_nonneg cs ss
  have hj0:(0:Int) < (j:Int)+1:=by omega
  have hn0:(0:Int) < (ss.length:Int):=by omega
  by_cases hc:cs[r.toNat]=0
  ·by_cases hf:ρ < ss[r.toNat] - 1
   ·obtain ⟨k',st',c',ρ',cs',h1,h3,h4,h5⟩:=ih (k+1) st1 c ρ cs (by omega) hI hz (by omega) (by omega)
    refine ⟨k',st',c',ρ',cs',?_,h3,by omega,by omega⟩
    simp [u186_0,x186_4,x186_5,x186_6,x186_7,x186_8,x186_9,x186_10,x186_11,x186_12,x186_13,e1,hw1,hw2,hw3,hr,hr1,hrc,r0,hc,hf,hj0,h0,hI.len,h1]
   ·have hw4:wr .i64 (ρ - (ss[r.toNat] - 1))=ρ - (ss[r.toNat] - 1):=wrap_id (by have:=hI.room; have:=hI.sum; omega) (by have:=hI.room; have:=hI.sum; omega)
    obtain ⟨st2,b,e2⟩:=s129 (n:=4) (st:=st1) (k:=k+1) hv hl (by omega) (by omega) (by omega) (by omega)
    have hR:=hI.room
    have hL:=loA_set cs ss r.toNat
    have hH:=hiA_set cs ss r.toNat
    cases b with
    | false =>
     have hI':AffInv (cs.set r.toNat 1) ss c (ρ - (ss[r.toNat] - 1)) size:=by
      refine ⟨by simp [hI.len],?_,by omega,?_,?_⟩
      ·intro x hx
       rcases List.mem_or_eq_of_mem_set hx with h | h
       ·exact hI.coef x h
       ·subst h; simp
      ·rw [hL 1 hrc hr hc,hI.const]; omega
      ·rw [hL 1 hrc hr hc,hH 1 hrc hr hc,hI.sum]; omega
     obtain ⟨k',st',c',ρ',cs',h1,h3,h4,h5⟩:=ih (k+1+1) st2 c (ρ - (ss[r.toNat] - 1)) (cs.set r.toNat 1) (by omega) hI' hz (by omega) (by omega)
     refine ⟨k',st',c',ρ',cs',?_,h3,by omega,by omega⟩
     simp [u186_0,x186_4,x186_5,x186_6,x186_7,x186_8,x186_9,x186_10,x186_11,x186_12,x186_13,e1,e2,hw1,hw2,hw3,hw4,hr,hr1,hrc,r0,hc,hf,hj0,h0,hI.len,h1]
    | true =>
     have hcb:c+(ss[r.toNat] - 1)≤100∧0≤c:=by
      have:=hI.const; have:=hI.sum
      have hA:loA cs ss≤0:=loA_nonpos cs ss
      have hB:0≤hiA cs ss:=hiA_nonneg cs ss
      omega
     have hw5:wr .i64 (c+(ss[r.toNat] - 1))=c+(ss[r.toNat] - 1):=wrap_id (by omega) (by omega)
     have hI':AffInv (cs.set r.toNat (-1)) ss (c+(ss[r.toNat] - 1)) (ρ - (ss[r.toNat] - 1)) size:=by
      refine ⟨by simp [hI.len],?_,by omega,?_,?_⟩
      ·intro x hx
       rcases List.mem_or_eq_of_mem_set hx with h | h
       ·exact hI.coef x h
       ·subst h; simp
      ·rw [hL (-1) hrc hr hc,hI.const]; omega
      ·rw [hL (-1) hrc hr hc,hH (-1) hrc hr hc,hI.sum]; omega
     obtain ⟨k',st',c',ρ',cs',h1,h3,h4,h5⟩:=ih (k+1+1) st2 (c+(ss[r.toNat] - 1)) (ρ - (ss[r.toNat] - 1)) (cs.set r.toNat (-1)) (by omega) hI' hz (by omega) (by omega)
     refine ⟨k',st',c',ρ',cs',?_,h3,by omega,by omega⟩
     simp [u186_0,x186_4,x186_5,x186_6,x186_7,x186_8,x186_9,x186_10,x186_11,x186_12,x186_13,e1,e2,hw1,hw2,hw3,hw4,hw5,hr,hr1,hrc,r0,hc,hf,hj0,h0,hI.len,h1]
  ·obtain ⟨k',st',c',ρ',cs',h1,h3,h4,h5⟩:=ih (k+1) st1 c ρ cs (by omega) hI hz (by omega) (by omega)
   refine ⟨k',st',c',ρ',cs',?_,h3,by omega,by omega⟩
   simp [u186_0,x186_4,x186_5,x186_6,x186_7,x186_8,x186_9,x186_10,x186_11,x186_12,x186_13,e1,hw1,hw2,hw3,hr,hr1,hrc,r0,hc,hj0,h0,hI.len,h1]
structure AffOk (c:Int) (cs ss:List Int) (size:Int):Prop where
 len:cs.length=ss.length
 coef:∀ x∈cs,x=0∨x=1∨x=-1
 lo:0≤c+loA cs ss
 hi:c+hiA cs ss≤size - 1
@[simp] theorem ints_rep' (n:Nat):List.replicate n (D.int .i64 0)=ints (List.replicate n 0):=ints_rep n
@[simp] theorem ints_take (n:Nat) (cs:List Int):(ints cs).take n=ints (cs.take n):=by simp [ints]
theorem s186 {hp:List O} {l:Nat} {v:V} {nums ss:List Int} {k st size:Int} (hv:IsInts v nums) (hl:l < hp.length) (hs:∀ s∈ss,1≤s∧s≤4) (h0:0 < ss.length) (h2:ss.length≤10) (hk:0≤k) (hk':k < 1099511620000) (hz1:1≤size) (hz:size≤10) :
  ∃ k' st' c cs,callL K (.fn (.func 186) [] []) [.ptr (.heap l) 0,.d (.list 1 (ints ss)),.d (.int .i64 size)] none (hp.set l (rodO v k st)) =
   some (.ret (.d (.agg [.int .i64 c,.list 1 (ints cs)])),false,hp.set l (rodO v k' st'),1 <<< l)∧AffOk c cs ss size∧k≤k'∧k'≤k+6:=by
 have e:=k186 [] [] [.ptr (.heap l) 0,.d (.list 1 (ints ss)),.d (.int .i64 size)] none (hp.set l (rodO v k st))
 obtain ⟨st1,r,e1,r0,r1⟩:=s20 (n:=2) (st:=st) (k:=k) hv hl hk (by omega) (by omega)
 obtain ⟨j,rfl⟩:∃ j:Nat,r=j:=⟨r.toNat,by omega⟩
 have hw:wr .i64 (size - 1)=size - 1:=wrap_id (by omega) (by omega)
 have hI:AffInv (List.replicate ss.length 0) ss 0 (size - 1) size:=by
  refine ⟨by simp,?_,by omega,by simp [loA_zero],by simp [loA_zero,hiA_zero]⟩
  intro x hx
  rw [List.mem_replicate] at hx
  exact .inl hx.2
 obtain ⟨k',st',c',ρ',cs',h1,h3,h4,h5⟩:=l186 (size:=size) hv hl hs h0 h2 j (k+1) st1 0 (size - 1) (List.replicate ss.length 0) (by omega) hI hz (by omega) (by omega)
 obtain ⟨st2,q,e2,q0,q1⟩:=s20 (n:=ρ') (st:=st') (k:=k') hv hl (by omega) (by omega) (by have:=h3.sum; have:=loA_nonpos cs' ss; have:=hiA_nonneg cs' ss; omega)
 have hA:=loA_nonpos cs' ss
 have hB:=hiA_nonneg cs' ss
 have hS:=h3.sum
 have hR:=h3.room
 have hC:=h3.const
 have hw2:wr .i64 (c'+q)=c'+q:=wrap_id (by omega) (by omega)
 have hlen:ss.length≤4294967296:=by omega
 have hlen8:ss.length * 8≤4294967296:=by omega
 have htk:cs'.take ss.length=cs':=by rw [List.take_of_length_le]; rw [h3.len]; exact Nat.le_refl _
 simp [c186,x186_0,x186_1,x186_2,x186_3,x186_4,x186_14,x186_15,hw,hlen,hlen8,e1,h1,e2,hw2,h3.len,htk] at e
 refine ⟨_,_,_,_,e,⟨h3.len,h3.coef,?_,?_⟩,by omega,by omega⟩<;>omega
def szD:List Int→D
 | []=>.nils
 | x :: xs=>.list 1 (ints (x :: xs))
theorem s186n {hp:List O} {l:Nat} {v:V} {nums:List Int} {k st size:Int} (hv:IsInts v nums) (hl:l < hp.length) (hk:0≤k) (hk':k < 1099511620000) (hz1:1≤size) (hz:size≤10) :
  ∃ k' st' c cs,callL K (.fn (.func 186) [] []) [.ptr (.heap l) 0,.d .nils,.d (.int .i64 size)] none (hp.set l (rodO v k st)) =
   some (.ret (.d (.agg [.int .i64 c,.list 1 (ints cs)])),false,hp.set l (rodO v k' st'),1 <<< l)∧AffOk c cs [] size∧k≤k'∧k'≤k+6:=by
 have e:=k186 [] [] [.ptr (.heap l) 0,.d .nils,.d (.int .i64 size)] none (hp.set l (rodO v k st))
 obtain ⟨st1,r,e1,r0,r1⟩:=s20 (n:=2) (st:=st) (k:=k) hv hl hk (by omega) (by omega)
 have hw:wr .i64 (size - 1)=size - 1:=wrap_id (by omega) (by omega)
 obtain ⟨st2,q,e2,q0,q1⟩:=s20 (n:=size - 1) (st:=st1) (k:=k+1) hv hl (by omega) (by omega) (by omega)
 have hw2:wr .i64 q=q:=wrap_id (by omega) (by omega)
 have i0:([]:List D)=ints []:=rfl
 by_cases hr:0 < r
 ·simp [c186,x186_0,x186_1,x186_2,x186_3,x186_4,x186_14,x186_15,execL_loop,u186_0,hw,hr,e1,e2,hw2] at e
  refine ⟨_,_,q,[],e,⟨rfl,by simp,?_,?_⟩,by omega,by omega⟩<;>simp [loA,hiA]<;>omega
 ·simp [c186,x186_0,x186_1,x186_2,x186_3,x186_4,x186_14,x186_15,execL_loop,u186_0,hw,hr,e1,e2,hw2] at e
  refine ⟨_,_,q,[],e,⟨rfl,by simp,?_,?_⟩,by omega,by omega⟩<;>simp [loA,hiA]<;>omega
structure SzOk (ss:List Int):Prop where
 within:∀ s∈ss,1≤s∧s≤4
 few:ss.length≤2
theorem s186' {hp:List O} {l:Nat} {v:V} {nums ss:List Int} {k st size:Int} (hv:IsInts v nums) (hl:l < hp.length) (hs:SzOk ss) (hk:0≤k) (hk':k < 1099511620000) (hz1:1≤size) (hz:size≤10) :
  ∃ k' st' c cs,callL K (.fn (.func 186) [] []) [.ptr (.heap l) 0,.d (szD ss),.d (.int .i64 size)] none (hp.set l (rodO v k st)) =
   some (.ret (.d (.agg [.int .i64 c,.list 1 (ints cs)])),false,hp.set l (rodO v k' st'),1 <<< l)∧AffOk c cs ss size∧k≤k'∧k'≤k+6:=by
 cases ss with
 | nil=>exact s186n hv hl hk hk' hz1 hz
 | cons s ss=>exact s186 hv hl hs.within (by simp) (by have:=hs.few; omega) hk hk' hz1 hz
def encA (x:Int × List Int):D:=.agg [.int .i64 x.1,.list 1 (ints x.2)]
def arrsD:List D:=[.agg [.str ⟨#[97]⟩,.list 1 [.int .i64 5]],.agg [.str ⟨#[98]⟩,.list 1 [.int .i64 4,.int .i64 4]],.agg [.str ⟨#[99]⟩,.nils]]
def sizesOf:Nat→List Int
 | 0=>[5]
 | 1=>[4,4]
 | _=>[]
def atD:List (Int × List Int)→D
 | []=>.nils
 | x :: xs=>.list 2 ((x :: xs).map encA)
def encC (a:Nat) (x:List (Int × List Int)):D:=.agg [.int .i64 a,atD x]
structure CellOk (a:Nat) (x:List (Int × List Int)) (ss:List Int):Prop where
 arr:a < 3
 len:x.length=(sizesOf a).length
 ok:∀ i (h:i < x.length) (h':i < (sizesOf a).length),AffOk x[i].1 x[i].2 ss (sizesOf a)[i]
theorem s128_0 {hp:List O} {l:Nat} {v:V} {nums ss:List Int} {k st:Int} (hv:IsInts v nums) (hl:l < hp.length) (hs:SzOk ss) (hk:0≤k) (hk':k < 1099511610000) :
  ∃ k' st' x,callL K (.fn (.func 128) [] []) [.ptr (.heap l) 0,.d (.list 2 arrsD),.d (szD ss),.d (.int .i64 0)] none (hp.set l (rodO v k st)) =
   some (.ret (.d (encC 0 x)),false,hp.set l (rodO v k' st'),1 <<< l)∧CellOk 0 x ss∧k≤k'∧k'≤k+12:=by
 have e:=k128 [] [] [.ptr (.heap l) 0,.d (.list 2 arrsD),.d (szD ss),.d (.int .i64 0)] none (hp.set l (rodO v k st))
 obtain ⟨k1,st1,c,cs,e1,h1,h2,h3⟩:=s186' (size:=5) (st:=st) (k:=k) hv hl hs hk (by omega) (by omega) (by omega)
 have hw:wr .i64 1=1:=wrap_id (by omega) (by omega)
 simp [c128,x128_0,x128_1,x128_2,x128_3,x128_4,x128_5,x128_6,execL_loop,u128_0,arrsD,hw,e1] at e
 refine ⟨k1,st1,[(c,cs)],?_,⟨by omega,rfl,?_⟩,by omega,by omega⟩
 ·simpa [encC,atD,encA,arrsD] using e
 ·intro i hi hi'
  have:i=0:=by simp at hi; omega
  subst this
  exact h1
theorem s128_1 {hp:List O} {l:Nat} {v:V} {nums ss:List Int} {k st:Int} (hv:IsInts v nums) (hl:l < hp.length) (hs:SzOk ss) (hk:0≤k) (hk':k < 1099511610000) :
  ∃ k' st' x,callL K (.fn (.func 128) [] []) [.ptr (.heap l) 0,.d (.list 2 arrsD),.d (szD ss),.d (.int .i64 1)] none (hp.set l (rodO v k st)) =
   some (.ret (.d (encC 1 x)),false,hp.set l (rodO v k' st'),1 <<< l)∧CellOk 1 x ss∧k≤k'∧k'≤k+12:=by
 have e:=k128 [] [] [.ptr (.heap l) 0,.d (.list 2 arrsD),.d (szD ss),.d (.int .i64 1)] none (hp.set l (rodO v k st))
 obtain ⟨k1,st1,c,cs,e1,h1,h2,h3⟩:=s186' (size:=4) (st:=st) (k:=k) hv hl hs hk (by omega) (by omega) (by omega)
 obtain ⟨k2,st2,d,ds,e2,h4,h5,h6⟩:=s186' (size:=4) (st:=st1) (k:=k1) hv hl hs (by omega) (by omega) (by omega) (by omega)
 have hw:wr .i64 1=1:=wrap_id (by omega) (by omega)
 simp [c128,x128_0,x128_1,x128_2,x128_3,x128_4,x128_5,x128_6,execL_loop,u128_0,arrsD,hw,hw2,e1,e2] at e
 refine ⟨k2,st2,[(c,cs),(d,ds)],?_,⟨by omega,rfl,?_⟩,by omega,by omega⟩
 ·simpa [encC,atD,encA,arrsD] using e
 ·intro i hi hi'
  rcases i with _ | _ | i
  ·exact h1
  ·exact h4
  ·simp at hi; omega
theorem s128_2 {hp:List O} {l:Nat} {v:V} {ss:List Int} {k st:Int} (hk:0≤k) (hk':k < 1099511610000) :
  ∃ k' st' x,callL K (.fn (.func 128) [] []) [.ptr (.heap l) 0,.d (.list 2 arrsD),.d (szD ss),.d (.int .i64 2)] none (hp.set l (rodO v k st)) =
   some (.ret (.d (encC 2 x)),false,hp.set l (rodO v k' st'),0)∧CellOk 2 x ss∧k≤k'∧k'≤k+12:=by
 have e:=k128 [] [] [.ptr (.heap l) 0,.d (.list 2 arrsD),.d (szD ss),.d (.int .i64 2)] none (hp.set l (rodO v k st))
 simp [c128,x128_0,x128_1,x128_2,x128_3,x128_4,x128_5,x128_6,execL_loop,u128_0,arrsD] at e
 refine ⟨k,st,[],?_,⟨by omega,rfl,?_⟩,by omega,by omega⟩
 ·simpa [encC,atD,encA,arrsD] using e
 ·intro i hi hi'
  simp at hi
theorem s128 {hp:List O} {l:Nat} {v:V} {nums ss:List Int} {k st a:Int} (hv:IsInts v nums) (hl:l < hp.length) (hs:SzOk ss) (hk:0≤k) (hk':k < 1099511610000) (ha0:0≤a) (ha:a≤2) :
  ∃ k' st' n x w,callL K (.fn (.func 128) [] []) [.ptr (.heap l) 0,.d (.list 2 arrsD),.d (szD ss),.d (.int .i64 a)] none (hp.set l (rodO v k st)) =
   some (.ret (.d (encC n x)),false,hp.set l (rodO v k' st'),w)∧CellOk n x ss∧k≤k'∧k'≤k+12∧w ||| 1 <<< l=1 <<< l:=by
 obtain rfl | rfl | rfl:a=0∨a=1∨a=2:=by omega
 ·obtain ⟨k',st',x,e,h1,h2,h3⟩:=s128_0 (st:=st) hv hl hs hk hk'
  exact ⟨k',st',0,x,_,e,h1,h2,h3,by simp⟩
 ·obtain ⟨k',st',x,e,h1,h2,h3⟩:=s128_1 (st:=st) hv hl hs hk hk'
  exact ⟨k',st',1,x,_,e,h1,h2,h3,by simp⟩
 ·obtain ⟨k',st',x,e,h1,h2,h3⟩:=s128_2 (l:=l) (hp:=hp) (v:=v) (ss:=ss) (st:=st) hk hk'
  exact ⟨k',st',2,x,_,e,h1,h2,h3,by simp⟩
theorem s109 (hp:List O) (n lo hi:Int) (h1:lo≤n) (h2:n≤hi):callL K (.fn (.func 109) [] []) [.d (.int .i64 n),.d (.int .i64 lo),.d (.int .i64 hi)] none hp=some (.ret (.d (.bool true)),false,hp,0):=by
 rw [k109]
 simp [c109,x109_0,x109_1,h1,h2]
theorem s207 (hp:List O) (i n:Int) (h1:1≤n) (h2:n≤12):callL K (.fn (.func 207) [] []) [.d (.int .i64 i),.d (.int .i64 n)] none hp=some (.ret (.d (.int .i64 0)),false,hp,0):=by
 rw [k207]
 simp [c207,x207_0,x207_1,x207_2,x207_3,s109 hp n 1 12 h1 h2]
theorem s270 (hp:List O) (i n:Int) (h1:-99≤n) (h2:n≤99):callL K (.fn (.func 270) [] []) [.d (.int .i64 i),.d (.int .i64 n)] none hp=some (.ret (.d (.int .i64 0)),false,hp,0):=by
 rw [k270]
 simp [c270,x270_0,x270_1,x270_2,x270_3,s109 hp n (-99) 99 h1 h2]
theorem s206 (hp:List O) (xs:List Int) (f:FuncId) (hn:xs.length≤1000) (h:∀ (i:Nat) (hi:i < xs.length),callL K (.fn (.func f) [] []) [.d (.int .i64 i),.d (.int .i64 xs[i])] none hp=some (.ret (.d (.int .i64 0)),false,hp,0)) (am:∀ a b,argMode K (.fn (.func f) a b)=4) :
  callL K (.fn (.func 206) [] []) [.d (.list 1 (ints xs)),.fn (.func f) [] []] none hp=some (.ret (.d (.int .i64 0)),false,hp,0):=by
 let st:Nat→List (Nat × V)→St:=fun i t=>{ tm:=(1,.fn (.func f) [] []) :: (8,.d (.list 1 (ints xs))) :: (9,.d (.int .i64 xs.length)) :: (10,.d (.int .i64 i)) :: t,m:={ ob:=[],hp:=hp,wl:=0 },df:=[],rc:=none }
 have h0:execL K 206 (.loop l206_0) (st 0 [])=some (.exit 0,st xs.length [(11,.d (.bool false))]):=by
  apply loop_range (fun i=>st i []) xs.length (by simp)
  ·intro i hi
   simp [st,u206_0,x206_2,x206_3,x206_4,x206_5,x206_6,x206_7,hi,wrap_next hi (by omega),h i hi,am]
  ·simp [st,u206_0,x206_2]
 have z0:((0:Nat):Int)=0:=rfl
 simp only [st,z0] at h0
 rw [k206]
 simp [c206,x206_0,x206_1,x206_8,h0]
theorem s206n (hp:List O) (f:FuncId):callL K (.fn (.func 206) [] []) [.d .nils,.fn (.func f) [] []] none hp=some (.ret (.d (.int .i64 0)),false,hp,0):=by
 rw [k206]
 simp [c206,execL_loop,u206_0,x206_0,x206_1,x206_2,x206_8]
theorem s206h (hp:List O) (l:Nat) (xs:List Int) (f:FuncId) (hl:l < hp.length) (hv:hp[l]=.vec 1 (ints xs) false true) (hn:xs.length≤1000) (h:∀ (i:Nat) (hi:i < xs.length),callL K (.fn (.func f) [] []) [.d (.int .i64 i),.d (.int .i64 xs[i])] none hp=some (.ret (.d (.int .i64 0)),false,hp,0)) (am:∀ a b,argMode K (.fn (.func f) a b)=4) :
  callL K (.fn (.func 206) [] []) [.sl (.heap l) 1 xs.length 0 xs.length,.fn (.func f) [] []] none hp=some (.ret (.d (.int .i64 0)),false,hp,0):=by
 let st:Nat→List (Nat × V)→St:=fun i t=>{ tm:=(1,.fn (.func f) [] []) :: (8,.sl (.heap l) 1 xs.length 0 xs.length) :: (9,.d (.int .i64 xs.length)) :: (10,.d (.int .i64 i)) :: t,m:={ ob:=[],hp:=hp,wl:=0 },df:=[],rc:=none }
 have h0:execL K 206 (.loop l206_0) (st 0 [])=some (.exit 0,st xs.length [(11,.d (.bool false))]):=by
  apply loop_range (fun i=>st i []) xs.length (by simp)
  ·intro i hi
   have hi1:i+1≤xs.length:=hi
   simp [st,u206_0,x206_2,x206_3,x206_4,x206_5,x206_6,x206_7,hl,hv,hi,hi1,wrap_next hi (by omega),h i hi,am]
  ·simp [st,u206_0,x206_2]
 have z0:((0:Nat):Int)=0:=rfl
 simp only [st,z0] at h0
 rw [k206]
 simp [c206,x206_0,x206_1,x206_8,h0]
theorem szD_cons (x:Int) (xs:List Int):szD (x :: xs)=.list 1 (ints (x :: xs)):=rfl
theorem s172 (hp:List O) (ss:List Int) (h4:ss.length≤4) (h:∀ s∈ss,1≤s∧s≤12):callL K (.fn (.func 172) [] []) [.d (szD ss)] none hp=some (.ret (.d (.int .i64 0)),false,hp,0):=by
 rw [k172]
 have h4':¬ ((4:Int) < ss.length):=by omega
 cases ss with
 | nil=>simp [c172,x172_0,x172_1,x172_2,x172_3,szD,s206n]
 | cons x xs =>
  have e:=s206 hp (x :: xs) 207 (by omega) (fun i hi=>s207 hp i _ (h _ (List.getElem_mem hi)).1 (h _ (List.getElem_mem hi)).2) am_207
  have h4'':¬ (4 < xs.length+1):=by simp at h4; omega
  simp only [ints_cons] at e
  have h4':¬ ((4:Int) < xs.length+1):=by simp at h4; omega
  simp [c172,x172_0,x172_1,x172_2,x172_3,szD,e,h4',h4'']
theorem s108 (hp:List O) (xs:List Int) (n:Int) (h:(xs.length:Int)=n):callL K (.fn (.func 108) [] []) [.d (.list 1 (ints xs)),.d (.int .i64 n)] none hp=some (.ret (.d (.int .i64 0)),false,hp,0):=by
 rw [k108]
 simp [c108,x108_0,x108_1,x108_2,x108_3,x108_4,x108_5,h]
theorem s81 (hp:List O) (x:Int) (xs:List Int) (h:xs.length≤1000):callL K (.fn (.func 81) [] []) [.d (.list 1 (ints (x :: xs)))] none hp=some (.ret (.sl (.heap hp.length) 1 (xs.length+1) 0 (xs.length+1)),false,hp++[.vec 1 (ints (x :: xs)) false true],0):=by
 rw [k81]
 have h1:xs.length+1≤4294967296:=by omega
 have h2:(xs.length+1) * 8≤4294967296:=by omega
 simp [c81,x81_0,x81_1,x81_2,x81_3,h1,h2]
theorem s81e (hp:List O):callL K (.fn (.func 81) [] []) [.d (.list 1 [])] none hp=some (.ret (.ex 1 []),false,hp,0):=by
 rw [k81]
 simp [c81,x81_0,x81_1,x81_2,x81_3]
theorem p209_0 {h0:List O}  {pa pb:Loc}
 (hpa:pa.isHeap=true) (hpb:pb.isHeap=true):∃ w,callL K (.fn (.func 209) [] []) [.d (.nils),.fn (.func 210) [] [.ptr pa 0,.ptr pb 0]] none h0=some (.ret (.d (.int .i64 0)),false,h0,w):=by
 simp only [Loc.isHeap] at hpa hpb
 have e:=k209 [] [] [.d (.nils),.fn (.func 210) [] [.ptr pa 0,.ptr pb 0]] none h0
 simp [c209,x209_0,x209_1,x209_2,x209_3,x209_4,x209_5,x209_6,x209_7,x209_8,execL_loop,u209_0,hw1,hw2,hw3,hpa,hpb] at e
 exact ⟨_,e⟩
theorem p209_1 {h0 h1:List O} {w1:Nat} {n0:Int} {x0:D}  {pa pb:Loc}
 (e0:callL K (.fn (.func 210) [] [.ptr pa 0,.ptr pb 0]) [.d (.int .i64 0),.d (.agg [.int .i64 n0,x0])] none h0=some (.ret (.d (.int .i64 0)),false,h1,w1)) (cx0:D.isCell x0=true)
 (hpa:pa.isHeap=true) (hpb:pb.isHeap=true):∃ w,callL K (.fn (.func 209) [] []) [.d (.list 2 [.agg [.int .i64 n0,x0]]),.fn (.func 210) [] [.ptr pa 0,.ptr pb 0]] none h0=some (.ret (.d (.int .i64 0)),false,h1,w):=by
 simp only [Loc.isHeap] at hpa hpb
 simp only [D.isCell] at cx0
 have e:=k209 [] [] [.d (.list 2 [.agg [.int .i64 n0,x0]]),.fn (.func 210) [] [.ptr pa 0,.ptr pb 0]] none h0
 simp [c209,x209_0,x209_1,x209_2,x209_3,x209_4,x209_5,x209_6,x209_7,x209_8,execL_loop,u209_0,hw1,hw2,hw3,hpa,hpb,e0,cx0] at e
 exact ⟨_,e⟩
theorem p209_2 {h0 h1 h2:List O} {w1 w2:Nat} {n0 n1:Int} {x0 x1:D}  {pa pb:Loc}
 (e0:callL K (.fn (.func 210) [] [.ptr pa 0,.ptr pb 0]) [.d (.int .i64 0),.d (.agg [.int .i64 n0,x0])] none h0=some (.ret (.d (.int .i64 0)),false,h1,w1))
 (e1:callL K (.fn (.func 210) [] [.ptr pa 0,.ptr pb 0]) [.d (.int .i64 1),.d (.agg [.int .i64 n1,x1])] none h1=some (.ret (.d (.int .i64 0)),false,h2,w2)) (cx0:D.isCell x0=true) (cx1:D.isCell x1=true)
 (hpa:pa.isHeap=true) (hpb:pb.isHeap=true):∃ w,callL K (.fn (.func 209) [] []) [.d (.list 2 [.agg [.int .i64 n0,x0],.agg [.int .i64 n1,x1]]),.fn (.func 210) [] [.ptr pa 0,.ptr pb 0]] none h0=some (.ret (.d (.int .i64 0)),false,h2,w):=by
 simp only [Loc.isHeap] at hpa hpb
 simp only [D.isCell] at cx0 cx1
 have e:=k209 [] [] [.d (.list 2 [.agg [.int .i64 n0,x0],.agg [.int .i64 n1,x1]]),.fn (.func 210) [] [.ptr pa 0,.ptr pb 0]] none h0
 simp [c209,x209_0,x209_1,x209_2,x209_3,x209_4,x209_5,x209_6,x209_7,x209_8,execL_loop,u209_0,hw1,hw2,hw3,hpa,hpb,e0,e1,cx0,cx1] at e
 exact ⟨_,e⟩
theorem p209_3 {h0 h1 h2 h3:List O} {w1 w2 w3:Nat} {n0 n1 n2:Int} {x0 x1 x2:D}  {pa pb:Loc}
 (e0:callL K (.fn (.func 210) [] [.ptr pa 0,.ptr pb 0]) [.d (.int .i64 0),.d (.agg [.int .i64 n0,x0])] none h0=some (.ret (.d (.int .i64 0)),false,h1,w1))
 (e1:callL K (.fn (.func 210) [] [.ptr pa 0,.ptr pb 0]) [.d (.int .i64 1),.d (.agg [.int .i64 n1,x1])] none h1=some (.ret (.d (.int .i64 0)),false,h2,w2))
 (e2:callL K (.fn (.func 210) [] [.ptr pa 0,.ptr pb 0]) [.d (.int .i64 2),.d (.agg [.int .i64 n2,x2])] none h2=some (.ret (.d (.int .i64 0)),false,h3,w3)) (cx0:D.isCell x0=true) (cx1:D.isCell x1=true) (cx2:D.isCell x2=true)
 (hpa:pa.isHeap=true) (hpb:pb.isHeap=true):∃ w,callL K (.fn (.func 209) [] []) [.d (.list 2 [.agg [.int .i64 n0,x0],.agg [.int .i64 n1,x1],.agg [.int .i64 n2,x2]]),.fn (.func 210) [] [.ptr pa 0,.ptr pb 0]] none h0=some (.ret (.d (.int .i64 0)),false,h3,w):=by
 simp only [Loc.isHeap] at hpa hpb
 simp only [D.isCell] at cx0 cx1 cx2
 have e:=k209 [] [] [.d (.list 2 [.agg [.int .i64 n0,x0],.agg [.int .i64 n1,x1],.agg [.int .i64 n2,x2]]),.fn (.func 210) [] [.ptr pa 0,.ptr pb 0]] none h0
 simp [c209,x209_0,x209_1,x209_2,x209_3,x209_4,x209_5,x209_6,x209_7,x209_8,execL_loop,u209_0,hw1,hw2,hw3,hpa,hpb,e0,e1,e2,cx0,cx1,cx2] at e
 exact ⟨_,e⟩
theorem p173_1 {h0 h1:List O} {w1:Nat} {t0 o0 z0:Int} {p0 q0 m0:ByteArray} {s0 x0 f0 a0:D}  {pa:Loc}
 (e0:callL K (.fn (.func 174) [] [.ptr pa 0]) [.d (.int .i64 0),.d (.agg [s0,.int .i64 t0,x0,f0,.int .i64 o0,.str p0,.str q0,.str m0,.int .i64 z0,a0])] none h0=some (.ret (.d (.int .i64 0)),false,h1,w1)) (cs0:D.isCell s0=true) (cx0:D.isCell x0=true) (cf0:D.isCell f0=true) (ca0:D.isCell a0=true)
 (hpa:pa.isHeap=true):∃ w,callL K (.fn (.func 173) [] []) [.d (.list 10 [.agg [s0,.int .i64 t0,x0,f0,.int .i64 o0,.str p0,.str q0,.str m0,.int .i64 z0,a0]]),.fn (.func 174) [] [.ptr pa 0]] none h0=some (.ret (.d (.int .i64 0)),false,h1,w):=by
 simp only [Loc.isHeap] at hpa
 simp only [D.isCell] at cs0 cx0 cf0 ca0
 have e:=k173 [] [] [.d (.list 10 [.agg [s0,.int .i64 t0,x0,f0,.int .i64 o0,.str p0,.str q0,.str m0,.int .i64 z0,a0]]),.fn (.func 174) [] [.ptr pa 0]] none h0
 simp [c173,x173_0,x173_1,x173_2,x173_3,x173_4,x173_5,x173_6,x173_7,x173_8,execL_loop,u173_0,hw1,hw2,hw3,hpa,e0,cs0,cx0,cf0,ca0] at e
 exact ⟨_,e⟩
theorem p173_2 {h0 h1 h2:List O} {w1 w2:Nat} {t0 o0 z0 t1 o1 z1:Int} {p0 q0 m0 p1 q1 m1:ByteArray} {s0 x0 f0 a0 s1 x1 f1 a1:D}  {pa:Loc}
 (e0:callL K (.fn (.func 174) [] [.ptr pa 0]) [.d (.int .i64 0),.d (.agg [s0,.int .i64 t0,x0,f0,.int .i64 o0,.str p0,.str q0,.str m0,.int .i64 z0,a0])] none h0=some (.ret (.d (.int .i64 0)),false,h1,w1))
 (e1:callL K (.fn (.func 174) [] [.ptr pa 0]) [.d (.int .i64 1),.d (.agg [s1,.int .i64 t1,x1,f1,.int .i64 o1,.str p1,.str q1,.str m1,.int .i64 z1,a1])] none h1=some (.ret (.d (.int .i64 0)),false,h2,w2)) (cs0:D.isCell s0=true) (cx0:D.isCell x0=true) (cf0:D.isCell f0=true) (ca0:D.isCell a0=true) (cs1:D.isCell s1=true) (cx1:D.isCell x1=true) (cf1:D.isCell f1=true) (ca1:D.isCell a1=true)
 (hpa:pa.isHeap=true):∃ w,callL K (.fn (.func 173) [] []) [.d (.list 10 [.agg [s0,.int .i64 t0,x0,f0,.int .i64 o0,.str p0,.str q0,.str m0,.int .i64 z0,a0],.agg [s1,.int .i64 t1,x1,f1,.int .i64 o1,.str p1,.str q1,.str m1,.int .i64 z1,a1]]),.fn (.func 174) [] [.ptr pa 0]] none h0=some (.ret (.d (.int .i64 0)),false,h2,w):=by
 simp only [Loc.isHeap] at hpa
 simp only [D.isCell] at cs0 cx0 cf0 ca0 cs1 cx1 cf1 ca1
 have e:=k173 [] [] [.d (.list 10 [.agg [s0,.int .i64 t0,x0,f0,.int .i64 o0,.str p0,.str q0,.str m0,.int .i64 z0,a0],.agg [s1,.int .i64 t1,x1,f1,.int .i64 o1,.str p1,.str q1,.str m1,.int .i64 z1,a1]]),.fn (.func 174) [] [.ptr pa 0]] none h0
 simp [c173,x173_0,x173_1,x173_2,x173_3,x173_4,x173_5,x173_6,x173_7,x173_8,execL_loop,u173_0,hw1,hw2,hw3,hpa,e0,e1,cs0,cx0,cf0,ca0,cs1,cx1,cf1,ca1] at e
 exact ⟨_,e⟩
theorem p173_3 {h0 h1 h2 h3:List O} {w1 w2 w3:Nat} {t0 o0 z0 t1 o1 z1 t2 o2 z2:Int} {p0 q0 m0 p1 q1 m1 p2 q2 m2:ByteArray} {s0 x0 f0 a0 s1 x1 f1 a1 s2 x2 f2 a2:D}  {pa:Loc}
 (e0:callL K (.fn (.func 174) [] [.ptr pa 0]) [.d (.int .i64 0),.d (.agg [s0,.int .i64 t0,x0,f0,.int .i64 o0,.str p0,.str q0,.str m0,.int .i64 z0,a0])] none h0=some (.ret (.d (.int .i64 0)),false,h1,w1))
 (e1:callL K (.fn (.func 174) [] [.ptr pa 0]) [.d (.int .i64 1),.d (.agg [s1,.int .i64 t1,x1,f1,.int .i64 o1,.str p1,.str q1,.str m1,.int .i64 z1,a1])] none h1=some (.ret (.d (.int .i64 0)),false,h2,w2))
 (e2:callL K (.fn (.func 174) [] [.ptr pa 0]) [.d (.int .i64 2),.d (.agg [s2,.int .i64 t2,x2,f2,.int .i64 o2,.str p2,.str q2,.str m2,.int .i64 z2,a2])] none h2=some (.ret (.d (.int .i64 0)),false,h3,w3)) (cs0:D.isCell s0=true) (cx0:D.isCell x0=true) (cf0:D.isCell f0=true) (ca0:D.isCell a0=true) (cs1:D.isCell s1=true) (cx1:D.isCell x1=true) (cf1:D.isCell f1=true) (ca1:D.isCell a1=true) (cs2:D.isCell s2=true) (cx2:D.isCell x2=true) (cf2:D.isCell f2=true) (ca2:D.isCell a2=true)
 (hpa:pa.isHeap=true):∃ w,callL K (.fn (.func 173) [] []) [.d (.list 10 [.agg [s0,.int .i64 t0,x0,f0,.int .i64 o0,.str p0,.str q0,.str m0,.int .i64 z0,a0],.agg [s1,.int .i64 t1,x1,f1,.int .i64 o1,.str p1,.str q1,.str m1,.int .i64 z1,a1],.agg [s2,.int .i64 t2,x2,f2,.int .i64 o2,.str p2,.str q2,.str m2,.int .i64 z2,a2]]),.fn (.func 174) [] [.ptr pa 0]] none h0=some (.ret (.d (.int .i64 0)),false,h3,w):=by
 simp only [Loc.isHeap] at hpa
 simp only [D.isCell] at cs0 cx0 cf0 ca0 cs1 cx1 cf1 ca1 cs2 cx2 cf2 ca2
 have e:=k173 [] [] [.d (.list 10 [.agg [s0,.int .i64 t0,x0,f0,.int .i64 o0,.str p0,.str q0,.str m0,.int .i64 z0,a0],.agg [s1,.int .i64 t1,x1,f1,.int .i64 o1,.str p1,.str q1,.str m1,.int .i64 z1,a1],.agg [s2,.int .i64 t2,x2,f2,.int .i64 o2,.str p2,.str q2,.str m2,.int .i64 z2,a2]]),.fn (.func 174) [] [.ptr pa 0]] none h0
 simp [c173,x173_0,x173_1,x173_2,x173_3,x173_4,x173_5,x173_6,x173_7,x173_8,execL_loop,u173_0,hw1,hw2,hw3,hpa,e0,e1,e2,cs0,cx0,cf0,ca0,cs1,cx1,cf1,ca1,cs2,cx2,cf2,ca2] at e
 exact ⟨_,e⟩
theorem o117:K.orc 117=some insO:=by kernel_rfl
@[simp] theorem am117 (a b:List V):argMode K (.fn (.func 117) a b)=0:=by kernel_rfl
theorem s117 (hp:List O) (l:Nat) (xs:List Int) (c:Int) (hl:l < hp.length) (hv:hp[l]=.vec 1 (ints xs) false true) (h1:1≤xs.length) (h2:xs.length≤1000) :
  callL K (.fn (.func 117) [] []) [.sl (.heap l) 1 xs.length 0 xs.length,.d (.int .i64 0),.vl [.d (.int .i64 c)]] none hp=some (.ret (.sl (.heap l) 1 (xs.length+1) 0 (xs.length+1)),false,hp.set l (.vec 1 (ints (c :: xs)) false true),1 <<< l):=by
 apply callL_orc o117
 have h3:xs.length≤100000000:=by omega
 simp [insO,insertO,hl,hv,h1,h3]
theorem s117e (hp:List O) (c:Int):callL K (.fn (.func 117) [] []) [.ex 1 [],.d (.int .i64 0),.vl [.d (.int .i64 c)]] none hp=some (.ret (.sl (.heap hp.length) 1 1 0 1),false,hp++[.vec 1 [.int .i64 c] false true],0):=by
 apply callL_orc o117
 simp [insO,insertO,insertE]
theorem s241 (hp:List O) {c:Int} {cs ss:List Int} (hlen:cs.length=ss.length) (hs:ss.length≤10) (h1:-99≤c∧c≤99) (h2:∀ x∈cs,-99≤x∧x≤99):∃ J w,callL K (.fn (.func 241) [] []) [.d (.agg [.int .i64 c,.list 1 (ints cs)]),.d (szD ss)] none hp=some (.ret (.d (.int .i64 0)),false,hp++J,w):=by
 have e:=k241 [] [] [.d (.agg [.int .i64 c,.list 1 (ints cs)]),.d (szD ss)] none hp
 match ss,cs,hlen,h2 with
 | [],[],_,_ =>
  have e1:=s108 hp [] 0 rfl
  have e2:=s81e hp
  have e3:=s117e hp c
  have e4:=s206h (hp++[.vec 1 [.int .i64 c] false true]) hp.length [c] 270 (by simp) (by simp) (by simp) (fun i hi=>by
   have:i=0:=by simp at hi; omega
   subst this
   exact s270 _ _ _ h1.1 h1.2) am_270
  simp only [List.length_cons,List.length_nil,Nat.zero_add,ints_nil] at e4 e1
  simp [c241,x241_0,x241_1,x241_2,x241_3,x241_4,szD,e1,e2,e3,e4] at e
  exact ⟨_,_,e⟩
 | s :: ss,x :: xs,hlen,h2 =>
  have e1:=s108 hp (x :: xs) ((ss.length:Int)+1) (by simp at hlen ⊢; omega)
  have e2:=s81 hp x xs (by simp at hlen hs; omega)
  have e3:=s117 (hp++[.vec 1 (ints (x :: xs)) false true]) hp.length (x :: xs) c (by simp) (by simp) (by simp) (by simp at hlen hs ⊢; omega)
  have e4:=s206h (hp++[.vec 1 (ints (c :: x :: xs)) false true]) hp.length (c :: x :: xs) 270 (by simp) (by simp) (by simp at hlen hs ⊢; omega) (fun i hi=>by
   have hm:(c :: x :: xs)[i]∈c :: x :: xs:=List.getElem_mem hi
   have hb:-99≤(c :: x :: xs)[i]∧(c :: x :: xs)[i]≤99:=by
    rcases List.mem_cons.1 hm with h | h
    ·rw [h]; exact h1
    ·exact h2 _ h
   exact s270 _ _ _ hb.1 hb.2) am_270
  simp only [List.length_cons,ints_cons,heap_set0] at e1 e2 e3 e4
  simp [c241,x241_0,x241_1,x241_2,x241_3,x241_4,szD,e1,e2,e3,e4] at e
  exact ⟨_,_,e⟩
end Mw
