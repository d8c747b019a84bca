/- DependLevels answers true for every list of numbers: its tied card holds; no condition beyond the card's own. -/
import Derived.Test.YtdjnccgeajpegaaGreatDoorQb
import Derived.Test.YtdjnccgeajpegaaGreatDoorXb
set_option linter.unusedVariables false
set_option linter.unusedSimpArgs false
set_option maxRecDepth 10000
set_option maxHeartbeats 2000000
namespace Mw
open Go Go.Proofs
theorem s113' {c l n m:Nat} {a b:D} (op:Int) (ha:BodyD c l n a) (hb:BodyD c l m b) (hp:List O):callL K (.fn (.func 113) [] []) [.d (.int .i64 op),.d a,.d b] none hp=some (.ret (.d (twoD op a b)),false,hp,0):=by
 obtain ⟨o1,p1,q1,n1,z1,a1,rfl,i1⟩:=ha.form
 obtain ⟨o2,p2,q2,n2,z2,a2,rfl,i2⟩:=hb.form
 exact s113 hp op _ _ _ _ _ _ _ _ _ _ _ _ i1 i2
def e9:Nat→List (Nat × Nat × O)
 | 0=>[]
 | i+1=>[(9,i,.cells [.d (.int .i64 1),.d (.str e0),.d (.str e0),.d (.str (rn i)),.d (.int .i64 0),.d .nils] false)]
abbrev st131 (l:Nat) (cells loops i:Int) (j:Nat) (o:Int) (p q m:ByteArray) (z:Int) (a:D) (hp:List O) (t:List (Nat × V)):St :=
 {tm:=(0,.ptr (.heap l) 0) :: (1,.d (.int .i64 cells)) :: (2,.d (.int .i64 loops)) :: (6,.ptr (.slot 6 0) 0) :: (7,.ptr (.slot 7 0) 0) :: (8,.d (.int .i64 i)) :: t,
  m:={ ob:=(6,0,.cells [.d (.int .i64 0),.d (.str e0),.d (.str e0),.d (.str e0),.d (.int .i64 0),.d .nils] false) :: (7,0,.cells [.d (.int .i64 o),.d (.str p),.d (.str q),.d (.str m),.d (.int .i64 z),.d a] false) :: e9 j,hp:=hp,wl:=1 <<< l },df:=[] }
theorem app_r0:binStr .add ⟨#[114]⟩ ⟨#[48]⟩=some (.str ⟨#[114,48]⟩):=rfl
theorem app_r1:binStr .add ⟨#[114]⟩ ⟨#[49]⟩=some (.str ⟨#[114,49]⟩):=rfl
theorem app_r2:binStr .add ⟨#[114]⟩ ⟨#[50]⟩=some (.str ⟨#[114,50]⟩):=rfl
theorem app_i0:binStr .add ⟨#[105]⟩ ⟨#[48]⟩=some (.str ⟨#[105,48]⟩):=rfl
theorem app_i1:binStr .add ⟨#[105]⟩ ⟨#[49]⟩=some (.str ⟨#[105,49]⟩):=rfl
theorem b131_0 {hp:List O} {l n cells:Nat} {v:V} {nums:List Int} {k st loops:Int} {o:Int} {p q m:ByteArray} {z:Int} {a:D} (hv:IsInts v nums) (hl:l < hp.length) (hk:0≤k) (hk':k < 1099511610000) (hc:0 < cells) (hb:BodyD cells loops.toNat n (exD o p q m z a)) :
  ∃ k' st' o' p' q' m' z' a',execL K 131 l131_0 (st131 l cells loops 0 0 o p q m z a (hp.set l (rodO v k st)) [])=some (.normal,st131 l cells loops 1 1 o' p' q' m' z' a' (hp.set l (rodO v k' st')) [])∧BodyD cells loops.toNat (n+2) (exD o' p' q' m' z' a')∧k≤k'∧k'≤k+3:=by
 have hw:wr .i64 1=1:=wrap_id (by omega) (by omega)
 obtain ⟨st1,r,e1,r0,r1⟩:=s20 (n:=4) (st:=st) (k:=k) hv hl hk (by omega) (by omega)
 have hR:BodyD cells loops.toNat n (refD (rn 0)):=.ref hc n
 have hlt:(0:Int) < cells:=by omega
 by_cases h0:r=0
 ·subst h0
  have e2:=s113' 4 hb hR
  simp only [exD,refD,rn,e0,twoD] at e2
  refine ⟨k+1,st1,4,e0,e0,e0,0,.list 6 [exD o p q m z a,refD (rn 0)],?_,(BodyD.two (by simp) hb hR).up (by omega),by omega,by omega⟩
  simp [u131_0,x131_3,x131_4,x131_5,x131_6,x131_7,x131_8,x131_9,x131_10,x131_11,x131_12,x131_13,e9,e1,e2,hc,hlt,app_r0,hw,s114,e0,rn,refD,exD]
 ·by_cases h1:r=1
  ·subst h1
   obtain ⟨st2,x,e2,x0,x1⟩:=s21 (lo:=1) (hi:=2) (st:=st1) (k:=k+1) hv hl (by omega) (by omega) (by omega) (by omega) (by omega)
   obtain ⟨st3,y,e3,y0,y1⟩:=s21 (lo:=1) (hi:=3) (st:=st2) (k:=k+1+1) hv hl (by omega) (by omega) (by omega) (by omega) (by omega)
   obtain ⟨c,d,-,hcd⟩:=c188 (p:=x) (q:=y) (.inr ⟨x0,x1,y0,y1⟩) []
   have e4:∀ hp,∃ c d,callL K (.fn (.func 188) [] []) [.d (.int .i64 x),.d (.int .i64 y)] none hp=some (.ret (.d (.agg [.str c,.str d])),false,hp,0)∧(c,d)∈lits:=c188 (.inr ⟨x0,x1,y0,y1⟩)
   obtain ⟨c,d,e4,hcd⟩:=e4 (hp.set l (rodO v (k+1+1+1) st3))
   have hL:BodyD cells loops.toNat n (litD c d):=.lit hcd n
   have e5:=s113' 5 hL hR
   have hM:BodyD cells loops.toNat (n+1) (twoD 5 (litD c d) (refD (rn 0))):=.two (by simp) hL hR
   have e6:=s113' 3 hM (hb.up (Nat.le_succ n))
   simp only [exD,refD,rn,e0,twoD,litD] at e5 e6
   refine ⟨k+1+1+1,st3,3,e0,e0,e0,0,.list 6 [twoD 5 (litD c d) (refD (rn 0)),exD o p q m z a],?_,.two (by simp) hM (hb.up (Nat.le_succ n)),by omega,by omega⟩
   simp [u131_0,x131_3,x131_4,x131_5,x131_6,x131_7,x131_8,x131_9,x131_10,x131_11,x131_12,x131_13,e9,e1,e2,e3,e4,e5,e6,hc,hlt,app_r0,hw,s114,s187,e0,rn,refD,exD,litD,twoD]
  ·by_cases h2:r=2
   ·subst h2
    have hN:BodyD cells loops.toNat (n+1) (negD (refD (rn 0))):=.neg hR
    have e2:=s113' 3 (hb.up (Nat.le_succ n)) hN
    simp only [exD,refD,rn,e0,twoD,negD] at e2
    refine ⟨k+1,st1,3,e0,e0,e0,0,.list 6 [exD o p q m z a,negD (refD (rn 0))],?_,.two (by simp) (hb.up (Nat.le_succ n)) hN,by omega,by omega⟩
    simp [u131_0,x131_3,x131_4,x131_5,x131_6,x131_7,x131_8,x131_9,x131_10,x131_11,x131_12,x131_13,e9,e1,e2,hc,hlt,app_r0,hw,s114,e0,rn,refD,exD,negD]
   ·have e2:=s113' 3 hR hb
    simp only [exD,refD,rn,e0,twoD] at e2
    refine ⟨k+1,st1,3,e0,e0,e0,0,.list 6 [refD (rn 0),exD o p q m z a],?_,(BodyD.two (by simp) hR hb).up (by omega),by omega,by omega⟩
    simp [u131_0,x131_3,x131_4,x131_5,x131_6,x131_7,x131_8,x131_9,x131_10,x131_11,x131_12,x131_13,e9,e1,e2,h0,h1,h2,hc,hlt,app_r0,hw,s114,e0,rn,refD,exD]
theorem b131_1 {hp:List O} {l n cells:Nat} {v:V} {nums:List Int} {k st loops:Int} {o:Int} {p q m:ByteArray} {z:Int} {a:D} (hv:IsInts v nums) (hl:l < hp.length) (hk:0≤k) (hk':k < 1099511610000) (hc:1 < cells) (hb:BodyD cells loops.toNat n (exD o p q m z a)) :
  ∃ k' st' o' p' q' m' z' a',execL K 131 l131_0 (st131 l cells loops 1 1 o p q m z a (hp.set l (rodO v k st)) [])=some (.normal,st131 l cells loops 2 2 o' p' q' m' z' a' (hp.set l (rodO v k' st')) [])∧BodyD cells loops.toNat (n+2) (exD o' p' q' m' z' a')∧k≤k'∧k'≤k+3:=by
 have hw:wr .i64 2=2:=wrap_id (by omega) (by omega)
 obtain ⟨st1,r,e1,r0,r1⟩:=s20 (n:=4) (st:=st) (k:=k) hv hl hk (by omega) (by omega)
 have hR:BodyD cells loops.toNat n (refD (rn 1)):=.ref hc n
 have hlt:(1:Int) < cells:=by omega
 by_cases h0:r=0
 ·subst h0
  have e2:=s113' 4 hb hR
  simp only [exD,refD,rn,e0,twoD] at e2
  refine ⟨k+1,st1,4,e0,e0,e0,0,.list 6 [exD o p q m z a,refD (rn 1)],?_,(BodyD.two (by simp) hb hR).up (by omega),by omega,by omega⟩
  simp [u131_0,x131_3,x131_4,x131_5,x131_6,x131_7,x131_8,x131_9,x131_10,x131_11,x131_12,x131_13,e9,e1,e2,hc,hlt,app_r1,hw,s114,e0,rn,refD,exD]
 ·by_cases h1:r=1
  ·subst h1
   obtain ⟨st2,x,e2,x0,x1⟩:=s21 (lo:=1) (hi:=2) (st:=st1) (k:=k+1) hv hl (by omega) (by omega) (by omega) (by omega) (by omega)
   obtain ⟨st3,y,e3,y0,y1⟩:=s21 (lo:=1) (hi:=3) (st:=st2) (k:=k+1+1) hv hl (by omega) (by omega) (by omega) (by omega) (by omega)
   obtain ⟨c,d,-,hcd⟩:=c188 (p:=x) (q:=y) (.inr ⟨x0,x1,y0,y1⟩) []
   have e4:∀ hp,∃ c d,callL K (.fn (.func 188) [] []) [.d (.int .i64 x),.d (.int .i64 y)] none hp=some (.ret (.d (.agg [.str c,.str d])),false,hp,0)∧(c,d)∈lits:=c188 (.inr ⟨x0,x1,y0,y1⟩)
   obtain ⟨c,d,e4,hcd⟩:=e4 (hp.set l (rodO v (k+1+1+1) st3))
   have hL:BodyD cells loops.toNat n (litD c d):=.lit hcd n
   have e5:=s113' 5 hL hR
   have hM:BodyD cells loops.toNat (n+1) (twoD 5 (litD c d) (refD (rn 1))):=.two (by simp) hL hR
   have e6:=s113' 3 hM (hb.up (Nat.le_succ n))
   simp only [exD,refD,rn,e0,twoD,litD] at e5 e6
   refine ⟨k+1+1+1,st3,3,e0,e0,e0,0,.list 6 [twoD 5 (litD c d) (refD (rn 1)),exD o p q m z a],?_,.two (by simp) hM (hb.up (Nat.le_succ n)),by omega,by omega⟩
   simp [u131_0,x131_3,x131_4,x131_5,x131_6,x131_7,x131_8,x131_9,x131_10,x131_11,x131_12,x131_13,e9,e1,e2,e3,e4,e5,e6,hc,hlt,app_r1,hw,s114,s187,e0,rn,refD,exD,litD,twoD]
  ·by_cases h2:r=2
   ·subst h2
    have hN:BodyD cells loops.toNat (n+1) (negD (refD (rn 1))):=.neg hR
    have e2:=s113' 3 (hb.up (Nat.le_succ n)) hN
    simp only [exD,refD,rn,e0,twoD,negD] at e2
    refine ⟨k+1,st1,3,e0,e0,e0,0,.list 6 [exD o p q m z a,negD (refD (rn 1))],?_,.two (by simp) (hb.up (Nat.le_succ n)) hN,by omega,by omega⟩
    simp [u131_0,x131_3,x131_4,x131_5,x131_6,x131_7,x131_8,x131_9,x131_10,x131_11,x131_12,x131_13,e9,e1,e2,hc,hlt,app_r1,hw,s114,e0,rn,refD,exD,negD]
   ·have e2:=s113' 3 hR hb
    simp only [exD,refD,rn,e0,twoD] at e2
    refine ⟨k+1,st1,3,e0,e0,e0,0,.list 6 [refD (rn 1),exD o p q m z a],?_,(BodyD.two (by simp) hR hb).up (by omega),by omega,by omega⟩
    simp [u131_0,x131_3,x131_4,x131_5,x131_6,x131_7,x131_8,x131_9,x131_10,x131_11,x131_12,x131_13,e9,e1,e2,h0,h1,h2,hc,hlt,app_r1,hw,s114,e0,rn,refD,exD]
theorem b131_2 {hp:List O} {l n cells:Nat} {v:V} {nums:List Int} {k st loops:Int} {o:Int} {p q m:ByteArray} {z:Int} {a:D} (hv:IsInts v nums) (hl:l < hp.length) (hk:0≤k) (hk':k < 1099511610000) (hc:2 < cells) (hb:BodyD cells loops.toNat n (exD o p q m z a)) :
  ∃ k' st' o' p' q' m' z' a',execL K 131 l131_0 (st131 l cells loops 2 2 o p q m z a (hp.set l (rodO v k st)) [])=some (.normal,st131 l cells loops 3 3 o' p' q' m' z' a' (hp.set l (rodO v k' st')) [])∧BodyD cells loops.toNat (n+2) (exD o' p' q' m' z' a')∧k≤k'∧k'≤k+3:=by
 have hw:wr .i64 3=3:=wrap_id (by omega) (by omega)
 obtain ⟨st1,r,e1,r0,r1⟩:=s20 (n:=4) (st:=st) (k:=k) hv hl hk (by omega) (by omega)
 have hR:BodyD cells loops.toNat n (refD (rn 2)):=.ref hc n
 have hlt:(2:Int) < cells:=by omega
 by_cases h0:r=0
 ·subst h0
  have e2:=s113' 4 hb hR
  simp only [exD,refD,rn,e0,twoD] at e2
  refine ⟨k+1,st1,4,e0,e0,e0,0,.list 6 [exD o p q m z a,refD (rn 2)],?_,(BodyD.two (by simp) hb hR).up (by omega),by omega,by omega⟩
  simp [u131_0,x131_3,x131_4,x131_5,x131_6,x131_7,x131_8,x131_9,x131_10,x131_11,x131_12,x131_13,e9,e1,e2,hc,hlt,app_r2,hw,s114,e0,rn,refD,exD]
 ·by_cases h1:r=1
  ·subst h1
   obtain ⟨st2,x,e2,x0,x1⟩:=s21 (lo:=1) (hi:=2) (st:=st1) (k:=k+1) hv hl (by omega) (by omega) (by omega) (by omega) (by omega)
   obtain ⟨st3,y,e3,y0,y1⟩:=s21 (lo:=1) (hi:=3) (st:=st2) (k:=k+1+1) hv hl (by omega) (by omega) (by omega) (by omega) (by omega)
   obtain ⟨c,d,-,hcd⟩:=c188 (p:=x) (q:=y) (.inr ⟨x0,x1,y0,y1⟩) []
   have e4:∀ hp,∃ c d,callL K (.fn (.func 188) [] []) [.d (.int .i64 x),.d (.int .i64 y)] none hp=some (.ret (.d (.agg [.str c,.str d])),false,hp,0)∧(c,d)∈lits:=c188 (.inr ⟨x0,x1,y0,y1⟩)
   obtain ⟨c,d,e4,hcd⟩:=e4 (hp.set l (rodO v (k+1+1+1) st3))
   have hL:BodyD cells loops.toNat n (litD c d):=.lit hcd n
   have e5:=s113' 5 hL hR
   have hM:BodyD cells loops.toNat (n+1) (twoD 5 (litD c d) (refD (rn 2))):=.two (by simp) hL hR
   have e6:=s113' 3 hM (hb.up (Nat.le_succ n))
   simp only [exD,refD,rn,e0,twoD,litD] at e5 e6
   refine ⟨k+1+1+1,st3,3,e0,e0,e0,0,.list 6 [twoD 5 (litD c d) (refD (rn 2)),exD o p q m z a],?_,.two (by simp) hM (hb.up (Nat.le_succ n)),by omega,by omega⟩
   simp [u131_0,x131_3,x131_4,x131_5,x131_6,x131_7,x131_8,x131_9,x131_10,x131_11,x131_12,x131_13,e9,e1,e2,e3,e4,e5,e6,hc,hlt,app_r2,hw,s114,s187,e0,rn,refD,exD,litD,twoD]
  ·by_cases h2:r=2
   ·subst h2
    have hN:BodyD cells loops.toNat (n+1) (negD (refD (rn 2))):=.neg hR
    have e2:=s113' 3 (hb.up (Nat.le_succ n)) hN
    simp only [exD,refD,rn,e0,twoD,negD] at e2
    refine ⟨k+1,st1,3,e0,e0,e0,0,.list 6 [exD o p q m z a,negD (refD (rn 2))],?_,.two (by simp) (hb.up (Nat.le_succ n)) hN,by omega,by omega⟩
    simp [u131_0,x131_3,x131_4,x131_5,x131_6,x131_7,x131_8,x131_9,x131_10,x131_11,x131_12,x131_13,e9,e1,e2,hc,hlt,app_r2,hw,s114,e0,rn,refD,exD,negD]
   ·have e2:=s113' 3 hR hb
    simp only [exD,refD,rn,e0,twoD] at e2
    refine ⟨k+1,st1,3,e0,e0,e0,0,.list 6 [refD (rn 2),exD o p q m z a],?_,(BodyD.two (by simp) hR hb).up (by omega),by omega,by omega⟩
    simp [u131_0,x131_3,x131_4,x131_5,x131_6,x131_7,x131_8,x131_9,x131_10,x131_11,x131_12,x131_13,e9,e1,e2,h0,h1,h2,hc,hlt,app_r2,hw,s114,e0,rn,refD,exD]
theorem lp131 {hp:List O} {l cells:Nat} {v:V} {nums:List Int} {loops:Int} (hv:IsInts v nums) (hl:l < hp.length) (hc:cells≤3) {k st:Int} {n:Nat} {o:Int} {p q m:ByteArray} {z:Int} {a:D} (hk:0≤k) (hk':k < 1099511600000) (hb:BodyD cells loops.toNat n (exD o p q m z a)) :
  ∃ k' st' o' p' q' m' z' a',execL K 131 (.loop l131_0) (st131 l cells loops 0 0 o p q m z a (hp.set l (rodO v k st)) [])=some (.exit 0,st131 l cells loops cells cells o' p' q' m' z' a' (hp.set l (rodO v k' st')) [(16,.d (.bool false))])∧BodyD cells loops.toNat (n+6) (exD o' p' q' m' z' a')∧k≤k'∧k'≤k+9:=by
 have hend:∀ (k st:Int) (o:Int) (p q m:ByteArray) (z:Int) (a:D),execL K 131 l131_0 (st131 l cells loops cells cells o p q m z a (hp.set l (rodO v k st)) [])=some (.exit 0,st131 l cells loops cells cells o p q m z a (hp.set l (rodO v k st)) [(16,.d (.bool false))]):=by
  intro k st o p q m z a
  simp [u131_0,x131_3]
 match cells,hc,hb,hend with
 | 0,_,hb,hend =>
  refine ⟨k,st,o,p,q,m,z,a,?_,hb.up (by omega),by omega,by omega⟩
  rw [execL_loop]
  exact congrArg (andThen (execL K 131 (.loop l131_0))) (hend k st o p q m z a)
 | 1,_,hb,hend =>
  obtain ⟨k1,st1,o1,p1,q1,m1,z1,a1,e1,h1,i1,j1⟩:=b131_0 (st:=st) hv hl hk (by omega) (by omega) hb
  refine ⟨k1,st1,o1,p1,q1,m1,z1,a1,?_,h1.up (by omega),by omega,by omega⟩
  rw [execL_loop,e1]
  refine (execL_loop (C:=K) (f:=131) (p:=l131_0) (s:=st131 l ((1:Nat):Int) loops ((1:Nat):Int) 1 o1 p1 q1 m1 z1 a1 (hp.set l (rodO v k1 st1)) [])).trans ?_
  exact congrArg (andThen (execL K 131 (.loop l131_0))) (hend k1 st1 o1 p1 q1 m1 z1 a1)
 | 2,_,hb,hend =>
  obtain ⟨k1,st1,o1,p1,q1,m1,z1,a1,e1,h1,i1,j1⟩:=b131_0 (st:=st) hv hl hk (by omega) (by omega) hb
  obtain ⟨k2,st2,o2,p2,q2,m2,z2,a2,e2,h2,i2,j2⟩:=b131_1 (st:=st1) (k:=k1) hv hl (by omega) (by omega) (by omega) h1
  refine ⟨k2,st2,o2,p2,q2,m2,z2,a2,?_,h2.up (by omega),by omega,by omega⟩
  rw [execL_loop,e1]
  show execL K 131 (.loop l131_0) _=_
  rw [execL_loop,e2]
  refine (execL_loop (C:=K) (f:=131) (p:=l131_0) (s:=st131 l ((2:Nat):Int) loops ((2:Nat):Int) 2 o2 p2 q2 m2 z2 a2 (hp.set l (rodO v k2 st2)) [])).trans ?_
  exact congrArg (andThen (execL K 131 (.loop l131_0))) (hend k2 st2 o2 p2 q2 m2 z2 a2)
 | 3,_,hb,hend =>
  obtain ⟨k1,st1,o1,p1,q1,m1,z1,a1,e1,h1,i1,j1⟩:=b131_0 (st:=st) hv hl hk (by omega) (by omega) hb
  obtain ⟨k2,st2,o2,p2,q2,m2,z2,a2,e2,h2,i2,j2⟩:=b131_1 (st:=st1) (k:=k1) hv hl (by omega) (by omega) (by omega) h1
  obtain ⟨k3,st3,o3,p3,q3,m3,z3,a3,e3,h3,i3,j3⟩:=b131_2 (st:=st2) (k:=k2) hv hl (by omega) (by omega) (by omega) h2
  refine ⟨k3,st3,o3,p3,q3,m3,z3,a3,?_,h3.up (by omega),by omega,by omega⟩
  rw [execL_loop,e1]
  show execL K 131 (.loop l131_0) _=_
  rw [execL_loop,e2]
  show execL K 131 (.loop l131_0) _=_
  rw [execL_loop,e3]
  refine (execL_loop (C:=K) (f:=131) (p:=l131_0) (s:=st131 l ((3:Nat):Int) loops ((3:Nat):Int) 3 o3 p3 q3 m3 z3 a3 (hp.set l (rodO v k3 st3)) [])).trans ?_
  exact congrArg (andThen (execL K 131 (.loop l131_0))) (hend k3 st3 o3 p3 q3 m3 z3 a3)
abbrev sA (b:Bool) (l:Nat) (cells loops:Int) (j:Nat) (o:Int) (p q m:ByteArray) (z:Int) (a:D) (hp:List O):St :=
 {tm:=(0,.ptr (.heap l) 0) :: (1,.d (.int .i64 cells)) :: (if b then [(6,.ptr (.slot 6 0) 0),(7,.ptr (.slot 7 0) 0)] else [(2,.d (.int .i64 loops)),(6,.ptr (.slot 6 0) 0),(7,.ptr (.slot 7 0) 0),(57,.d (.bool false))]),
  m:={ ob:=(6,0,.cells [.d (.int .i64 0),.d (.str e0),.d (.str e0),.d (.str e0),.d (.int .i64 0),.d .nils] false) :: (7,0,.cells [.d (.int .i64 o),.d (.str p),.d (.str q),.d (.str m),.d (.int .i64 z),.d a] false) :: e9 j,hp:=hp,wl:=1 <<< l },df:=[] }
theorem a131 {hp:List O} {l cells:Nat} {v:V} {nums:List Int} {loops:Int} (hv:IsInts v nums) (hl:l < hp.length) (h0:0≤loops) (h2:loops≤2) {k st:Int} {n j:Nat} {o:Int} {p q m:ByteArray} {z:Int} {a:D} (hk:0≤k) (hk':k < 1099511600000) (hb:BodyD cells loops.toNat n (exD o p q m z a)) :
  ∃ b k' st' o' p' q' m' z' a',execL K 131 (.seq (rg 131 14) (.cond (.tmp 57) (.region 15 (opsAt K.P 131 15) true) (.skip))) (st131 l cells loops cells j o p q m z a (hp.set l (rodO v k st)) [(16,.d (.bool false))])=some (.normal,sA b l cells loops j o' p' q' m' z' a' (hp.set l (rodO v k' st')))∧BodyD cells loops.toNat (n+1) (exD o' p' q' m' z' a')∧k≤k'∧k'≤k+3:=by
 by_cases hz:0 < loops
 ·obtain ⟨st1,b,e1⟩:=s129 (n:=2) (st:=st) (k:=k) hv hl hk (by omega) (by omega) (by omega)
  cases b with
  | false =>
   refine ⟨false,k+1,st1,o,p,q,m,z,a,?_,hb.up (by omega),by omega,by omega⟩
   simp [x131_14,x131_15,e0,e1,hz]
  | true =>
   obtain ⟨st2,op,e2,hop⟩:=s58 (xs:=[3,5,4]) (st:=st1) (k:=k+1) hv hl (by omega) (by omega) (by simp) (by simp)
   obtain ⟨st3,r,e3,r0,r1⟩:=s20 (n:=loops - 1) (st:=st2) (k:=k+1+1) hv hl (by omega) (by omega) (by omega)
   have hw:wr .i64 (loops - 1)=loops - 1:=wrap_id (by omega) (by omega)
   have hR:BodyD cells loops.toNat n (refD (inm r.toNat)):=.ind (by omega) n
   have hop':op=3∨op=4∨op=5∨op=6:=by simp at hop; omega
   have e4:=s113' op hb hR
   obtain rfl | rfl:r=0∨r=1:=by omega
   ·simp only [exD,refD,inm,e0,twoD,Int.toNat_zero] at e4
    refine ⟨true,k+1+1+1,st3,op,e0,e0,e0,0,.list 6 [exD o p q m z a,refD (inm 0)],?_,.two hop' hb hR,by omega,by omega⟩
    simp only [ints_cons,ints_nil] at e2
    simp [x131_14,x131_15,e0,e1,e2,e3,e4,hz,hw,app_i0,s114,inm,refD,exD]
   ·simp only [exD,refD,inm,e0,twoD,Int.toNat_one] at e4
    refine ⟨true,k+1+1+1,st3,op,e0,e0,e0,0,.list 6 [exD o p q m z a,refD (inm 1)],?_,.two hop' hb hR,by omega,by omega⟩
    simp only [ints_cons,ints_nil] at e2
    simp [x131_14,x131_15,e0,e1,e2,e3,e4,hz,hw,app_i1,s114,inm,refD,exD]
 ·refine ⟨false,k,st,o,p,q,m,z,a,?_,hb.up (by omega),by omega,by omega⟩
  simp [x131_14,x131_15,e0,hz]
theorem IsArgs.cell {a:D} (h:IsArgs a):a.isCell=true:=by
 rcases h with rfl | ⟨l,rfl⟩<;>rfl
theorem BodyD.args {c l n:Nat} {o:Int} {p q m:ByteArray} {z:Int} {a:D} (h:BodyD c l n (exD o p q m z a)):IsArgs a:=by
 obtain ⟨_,_,_,_,_,a',e,ha⟩:=h.form
 simp [exD] at e
 obtain ⟨-,-,-,-,-,rfl⟩:=e
 exact ha
theorem s131 {hp:List O} {l cells:Nat} {v:V} {nums:List Int} {loops:Nat} (hv:IsInts v nums) (hl:l < hp.length) (hc:cells≤3) (h2:loops≤2) {k st:Int} (hk:0≤k) (hk':k < 1099511500000) :
  ∃ k' st' d,callL K (.fn (.func 131) [] []) [.ptr (.heap l) 0,.d (.int .i64 cells),.d (.int .i64 loops)] none (hp.set l (rodO v k st))=some (.ret (.d d),false,hp.set l (rodO v k' st'),1 <<< l)∧BodyD cells loops 10 d∧k≤k'∧k'≤k+20:=by
 have e:=k131 [] [] [.ptr (.heap l) 0,.d (.int .i64 cells),.d (.int .i64 loops)] none (hp.set l (rodO v k st))
 obtain ⟨st1,r,e1,r0,r1⟩:=s20 (n:=5) (st:=st) (k:=k) hv hl hk (by omega) (by omega)
 obtain ⟨c,d,e2,hcd⟩:=c188 (p:=r) (q:=1) (.inl ⟨rfl,r0,by omega⟩) (hp.set l (rodO v (k+1) st1))
 have hL:BodyD cells loops 0 (exD 0 c d e0 0 .nils):=.lit hcd 0
 obtain ⟨k3,st3,o3,p3,q3,m3,z3,a3,e3,h3,i3,j3⟩:=lp131 (cells:=cells) (loops:=loops) (st:=st1) (k:=k+1) hv hl hc (by omega) (by omega) (by simpa using hL)
 obtain ⟨b,k4,st4,o4,p4,q4,m4,z4,a4,e4,h4,i4,j4⟩:=a131 (cells:=cells) (loops:=loops) (st:=st3) (k:=k3) (j:=cells) hv hl (by omega) (by omega) (by omega) (by omega) h3
 obtain ⟨st5,b5,e5⟩:=s129 (n:=9) (st:=st4) (k:=k4) hv hl (by omega) (by omega) (by omega) (by omega)
 have h4':BodyD cells loops 7 (exD o4 p4 q4 m4 z4 a4):=by simpa using h4
 have hca:=h4'.args.cell
 simp only [D.isCell] at hca
 simp only [st131,e0] at e3
 rw [show e9 0=[] from rfl] at e3
 simp only [st131,sA,e0] at e4
 by_cases hz:0 < cells
 ·have hR:BodyD cells loops 7 (refD (rn 0)):=.ref hz 7
  have e6:=s113' 6 h4' hR
  simp only [exD,refD,rn,e0,twoD] at e6
  have hT:BodyD cells loops 8 (twoD 6 (exD o4 p4 q4 m4 z4 a4) (refD (rn 0))):=.two (by simp) h4' hR
  cases b5 with
  | true =>
   refine ⟨k4+1,st5,twoD 6 (exD o4 p4 q4 m4 z4 a4) (refD (rn 0)),?_,hT.up (by omega),by omega,by omega⟩
   cases b
   ·simp [c131,x131_0,x131_1,x131_2,x131_16,x131_17,x131_18,hca,e1,e2,e3,e4,e5,e6,s187,s114,hz,litD,refD,rn,exD,twoD,e0] at e
    simpa [twoD,exD,e0,refD,rn] using e
   ·simp [c131,x131_0,x131_1,x131_2,x131_16,x131_17,x131_18,hca,e1,e2,e3,e4,e5,e6,s187,s114,hz,litD,refD,rn,exD,twoD,e0] at e
    simpa [twoD,exD,e0,refD,rn] using e
  | false =>
   refine ⟨k4+1,st5,exD o4 p4 q4 m4 z4 a4,?_,h4'.up (by omega),by omega,by omega⟩
   cases b
   ·simp [c131,x131_0,x131_1,x131_2,x131_16,x131_17,x131_18,hca,e1,e2,e3,e4,e5,s187,hz,litD,exD,e0] at e
    simpa [exD] using e
   ·simp [c131,x131_0,x131_1,x131_2,x131_16,x131_17,x131_18,hca,e1,e2,e3,e4,e5,s187,hz,litD,exD,e0] at e
    simpa [exD] using e
 ·refine ⟨k4+1,st5,exD o4 p4 q4 m4 z4 a4,?_,h4'.up (by omega),by omega,by omega⟩
  cases b5<;>cases b
  all_goals
   simp [c131,x131_0,x131_1,x131_2,x131_16,x131_17,x131_18,hca,e1,e2,e3,e4,e5,s187,hz,litD,exD,e0] at e
   simpa [exD] using e
theorem s130 (hp:List O) (n:Nat) (x:List (Int × List Int)) (hx:x.length≤2) (h:∀ p∈x,p.2.length≤1000):callL K (.fn (.func 130) [] []) [.d (encC n x)] none hp=some (.ret (.d (encC n x)),false,hp,0):=by
 have hw:wr .i64 1=1:=wrap_id (by omega) (by omega)
 rw [k130]
 match x,hx,h with
 | [],_,_=>simp [c130,x130_0,x130_1,x130_2,x130_3,x130_4,x130_5,x130_6,execL_loop,u130_0,encC,atD,encA]
 | [p],_,h =>
  have e1:=fun hp=>s146 hp p.2 (h p (by simp))
  simp [c130,x130_0,x130_1,x130_2,x130_3,x130_4,x130_5,x130_6,execL_loop,u130_0,encC,atD,encA,hw,e1]
 | [p,q],_,h =>
  have e1:=fun hp=>s146 hp p.2 (h p (by simp))
  have e2:=fun hp=>s146 hp q.2 (h q (by simp))
  simp [c130,x130_0,x130_1,x130_2,x130_3,x130_4,x130_5,x130_6,execL_loop,u130_0,encC,atD,encA,hw,hw2,e1,e2]
 | _ :: _ :: _ :: _,hx,_=>simp at hx
theorem p63_0_0_0 {h0 h1 h2 h3 h4 h5 h6:List O} {l:Nat} {w1 w2 w3 w4 w5 w6:Nat} {ta tn o z:Int} {tx a:D} {p q n:ByteArray}
 (eP:CK 58 [.ptr (.heap l) 0,.d (.list 1 [.int .i64 0,.int .i64 1,.int .i64 1,.int .i64 2,.int .i64 2])] h0 (.d (.int .i64 0)) h1 w1)
 (eA:CK 20 [.ptr (.heap l) 0,.d (.int .i64 2)] h1 (.d (.int .i64 ta)) h2 w2)
 (eT:CK 128 [.ptr (.heap l) 0,.d (.list 2 arrsD),.d (.nils),.d (.int .i64 ta)] h2 (.d (.agg [.int .i64 tn,tx])) h3 w3)
 (eM:CK 20 [.ptr (.heap l) 0,.d (.int .i64 2)] h3 (.d (.int .i64 0)) h4 w4)
 (eO:CK 129 [.ptr (.heap l) 0,.d (.int .i64 3)] h4 (.d (.bool false)) h5 w5)
 (eB:CK 131 [.ptr (.heap l) 0,.d (.int .i64 0),.d (.int .i64 0)] h5 (.d (.agg [.int .i64 o,.str p,.str q,.str n,.int .i64 z,a])) h6 w6)
 (xtx:(tx).isCell=true) (xa:(a).isCell=true) :
 ∃ w,callL K (.fn (.func 63) [] []) [.ptr (.heap l) 0,.d (.list 2 arrsD)] none h0=some (.ret (.d (.agg [.nils,.int .i64 tn,tx,.nils,.int .i64 o,.str p,.str q,.str n,.int .i64 z,a])),false,h6,w):=by
 simp only [D.isCell] at xtx xa
 have e:=k63 [] [] [.ptr (.heap l) 0,.d (.list 2 arrsD)] none h0
 have hA:arrsD.length=3:=rfl
 simp [c63,x63_0,x63_1,x63_2,x63_3,x63_4,x63_5,x63_6,x63_7,x63_8,x63_9,x63_10,x63_11,x63_12,x63_13,x63_14,x63_15,execL_loop,u63_0,u63_1,hA,hw0,hw1,hw2,eP,eA,eT,eM,eO,eB,xtx,xa] at e
 exact ⟨_,e⟩
theorem p63_0_0_1 {h0 h1 h2 h3 h4 h5 h6:List O} {l:Nat} {w1 w2 w3 w4 w5 w6:Nat} {ta tn o z:Int} {tx a:D} {p q n:ByteArray}
 (eP:CK 58 [.ptr (.heap l) 0,.d (.list 1 [.int .i64 0,.int .i64 1,.int .i64 1,.int .i64 2,.int .i64 2])] h0 (.d (.int .i64 0)) h1 w1)
 (eA:CK 20 [.ptr (.heap l) 0,.d (.int .i64 2)] h1 (.d (.int .i64 ta)) h2 w2)
 (eT:CK 128 [.ptr (.heap l) 0,.d (.list 2 arrsD),.d (.nils),.d (.int .i64 ta)] h2 (.d (.agg [.int .i64 tn,tx])) h3 w3)
 (eM:CK 20 [.ptr (.heap l) 0,.d (.int .i64 2)] h3 (.d (.int .i64 0)) h4 w4)
 (eO:CK 129 [.ptr (.heap l) 0,.d (.int .i64 3)] h4 (.d (.bool true)) h5 w5)
 (eK:∀ hp,callL K (.fn (.func 130) [] []) [.d (.agg [.int .i64 tn,tx])] none hp=some (.ret (.d (.agg [.int .i64 tn,tx])),false,hp,0))
 (eB:CK 131 [.ptr (.heap l) 0,.d (.int .i64 1),.d (.int .i64 0)] h5 (.d (.agg [.int .i64 o,.str p,.str q,.str n,.int .i64 z,a])) h6 w6)
 (xtx:(tx).isCell=true) (xa:(a).isCell=true) :
 ∃ w,callL K (.fn (.func 63) [] []) [.ptr (.heap l) 0,.d (.list 2 arrsD)] none h0=some (.ret (.d (.agg [.nils,.int .i64 tn,tx,.list 2 [.agg [.int .i64 tn,tx]],.int .i64 o,.str p,.str q,.str n,.int .i64 z,a])),false,h6,w):=by
 simp only [D.isCell] at xtx xa
 have e:=k63 [] [] [.ptr (.heap l) 0,.d (.list 2 arrsD)] none h0
 have hA:arrsD.length=3:=rfl
 simp [c63,x63_0,x63_1,x63_2,x63_3,x63_4,x63_5,x63_6,x63_7,x63_8,x63_9,x63_10,x63_11,x63_12,x63_13,x63_14,x63_15,execL_loop,u63_0,u63_1,hA,hw0,hw1,hw2,eP,eA,eT,eM,eO,eK,eB,xtx,xa] at e
 exact ⟨_,e⟩
theorem p63_0_1_0 {h0 h1 h2 h3 h4 h5 h6 h7 h8:List O} {l:Nat} {w1 w2 w3 w4 w5 w6 w7 w8:Nat} {ta tn o z fa0 fn0:Int} {tx a fx0:D} {p q n:ByteArray}
 (eP:CK 58 [.ptr (.heap l) 0,.d (.list 1 [.int .i64 0,.int .i64 1,.int .i64 1,.int .i64 2,.int .i64 2])] h0 (.d (.int .i64 0)) h1 w1)
 (eA:CK 20 [.ptr (.heap l) 0,.d (.int .i64 2)] h1 (.d (.int .i64 ta)) h2 w2)
 (eT:CK 128 [.ptr (.heap l) 0,.d (.list 2 arrsD),.d (.nils),.d (.int .i64 ta)] h2 (.d (.agg [.int .i64 tn,tx])) h3 w3)
 (eM:CK 20 [.ptr (.heap l) 0,.d (.int .i64 2)] h3 (.d (.int .i64 1)) h4 w4)
 (eF0:CK 20 [.ptr (.heap l) 0,.d (.int .i64 2)] h4 (.d (.int .i64 fa0)) h5 w5)
 (eC0:CK 128 [.ptr (.heap l) 0,.d (.list 2 arrsD),.d (.nils),.d (.int .i64 fa0)] h5 (.d (.agg [.int .i64 fn0,fx0])) h6 w6)
 (eO:CK 129 [.ptr (.heap l) 0,.d (.int .i64 3)] h6 (.d (.bool false)) h7 w7)
 (eB:CK 131 [.ptr (.heap l) 0,.d (.int .i64 1),.d (.int .i64 0)] h7 (.d (.agg [.int .i64 o,.str p,.str q,.str n,.int .i64 z,a])) h8 w8)
 (xtx:(tx).isCell=true) (xa:(a).isCell=true) (xfx0:(fx0).isCell=true) :
 ∃ w,callL K (.fn (.func 63) [] []) [.ptr (.heap l) 0,.d (.list 2 arrsD)] none h0=some (.ret (.d (.agg [.nils,.int .i64 tn,tx,.list 2 [.agg [.int .i64 fn0,fx0]],.int .i64 o,.str p,.str q,.str n,.int .i64 z,a])),false,h8,w):=by
 simp only [D.isCell] at xtx xa xfx0
 have e:=k63 [] [] [.ptr (.heap l) 0,.d (.list 2 arrsD)] none h0
 have hA:arrsD.length=3:=rfl
 simp [c63,x63_0,x63_1,x63_2,x63_3,x63_4,x63_5,x63_6,x63_7,x63_8,x63_9,x63_10,x63_11,x63_12,x63_13,x63_14,x63_15,execL_loop,u63_0,u63_1,hA,hw0,hw1,hw2,eP,eA,eT,eM,eF0,eC0,eO,eB,xtx,xa,xfx0] at e
 exact ⟨_,e⟩
theorem p63_0_1_1 {h0 h1 h2 h3 h4 h5 h6 h7 h8:List O} {l:Nat} {w1 w2 w3 w4 w5 w6 w7 w8:Nat} {ta tn o z fa0 fn0:Int} {tx a fx0:D} {p q n:ByteArray}
 (eP:CK 58 [.ptr (.heap l) 0,.d (.list 1 [.int .i64 0,.int .i64 1,.int .i64 1,.int .i64 2,.int .i64 2])] h0 (.d (.int .i64 0)) h1 w1)
 (eA:CK 20 [.ptr (.heap l) 0,.d (.int .i64 2)] h1 (.d (.int .i64 ta)) h2 w2)
 (eT:CK 128 [.ptr (.heap l) 0,.d (.list 2 arrsD),.d (.nils),.d (.int .i64 ta)] h2 (.d (.agg [.int .i64 tn,tx])) h3 w3)
 (eM:CK 20 [.ptr (.heap l) 0,.d (.int .i64 2)] h3 (.d (.int .i64 1)) h4 w4)
 (eF0:CK 20 [.ptr (.heap l) 0,.d (.int .i64 2)] h4 (.d (.int .i64 fa0)) h5 w5)
 (eC0:CK 128 [.ptr (.heap l) 0,.d (.list 2 arrsD),.d (.nils),.d (.int .i64 fa0)] h5 (.d (.agg [.int .i64 fn0,fx0])) h6 w6)
 (eO:CK 129 [.ptr (.heap l) 0,.d (.int .i64 3)] h6 (.d (.bool true)) h7 w7)
 (eK:∀ hp,callL K (.fn (.func 130) [] []) [.d (.agg [.int .i64 tn,tx])] none hp=some (.ret (.d (.agg [.int .i64 tn,tx])),false,hp,0))
 (eB:CK 131 [.ptr (.heap l) 0,.d (.int .i64 2),.d (.int .i64 0)] h7 (.d (.agg [.int .i64 o,.str p,.str q,.str n,.int .i64 z,a])) h8 w8)
 (xtx:(tx).isCell=true) (xa:(a).isCell=true) (xfx0:(fx0).isCell=true) :
 ∃ w,callL K (.fn (.func 63) [] []) [.ptr (.heap l) 0,.d (.list 2 arrsD)] none h0=some (.ret (.d (.agg [.nils,.int .i64 tn,tx,.list 2 [.agg [.int .i64 fn0,fx0],.agg [.int .i64 tn,tx]],.int .i64 o,.str p,.str q,.str n,.int .i64 z,a])),false,h8,w):=by
 simp only [D.isCell] at xtx xa xfx0
 have e:=k63 [] [] [.ptr (.heap l) 0,.d (.list 2 arrsD)] none h0
 have hA:arrsD.length=3:=rfl
 simp [c63,x63_0,x63_1,x63_2,x63_3,x63_4,x63_5,x63_6,x63_7,x63_8,x63_9,x63_10,x63_11,x63_12,x63_13,x63_14,x63_15,execL_loop,u63_0,u63_1,hA,hw0,hw1,hw2,eP,eA,eT,eM,eF0,eC0,eO,eK,eB,xtx,xa,xfx0] at e
 exact ⟨_,e⟩
theorem p63_0_2_0 {h0 h1 h2 h3 h4 h5 h6 h7 h8 h9 h10:List O} {l:Nat} {w1 w2 w3 w4 w5 w6 w7 w8 w9 w10:Nat} {ta tn o z fa0 fa1 fn0 fn1:Int} {tx a fx0 fx1:D} {p q n:ByteArray}
 (eP:CK 58 [.ptr (.heap l) 0,.d (.list 1 [.int .i64 0,.int .i64 1,.int .i64 1,.int .i64 2,.int .i64 2])] h0 (.d (.int .i64 0)) h1 w1)
 (eA:CK 20 [.ptr (.heap l) 0,.d (.int .i64 2)] h1 (.d (.int .i64 ta)) h2 w2)
 (eT:CK 128 [.ptr (.heap l) 0,.d (.list 2 arrsD),.d (.nils),.d (.int .i64 ta)] h2 (.d (.agg [.int .i64 tn,tx])) h3 w3)
 (eM:CK 20 [.ptr (.heap l) 0,.d (.int .i64 2)] h3 (.d (.int .i64 2)) h4 w4)
 (eF0:CK 20 [.ptr (.heap l) 0,.d (.int .i64 2)] h4 (.d (.int .i64 fa0)) h5 w5)
 (eC0:CK 128 [.ptr (.heap l) 0,.d (.list 2 arrsD),.d (.nils),.d (.int .i64 fa0)] h5 (.d (.agg [.int .i64 fn0,fx0])) h6 w6)
 (eF1:CK 20 [.ptr (.heap l) 0,.d (.int .i64 2)] h6 (.d (.int .i64 fa1)) h7 w7)
 (eC1:CK 128 [.ptr (.heap l) 0,.d (.list 2 arrsD),.d (.nils),.d (.int .i64 fa1)] h7 (.d (.agg [.int .i64 fn1,fx1])) h8 w8)
 (eO:CK 129 [.ptr (.heap l) 0,.d (.int .i64 3)] h8 (.d (.bool false)) h9 w9)
 (eB:CK 131 [.ptr (.heap l) 0,.d (.int .i64 2),.d (.int .i64 0)] h9 (.d (.agg [.int .i64 o,.str p,.str q,.str n,.int .i64 z,a])) h10 w10)
 (xtx:(tx).isCell=true) (xa:(a).isCell=true) (xfx0:(fx0).isCell=true) (xfx1:(fx1).isCell=true) :
 ∃ w,callL K (.fn (.func 63) [] []) [.ptr (.heap l) 0,.d (.list 2 arrsD)] none h0=some (.ret (.d (.agg [.nils,.int .i64 tn,tx,.list 2 [.agg [.int .i64 fn0,fx0],.agg [.int .i64 fn1,fx1]],.int .i64 o,.str p,.str q,.str n,.int .i64 z,a])),false,h10,w):=by
 simp only [D.isCell] at xtx xa xfx0 xfx1
 have e:=k63 [] [] [.ptr (.heap l) 0,.d (.list 2 arrsD)] none h0
 have hA:arrsD.length=3:=rfl
 simp [c63,x63_0,x63_1,x63_2,x63_3,x63_4,x63_5,x63_6,x63_7,x63_8,x63_9,x63_10,x63_11,x63_12,x63_13,x63_14,x63_15,execL_loop,u63_0,u63_1,hA,hw0,hw1,hw2,eP,eA,eT,eM,eF0,eC0,eF1,eC1,eO,eB,xtx,xa,xfx0,xfx1] at e
 exact ⟨_,e⟩
theorem p63_0_2_1 {h0 h1 h2 h3 h4 h5 h6 h7 h8 h9 h10:List O} {l:Nat} {w1 w2 w3 w4 w5 w6 w7 w8 w9 w10:Nat} {ta tn o z fa0 fa1 fn0 fn1:Int} {tx a fx0 fx1:D} {p q n:ByteArray}
 (eP:CK 58 [.ptr (.heap l) 0,.d (.list 1 [.int .i64 0,.int .i64 1,.int .i64 1,.int .i64 2,.int .i64 2])] h0 (.d (.int .i64 0)) h1 w1)
 (eA:CK 20 [.ptr (.heap l) 0,.d (.int .i64 2)] h1 (.d (.int .i64 ta)) h2 w2)
 (eT:CK 128 [.ptr (.heap l) 0,.d (.list 2 arrsD),.d (.nils),.d (.int .i64 ta)] h2 (.d (.agg [.int .i64 tn,tx])) h3 w3)
 (eM:CK 20 [.ptr (.heap l) 0,.d (.int .i64 2)] h3 (.d (.int .i64 2)) h4 w4)
 (eF0:CK 20 [.ptr (.heap l) 0,.d (.int .i64 2)] h4 (.d (.int .i64 fa0)) h5 w5)
 (eC0:CK 128 [.ptr (.heap l) 0,.d (.list 2 arrsD),.d (.nils),.d (.int .i64 fa0)] h5 (.d (.agg [.int .i64 fn0,fx0])) h6 w6)
 (eF1:CK 20 [.ptr (.heap l) 0,.d (.int .i64 2)] h6 (.d (.int .i64 fa1)) h7 w7)
 (eC1:CK 128 [.ptr (.heap l) 0,.d (.list 2 arrsD),.d (.nils),.d (.int .i64 fa1)] h7 (.d (.agg [.int .i64 fn1,fx1])) h8 w8)
 (eO:CK 129 [.ptr (.heap l) 0,.d (.int .i64 3)] h8 (.d (.bool true)) h9 w9)
 (eK:∀ hp,callL K (.fn (.func 130) [] []) [.d (.agg [.int .i64 tn,tx])] none hp=some (.ret (.d (.agg [.int .i64 tn,tx])),false,hp,0))
 (eB:CK 131 [.ptr (.heap l) 0,.d (.int .i64 3),.d (.int .i64 0)] h9 (.d (.agg [.int .i64 o,.str p,.str q,.str n,.int .i64 z,a])) h10 w10)
 (xtx:(tx).isCell=true) (xa:(a).isCell=true) (xfx0:(fx0).isCell=true) (xfx1:(fx1).isCell=true) :
 ∃ w,callL K (.fn (.func 63) [] []) [.ptr (.heap l) 0,.d (.list 2 arrsD)] none h0=some (.ret (.d (.agg [.nils,.int .i64 tn,tx,.list 2 [.agg [.int .i64 fn0,fx0],.agg [.int .i64 fn1,fx1],.agg [.int .i64 tn,tx]],.int .i64 o,.str p,.str q,.str n,.int .i64 z,a])),false,h10,w):=by
 simp only [D.isCell] at xtx xa xfx0 xfx1
 have e:=k63 [] [] [.ptr (.heap l) 0,.d (.list 2 arrsD)] none h0
 have hA:arrsD.length=3:=rfl
 simp [c63,x63_0,x63_1,x63_2,x63_3,x63_4,x63_5,x63_6,x63_7,x63_8,x63_9,x63_10,x63_11,x63_12,x63_13,x63_14,x63_15,execL_loop,u63_0,u63_1,hA,hw0,hw1,hw2,eP,eA,eT,eM,eF0,eC0,eF1,eC1,eO,eK,eB,xtx,xa,xfx0,xfx1] at e
 exact ⟨_,e⟩
end Mw
