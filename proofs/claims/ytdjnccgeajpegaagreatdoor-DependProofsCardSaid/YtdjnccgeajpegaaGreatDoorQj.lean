/- DependProofs answers true for every list of numbers: its tied card holds; no condition beyond the card's own. -/
import Derived.Test.YtdjnccgeajpegaaGreatDoorQi
import Derived.Test.YtdjnccgeajpegaaGreatDoorXc
set_option linter.unusedVariables false
set_option linter.unusedSimpArgs false
set_option maxRecDepth 10000
set_option maxHeartbeats 4000000
namespace Mw
open Go Go.Proofs
def termE (x:Int × Int):D:=.agg [.int .i64 x.1,.int .i64 x.2]
def tsD:List (Int × Int)→D
 | []=>.nils
 | x :: l=>.list 2 ((x :: l).map termE)
def affE (x:Int × List (Int × Int)):D:=.agg [.int .i64 x.1,tsD x.2]
def difD:List (Int × List (Int × Int))→D
 | []=>.nils
 | x :: l=>.list 2 ((x :: l).map affE)
def difA (ss us:List Int) (p q:Int × List Int):Int × List (Int × Int):=(p.1 - q.1,(p.2.zip ss).map (fun z=>(z.1,z.2 - 1))++(q.2.zip us).map (fun z=>(-z.1,z.2 - 1)))
theorem AffOk.bd {c:Int} {cs ss:List Int} {z:Int} (h:AffOk c cs ss z):0≤c∧c≤z - 1:=by
 have h1:=h.lo
 have h2:=h.hi
 have h3:=loA_nonpos cs ss
 have h4:=hiA_nonneg cs ss
 omega
theorem W {x:Int} (h1:-1000≤x) (h2:x≤1000):wr .i64 x=x:=wrap_id (by omega) (by omega)
theorem w85_0 {T s u a b:Nat} {k:Int} {hp:List O}
 (e1:CK 150 [.ptr (.heap T) 0,.d (.int .i64 s),.d (.int .i64 a)] hp (.d (.agg [.int .i64 k,.nils])) hp 0)
 (e2:CK 150 [.ptr (.heap T) 0,.d (.int .i64 u),.d (.int .i64 b)] hp (.d (.agg [.int .i64 k,.nils])) hp 0) :
 ∃ w,callL K (.fn (.func 85) [] []) [.ptr (.heap T) 0,.d (.int .i64 s),.d (.int .i64 a),.d (.int .i64 u),.d (.int .i64 b)] none hp=some (.ret (.d .nils),false,hp,w):=by
 rw [k85]
 simp [c85,x85_0,r85_0,x85_1,r85_1,x85_2,r85_2,x85_3,r85_3,x85_19,r85_19,execL_loop,u85_2,x85_4,r85_4,e1,e2]
theorem s85 (hp:List O) (T:Nat) {t:List Stp} {rest:List V} {ro:Bool} (hT:hp[T]?=some (.cells (.d (.list 2 arrsD) :: .d (stpsD t) :: rest) ro)) {s u a b:Nat} {x y:Stp} {n:Nat} {c d:List (Int × List Int)} (hs:t[s]?=some x) (hu:t[u]?=some y) (h3:t.length≤3) (hx:StpOk x) (hy:StpOk y) (ha:acc x a=some (n,c)) (hb:acc y b=some (n,d)) (hc:CellOk n c x.ss) (hd:CellOk n d y.ss) :
  ∃ w,callL K (.fn (.func 85) [] []) [.ptr (.heap T) 0,.d (.int .i64 s),.d (.int .i64 a),.d (.int .i64 u),.d (.int .i64 b)] none hp=some (.ret (.d (difD (List.zipWith (difA x.ss y.ss) c d))),false,hp,w):=by
 have e1:=s150 hp T hT hs h3 ha hx.few
 have e2:=s150 hp T hT hu h3 hb hy.few
 have hs':(t.map encS)[s]?=some (encS x):=by rw [List.getElem?_map,hs]; rfl
 have hu':(t.map encS)[u]?=some (encS y):=by rw [List.getElem?_map,hu]; rfl
 have hG:∀ {zx zy},szD x.ss=zx→szD y.ss=zy→G85 hp T s u (t.map encS) x y zx zy:=fun h1 h2=>⟨⟨_,_,hT⟩,hs',hu',h1,h2⟩
 have szx:=hx.sz
 have szy:=hy.sz
 obtain ⟨ss,to,fr,op,num,den,name,size,args⟩:=x
 obtain ⟨us,to2,fr2,op2,num2,den2,name2,size2,args2⟩:=y
 clear hx hy ha hb hs hu
 simp only at hc hd szx szy ⊢
 have hc1:=hc.len
 have hd1:=hd.len
 have harr:=hc.arr
 have szx2:=szx.few
 have szy2:=szy.few
 match n,harr,c,d,hc1,hd1,hc,hd with
 | 2,_,[],[],_,_,hc,hd=>exact w85_0 e1 e2
 | 0,_,[(c0,x0)],[(d0,y0)],_,_,hc,hd =>
  have hc0:=hc.ok 0 (by simp) (by simp [sizesOf])
  have hd0:=hd.ok 0 (by simp) (by simp [sizesOf])
  simp only [List.getElem_cons_zero,List.getElem_cons_succ,sizesOf] at hc0 hd0
  clear hc hd
  match ss,us,szx,szy,x0,y0,hc0.len,hd0.len,hc0,hd0 with
  | [],[],szx,szy,[],[],_,_,hc0,hd0=>
   have k0:=hc0.bd
   have l0:=hd0.bd
   obtain ⟨w0,o0,f0⟩:=it85_0_0_0 (w:=0) (k:=((0:Nat):Int)) (k2:=((0:Nat):Int)) (len:=1) (o:=.dead) (o2:=.dead) (e0:=.nils) (xs:=[.agg [.int .i64 c0,.list 1 []]]) (ys:=[.agg [.int .i64 d0,.list 1 []]]) (by omega) (hG rfl rfl) rfl rfl (W (by omega) (by omega))
   exact w85_1 e1 e2 f0 rfl
  | [],[b0],szx,szy,[],[v00],_,_,hc0,hd0=>
   have k0:=hc0.bd
   have l0:=hd0.bd
   have zb0:=szy.within b0 (by simp)
   have q00:=hd0.coef v00 (by simp)
   obtain ⟨w0,o0,o1,f0⟩:=it85_0_1_0 (w:=0) (k:=((0:Nat):Int)) (k2:=((0:Nat):Int)) (len:=1) (o:=.dead) (o2:=.dead) (e0:=.nils) (xs:=[.agg [.int .i64 c0,.list 1 []]]) (ys:=[.agg [.int .i64 d0,.list 1 [.int .i64 v00]]]) (by omega) (hG rfl rfl) rfl rfl (W (by omega) (by omega)) (W (by omega) (by omega)) (W (by omega) (by omega))
   exact w85_1 e1 e2 f0 rfl
  | [],[b0,b1],szx,szy,[],[v00,v01],_,_,hc0,hd0=>
   have k0:=hc0.bd
   have l0:=hd0.bd
   have zb0:=szy.within b0 (by simp)
   have zb1:=szy.within b1 (by simp)
   have q00:=hd0.coef v00 (by simp)
   have q01:=hd0.coef v01 (by simp)
   obtain ⟨w0,o0,o1,f0⟩:=it85_0_2_0 (w:=0) (k:=((0:Nat):Int)) (k2:=((0:Nat):Int)) (len:=1) (o:=.dead) (o2:=.dead) (e0:=.nils) (xs:=[.agg [.int .i64 c0,.list 1 []]]) (ys:=[.agg [.int .i64 d0,.list 1 [.int .i64 v00,.int .i64 v01]]]) (by omega) (hG rfl rfl) rfl rfl (W (by omega) (by omega)) (W (by omega) (by omega)) (W (by omega) (by omega)) (W (by omega) (by omega)) (W (by omega) (by omega))
   exact w85_1 e1 e2 f0 rfl
  | [a0],[],szx,szy,[u00],[],_,_,hc0,hd0=>
   have k0:=hc0.bd
   have l0:=hd0.bd
   have za0:=szx.within a0 (by simp)
   obtain ⟨w0,o0,o1,f0⟩:=it85_1_0_0 (w:=0) (k:=((0:Nat):Int)) (k2:=((0:Nat):Int)) (len:=1) (o:=.dead) (o2:=.dead) (e0:=.nils) (xs:=[.agg [.int .i64 c0,.list 1 [.int .i64 u00]]]) (ys:=[.agg [.int .i64 d0,.list 1 []]]) (by omega) (hG rfl rfl) rfl rfl (W (by omega) (by omega)) (W (by omega) (by omega))
   exact w85_1 e1 e2 f0 rfl
  | [a0],[b0],szx,szy,[u00],[v00],_,_,hc0,hd0=>
   have k0:=hc0.bd
   have l0:=hd0.bd
   have za0:=szx.within a0 (by simp)
   have zb0:=szy.within b0 (by simp)
   have q00:=hd0.coef v00 (by simp)
   obtain ⟨w0,o0,o1,f0⟩:=it85_1_1_0 (w:=0) (k:=((0:Nat):Int)) (k2:=((0:Nat):Int)) (len:=1) (o:=.dead) (o2:=.dead) (e0:=.nils) (xs:=[.agg [.int .i64 c0,.list 1 [.int .i64 u00]]]) (ys:=[.agg [.int .i64 d0,.list 1 [.int .i64 v00]]]) (by omega) (hG rfl rfl) rfl rfl (W (by omega) (by omega)) (W (by omega) (by omega)) (W (by omega) (by omega)) (W (by omega) (by omega))
   exact w85_1 e1 e2 f0 rfl
  | [a0],[b0,b1],szx,szy,[u00],[v00,v01],_,_,hc0,hd0=>
   have k0:=hc0.bd
   have l0:=hd0.bd
   have za0:=szx.within a0 (by simp)
   have zb0:=szy.within b0 (by simp)
   have zb1:=szy.within b1 (by simp)
   have q00:=hd0.coef v00 (by simp)
   have q01:=hd0.coef v01 (by simp)
   obtain ⟨w0,o0,o1,f0⟩:=it85_1_2_0 (w:=0) (k:=((0:Nat):Int)) (k2:=((0:Nat):Int)) (len:=1) (o:=.dead) (o2:=.dead) (e0:=.nils) (xs:=[.agg [.int .i64 c0,.list 1 [.int .i64 u00]]]) (ys:=[.agg [.int .i64 d0,.list 1 [.int .i64 v00,.int .i64 v01]]]) (by omega) (hG rfl rfl) rfl rfl (W (by omega) (by omega)) (W (by omega) (by omega)) (W (by omega) (by omega)) (W (by omega) (by omega)) (W (by omega) (by omega)) (W (by omega) (by omega))
   exact w85_1 e1 e2 f0 rfl
  | [a0,a1],[],szx,szy,[u00,u01],[],_,_,hc0,hd0=>
   have k0:=hc0.bd
   have l0:=hd0.bd
   have za0:=szx.within a0 (by simp)
   have za1:=szx.within a1 (by simp)
   obtain ⟨w0,o0,o1,f0⟩:=it85_2_0_0 (w:=0) (k:=((0:Nat):Int)) (k2:=((0:Nat):Int)) (len:=1) (o:=.dead) (o2:=.dead) (e0:=.nils) (xs:=[.agg [.int .i64 c0,.list 1 [.int .i64 u00,.int .i64 u01]]]) (ys:=[.agg [.int .i64 d0,.list 1 []]]) (by omega) (hG rfl rfl) rfl rfl (W (by omega) (by omega)) (W (by omega) (by omega)) (W (by omega) (by omega))
   exact w85_1 e1 e2 f0 rfl
  | [a0,a1],[b0],szx,szy,[u00,u01],[v00],_,_,hc0,hd0=>
   have k0:=hc0.bd
   have l0:=hd0.bd
   have za0:=szx.within a0 (by simp)
   have za1:=szx.within a1 (by simp)
   have zb0:=szy.within b0 (by simp)
   have q00:=hd0.coef v00 (by simp)
   obtain ⟨w0,o0,o1,f0⟩:=it85_2_1_0 (w:=0) (k:=((0:Nat):Int)) (k2:=((0:Nat):Int)) (len:=1) (o:=.dead) (o2:=.dead) (e0:=.nils) (xs:=[.agg [.int .i64 c0,.list 1 [.int .i64 u00,.int .i64 u01]]]) (ys:=[.agg [.int .i64 d0,.list 1 [.int .i64 v00]]]) (by omega) (hG rfl rfl) rfl rfl (W (by omega) (by omega)) (W (by omega) (by omega)) (W (by omega) (by omega)) (W (by omega) (by omega)) (W (by omega) (by omega))
   exact w85_1 e1 e2 f0 rfl
  | [a0,a1],[b0,b1],szx,szy,[u00,u01],[v00,v01],_,_,hc0,hd0=>
   have k0:=hc0.bd
   have l0:=hd0.bd
   have za0:=szx.within a0 (by simp)
   have za1:=szx.within a1 (by simp)
   have zb0:=szy.within b0 (by simp)
   have zb1:=szy.within b1 (by simp)
   have q00:=hd0.coef v00 (by simp)
   have q01:=hd0.coef v01 (by simp)
   obtain ⟨w0,o0,o1,f0⟩:=it85_2_2_0 (w:=0) (k:=((0:Nat):Int)) (k2:=((0:Nat):Int)) (len:=1) (o:=.dead) (o2:=.dead) (e0:=.nils) (xs:=[.agg [.int .i64 c0,.list 1 [.int .i64 u00,.int .i64 u01]]]) (ys:=[.agg [.int .i64 d0,.list 1 [.int .i64 v00,.int .i64 v01]]]) (by omega) (hG rfl rfl) rfl rfl (W (by omega) (by omega)) (W (by omega) (by omega)) (W (by omega) (by omega)) (W (by omega) (by omega)) (W (by omega) (by omega)) (W (by omega) (by omega)) (W (by omega) (by omega))
   exact w85_1 e1 e2 f0 rfl
  | _ :: _ :: _ :: _,_,szx,szy,_,_,_,_,_,_=>exact absurd szx.few (by simp)
  | _,_ :: _ :: _ :: _,szx,szy,_,_,_,_,_,_=>exact absurd szy.few (by simp)
 | 1,_,[(c0,x0),(c1,x1)],[(d0,y0),(d1,y1)],_,_,hc,hd =>
  have hc0:=hc.ok 0 (by simp) (by simp [sizesOf])
  have hd0:=hd.ok 0 (by simp) (by simp [sizesOf])
  simp only [List.getElem_cons_zero,List.getElem_cons_succ,sizesOf] at hc0 hd0
  have hc1:=hc.ok 1 (by simp) (by simp [sizesOf])
  have hd1:=hd.ok 1 (by simp) (by simp [sizesOf])
  simp only [List.getElem_cons_zero,List.getElem_cons_succ,sizesOf] at hc1 hd1
  clear hc hd
  match ss,us,szx,szy,x0,y0,hc0.len,hd0.len,hc0,hd0,x1,y1,hc1.len,hd1.len,hc1,hd1 with
  | [],[],szx,szy,[],[],_,_,hc0,hd0,[],[],_,_,hc1,hd1=>
   have k0:=hc0.bd
   have l0:=hd0.bd
   have k1:=hc1.bd
   have l1:=hd1.bd
   obtain ⟨w0,o0,f0⟩:=it85_0_0_0 (w:=0) (k:=((1:Nat):Int)) (k2:=((1:Nat):Int)) (len:=2) (o:=.dead) (o2:=.dead) (e0:=.nils) (xs:=[.agg [.int .i64 c0,.list 1 []],.agg [.int .i64 c1,.list 1 []]]) (ys:=[.agg [.int .i64 d0,.list 1 []],.agg [.int .i64 d1,.list 1 []]]) (by omega) (hG rfl rfl) rfl rfl (W (by omega) (by omega))
   obtain ⟨w1,o2,f1⟩:=it85_0_0_1 (w:=w0) (k:=((1:Nat):Int)) (k2:=((1:Nat):Int)) (len:=2) (e0:=.agg [.int .i64 (c0 - d0),.nils]) (o:=o0) (o2:=.dead) (xs:=[.agg [.int .i64 c0,.list 1 []],.agg [.int .i64 c1,.list 1 []]]) (ys:=[.agg [.int .i64 d0,.list 1 []],.agg [.int .i64 d1,.list 1 []]]) (by omega) (hG rfl rfl) rfl rfl (W (by omega) (by omega)) rfl
   exact w85_2 e1 e2 f0 f1 rfl
  | [],[b0],szx,szy,[],[v00],_,_,hc0,hd0,[],[v10],_,_,hc1,hd1=>
   have k0:=hc0.bd
   have l0:=hd0.bd
   have k1:=hc1.bd
   have l1:=hd1.bd
   have zb0:=szy.within b0 (by simp)
   have q00:=hd0.coef v00 (by simp)
   have q10:=hd1.coef v10 (by simp)
   obtain ⟨w0,o0,o1,f0⟩:=it85_0_1_0 (w:=0) (k:=((1:Nat):Int)) (k2:=((1:Nat):Int)) (len:=2) (o:=.dead) (o2:=.dead) (e0:=.nils) (xs:=[.agg [.int .i64 c0,.list 1 []],.agg [.int .i64 c1,.list 1 []]]) (ys:=[.agg [.int .i64 d0,.list 1 [.int .i64 v00]],.agg [.int .i64 d1,.list 1 [.int .i64 v10]]]) (by omega) (hG rfl rfl) rfl rfl (W (by omega) (by omega)) (W (by omega) (by omega)) (W (by omega) (by omega))
   obtain ⟨w1,o2,o3,f1⟩:=it85_0_1_1 (w:=w0) (k:=((1:Nat):Int)) (k2:=((1:Nat):Int)) (len:=2) (e0:=.agg [.int .i64 (c0 - d0),.list 2 [.agg [.int .i64 (-v00),.int .i64 (b0 - 1)]]]) (o:=o0) (o2:=o1) (xs:=[.agg [.int .i64 c0,.list 1 []],.agg [.int .i64 c1,.list 1 []]]) (ys:=[.agg [.int .i64 d0,.list 1 [.int .i64 v00]],.agg [.int .i64 d1,.list 1 [.int .i64 v10]]]) (by omega) (hG rfl rfl) rfl rfl (W (by omega) (by omega)) (W (by omega) (by omega)) (W (by omega) (by omega)) rfl
   exact w85_2 e1 e2 f0 f1 rfl
  | [],[b0,b1],szx,szy,[],[v00,v01],_,_,hc0,hd0,[],[v10,v11],_,_,hc1,hd1=>
   have k0:=hc0.bd
   have l0:=hd0.bd
   have k1:=hc1.bd
   have l1:=hd1.bd
   have zb0:=szy.within b0 (by simp)
   have zb1:=szy.within b1 (by simp)
   have q00:=hd0.coef v00 (by simp)
   have q01:=hd0.coef v01 (by simp)
   have q10:=hd1.coef v10 (by simp)
   have q11:=hd1.coef v11 (by simp)
   obtain ⟨w0,o0,o1,f0⟩:=it85_0_2_0 (w:=0) (k:=((1:Nat):Int)) (k2:=((1:Nat):Int)) (len:=2) (o:=.dead) (o2:=.dead) (e0:=.nils) (xs:=[.agg [.int .i64 c0,.list 1 []],.agg [.int .i64 c1,.list 1 []]]) (ys:=[.agg [.int .i64 d0,.list 1 [.int .i64 v00,.int .i64 v01]],.agg [.int .i64 d1,.list 1 [.int .i64 v10,.int .i64 v11]]]) (by omega) (hG rfl rfl) rfl rfl (W (by omega) (by omega)) (W (by omega) (by omega)) (W (by omega) (by omega)) (W (by omega) (by omega)) (W (by omega) (by omega))
   obtain ⟨w1,o2,o3,f1⟩:=it85_0_2_1 (w:=w0) (k:=((1:Nat):Int)) (k2:=((1:Nat):Int)) (len:=2) (e0:=.agg [.int .i64 (c0 - d0),.list 2 [.agg [.int .i64 (-v00),.int .i64 (b0 - 1)],.agg [.int .i64 (-v01),.int .i64 (b1 - 1)]]]) (o:=o0) (o2:=o1) (xs:=[.agg [.int .i64 c0,.list 1 []],.agg [.int .i64 c1,.list 1 []]]) (ys:=[.agg [.int .i64 d0,.list 1 [.int .i64 v00,.int .i64 v01]],.agg [.int .i64 d1,.list 1 [.int .i64 v10,.int .i64 v11]]]) (by omega) (hG rfl rfl) rfl rfl (W (by omega) (by omega)) (W (by omega) (by omega)) (W (by omega) (by omega)) (W (by omega) (by omega)) (W (by omega) (by omega)) rfl
   exact w85_2 e1 e2 f0 f1 rfl
  | [a0],[],szx,szy,[u00],[],_,_,hc0,hd0,[u10],[],_,_,hc1,hd1=>
   have k0:=hc0.bd
   have l0:=hd0.bd
   have k1:=hc1.bd
   have l1:=hd1.bd
   have za0:=szx.within a0 (by simp)
   obtain ⟨w0,o0,o1,f0⟩:=it85_1_0_0 (w:=0) (k:=((1:Nat):Int)) (k2:=((1:Nat):Int)) (len:=2) (o:=.dead) (o2:=.dead) (e0:=.nils) (xs:=[.agg [.int .i64 c0,.list 1 [.int .i64 u00]],.agg [.int .i64 c1,.list 1 [.int .i64 u10]]]) (ys:=[.agg [.int .i64 d0,.list 1 []],.agg [.int .i64 d1,.list 1 []]]) (by omega) (hG rfl rfl) rfl rfl (W (by omega) (by omega)) (W (by omega) (by omega))
   obtain ⟨w1,o2,o3,f1⟩:=it85_1_0_1 (w:=w0) (k:=((1:Nat):Int)) (k2:=((1:Nat):Int)) (len:=2) (e0:=.agg [.int .i64 (c0 - d0),.list 2 [.agg [.int .i64 u00,.int .i64 (a0 - 1)]]]) (o:=o0) (o2:=o1) (xs:=[.agg [.int .i64 c0,.list 1 [.int .i64 u00]],.agg [.int .i64 c1,.list 1 [.int .i64 u10]]]) (ys:=[.agg [.int .i64 d0,.list 1 []],.agg [.int .i64 d1,.list 1 []]]) (by omega) (hG rfl rfl) rfl rfl (W (by omega) (by omega)) (W (by omega) (by omega)) rfl
   exact w85_2 e1 e2 f0 f1 rfl
  | [a0],[b0],szx,szy,[u00],[v00],_,_,hc0,hd0,[u10],[v10],_,_,hc1,hd1=>
   have k0:=hc0.bd
   have l0:=hd0.bd
   have k1:=hc1.bd
   have l1:=hd1.bd
   have za0:=szx.within a0 (by simp)
   have zb0:=szy.within b0 (by simp)
   have q00:=hd0.coef v00 (by simp)
   have q10:=hd1.coef v10 (by simp)
   obtain ⟨w0,o0,o1,f0⟩:=it85_1_1_0 (w:=0) (k:=((1:Nat):Int)) (k2:=((1:Nat):Int)) (len:=2) (o:=.dead) (o2:=.dead) (e0:=.nils) (xs:=[.agg [.int .i64 c0,.list 1 [.int .i64 u00]],.agg [.int .i64 c1,.list 1 [.int .i64 u10]]]) (ys:=[.agg [.int .i64 d0,.list 1 [.int .i64 v00]],.agg [.int .i64 d1,.list 1 [.int .i64 v10]]]) (by omega) (hG rfl rfl) rfl rfl (W (by omega) (by omega)) (W (by omega) (by omega)) (W (by omega) (by omega)) (W (by omega) (by omega))
   obtain ⟨w1,o2,o3,f1⟩:=it85_1_1_1 (w:=w0) (k:=((1:Nat):Int)) (k2:=((1:Nat):Int)) (len:=2) (e0:=.agg [.int .i64 (c0 - d0),.list 2 [.agg [.int .i64 u00,.int .i64 (a0 - 1)],.agg [.int .i64 (-v00),.int .i64 (b0 - 1)]]]) (o:=o0) (o2:=o1) (xs:=[.agg [.int .i64 c0,.list 1 [.int .i64 u00]],.agg [.int .i64 c1,.list 1 [.int .i64 u10]]]) (ys:=[.agg [.int .i64 d0,.list 1 [.int .i64 v00]],.agg [.int .i64 d1,.list 1 [.int .i64 v10]]]) (by omega) (hG rfl rfl) rfl rfl (W (by omega) (by omega)) (W (by omega) (by omega)) (W (by omega) (by omega)) (W (by omega) (by omega)) rfl
   exact w85_2 e1 e2 f0 f1 rfl
  | [a0],[b0,b1],szx,szy,[u00],[v00,v01],_,_,hc0,hd0,[u10],[v10,v11],_,_,hc1,hd1=>
   have k0:=hc0.bd
   have l0:=hd0.bd
   have k1:=hc1.bd
   have l1:=hd1.bd
   have za0:=szx.within a0 (by simp)
   have zb0:=szy.within b0 (by simp)
   have zb1:=szy.within b1 (by simp)
   have q00:=hd0.coef v00 (by simp)
   have q01:=hd0.coef v01 (by simp)
   have q10:=hd1.coef v10 (by simp)
   have q11:=hd1.coef v11 (by simp)
   obtain ⟨w0,o0,o1,f0⟩:=it85_1_2_0 (w:=0) (k:=((1:Nat):Int)) (k2:=((1:Nat):Int)) (len:=2) (o:=.dead) (o2:=.dead) (e0:=.nils) (xs:=[.agg [.int .i64 c0,.list 1 [.int .i64 u00]],.agg [.int .i64 c1,.list 1 [.int .i64 u10]]]) (ys:=[.agg [.int .i64 d0,.list 1 [.int .i64 v00,.int .i64 v01]],.agg [.int .i64 d1,.list 1 [.int .i64 v10,.int .i64 v11]]]) (by omega) (hG rfl rfl) rfl rfl (W (by omega) (by omega)) (W (by omega) (by omega)) (W (by omega) (by omega)) (W (by omega) (by omega)) (W (by omega) (by omega)) (W (by omega) (by omega))
   obtain ⟨w1,o2,o3,f1⟩:=it85_1_2_1 (w:=w0) (k:=((1:Nat):Int)) (k2:=((1:Nat):Int)) (len:=2) (e0:=.agg [.int .i64 (c0 - d0),.list 2 [.agg [.int .i64 u00,.int .i64 (a0 - 1)],.agg [.int .i64 (-v00),.int .i64 (b0 - 1)],.agg [.int .i64 (-v01),.int .i64 (b1 - 1)]]]) (o:=o0) (o2:=o1) (xs:=[.agg [.int .i64 c0,.list 1 [.int .i64 u00]],.agg [.int .i64 c1,.list 1 [.int .i64 u10]]]) (ys:=[.agg [.int .i64 d0,.list 1 [.int .i64 v00,.int .i64 v01]],.agg [.int .i64 d1,.list 1 [.int .i64 v10,.int .i64 v11]]]) (by omega) (hG rfl rfl) rfl rfl (W (by omega) (by omega)) (W (by omega) (by omega)) (W (by omega) (by omega)) (W (by omega) (by omega)) (W (by omega) (by omega)) (W (by omega) (by omega)) rfl
   exact w85_2 e1 e2 f0 f1 rfl
  | [a0,a1],[],szx,szy,[u00,u01],[],_,_,hc0,hd0,[u10,u11],[],_,_,hc1,hd1=>
   have k0:=hc0.bd
   have l0:=hd0.bd
   have k1:=hc1.bd
   have l1:=hd1.bd
   have za0:=szx.within a0 (by simp)
   have za1:=szx.within a1 (by simp)
   obtain ⟨w0,o0,o1,f0⟩:=it85_2_0_0 (w:=0) (k:=((1:Nat):Int)) (k2:=((1:Nat):Int)) (len:=2) (o:=.dead) (o2:=.dead) (e0:=.nils) (xs:=[.agg [.int .i64 c0,.list 1 [.int .i64 u00,.int .i64 u01]],.agg [.int .i64 c1,.list 1 [.int .i64 u10,.int .i64 u11]]]) (ys:=[.agg [.int .i64 d0,.list 1 []],.agg [.int .i64 d1,.list 1 []]]) (by omega) (hG rfl rfl) rfl rfl (W (by omega) (by omega)) (W (by omega) (by omega)) (W (by omega) (by omega))
   obtain ⟨w1,o2,o3,f1⟩:=it85_2_0_1 (w:=w0) (k:=((1:Nat):Int)) (k2:=((1:Nat):Int)) (len:=2) (e0:=.agg [.int .i64 (c0 - d0),.list 2 [.agg [.int .i64 u00,.int .i64 (a0 - 1)],.agg [.int .i64 u01,.int .i64 (a1 - 1)]]]) (o:=o0) (o2:=o1) (xs:=[.agg [.int .i64 c0,.list 1 [.int .i64 u00,.int .i64 u01]],.agg [.int .i64 c1,.list 1 [.int .i64 u10,.int .i64 u11]]]) (ys:=[.agg [.int .i64 d0,.list 1 []],.agg [.int .i64 d1,.list 1 []]]) (by omega) (hG rfl rfl) rfl rfl (W (by omega) (by omega)) (W (by omega) (by omega)) (W (by omega) (by omega)) rfl
   exact w85_2 e1 e2 f0 f1 rfl
  | [a0,a1],[b0],szx,szy,[u00,u01],[v00],_,_,hc0,hd0,[u10,u11],[v10],_,_,hc1,hd1=>
   have k0:=hc0.bd
   have l0:=hd0.bd
   have k1:=hc1.bd
   have l1:=hd1.bd
   have za0:=szx.within a0 (by simp)
   have za1:=szx.within a1 (by simp)
   have zb0:=szy.within b0 (by simp)
   have q00:=hd0.coef v00 (by simp)
   have q10:=hd1.coef v10 (by simp)
   obtain ⟨w0,o0,o1,f0⟩:=it85_2_1_0 (w:=0) (k:=((1:Nat):Int)) (k2:=((1:Nat):Int)) (len:=2) (o:=.dead) (o2:=.dead) (e0:=.nils) (xs:=[.agg [.int .i64 c0,.list 1 [.int .i64 u00,.int .i64 u01]],.agg [.int .i64 c1,.list 1 [.int .i64 u10,.int .i64 u11]]]) (ys:=[.agg [.int .i64 d0,.list 1 [.int .i64 v00]],.agg [.int .i64 d1,.list 1 [.int .i64 v10]]]) (by omega) (hG rfl rfl) rfl rfl (W (by omega) (by omega)) (W (by omega) (by omega)) (W (by omega) (by omega)) (W (by omega) (by omega)) (W (by omega) (by omega))
   obtain ⟨w1,o2,o3,f1⟩:=it85_2_1_1 (w:=w0) (k:=((1:Nat):Int)) (k2:=((1:Nat):Int)) (len:=2) (e0:=.agg [.int .i64 (c0 - d0),.list 2 [.agg [.int .i64 u00,.int .i64 (a0 - 1)],.agg [.int .i64 u01,.int .i64 (a1 - 1)],.agg [.int .i64 (-v00),.int .i64 (b0 - 1)]]]) (o:=o0) (o2:=o1) (xs:=[.agg [.int .i64 c0,.list 1 [.int .i64 u00,.int .i64 u01]],.agg [.int .i64 c1,.list 1 [.int .i64 u10,.int .i64 u11]]]) (ys:=[.agg [.int .i64 d0,.list 1 [.int .i64 v00]],.agg [.int .i64 d1,.list 1 [.int .i64 v10]]]) (by omega) (hG rfl rfl) rfl rfl (W (by omega) (by omega)) (W (by omega) (by omega)) (W (by omega) (by omega)) (W (by omega) (by omega)) (W (by omega) (by omega)) rfl
   exact w85_2 e1 e2 f0 f1 rfl
  | [a0,a1],[b0,b1],szx,szy,[u00,u01],[v00,v01],_,_,hc0,hd0,[u10,u11],[v10,v11],_,_,hc1,hd1=>
   have k0:=hc0.bd
   have l0:=hd0.bd
   have k1:=hc1.bd
   have l1:=hd1.bd
   have za0:=szx.within a0 (by simp)
   have za1:=szx.within a1 (by simp)
   have zb0:=szy.within b0 (by simp)
   have zb1:=szy.within b1 (by simp)
   have q00:=hd0.coef v00 (by simp)
   have q01:=hd0.coef v01 (by simp)
   have q10:=hd1.coef v10 (by simp)
   have q11:=hd1.coef v11 (by simp)
   obtain ⟨w0,o0,o1,f0⟩:=it85_2_2_0 (w:=0) (k:=((1:Nat):Int)) (k2:=((1:Nat):Int)) (len:=2) (o:=.dead) (o2:=.dead) (e0:=.nils) (xs:=[.agg [.int .i64 c0,.list 1 [.int .i64 u00,.int .i64 u01]],.agg [.int .i64 c1,.list 1 [.int .i64 u10,.int .i64 u11]]]) (ys:=[.agg [.int .i64 d0,.list 1 [.int .i64 v00,.int .i64 v01]],.agg [.int .i64 d1,.list 1 [.int .i64 v10,.int .i64 v11]]]) (by omega) (hG rfl rfl) rfl rfl (W (by omega) (by omega)) (W (by omega) (by omega)) (W (by omega) (by omega)) (W (by omega) (by omega)) (W (by omega) (by omega)) (W (by omega) (by omega)) (W (by omega) (by omega))
   obtain ⟨w1,o2,o3,f1⟩:=it85_2_2_1 (w:=w0) (k:=((1:Nat):Int)) (k2:=((1:Nat):Int)) (len:=2) (e0:=.agg [.int .i64 (c0 - d0),.list 2 [.agg [.int .i64 u00,.int .i64 (a0 - 1)],.agg [.int .i64 u01,.int .i64 (a1 - 1)],.agg [.int .i64 (-v00),.int .i64 (b0 - 1)],.agg [.int .i64 (-v01),.int .i64 (b1 - 1)]]]) (o:=o0) (o2:=o1) (xs:=[.agg [.int .i64 c0,.list 1 [.int .i64 u00,.int .i64 u01]],.agg [.int .i64 c1,.list 1 [.int .i64 u10,.int .i64 u11]]]) (ys:=[.agg [.int .i64 d0,.list 1 [.int .i64 v00,.int .i64 v01]],.agg [.int .i64 d1,.list 1 [.int .i64 v10,.int .i64 v11]]]) (by omega) (hG rfl rfl) rfl rfl (W (by omega) (by omega)) (W (by omega) (by omega)) (W (by omega) (by omega)) (W (by omega) (by omega)) (W (by omega) (by omega)) (W (by omega) (by omega)) (W (by omega) (by omega)) rfl
   exact w85_2 e1 e2 f0 f1 rfl
  | _ :: _ :: _ :: _,_,szx,szy,_,_,_,_,_,_,_,_,_,_,_,_=>exact absurd szx.few (by simp)
  | _,_ :: _ :: _ :: _,szx,szy,_,_,_,_,_,_,_,_,_,_,_,_=>exact absurd szy.few (by simp)
theorem w32_0_x {s a u b:Int} {v:V} {ar st:D} {T q1 q2 :Nat} {h0 h1:List O}
 (car:D.isCell ar=true) (cst:D.isCell st=true)
 (e84:CK 84 [.d (.agg [ar,st]),.d (.int .i64 s),.d (.int .i64 a),.d (.int .i64 u),.d (.int .i64 b)] h0 (.tuple [.d .nilp,.d (.int .i64 9)]) h1 q1)
 : ∃ w,callL K (.fn (.func 32) [] []) [.d (.agg [ar,st]),.d (.int .i64 s),.d (.int .i64 a),.d (.int .i64 u),.d (.int .i64 b)] none h0=some (.ret (.tuple [.d (.int .i64 0),.d (.int .i64 0),.d (.int .i64 9)]),false,h1,w):=by
 simp only [D.isCell] at car cst
 have e:=k32 [] [] [.d (.agg [ar,st]),.d (.int .i64 s),.d (.int .i64 a),.d (.int .i64 u),.d (.int .i64 b)] none h0
 simp [c32,x32_0,r32_0,x32_1,r32_1,x32_2,r32_2,x32_3,r32_3,x32_4,r32_4,x32_5,r32_5,x32_6,r32_6,x32_7,r32_7,x32_8,r32_8,x32_9,r32_9,x32_10,r32_10,x32_11,r32_11,execL_loop,u32_0,w0,w1,w2,w3,e84,car,cst] at e
 exact ⟨_,e⟩
theorem w32_0_n {s a u b:Int} {v:V} {ar st:D} {T q1 q2 :Nat} {h0 h1:List O}
 (car:D.isCell ar=true) (cst:D.isCell st=true)
 (e84:CK 84 [.d (.agg [ar,st]),.d (.int .i64 s),.d (.int .i64 a),.d (.int .i64 u),.d (.int .i64 b)] h0 (.tuple [.ptr (.heap T) 0,.d (.int .i64 0)]) h1 q1)
 (e85:CK 85 [.ptr (.heap T) 0,.d (.int .i64 s),.d (.int .i64 a),.d (.int .i64 u),.d (.int .i64 b)] h1 (.d (.nils)) h1 q2)
 : ∃ w,callL K (.fn (.func 32) [] []) [.d (.agg [ar,st]),.d (.int .i64 s),.d (.int .i64 a),.d (.int .i64 u),.d (.int .i64 b)] none h0=some (.ret (.tuple [.d (.int .i64 0),.d (.int .i64 0),.d (.int .i64 14)]),false,h1,w):=by
 simp only [D.isCell] at car cst
 have e:=k32 [] [] [.d (.agg [ar,st]),.d (.int .i64 s),.d (.int .i64 a),.d (.int .i64 u),.d (.int .i64 b)] none h0
 simp [c32,x32_0,r32_0,x32_1,r32_1,x32_2,r32_2,x32_3,r32_3,x32_4,r32_4,x32_5,r32_5,x32_6,r32_6,x32_7,r32_7,x32_8,r32_8,x32_9,r32_9,x32_10,r32_10,x32_11,r32_11,execL_loop,u32_0,w0,w1,w2,w3,e84,car,cst,e85] at e
 exact ⟨_,e⟩
theorem w32_1_n {s a u b:Int} {v:V} {ar st:D} {T q1 q2 z0:Nat} {h0 h1 g1:List O} {c0 d0:Int} {t0:D}
 (car:D.isCell ar=true) (cst:D.isCell st=true)
 (e84:CK 84 [.d (.agg [ar,st]),.d (.int .i64 s),.d (.int .i64 a),.d (.int .i64 u),.d (.int .i64 b)] h0 (.tuple [.ptr (.heap T) 0,.d (.int .i64 0)]) h1 q1)
 (e85:CK 85 [.ptr (.heap T) 0,.d (.int .i64 s),.d (.int .i64 a),.d (.int .i64 u),.d (.int .i64 b)] h1 (.d (.list 2 [.agg [.int .i64 c0,t0]])) h1 q2) (ct0:D.isCell t0=true)
 (f0:CK 86 [.d (.agg [.int .i64 c0,t0])] h1 (.tuple [.d (.int .i64 d0),.d (.bool false)]) g1 z0)
 : ∃ w,callL K (.fn (.func 32) [] []) [.d (.agg [ar,st]),.d (.int .i64 s),.d (.int .i64 a),.d (.int .i64 u),.d (.int .i64 b)] none h0=some (.ret (.tuple [.d (.int .i64 0),.d (.int .i64 0),.d (.int .i64 14)]),false,g1,w):=by
 simp only [D.isCell] at car cst ct0
 have e:=k32 [] [] [.d (.agg [ar,st]),.d (.int .i64 s),.d (.int .i64 a),.d (.int .i64 u),.d (.int .i64 b)] none h0
 simp [c32,x32_0,r32_0,x32_1,r32_1,x32_2,r32_2,x32_3,r32_3,x32_4,r32_4,x32_5,r32_5,x32_6,r32_6,x32_7,r32_7,x32_8,r32_8,x32_9,r32_9,x32_10,r32_10,x32_11,r32_11,execL_loop,u32_0,w0,w1,w2,w3,e84,car,cst,e85,ct0,f0] at e
 exact ⟨_,e⟩
theorem w32_1_0 {s a u b:Int} {v:V} {ar st:D} {T q1 q2 z0:Nat} {h0 h1 g1:List O} {c0 d0:Int} {t0:D}
 (car:D.isCell ar=true) (cst:D.isCell st=true)
 (e84:CK 84 [.d (.agg [ar,st]),.d (.int .i64 s),.d (.int .i64 a),.d (.int .i64 u),.d (.int .i64 b)] h0 (.tuple [.ptr (.heap T) 0,.d (.int .i64 0)]) h1 q1)
 (e85:CK 85 [.ptr (.heap T) 0,.d (.int .i64 s),.d (.int .i64 a),.d (.int .i64 u),.d (.int .i64 b)] h1 (.d (.list 2 [.agg [.int .i64 c0,t0]])) h1 q2) (ct0:D.isCell t0=true)
 (f0:CK 86 [.d (.agg [.int .i64 c0,t0])] h1 (.tuple [.d (.int .i64 d0),.d (.bool true)]) g1 z0)
 : ∃ w,callL K (.fn (.func 32) [] []) [.d (.agg [ar,st]),.d (.int .i64 s),.d (.int .i64 a),.d (.int .i64 u),.d (.int .i64 b)] none h0=some (.ret (.tuple [.d (.int .i64 0),.d (.int .i64 d0),.d (.int .i64 0)]),false,g1,w):=by
 simp only [D.isCell] at car cst ct0
 have e:=k32 [] [] [.d (.agg [ar,st]),.d (.int .i64 s),.d (.int .i64 a),.d (.int .i64 u),.d (.int .i64 b)] none h0
 simp [c32,x32_0,r32_0,x32_1,r32_1,x32_2,r32_2,x32_3,r32_3,x32_4,r32_4,x32_5,r32_5,x32_6,r32_6,x32_7,r32_7,x32_8,r32_8,x32_9,r32_9,x32_10,r32_10,x32_11,r32_11,execL_loop,u32_0,w0,w1,w2,w3,e84,car,cst,e85,ct0,f0] at e
 exact ⟨_,e⟩
theorem w32_2_n {s a u b:Int} {v:V} {ar st:D} {T q1 q2 z0 z1:Nat} {h0 h1 g1 g2:List O} {c0 d0 c1 d1:Int} {t0 t1:D}
 (car:D.isCell ar=true) (cst:D.isCell st=true)
 (e84:CK 84 [.d (.agg [ar,st]),.d (.int .i64 s),.d (.int .i64 a),.d (.int .i64 u),.d (.int .i64 b)] h0 (.tuple [.ptr (.heap T) 0,.d (.int .i64 0)]) h1 q1)
 (e85:CK 85 [.ptr (.heap T) 0,.d (.int .i64 s),.d (.int .i64 a),.d (.int .i64 u),.d (.int .i64 b)] h1 (.d (.list 2 [.agg [.int .i64 c0,t0],.agg [.int .i64 c1,t1]])) h1 q2) (ct0:D.isCell t0=true) (ct1:D.isCell t1=true)
 (f0:CK 86 [.d (.agg [.int .i64 c0,t0])] h1 (.tuple [.d (.int .i64 d0),.d (.bool false)]) g1 z0)
 (f1:CK 86 [.d (.agg [.int .i64 c1,t1])] g1 (.tuple [.d (.int .i64 d1),.d (.bool false)]) g2 z1)
 : ∃ w,callL K (.fn (.func 32) [] []) [.d (.agg [ar,st]),.d (.int .i64 s),.d (.int .i64 a),.d (.int .i64 u),.d (.int .i64 b)] none h0=some (.ret (.tuple [.d (.int .i64 0),.d (.int .i64 0),.d (.int .i64 14)]),false,g2,w):=by
 simp only [D.isCell] at car cst ct0 ct1
 have e:=k32 [] [] [.d (.agg [ar,st]),.d (.int .i64 s),.d (.int .i64 a),.d (.int .i64 u),.d (.int .i64 b)] none h0
 simp [c32,x32_0,r32_0,x32_1,r32_1,x32_2,r32_2,x32_3,r32_3,x32_4,r32_4,x32_5,r32_5,x32_6,r32_6,x32_7,r32_7,x32_8,r32_8,x32_9,r32_9,x32_10,r32_10,x32_11,r32_11,execL_loop,u32_0,w0,w1,w2,w3,e84,car,cst,e85,ct0,ct1,f0,f1] at e
 exact ⟨_,e⟩
theorem w32_2_0 {s a u b:Int} {v:V} {ar st:D} {T q1 q2 z0:Nat} {h0 h1 g1:List O} {c0 d0 c1 d1:Int} {t0 t1:D}
 (car:D.isCell ar=true) (cst:D.isCell st=true)
 (e84:CK 84 [.d (.agg [ar,st]),.d (.int .i64 s),.d (.int .i64 a),.d (.int .i64 u),.d (.int .i64 b)] h0 (.tuple [.ptr (.heap T) 0,.d (.int .i64 0)]) h1 q1)
 (e85:CK 85 [.ptr (.heap T) 0,.d (.int .i64 s),.d (.int .i64 a),.d (.int .i64 u),.d (.int .i64 b)] h1 (.d (.list 2 [.agg [.int .i64 c0,t0],.agg [.int .i64 c1,t1]])) h1 q2) (ct0:D.isCell t0=true) (ct1:D.isCell t1=true)
 (f0:CK 86 [.d (.agg [.int .i64 c0,t0])] h1 (.tuple [.d (.int .i64 d0),.d (.bool true)]) g1 z0)
 : ∃ w,callL K (.fn (.func 32) [] []) [.d (.agg [ar,st]),.d (.int .i64 s),.d (.int .i64 a),.d (.int .i64 u),.d (.int .i64 b)] none h0=some (.ret (.tuple [.d (.int .i64 0),.d (.int .i64 d0),.d (.int .i64 0)]),false,g1,w):=by
 simp only [D.isCell] at car cst ct0 ct1
 have e:=k32 [] [] [.d (.agg [ar,st]),.d (.int .i64 s),.d (.int .i64 a),.d (.int .i64 u),.d (.int .i64 b)] none h0
 simp [c32,x32_0,r32_0,x32_1,r32_1,x32_2,r32_2,x32_3,r32_3,x32_4,r32_4,x32_5,r32_5,x32_6,r32_6,x32_7,r32_7,x32_8,r32_8,x32_9,r32_9,x32_10,r32_10,x32_11,r32_11,execL_loop,u32_0,w0,w1,w2,w3,e84,car,cst,e85,ct0,ct1,f0] at e
 exact ⟨_,e⟩
theorem w32_2_1 {s a u b:Int} {v:V} {ar st:D} {T q1 q2 z0 z1:Nat} {h0 h1 g1 g2:List O} {c0 d0 c1 d1:Int} {t0 t1:D}
 (car:D.isCell ar=true) (cst:D.isCell st=true)
 (e84:CK 84 [.d (.agg [ar,st]),.d (.int .i64 s),.d (.int .i64 a),.d (.int .i64 u),.d (.int .i64 b)] h0 (.tuple [.ptr (.heap T) 0,.d (.int .i64 0)]) h1 q1)
 (e85:CK 85 [.ptr (.heap T) 0,.d (.int .i64 s),.d (.int .i64 a),.d (.int .i64 u),.d (.int .i64 b)] h1 (.d (.list 2 [.agg [.int .i64 c0,t0],.agg [.int .i64 c1,t1]])) h1 q2) (ct0:D.isCell t0=true) (ct1:D.isCell t1=true)
 (f0:CK 86 [.d (.agg [.int .i64 c0,t0])] h1 (.tuple [.d (.int .i64 d0),.d (.bool false)]) g1 z0)
 (f1:CK 86 [.d (.agg [.int .i64 c1,t1])] g1 (.tuple [.d (.int .i64 d1),.d (.bool true)]) g2 z1)
 : ∃ w,callL K (.fn (.func 32) [] []) [.d (.agg [ar,st]),.d (.int .i64 s),.d (.int .i64 a),.d (.int .i64 u),.d (.int .i64 b)] none h0=some (.ret (.tuple [.d (.int .i64 1),.d (.int .i64 d1),.d (.int .i64 0)]),false,g2,w):=by
 simp only [D.isCell] at car cst ct0 ct1
 have e:=k32 [] [] [.d (.agg [ar,st]),.d (.int .i64 s),.d (.int .i64 a),.d (.int .i64 u),.d (.int .i64 b)] none h0
 simp [c32,x32_0,r32_0,x32_1,r32_1,x32_2,r32_2,x32_3,r32_3,x32_4,r32_4,x32_5,r32_5,x32_6,r32_6,x32_7,r32_7,x32_8,r32_8,x32_9,r32_9,x32_10,r32_10,x32_11,r32_11,execL_loop,u32_0,w0,w1,w2,w3,e84,car,cst,e85,ct0,ct1,f0,f1] at e
 exact ⟨_,e⟩
theorem w34_0_x {s a u b:Int} {v:V} {ar st:D} {T q1 q2 :Nat} {h0 h1:List O}
 (car:D.isCell ar=true) (cst:D.isCell st=true)
 (e84:CK 84 [.d (.agg [ar,st]),.d (.int .i64 s),.d (.int .i64 a),.d (.int .i64 u),.d (.int .i64 b)] h0 (.tuple [.d .nilp,.d (.int .i64 9)]) h1 q1)
 : ∃ w,callL K (.fn (.func 34) [] []) [.d (.agg [ar,st]),.d (.int .i64 s),.d (.int .i64 a),.d (.int .i64 u),.d (.int .i64 b)] none h0=some (.ret (.tuple [.d (.int .i64 0),.d (.int .i64 0),.d (.int .i64 0),.d (.int .i64 9)]),false,h1,w):=by
 simp only [D.isCell] at car cst
 have e:=k34 [] [] [.d (.agg [ar,st]),.d (.int .i64 s),.d (.int .i64 a),.d (.int .i64 u),.d (.int .i64 b)] none h0
 simp [c34,x34_0,r34_0,x34_1,r34_1,x34_2,r34_2,x34_3,r34_3,x34_4,r34_4,x34_5,r34_5,x34_6,r34_6,x34_7,r34_7,x34_8,r34_8,x34_9,r34_9,x34_10,r34_10,x34_11,r34_11,execL_loop,u34_0,w0,w1,w2,w3,e84,car,cst] at e
 exact ⟨_,e⟩
theorem w34_0_n {s a u b:Int} {v:V} {ar st:D} {T q1 q2 :Nat} {h0 h1:List O}
 (car:D.isCell ar=true) (cst:D.isCell st=true)
 (e84:CK 84 [.d (.agg [ar,st]),.d (.int .i64 s),.d (.int .i64 a),.d (.int .i64 u),.d (.int .i64 b)] h0 (.tuple [.ptr (.heap T) 0,.d (.int .i64 0)]) h1 q1)
 (e85:CK 85 [.ptr (.heap T) 0,.d (.int .i64 s),.d (.int .i64 a),.d (.int .i64 u),.d (.int .i64 b)] h1 (.d (.nils)) h1 q2)
 : ∃ w,callL K (.fn (.func 34) [] []) [.d (.agg [ar,st]),.d (.int .i64 s),.d (.int .i64 a),.d (.int .i64 u),.d (.int .i64 b)] none h0=some (.ret (.tuple [.d (.int .i64 0),.d (.int .i64 0),.d (.int .i64 0),.d (.int .i64 14)]),false,h1,w):=by
 simp only [D.isCell] at car cst
 have e:=k34 [] [] [.d (.agg [ar,st]),.d (.int .i64 s),.d (.int .i64 a),.d (.int .i64 u),.d (.int .i64 b)] none h0
 simp [c34,x34_0,r34_0,x34_1,r34_1,x34_2,r34_2,x34_3,r34_3,x34_4,r34_4,x34_5,r34_5,x34_6,r34_6,x34_7,r34_7,x34_8,r34_8,x34_9,r34_9,x34_10,r34_10,x34_11,r34_11,execL_loop,u34_0,w0,w1,w2,w3,e84,car,cst,e85] at e
 exact ⟨_,e⟩
theorem w34_1_n {s a u b:Int} {v:V} {ar st:D} {T q1 q2 z0:Nat} {h0 h1 g1:List O} {c0 lo0 hi0:Int} {t0:D}
 (car:D.isCell ar=true) (cst:D.isCell st=true)
 (e84:CK 84 [.d (.agg [ar,st]),.d (.int .i64 s),.d (.int .i64 a),.d (.int .i64 u),.d (.int .i64 b)] h0 (.tuple [.ptr (.heap T) 0,.d (.int .i64 0)]) h1 q1)
 (e85:CK 85 [.ptr (.heap T) 0,.d (.int .i64 s),.d (.int .i64 a),.d (.int .i64 u),.d (.int .i64 b)] h1 (.d (.list 2 [.agg [.int .i64 c0,t0]])) h1 q2) (ct0:D.isCell t0=true)
 (f0:CK 89 [.d (.agg [.int .i64 c0,t0])] h1 (.tuple [.d (.int .i64 lo0),.d (.int .i64 hi0)]) g1 z0) (hh0:¬ (0 < lo0∨hi0 < 0))
 : ∃ w,callL K (.fn (.func 34) [] []) [.d (.agg [ar,st]),.d (.int .i64 s),.d (.int .i64 a),.d (.int .i64 u),.d (.int .i64 b)] none h0=some (.ret (.tuple [.d (.int .i64 0),.d (.int .i64 0),.d (.int .i64 0),.d (.int .i64 14)]),false,g1,w):=by
 simp only [D.isCell] at car cst ct0
 have e:=k34 [] [] [.d (.agg [ar,st]),.d (.int .i64 s),.d (.int .i64 a),.d (.int .i64 u),.d (.int .i64 b)] none h0
 have q0a:¬ 0 < lo0:=by omega
 have q0b:¬ hi0 < 0:=by omega
 simp [c34,x34_0,r34_0,x34_1,r34_1,x34_2,r34_2,x34_3,r34_3,x34_4,r34_4,x34_5,r34_5,x34_6,r34_6,x34_7,r34_7,x34_8,r34_8,x34_9,r34_9,x34_10,r34_10,x34_11,r34_11,execL_loop,u34_0,w0,w1,w2,w3,e84,car,cst,e85,ct0,f0,q0a,q0b] at e
 exact ⟨_,e⟩
theorem w34_1_0 {s a u b:Int} {v:V} {ar st:D} {T q1 q2 z0:Nat} {h0 h1 g1:List O} {c0 lo0 hi0:Int} {t0:D}
 (car:D.isCell ar=true) (cst:D.isCell st=true)
 (e84:CK 84 [.d (.agg [ar,st]),.d (.int .i64 s),.d (.int .i64 a),.d (.int .i64 u),.d (.int .i64 b)] h0 (.tuple [.ptr (.heap T) 0,.d (.int .i64 0)]) h1 q1)
 (e85:CK 85 [.ptr (.heap T) 0,.d (.int .i64 s),.d (.int .i64 a),.d (.int .i64 u),.d (.int .i64 b)] h1 (.d (.list 2 [.agg [.int .i64 c0,t0]])) h1 q2) (ct0:D.isCell t0=true)
 (f0:CK 89 [.d (.agg [.int .i64 c0,t0])] h1 (.tuple [.d (.int .i64 lo0),.d (.int .i64 hi0)]) g1 z0) (hh0:0 < lo0∨hi0 < 0)
 : ∃ w,callL K (.fn (.func 34) [] []) [.d (.agg [ar,st]),.d (.int .i64 s),.d (.int .i64 a),.d (.int .i64 u),.d (.int .i64 b)] none h0=some (.ret (.tuple [.d (.int .i64 0),.d (.int .i64 lo0),.d (.int .i64 hi0),.d (.int .i64 0)]),false,g1,w):=by
 simp only [D.isCell] at car cst ct0
 have e:=k34 [] [] [.d (.agg [ar,st]),.d (.int .i64 s),.d (.int .i64 a),.d (.int .i64 u),.d (.int .i64 b)] none h0
 by_cases q0:0 < lo0
 ·simp [c34,x34_0,r34_0,x34_1,r34_1,x34_2,r34_2,x34_3,r34_3,x34_4,r34_4,x34_5,r34_5,x34_6,r34_6,x34_7,r34_7,x34_8,r34_8,x34_9,r34_9,x34_10,r34_10,x34_11,r34_11,execL_loop,u34_0,w0,w1,w2,w3,e84,car,cst,e85,ct0,f0,q0] at e
  exact ⟨_,e⟩
 ·have q0a:hi0 < 0:=by omega
  simp [c34,x34_0,r34_0,x34_1,r34_1,x34_2,r34_2,x34_3,r34_3,x34_4,r34_4,x34_5,r34_5,x34_6,r34_6,x34_7,r34_7,x34_8,r34_8,x34_9,r34_9,x34_10,r34_10,x34_11,r34_11,execL_loop,u34_0,w0,w1,w2,w3,e84,car,cst,e85,ct0,f0,q0,q0a] at e
  exact ⟨_,e⟩
theorem w34_2_n {s a u b:Int} {v:V} {ar st:D} {T q1 q2 z0 z1:Nat} {h0 h1 g1 g2:List O} {c0 lo0 hi0 c1 lo1 hi1:Int} {t0 t1:D}
 (car:D.isCell ar=true) (cst:D.isCell st=true)
 (e84:CK 84 [.d (.agg [ar,st]),.d (.int .i64 s),.d (.int .i64 a),.d (.int .i64 u),.d (.int .i64 b)] h0 (.tuple [.ptr (.heap T) 0,.d (.int .i64 0)]) h1 q1)
 (e85:CK 85 [.ptr (.heap T) 0,.d (.int .i64 s),.d (.int .i64 a),.d (.int .i64 u),.d (.int .i64 b)] h1 (.d (.list 2 [.agg [.int .i64 c0,t0],.agg [.int .i64 c1,t1]])) h1 q2) (ct0:D.isCell t0=true) (ct1:D.isCell t1=true)
 (f0:CK 89 [.d (.agg [.int .i64 c0,t0])] h1 (.tuple [.d (.int .i64 lo0),.d (.int .i64 hi0)]) g1 z0) (hh0:¬ (0 < lo0∨hi0 < 0))
 (f1:CK 89 [.d (.agg [.int .i64 c1,t1])] g1 (.tuple [.d (.int .i64 lo1),.d (.int .i64 hi1)]) g2 z1) (hh1:¬ (0 < lo1∨hi1 < 0))
 : ∃ w,callL K (.fn (.func 34) [] []) [.d (.agg [ar,st]),.d (.int .i64 s),.d (.int .i64 a),.d (.int .i64 u),.d (.int .i64 b)] none h0=some (.ret (.tuple [.d (.int .i64 0),.d (.int .i64 0),.d (.int .i64 0),.d (.int .i64 14)]),false,g2,w):=by
 simp only [D.isCell] at car cst ct0 ct1
 have e:=k34 [] [] [.d (.agg [ar,st]),.d (.int .i64 s),.d (.int .i64 a),.d (.int .i64 u),.d (.int .i64 b)] none h0
 have q0a:¬ 0 < lo0:=by omega
 have q0b:¬ hi0 < 0:=by omega
 have q1a:¬ 0 < lo1:=by omega
 have q1b:¬ hi1 < 0:=by omega
 simp [c34,x34_0,r34_0,x34_1,r34_1,x34_2,r34_2,x34_3,r34_3,x34_4,r34_4,x34_5,r34_5,x34_6,r34_6,x34_7,r34_7,x34_8,r34_8,x34_9,r34_9,x34_10,r34_10,x34_11,r34_11,execL_loop,u34_0,w0,w1,w2,w3,e84,car,cst,e85,ct0,ct1,f0,f1,q0a,q0b,q1a,q1b] at e
 exact ⟨_,e⟩
theorem w34_2_0 {s a u b:Int} {v:V} {ar st:D} {T q1 q2 z0:Nat} {h0 h1 g1:List O} {c0 lo0 hi0 c1 lo1 hi1:Int} {t0 t1:D}
 (car:D.isCell ar=true) (cst:D.isCell st=true)
 (e84:CK 84 [.d (.agg [ar,st]),.d (.int .i64 s),.d (.int .i64 a),.d (.int .i64 u),.d (.int .i64 b)] h0 (.tuple [.ptr (.heap T) 0,.d (.int .i64 0)]) h1 q1)
 (e85:CK 85 [.ptr (.heap T) 0,.d (.int .i64 s),.d (.int .i64 a),.d (.int .i64 u),.d (.int .i64 b)] h1 (.d (.list 2 [.agg [.int .i64 c0,t0],.agg [.int .i64 c1,t1]])) h1 q2) (ct0:D.isCell t0=true) (ct1:D.isCell t1=true)
 (f0:CK 89 [.d (.agg [.int .i64 c0,t0])] h1 (.tuple [.d (.int .i64 lo0),.d (.int .i64 hi0)]) g1 z0) (hh0:0 < lo0∨hi0 < 0)
 : ∃ w,callL K (.fn (.func 34) [] []) [.d (.agg [ar,st]),.d (.int .i64 s),.d (.int .i64 a),.d (.int .i64 u),.d (.int .i64 b)] none h0=some (.ret (.tuple [.d (.int .i64 0),.d (.int .i64 lo0),.d (.int .i64 hi0),.d (.int .i64 0)]),false,g1,w):=by
 simp only [D.isCell] at car cst ct0 ct1
 have e:=k34 [] [] [.d (.agg [ar,st]),.d (.int .i64 s),.d (.int .i64 a),.d (.int .i64 u),.d (.int .i64 b)] none h0
 by_cases q0:0 < lo0
 ·simp [c34,x34_0,r34_0,x34_1,r34_1,x34_2,r34_2,x34_3,r34_3,x34_4,r34_4,x34_5,r34_5,x34_6,r34_6,x34_7,r34_7,x34_8,r34_8,x34_9,r34_9,x34_10,r34_10,x34_11,r34_11,execL_loop,u34_0,w0,w1,w2,w3,e84,car,cst,e85,ct0,ct1,f0,q0] at e
  exact ⟨_,e⟩
 ·have q0a:hi0 < 0:=by omega
  simp [c34,x34_0,r34_0,x34_1,r34_1,x34_2,r34_2,x34_3,r34_3,x34_4,r34_4,x34_5,r34_5,x34_6,r34_6,x34_7,r34_7,x34_8,r34_8,x34_9,r34_9,x34_10,r34_10,x34_11,r34_11,execL_loop,u34_0,w0,w1,w2,w3,e84,car,cst,e85,ct0,ct1,f0,q0,q0a] at e
  exact ⟨_,e⟩
theorem w34_2_1 {s a u b:Int} {v:V} {ar st:D} {T q1 q2 z0 z1:Nat} {h0 h1 g1 g2:List O} {c0 lo0 hi0 c1 lo1 hi1:Int} {t0 t1:D}
 (car:D.isCell ar=true) (cst:D.isCell st=true)
 (e84:CK 84 [.d (.agg [ar,st]),.d (.int .i64 s),.d (.int .i64 a),.d (.int .i64 u),.d (.int .i64 b)] h0 (.tuple [.ptr (.heap T) 0,.d (.int .i64 0)]) h1 q1)
 (e85:CK 85 [.ptr (.heap T) 0,.d (.int .i64 s),.d (.int .i64 a),.d (.int .i64 u),.d (.int .i64 b)] h1 (.d (.list 2 [.agg [.int .i64 c0,t0],.agg [.int .i64 c1,t1]])) h1 q2) (ct0:D.isCell t0=true) (ct1:D.isCell t1=true)
 (f0:CK 89 [.d (.agg [.int .i64 c0,t0])] h1 (.tuple [.d (.int .i64 lo0),.d (.int .i64 hi0)]) g1 z0) (hh0:¬ (0 < lo0∨hi0 < 0))
 (f1:CK 89 [.d (.agg [.int .i64 c1,t1])] g1 (.tuple [.d (.int .i64 lo1),.d (.int .i64 hi1)]) g2 z1) (hh1:0 < lo1∨hi1 < 0)
 : ∃ w,callL K (.fn (.func 34) [] []) [.d (.agg [ar,st]),.d (.int .i64 s),.d (.int .i64 a),.d (.int .i64 u),.d (.int .i64 b)] none h0=some (.ret (.tuple [.d (.int .i64 1),.d (.int .i64 lo1),.d (.int .i64 hi1),.d (.int .i64 0)]),false,g2,w):=by
 simp only [D.isCell] at car cst ct0 ct1
 have e:=k34 [] [] [.d (.agg [ar,st]),.d (.int .i64 s),.d (.int .i64 a),.d (.int .i64 u),.d (.int .i64 b)] none h0
 have q0a:¬ 0 < lo0:=by omega
 have q0b:¬ hi0 < 0:=by omega
 by_cases q1:0 < lo1
 ·simp [c34,x34_0,r34_0,x34_1,r34_1,x34_2,r34_2,x34_3,r34_3,x34_4,r34_4,x34_5,r34_5,x34_6,r34_6,x34_7,r34_7,x34_8,r34_8,x34_9,r34_9,x34_10,r34_10,x34_11,r34_11,execL_loop,u34_0,w0,w1,w2,w3,e84,car,cst,e85,ct0,ct1,f0,f1,q0a,q0b,q1] at e
  exact ⟨_,e⟩
 ·have q1a:hi1 < 0:=by omega
  simp [c34,x34_0,r34_0,x34_1,r34_1,x34_2,r34_2,x34_3,r34_3,x34_4,r34_4,x34_5,r34_5,x34_6,r34_6,x34_7,r34_7,x34_8,r34_8,x34_9,r34_9,x34_10,r34_10,x34_11,r34_11,execL_loop,u34_0,w0,w1,w2,w3,e84,car,cst,e85,ct0,ct1,f0,f1,q0a,q0b,q1,q1a] at e
  exact ⟨_,e⟩
structure DOk (x:Int × List (Int × Int)):Prop where
 len:x.2.length≤4
 by':∀ z∈x.2,(z.1=0∨z.1=1∨z.1=-1)∧0≤z.2∧z.2≤3
 lo:-10≤x.1
 hi:x.1≤10
theorem difA_ok {c d:Int} {cs ds ss us:List Int} {z z':Int} (hc:AffOk c cs ss z) (hd:AffOk d ds us z') (hs:SzOk ss) (hu:SzOk us) (hz:z≤5) (hz':z'≤5):DOk (difA ss us (c,cs) (d,ds)):=by
 have h1:=hc.bd
 have h2:=hd.bd
 have l1:=hs.few
 have l2:=hu.few
 refine ⟨?_,?_,?_,?_⟩
 ·simp [difA]; omega
 ·intro z hz
  simp only [difA,List.mem_append,List.mem_map] at hz
  rcases hz with ⟨y,hy,rfl⟩ | ⟨y,hy,rfl⟩
  ·obtain ⟨ha,hb⟩:=List.of_mem_zip (a:=y.1) (b:=y.2) hy
   have q1:=hc.coef _ ha
   have q2:=hs.within _ hb
   refine ⟨q1,?_,?_⟩<;>simp only []<;>omega
  ·obtain ⟨ha,hb⟩:=List.of_mem_zip (a:=y.1) (b:=y.2) hy
   have q1:=hd.coef _ ha
   have q2:=hu.within _ hb
   refine ⟨?_,?_,?_⟩<;>simp only []<;>omega
 ·simp [difA]; omega
 ·simp [difA]; omega
def neverA (x:Int × List (Int × Int)):Bool:=x.2.all (fun z=>z.1 == 0)&&x.1 != 0
def gcs (l:List (Int × Int)):Int:=l.foldl (fun d z=>gc d z.1) 0
theorem gcs_eq (l:List (Int × Int)):(gcs l=0∧l.all (fun z=>z.1 == 0)=true)∨(gcs l=1∧l.all (fun z=>z.1 == 0)=false):=by
 have h1:∀ l:List (Int × Int),l.foldl (fun d z=>gc d z.1) 1=1:=by
  intro l
  induction l with
  | nil=>rfl
  | cons x r ih=>simpa [gc] using ih
 unfold gcs
 induction l with
 | nil=>left; exact ⟨rfl,rfl⟩
 | cons x r ih =>
  by_cases hx:x.1=0
  ·simpa [gc,hx] using ih
  ·right
   have hg:gc 0 x.1=1:=by simp [gc,hx]
   simp only [List.foldl_cons,hg,h1,true_and]
   simp [hx]
theorem s86 {x:Int × List (Int × Int)} (h:DOk x) (hp:List O):∃ d J w,callL K (.fn (.func 86) [] []) [.d (affE x)] none hp=some (.ret (.tuple [.d (.int .i64 d),.d (.bool (neverA x))]),false,hp++J,w):=by
 obtain ⟨c,l⟩:=x
 have hb:=h.by'
 have hl:=h.len
 have key:∀ d,(d=gcs l)→decide (d=0∧c≠0)=neverA (c,l):=by
  rintro _ rfl
  rcases gcs_eq l with ⟨h1,h2⟩ | ⟨h1,h2⟩
  ·simp only [neverA,h2,h1,Bool.true_and,true_and]
   by_cases hc:c=0<;>simp [hc]
  ·simp only [neverA,h2,h1,Bool.false_and]
   simp
 have h01:gcs l=0∨gcs l=1:=by rcases gcs_eq l with ⟨h1,_⟩ | ⟨h1,_⟩<;>simp [h1]
 match l,hb,hl,key,h01 with
 | [],_,_,key,_ =>
  obtain ⟨J,w,e⟩:=w86_0 (hp:=hp) (c:=c)
  refine ⟨gcs [],J,w,?_⟩
  rw [← key _ rfl]
  simpa [gcs,affE,tsD] using e
 | [(b0,m0)],hb,_,key,h01 =>
  have q0:=(hb (b0,m0) (by simp)).1
  obtain ⟨J,w,e⟩:=w86_1 (hp:=hp) (c:=c) (m0:=m0) (fun hp=>s151 (.inl rfl) q0 hp) (gc01 _ _)
  refine ⟨gcs [(b0,m0)],J,w,?_⟩
  rw [← key _ rfl]
  exact e
 | [(b0,m0),(b1,m1)],hb,_,key,h01 =>
  have q0:=(hb (b0,m0) (by simp)).1
  have q1:=(hb (b1,m1) (by simp)).1
  obtain ⟨J,w,e⟩:=w86_2 (hp:=hp) (c:=c) (m0:=m0) (m1:=m1) (fun hp=>s151 (.inl rfl) q0 hp) (fun hp=>s151 (gc01 _ _) q1 hp) (gc01 _ _)
  refine ⟨gcs [(b0,m0),(b1,m1)],J,w,?_⟩
  rw [← key _ rfl]
  exact e
 | [(b0,m0),(b1,m1),(b2,m2)],hb,_,key,h01 =>
  have q0:=(hb (b0,m0) (by simp)).1
  have q1:=(hb (b1,m1) (by simp)).1
  have q2:=(hb (b2,m2) (by simp)).1
  obtain ⟨J,w,e⟩:=w86_3 (hp:=hp) (c:=c) (m0:=m0) (m1:=m1) (m2:=m2) (fun hp=>s151 (.inl rfl) q0 hp) (fun hp=>s151 (gc01 _ _) q1 hp) (fun hp=>s151 (gc01 _ _) q2 hp) (gc01 _ _)
  refine ⟨gcs [(b0,m0),(b1,m1),(b2,m2)],J,w,?_⟩
  rw [← key _ rfl]
  exact e
 | [(b0,m0),(b1,m1),(b2,m2),(b3,m3)],hb,_,key,h01 =>
  have q0:=(hb (b0,m0) (by simp)).1
  have q1:=(hb (b1,m1) (by simp)).1
  have q2:=(hb (b2,m2) (by simp)).1
  have q3:=(hb (b3,m3) (by simp)).1
  obtain ⟨J,w,e⟩:=w86_4 (hp:=hp) (c:=c) (m0:=m0) (m1:=m1) (m2:=m2) (m3:=m3) (fun hp=>s151 (.inl rfl) q0 hp) (fun hp=>s151 (gc01 _ _) q1 hp) (fun hp=>s151 (gc01 _ _) q2 hp) (fun hp=>s151 (gc01 _ _) q3 hp) (gc01 _ _)
  refine ⟨gcs [(b0,m0),(b1,m1),(b2,m2),(b3,m3)],J,w,?_⟩
  rw [← key _ rfl]
  exact e
 | _ :: _ :: _ :: _ :: _ :: _,_,hl,_,_=>simp at hl
def loS:Int→List (Int × Int)→Int
 | c,[]=>c
 | c,z :: r=>loS (c+(if z.1 * z.2 < 0 then z.1 * z.2 else 0)) r
def hiS:Int→List (Int × Int)→Int
 | c,[]=>c
 | c,z :: r=>hiS (c+(if 0 < z.1 * z.2 then z.1 * z.2 else 0)) r
theorem mulW {b m:Int} (h:(b=0∨b=1∨b=-1)∧0≤m∧m≤3):-3≤b * m∧b * m≤3:=by
 rcases h with ⟨rfl | rfl | rfl,h1,h2⟩<;>omega
theorem Wlo {c p:Int} (h1:-1000≤c) (h2:c≤900) (h:-3≤p∧p≤3) (hc:-900≤c):wr .i64 (c+(if p < 0 then p else 0))=c+(if p < 0 then p else 0):=W (by split<;>omega) (by split<;>omega)
theorem Whi {c p:Int} (h1:-1000≤c) (h2:c≤900) (h:-3≤p∧p≤3):wr .i64 (c+(if 0 < p then p else 0))=c+(if 0 < p then p else 0):=W (by split<;>omega) (by split<;>omega)
theorem Blo {c p:Int} (h:-3≤p∧p≤3):c - 3≤c+(if p < 0 then p else 0)∧c+(if p < 0 then p else 0)≤c:=by split<;>omega
theorem Bhi {c p:Int} (h:-3≤p∧p≤3):c≤c+(if 0 < p then p else 0)∧c+(if 0 < p then p else 0)≤c+3:=by split<;>omega
theorem s89 {x:Int × List (Int × Int)} (h:DOk x) (hp:List O):∃ J w,callL K (.fn (.func 89) [] []) [.d (affE x)] none hp=some (.ret (.tuple [.d (.int .i64 (loS x.1 x.2)),.d (.int .i64 (hiS x.1 x.2))]),false,hp++J,w):=by
 obtain ⟨c,l⟩:=x
 have hb:=h.by'
 have hl:=h.len
 have h1:=h.lo
 have h2:=h.hi
 simp only at hb hl h1 h2
 match l,hb,hl with
 | [],_,_=>exact w89_0
 | [(b0,m0)],hb,_ =>
  have q0:=mulW (hb (b0,m0) (by simp))
  simp only at q0
  exact w89_1 (b0:=b0) (m0:=m0) (W (by omega) (by omega)) (Wlo (by omega) (by omega) q0 (by omega)) (Whi (by omega) (by omega) q0)
 | [(b0,m0),(b1,m1)],hb,_ =>
  have q0:=mulW (hb (b0,m0) (by simp))
  have q1:=mulW (hb (b1,m1) (by simp))
  simp only at q0 q1
  have l0:=Blo (c:=c) q0
  have g0:=Bhi (c:=c) q0
  exact w89_2 (b0:=b0) (m0:=m0) (b1:=b1) (m1:=m1) (W (by omega) (by omega)) (Wlo (by omega) (by omega) q0 (by omega)) (Whi (by omega) (by omega) q0)
   (W (by omega) (by omega)) (Wlo (by omega) (by omega) q1 (by omega)) (Whi (by omega) (by omega) q1)
 | [(b0,m0),(b1,m1),(b2,m2)],hb,_ =>
  have q0:=mulW (hb (b0,m0) (by simp))
  have q1:=mulW (hb (b1,m1) (by simp))
  have q2:=mulW (hb (b2,m2) (by simp))
  simp only at q0 q1 q2
  have l0:=Blo (c:=c) q0
  have g0:=Bhi (c:=c) q0
  have l1:=Blo (c:=c+(if b0 * m0 < 0 then b0 * m0 else 0)) q1
  have g1:=Bhi (c:=c+(if 0 < b0 * m0 then b0 * m0 else 0)) q1
  exact w89_3 (b0:=b0) (m0:=m0) (b1:=b1) (m1:=m1) (b2:=b2) (m2:=m2) (W (by omega) (by omega)) (Wlo (by omega) (by omega) q0 (by omega)) (Whi (by omega) (by omega) q0)
   (W (by omega) (by omega)) (Wlo (by omega) (by omega) q1 (by omega)) (Whi (by omega) (by omega) q1)
   (W (by omega) (by omega)) (Wlo (by omega) (by omega) q2 (by omega)) (Whi (by omega) (by omega) q2)
 | [(b0,m0),(b1,m1),(b2,m2),(b3,m3)],hb,_ =>
  have q0:=mulW (hb (b0,m0) (by simp))
  have q1:=mulW (hb (b1,m1) (by simp))
  have q2:=mulW (hb (b2,m2) (by simp))
  have q3:=mulW (hb (b3,m3) (by simp))
  simp only at q0 q1 q2 q3
  have l0:=Blo (c:=c) q0
  have g0:=Bhi (c:=c) q0
  have l1:=Blo (c:=c+(if b0 * m0 < 0 then b0 * m0 else 0)) q1
  have g1:=Bhi (c:=c+(if 0 < b0 * m0 then b0 * m0 else 0)) q1
  have l2:=Blo (c:=c+(if b0 * m0 < 0 then b0 * m0 else 0)+(if b1 * m1 < 0 then b1 * m1 else 0)) q2
  have g2:=Bhi (c:=c+(if 0 < b0 * m0 then b0 * m0 else 0)+(if 0 < b1 * m1 then b1 * m1 else 0)) q2
  exact w89_4 (b0:=b0) (m0:=m0) (b1:=b1) (m1:=m1) (b2:=b2) (m2:=m2) (b3:=b3) (m3:=m3) (W (by omega) (by omega)) (Wlo (by omega) (by omega) q0 (by omega)) (Whi (by omega) (by omega) q0)
   (W (by omega) (by omega)) (Wlo (by omega) (by omega) q1 (by omega)) (Whi (by omega) (by omega) q1)
   (W (by omega) (by omega)) (Wlo (by omega) (by omega) q2 (by omega)) (Whi (by omega) (by omega) q2)
   (W (by omega) (by omega)) (Wlo (by omega) (by omega) q3 (by omega)) (Whi (by omega) (by omega) q3)
 | _ :: _ :: _ :: _ :: _ :: _,_,hl=>simp at hl
def difs (x y:Stp) (c d:List (Int × List Int)):List (Int × List (Int × Int)):=List.zipWith (difA x.ss y.ss) c d
theorem difs_ok {x y:Stp} {n:Nat} {c d:List (Int × List Int)} (hx:StpOk x) (hy:StpOk y) (hc:CellOk n c x.ss) (hd:CellOk n d y.ss):(∀ z∈difs x y c d,DOk z)∧(difs x y c d).length≤2:=by
 have hz:(sizesOf n).length≤2:=by
  match n,hc.arr with
  | 0,_=>simp [sizesOf]
  | 1,_=>simp [sizesOf]
  | 2,_=>simp [sizesOf]
 have hs5:∀ i (h:i < (sizesOf n).length),(sizesOf n)[i]≤5:=by
  match n,hc.arr with
  | 0,_ =>
   intro i h
   match i,h with
   | 0,_=>simp [sizesOf]
  | 1,_ =>
   intro i h
   match i,h with
   | 0,_=>simp [sizesOf]
   | 1,_=>simp [sizesOf]
  | 2,_=>intro i h; simp [sizesOf] at h
 have l1:=hc.len
 have l2:=hd.len
 constructor
 ·intro z hm
  obtain ⟨i,hi,rfl⟩:=List.mem_iff_getElem.1 hm
  simp only [difs,List.length_zipWith] at hi
  simp only [difs,List.getElem_zipWith]
  have h1:=hc.ok i (by omega) (by omega)
  have h2:=hd.ok i (by omega) (by omega)
  exact difA_ok h1 h2 hx.sz hy.sz (hs5 i (by omega)) (hs5 i (by omega))
 ·simp [difs]; omega
theorem cTs (l:List (Int × Int)):D.isCell (tsD l)=true:=by cases l<;>rfl
theorem s32 {t:List Stp} (ht:TaskOk t) (h3:t.length≤3) (hp:List O) {s u a b:Nat} {x y:Stp} {c d:Nat × List (Int × List Int)} (hs:t[s]?=some x) (hu:t[u]?=some y) (ha:acc x a=some c) (hb:acc y b=some d) (hc:CellOk c.1 c.2 x.ss) (hd:CellOk d.1 d.2 y.ss) :
  ∃ H' w g0 g1 e,callL K (.fn (.func 32) [] []) [.d (encT t),.d (.int .i64 s),.d (.int .i64 a),.d (.int .i64 u),.d (.int .i64 b)] none hp=some (.ret (.tuple [.d (.int .i64 g0),.d (.int .i64 g1),.d (.int .i64 e)]),false,H',w) ∧
   e=if c.1=d.1 then (if (difs x y c.2 d.2).any neverA then 0 else 14) else 9:=by
 obtain ⟨H1,w1,T,e84,hT,hO,hK⟩:=s84 ht h3 hp hs hu ha hb
 have hx:=ht.ok x (List.mem_of_getElem? hs)
 have hy:=ht.ok y (List.mem_of_getElem? hu)
 obtain ⟨k,c⟩:=c
 obtain ⟨k2,d⟩:=d
 simp only at hc hd e84 ⊢
 by_cases hk:k=k2
 ·subst hk
  simp only [if_true] at e84 ⊢
  obtain ⟨v,hv⟩:=hO.at
  obtain ⟨w2,e85⟩:=s85 H1 T hv hs hu h3 hx hy ha hb hc hd
  obtain ⟨hok,hlen⟩:=difs_ok hx hy hc hd
  have e85':callL K (.fn (.func 85) [] []) [.ptr (.heap T) 0,.d (.int .i64 s),.d (.int .i64 a),.d (.int .i64 u),.d (.int .i64 b)] none H1=some (.ret (.d (difD (difs x y c d))),false,H1,w2):=e85
  clear e85
  match hD:difs x y c d,hok,hlen,e85' with
  | [],_,_,e85 =>
   obtain ⟨w,e⟩:=w32_0_n (v:=.undef) rfl rfl e84 e85
   exact ⟨_,w,_,_,_,e,by simp⟩
  | [z0],hok,_,e85 =>
   obtain ⟨d0,J0,q0,f0⟩:=s86 (hok z0 (by simp)) H1
   cases hn:neverA z0 with
   | true =>
    rw [hn] at f0
    obtain ⟨w,e⟩:=w32_1_0 (v:=.undef) rfl rfl e84 e85 (cTs _) f0
    exact ⟨_,w,_,_,_,e,by simp [hn]⟩
   | false =>
    rw [hn] at f0
    obtain ⟨w,e⟩:=w32_1_n (v:=.undef) rfl rfl e84 e85 (cTs _) f0
    exact ⟨_,w,_,_,_,e,by simp [hn]⟩
  | [z0,z1],hok,_,e85 =>
   obtain ⟨d0,J0,q0,f0⟩:=s86 (hok z0 (by simp)) H1
   obtain ⟨d1,J1,q1,f1⟩:=s86 (hok z1 (by simp)) (H1++J0)
   cases hn:neverA z0 with
   | true =>
    rw [hn] at f0
    obtain ⟨w,e⟩:=w32_2_0 (v:=.undef) (d1:=0) rfl rfl e84 e85 (cTs _) (cTs _) f0
    exact ⟨_,w,_,_,_,e,by simp [hn]⟩
   | false =>
    rw [hn] at f0
    cases hm:neverA z1 with
    | true =>
     rw [hm] at f1
     obtain ⟨w,e⟩:=w32_2_1 (v:=.undef) rfl rfl e84 e85 (cTs _) (cTs _) f0 f1
     exact ⟨_,w,_,_,_,e,by simp [hn,hm]⟩
    | false =>
     rw [hm] at f1
     obtain ⟨w,e⟩:=w32_2_n (v:=.undef) rfl rfl e84 e85 (cTs _) (cTs _) f0 f1
     exact ⟨_,w,_,_,_,e,by simp [hn,hm]⟩
  | _ :: _ :: _ :: _,_,hl,_=>simp at hl
 ·simp only [if_neg hk] at e84 ⊢
  obtain ⟨w,e⟩:=w32_0_x (v:=.undef) (T:=0) (q2:=0) rfl rfl e84
  exact ⟨_,w,_,_,_,e,rfl⟩
def apartA (x:Int × List (Int × Int)):Bool:=decide (0 < loS x.1 x.2∨hiS x.1 x.2 < 0)
theorem s34 {t:List Stp} (ht:TaskOk t) (h3:t.length≤3) (hp:List O) {s u a b:Nat} {x y:Stp} {c d:Nat × List (Int × List Int)} (hs:t[s]?=some x) (hu:t[u]?=some y) (ha:acc x a=some c) (hb:acc y b=some d) (hc:CellOk c.1 c.2 x.ss) (hd:CellOk d.1 d.2 y.ss) :
  ∃ H' w g0 g1 g2 e,callL K (.fn (.func 34) [] []) [.d (encT t),.d (.int .i64 s),.d (.int .i64 a),.d (.int .i64 u),.d (.int .i64 b)] none hp=some (.ret (.tuple [.d (.int .i64 g0),.d (.int .i64 g1),.d (.int .i64 g2),.d (.int .i64 e)]),false,H',w) ∧
   e=if c.1=d.1 then (if (difs x y c.2 d.2).any apartA then 0 else 14) else 9:=by
 obtain ⟨H1,w1,T,e84,hT,hO,hK⟩:=s84 ht h3 hp hs hu ha hb
 have hx:=ht.ok x (List.mem_of_getElem? hs)
 have hy:=ht.ok y (List.mem_of_getElem? hu)
 obtain ⟨k,c⟩:=c
 obtain ⟨k2,d⟩:=d
 simp only at hc hd e84 ⊢
 by_cases hk:k=k2
 ·subst hk
  simp only [if_true] at e84 ⊢
  obtain ⟨v,hv⟩:=hO.at
  obtain ⟨w2,e85⟩:=s85 H1 T hv hs hu h3 hx hy ha hb hc hd
  obtain ⟨hok,hlen⟩:=difs_ok hx hy hc hd
  have e85':callL K (.fn (.func 85) [] []) [.ptr (.heap T) 0,.d (.int .i64 s),.d (.int .i64 a),.d (.int .i64 u),.d (.int .i64 b)] none H1=some (.ret (.d (difD (difs x y c d))),false,H1,w2):=e85
  clear e85
  match hD:difs x y c d,hok,hlen,e85' with
  | [],_,_,e85 =>
   obtain ⟨w,e⟩:=w34_0_n (v:=.undef) rfl rfl e84 e85
   exact ⟨_,w,_,_,_,_,e,by simp⟩
  | [z0],hok,_,e85 =>
   obtain ⟨J0,q0,f0⟩:=s89 (hok z0 (by simp)) H1
   by_cases hn:0 < loS z0.1 z0.2∨hiS z0.1 z0.2 < 0
   ·obtain ⟨w,e⟩:=w34_1_0 (v:=.undef) rfl rfl e84 e85 (cTs _) f0 hn
    exact ⟨_,w,_,_,_,_,e,by simp [apartA,hn]⟩
   ·obtain ⟨w,e⟩:=w34_1_n (v:=.undef) rfl rfl e84 e85 (cTs _) f0 hn
    exact ⟨_,w,_,_,_,_,e,by simp [apartA,hn]⟩
  | [z0,z1],hok,_,e85 =>
   obtain ⟨J0,q0,f0⟩:=s89 (hok z0 (by simp)) H1
   obtain ⟨J1,q1,f1⟩:=s89 (hok z1 (by simp)) (H1++J0)
   by_cases hn:0 < loS z0.1 z0.2∨hiS z0.1 z0.2 < 0
   ·obtain ⟨w,e⟩:=w34_2_0 (v:=.undef) (lo1:=0) (hi1:=0) rfl rfl e84 e85 (cTs _) (cTs _) f0 hn
    exact ⟨_,w,_,_,_,_,e,by simp [apartA,hn]⟩
   ·by_cases hm:0 < loS z1.1 z1.2∨hiS z1.1 z1.2 < 0
    ·obtain ⟨w,e⟩:=w34_2_1 (v:=.undef) rfl rfl e84 e85 (cTs _) (cTs _) f0 hn f1 hm
     exact ⟨_,w,_,_,_,_,e,by simp [apartA,hn,hm]⟩
    ·obtain ⟨w,e⟩:=w34_2_n (v:=.undef) rfl rfl e84 e85 (cTs _) (cTs _) f0 hn f1 hm
     exact ⟨_,w,_,_,_,_,e,by simp [apartA,hn,hm]⟩
  | _ :: _ :: _ :: _,_,hl,_=>simp at hl
 ·simp only [if_neg hk] at e84 ⊢
  obtain ⟨w,e⟩:=w34_0_x (v:=.undef) (T:=0) (q2:=0) rfl rfl e84
  exact ⟨_,w,_,_,_,_,e,rfl⟩
end Mw
