/- DependLevels answers true for every list of numbers: its tied card holds; no condition beyond the card's own. -/
import Derived.Test.YtdjnccgeajpegaaGreatDoorXb
import Derived.Test.YtdjnccgeajpegaaGreatDoorXa
import Derived.Test.YtdjnccgeajpegaaGreatDoorQa
import Derived.Test.YtdjnccgeajpegaaGreatDoorQe
set_option linter.unusedVariables false
set_option linter.unusedSimpArgs false
set_option maxRecDepth 10000
set_option maxHeartbeats 4000000
namespace Mw
open Go Go.Proofs
def prodI:List Int→Int
 | []=>1
 | x :: xs=>x * prodI xs
theorem prodI_bound {ss:List Int} (h:SzOk ss):1≤prodI ss∧prodI ss≤16:=by
 have key:∀ x:Int,1≤x→x≤4→x=1∨x=2∨x=3∨x=4:=fun x _ _=>by omega
 match ss,h with
 | [],_=>simp [prodI]
 | [a],h=>have:=h.within a (by simp); simp [prodI]; omega
 | [a,b],h =>
  have ha:=h.within a (by simp)
  have hb:=h.within b (by simp)
  simp only [prodI]
  rcases key a ha.1 ha.2 with rfl | rfl | rfl | rfl<;>omega
 | _ :: _ :: _ :: _,h=>have:=h.few; simp at this
theorem s110 (hp:List O) {ss:List Int} (h:SzOk ss):callL K (.fn (.func 110) [] []) [.d (szD ss)] none hp=some (.ret (.d (.int .i64 (prodI ss))),false,hp,0):=by
 rw [k110]
 match ss,h with
 | [],_=>simp [c110,x110_0,x110_1,x110_2,x110_3,x110_4,x110_5,x110_6,x110_7,execL_loop,u110_0,szD,prodI]
 | [a],h =>
  have ha:=h.within a (by simp)
  have hw:wr .i64 a=a:=wrap_id (by omega) (by omega)
  simp [c110,x110_0,x110_1,x110_2,x110_3,x110_4,x110_5,x110_6,x110_7,execL_loop,u110_0,szD,prodI,hw1,hw]
 | [a,b],h =>
  have ha:=h.within a (by simp)
  have hb:=prodI_bound h
  simp only [prodI,Int.mul_one] at hb
  have hw:wr .i64 a=a:=wrap_id (by omega) (by omega)
  have hw3:wr .i64 (a * b)=a * b:=wrap_id (by omega) (by omega)
  simp [c110,x110_0,x110_1,x110_2,x110_3,x110_4,x110_5,x110_6,x110_7,execL_loop,u110_0,szD,prodI,hw1,hw2,hw,hw3]
 | _ :: _ :: _ :: _,h=>have:=h.few; simp at this
theorem p176_1 {hp:List O} {l:Nat} {ar:D} {ro:Bool} {t0 o0 z0 r0:Int} {p0 q0 m0:ByteArray} {s0 x0 f0 a0:D}
 (hl:hp[l]?=some (.cells [.d ar,.d (.list 10 [.agg [s0,.int .i64 t0,x0,f0,.int .i64 o0,.str p0,.str q0,.str m0,.int .i64 z0,a0]])] ro))
 (e0:CK 110 [.d s0] hp (.d (.int .i64 r0)) hp 0) (l0:1≤r0) (g0:r0≤16) (cs0:D.isCell s0=true) (cx0:D.isCell x0=true) (cf0:D.isCell f0=true) (ca0:D.isCell a0=true)
 : callL K (.fn (.func 176) [] []) [.ptr (.heap l) 0] none hp=some (.ret (.d (.int .i64 (r0))),false,hp,0):=by
 simp only [D.isCell] at cs0 cx0 cf0 ca0
 have hs0:wr .i64 (r0)=r0:=wrap_id (by omega) (by omega)
 rw [k176]
 simp [c176,x176_0,x176_1,x176_2,x176_3,x176_4,x176_5,x176_6,x176_7,execL_loop,u176_0,hl,hw1,hw2,hw3,e0,hs0,cs0,cx0,cf0,ca0]
theorem p176_2 {hp:List O} {l:Nat} {ar:D} {ro:Bool} {t0 o0 z0 r0 t1 o1 z1 r1:Int} {p0 q0 m0 p1 q1 m1:ByteArray} {s0 x0 f0 a0 s1 x1 f1 a1:D}
 (hl:hp[l]?=some (.cells [.d ar,.d (.list 10 [.agg [s0,.int .i64 t0,x0,f0,.int .i64 o0,.str p0,.str q0,.str m0,.int .i64 z0,a0],.agg [s1,.int .i64 t1,x1,f1,.int .i64 o1,.str p1,.str q1,.str m1,.int .i64 z1,a1]])] ro))
 (e0:CK 110 [.d s0] hp (.d (.int .i64 r0)) hp 0) (l0:1≤r0) (g0:r0≤16)
 (e1:CK 110 [.d s1] hp (.d (.int .i64 r1)) hp 0) (l1:1≤r1) (g1:r1≤16) (cs0:D.isCell s0=true) (cx0:D.isCell x0=true) (cf0:D.isCell f0=true) (ca0:D.isCell a0=true) (cs1:D.isCell s1=true) (cx1:D.isCell x1=true) (cf1:D.isCell f1=true) (ca1:D.isCell a1=true)
 : callL K (.fn (.func 176) [] []) [.ptr (.heap l) 0] none hp=some (.ret (.d (.int .i64 (r0+r1))),false,hp,0):=by
 simp only [D.isCell] at cs0 cx0 cf0 ca0 cs1 cx1 cf1 ca1
 have hs0:wr .i64 (r0)=r0:=wrap_id (by omega) (by omega)
 have hs1:wr .i64 (r0+r1)=r0+r1:=wrap_id (by omega) (by omega)
 rw [k176]
 simp [c176,x176_0,x176_1,x176_2,x176_3,x176_4,x176_5,x176_6,x176_7,execL_loop,u176_0,hl,hw1,hw2,hw3,e0,e1,hs0,hs1,cs0,cx0,cf0,ca0,cs1,cx1,cf1,ca1]
theorem p176_3 {hp:List O} {l:Nat} {ar:D} {ro:Bool} {t0 o0 z0 r0 t1 o1 z1 r1 t2 o2 z2 r2:Int} {p0 q0 m0 p1 q1 m1 p2 q2 m2:ByteArray} {s0 x0 f0 a0 s1 x1 f1 a1 s2 x2 f2 a2:D}
 (hl:hp[l]?=some (.cells [.d ar,.d (.list 10 [.agg [s0,.int .i64 t0,x0,f0,.int .i64 o0,.str p0,.str q0,.str m0,.int .i64 z0,a0],.agg [s1,.int .i64 t1,x1,f1,.int .i64 o1,.str p1,.str q1,.str m1,.int .i64 z1,a1],.agg [s2,.int .i64 t2,x2,f2,.int .i64 o2,.str p2,.str q2,.str m2,.int .i64 z2,a2]])] ro))
 (e0:CK 110 [.d s0] hp (.d (.int .i64 r0)) hp 0) (l0:1≤r0) (g0:r0≤16)
 (e1:CK 110 [.d s1] hp (.d (.int .i64 r1)) hp 0) (l1:1≤r1) (g1:r1≤16)
 (e2:CK 110 [.d s2] hp (.d (.int .i64 r2)) hp 0) (l2:1≤r2) (g2:r2≤16) (cs0:D.isCell s0=true) (cx0:D.isCell x0=true) (cf0:D.isCell f0=true) (ca0:D.isCell a0=true) (cs1:D.isCell s1=true) (cx1:D.isCell x1=true) (cf1:D.isCell f1=true) (ca1:D.isCell a1=true) (cs2:D.isCell s2=true) (cx2:D.isCell x2=true) (cf2:D.isCell f2=true) (ca2:D.isCell a2=true)
 : callL K (.fn (.func 176) [] []) [.ptr (.heap l) 0] none hp=some (.ret (.d (.int .i64 (r0+r1+r2))),false,hp,0):=by
 simp only [D.isCell] at cs0 cx0 cf0 ca0 cs1 cx1 cf1 ca1 cs2 cx2 cf2 ca2
 have hs0:wr .i64 (r0)=r0:=wrap_id (by omega) (by omega)
 have hs1:wr .i64 (r0+r1)=r0+r1:=wrap_id (by omega) (by omega)
 have hs2:wr .i64 (r0+r1+r2)=r0+r1+r2:=wrap_id (by omega) (by omega)
 rw [k176]
 simp [c176,x176_0,x176_1,x176_2,x176_3,x176_4,x176_5,x176_6,x176_7,execL_loop,u176_0,hl,hw1,hw2,hw3,e0,e1,e2,hs0,hs1,hs2,cs0,cx0,cf0,ca0,cs1,cx1,cf1,ca1,cs2,cx2,cf2,ca2]
theorem s171r {n:ByteArray} (h:∀ hp,callL K (.fn (.func 268) [] []) [.d (.str n)] none hp=some (.ret (.d (.bool true)),false,hp,0)) (hp:List O):∃ J w,callL K (.fn (.func 171) [] []) [.d (refD n)] none hp=some (.ret (.d (.int .i64 0)),false,hp++J,w):=by
 have e1:∀ hp,callL K (.fn (.func 205) [] []) [.d (refD n),.d (.int .i64 0)] none hp=some (.ret (.tuple []),false,hp,0):=by
  intro hp
  have e1:=fun hp=>s237_ref hp h
  have e2:=fun hp=>s236 hp 7
  rw [k205]
  simp only [refD,exD,e0] at e1
  simp [c205,x205_0,x205_1,x205_2,x205_3,x205_4,x205_5,x205_6,x205_7,execL_loop,u205_0,refD,exD,e0,e1,e2]
 have e:=k171 [] [] [.d (refD n)] none hp
 have e2:=s203 (hp++[.cells [.d (.int .i64 0)] false]) hp.length (.d (.int .i64 0)) (by simp) (by simp)
 simp only [refD,exD] at e e1
 simp at e2
 simp [c171,x171_0,x171_1,x171_2,x171_3,e1,e2] at e
 exact ⟨_,_,by simpa [refD,exD] using e⟩
theorem s170 (hp:List O) (a m:Nat) {nm:ByteArray} {ss:List Int} {es:List (D × V)} {i:Int} (ha:hp[a]?=some (.cells [.map (.heap m)] false)) (hm:hp[m]?=some (.map es)) (hf:findKey K 9 (.str nm) es=some none)
  (h268:∀ hp,callL K (.fn (.func 268) [] []) [.d (.str nm)] none hp=some (.ret (.d (.bool true)),false,hp,0)) (h4:ss.length≤4) (hs:∀ s∈ss,1≤s∧s≤12) :
  ∃ J w,callL K (.fn (.func 170) [] [.ptr (.heap a) 0]) [.d (.int .i64 i),.d (.agg [.str nm,szD ss])] none hp=some (.ret (.d (.int .i64 0)),false,hp.set m (.map (es++[(.str nm,.d (.bool true))]))++J,w):=by
 obtain ⟨J,w,e1⟩:=s171r h268 hp
 have e:=k170 [] [.ptr (.heap a) 0] [.d (.int .i64 i),.d (.agg [.str nm,szD ss])] none hp
 have c1:(szD ss).isCell=true:=by cases ss<;>rfl
 simp only [D.isCell] at c1
 have e2:=fun hp=>s172 hp ss h4 hs
 have hml:m < hp.length:=(gS.1 hm).1
 simp only [refD,exD,e0] at e1
 have ha':=app_at (J:=J) ha
 have hm':=app_at (J:=J) hm
 simp [c170,x170_0,x170_1,x170_2,x170_3,x170_4,x170_5,x170_6,x170_7,e1,e2,c1,ha,hm,hf,ha',hm',List.set_append_left,hml] at e
 exact ⟨_,_,e⟩
theorem p169 {h0 h1 h2 h3:List O} {w1 w2 w3 a:Nat}
  (e0:callL K (.fn (.func 170) [] [.ptr (.heap a) 0]) [.d (.int .i64 0),.d (.agg [.str ⟨#[97]⟩,.list 1 [.int .i64 5]])] none h0=some (.ret (.d (.int .i64 0)),false,h1,w1))
  (e1:callL K (.fn (.func 170) [] [.ptr (.heap a) 0]) [.d (.int .i64 1),.d (.agg [.str ⟨#[98]⟩,.list 1 [.int .i64 4,.int .i64 4]])] none h1=some (.ret (.d (.int .i64 0)),false,h2,w2))
  (e2:callL K (.fn (.func 170) [] [.ptr (.heap a) 0]) [.d (.int .i64 2),.d (.agg [.str ⟨#[99]⟩,.nils])] none h2=some (.ret (.d (.int .i64 0)),false,h3,w3)) :
  ∃ w,callL K (.fn (.func 169) [] []) [.d (.list 2 arrsD),.fn (.func 170) [] [.ptr (.heap a) 0]] none h0=some (.ret (.d (.int .i64 0)),false,h3,w):=by
 have e:=k169 [] [] [.d (.list 2 arrsD),.fn (.func 170) [] [.ptr (.heap a) 0]] none h0
 simp [c169,x169_0,x169_1,x169_2,x169_3,x169_4,x169_5,x169_6,x169_7,x169_8,execL_loop,u169_0,arrsD,hw1,hw2,hw3,e0,e1,e2] at e
 exact ⟨_,by simpa [arrsD] using e⟩
theorem set_app {h J:List O} {m:Nat} {o:O} (hm:m < h.length):(h++J).set m o=h.set m o++J:=by rw [List.set_append_left _ _ hm]
theorem s169 (hp:List O) (a m:Nat) (hne:a≠m) (ha:hp[a]?=some (.cells [.map (.heap m)] false)) (hm:hp[m]?=some (.map [])) :
  ∃ o J w,callL K (.fn (.func 169) [] []) [.d (.list 2 arrsD),.fn (.func 170) [] [.ptr (.heap a) 0]] none hp=some (.ret (.d (.int .i64 0)),false,hp.set m o++J,w):=by
 have hml:m < hp.length:=(gS.1 hm).1
 have gs:∀ (J:List O) (o:O),(hp.set m o++J)[m]?=some o:=fun J o=>by rw [List.getElem?_append_left (by simpa using hml)]; simp [hml]
 have ga:∀ (J:List O) (o:O),(hp.set m o++J)[a]?=some (.cells [.map (.heap m)] false):=fun J o=>app_at (by rw [List.getElem?_set_ne (Ne.symm hne)]; exact ha)
 obtain ⟨J1,w1,e1⟩:=s170 hp a m (nm:=⟨#[97]⟩) (ss:=[5]) (i:=0) ha hm (by simp) (by simp) (by simp) (by simp)
 obtain ⟨J2,w2,e2⟩:=s170 _ a m (nm:=⟨#[98]⟩) (es:=[]++[(.str ⟨#[97]⟩,.d (.bool true))]) (ss:=[4,4]) (i:=1) (ga J1 _) (gs J1 _) (by simp) (by simp) (by simp) (by simp)
 rw [set_app (by simpa using hml),List.set_set,List.append_assoc] at e2
 obtain ⟨J3,w3,e3⟩:=s170 _ a m (nm:=⟨#[99]⟩) (es:=([]++[(.str ⟨#[97]⟩,.d (.bool true))])++[(.str ⟨#[98]⟩,.d (.bool true))]) (ss:=[]) (i:=2) (ga (J1++J2) _) (gs (J1++J2) _) (by simp) (by simp) (by simp) (by simp)
 rw [set_app (by simpa using hml),List.set_set,List.append_assoc] at e3
 obtain ⟨w,e⟩:=p169 e1 e2 e3
 rw [List.append_assoc (hp.set m _)] at e
 exact ⟨_,_,w,e⟩
theorem s176 (hp:List O) (l:Nat) {t:List Stp} {ro:Bool} (hl:hp[l]?=some (.cells [.d (.list 2 arrsD),.d (.list 10 (t.map encS))] ro)) (h:TaskOk t) (hn:t.length≤3) :
  ∃ r:Int,callL K (.fn (.func 176) [] []) [.ptr (.heap l) 0] none hp=some (.ret (.d (.int .i64 r)),false,hp,0)∧0≤r∧r≤48:=by
 have key:∀ s∈t,(∀ hp,callL K (.fn (.func 110) [] []) [.d (szD s.ss)] none hp=some (.ret (.d (.int .i64 (prodI s.ss))),false,hp,0))∧1≤prodI s.ss∧prodI s.ss≤16:=fun s hs=>⟨fun hp=>s110 hp (h.ok s hs).sz,(prodI_bound (h.ok s hs).sz).1,(prodI_bound (h.ok s hs).sz).2⟩
 match t,hn,h,hl,key with
 | [],_,h,_,_=>exact absurd h.pos (by simp)
 | [c],_,h,hl,key =>
  obtain ⟨a1,a2,a3,a4⟩:=stepCells c (h.ok c (by simp))
  obtain ⟨k1,k2,k3⟩:=key c (by simp)
  exact ⟨_,p176_1 hl (k1 _) k2 k3 a1 a2 a3 a4,by omega,by omega⟩
 | [c,d],_,h,hl,key =>
  obtain ⟨a1,a2,a3,a4⟩:=stepCells c (h.ok c (by simp))
  obtain ⟨b1,b2,b3,b4⟩:=stepCells d (h.ok d (by simp))
  obtain ⟨k1,k2,k3⟩:=key c (by simp)
  obtain ⟨l1,l2,l3⟩:=key d (by simp)
  exact ⟨_,p176_2 hl (k1 _) k2 k3 (l1 _) l2 l3 a1 a2 a3 a4 b1 b2 b3 b4,by omega,by omega⟩
 | [c,d,f],_,h,hl,key =>
  obtain ⟨a1,a2,a3,a4⟩:=stepCells c (h.ok c (by simp))
  obtain ⟨b1,b2,b3,b4⟩:=stepCells d (h.ok d (by simp))
  obtain ⟨f1,f2,f3,f4⟩:=stepCells f (h.ok f (by simp))
  obtain ⟨k1,k2,k3⟩:=key c (by simp)
  obtain ⟨l1,l2,l3⟩:=key d (by simp)
  obtain ⟨m1,m2,m3⟩:=key f (by simp)
  exact ⟨_,p176_3 hl (k1 _) k2 k3 (l1 _) l2 l3 (m1 _) m2 m3 a1 a2 a3 a4 b1 b2 b3 b4 f1 f2 f3 f4,by omega,by omega⟩
 | _ :: _ :: _ :: _ :: _,hn,_,_,_=>simp at hn
theorem s120 (hp:List O) {t:List Stp} (h:TaskOk t) (hn:t.length≤3) :
  ∃ J w,callL K (.fn (.func 120) [] []) [.d (encT t)] none hp=some (.ret (.d (.int .i64 0)),false,hp++J,w):=by
 have e:=k120 [] [] [.d (encT t)] none hp
 have hlen:¬ ((12:Int) < t.length):=by omega
 have hlen':¬ (12 < t.length):=by omega
 have hal:arrsD.length=3:=rfl
 obtain ⟨o,J1,w1,e1⟩:=s169 (hp++[.cells [.d (.list 2 arrsD),.d (.list 10 (t.map encS))] false,.map [],.cells [.map (.heap (hp.length+1))] false]) (hp.length+2) (hp.length+1) (by omega) (by simp) (by simp)
 simp at e1
 obtain ⟨J2,w2,e2⟩:=s173 (hp++.cells [.d (.list 2 arrsD),.d (.list 10 (t.map encS))] false :: o :: .cells [.map (.heap (hp.length+1))] false :: J1) hp.length (st:=.list 10 (t.map encS)) (ro:=false) rfl (by simp) h hn
 obtain ⟨r,e3,r0,r1⟩:=s176 (hp++.cells [.d (.list 2 arrsD),.d (.list 10 (t.map encS))] false :: o :: .cells [.map (.heap (hp.length+1))] false :: J1++J2++[.cells [.d (.list 2 arrsD),.d (.list 10 (t.map encS))] false]) (hp++.cells [.d (.list 2 arrsD),.d (.list 10 (t.map encS))] false :: o :: .cells [.map (.heap (hp.length+1))] false :: J1++J2).length (ro:=false) (by simp) h hn
 have hr:¬ (2000 < r):=by omega
 simp at e2 e3
 simp [c120,x120_0,x120_1,x120_2,x120_3,x120_4,x120_5,x120_6,x120_7,x120_8,x120_9,x120_10,x120_11,x120_12,encT,hlen,hlen',hal,e1,e2,e3,hr] at e
 exact ⟨_,_,e⟩
def valA:Int→List Int→List Int→Int
 | c,x :: xs,i :: is=>valA (c+x * i) xs is
 | c,_,_=>c
def numC (n:Nat) (x:List (Int × List Int)) (at':List Int):Int:=match n,x with
 | 0,[p]=>valA p.1 p.2 at'
 | 1,[p,q]=>valA (valA p.1 p.2 at' * 4+q.1) q.2 at'
 | _,_=>0
inductive AtOk:List Int→List Int→Prop
 | nil:AtOk [] []
 | cons {i s:Int} {is ss:List Int} (h0:0≤i) (h1:i < s) (h:AtOk is ss):AtOk (i :: is) (s :: ss)
theorem AtOk.len {is ss:List Int} (h:AtOk is ss):is.length=ss.length:=by
 induction h with
 | nil=>rfl
 | cons _ _ _ ih=>simp [ih]
theorem mulb {x i s:Int} (hx:x=0∨x=1∨x=-1) (h0:0≤i) (h1:i < s):min 0 (x * (s - 1))≤x * i∧x * i≤max 0 (x * (s - 1)):=by
 rcases hx with rfl | rfl | rfl<;>omega
theorem valA_bound {cs is ss:List Int} (h:AtOk is ss):∀ (c:Int),cs.length=ss.length→(∀ x∈cs,x=0∨x=1∨x=-1)→c+loA cs ss≤valA c cs is∧valA c cs is≤c+hiA cs ss:=by
 induction h generalizing cs with
 | nil =>
  intro c hl _; have:cs=[]:=by simpa using hl
  subst this; simp [loA,hiA,valA]
 | @cons i s is ss h0 h1 h ih =>
  intro c hl hc
  match cs,hl with
  | x :: cs,hl =>
   have:=ih (cs:=cs) (c+x * i) (by simpa using hl) (fun y hy=>hc y (by simp [hy]))
   have hm:=mulb (hc x (by simp)) h0 h1
   simp only [loA,hiA,valA]
   omega
theorem s133_0_0 (hp:List O) (T:Nat) {rest:List V} {ro:Bool} {c dummy:Int} (hT:hp[T]?=some (.cells (.d (.list 2 arrsD) :: rest) ro))
  (hA0:AffOk c [] [] 5) (hs:SzOk []) (hi:AtOk [] []) (V0:V) (hV:V0=.d (.list 1 [])∨V0=.d .nils) :
  callL K (.fn (.func 133) [] []) [.ptr (.heap T) 0,.d (encC 0 [(c,[])]),V0] none hp=some (.ret (.d (.agg [.int .i64 0,.int .i64 (numC 0 [(c,[])] [])])),false,hp,0):=by
 have hb0:=valA_bound hi c hA0.len hA0.coef
 have h10:=hA0.lo
 have h20:=hA0.hi
 have hl0:=loA_nonpos [] []
 have hh0:=hiA_nonneg [] []
 simp only [loA,hiA,valA] at hb0 h10 h20 hl0 hh0
 have wc0:wr .i64 (c)=c:=wrap_id (by omega) (by omega)
 rw [k133]
 rcases hV with rfl | rfl<;>simp [c133,x133_0,x133_1,x133_2,x133_3,x133_4,x133_5,x133_6,x133_7,x133_8,x133_9,x133_10,x133_11,x133_12,x133_13,execL_loop,u133_0,u133_1,hT,encC,atD,encA,arrsD,numC,valA,w0,w1,w2,w3,wc0]
theorem s133_0_1 (hp:List O) (T:Nat) {rest:List V} {ro:Bool} {c x i a dummy:Int} (hT:hp[T]?=some (.cells (.d (.list 2 arrsD) :: rest) ro))
  (hA0:AffOk c [x] [a] 5) (hs:SzOk [a]) (hi:AtOk [i] [a]) :
  callL K (.fn (.func 133) [] []) [.ptr (.heap T) 0,.d (encC 0 [(c,[x])]),.d (.list 1 [.int .i64 i])] none hp=some (.ret (.d (.agg [.int .i64 0,.int .i64 (numC 0 [(c,[x])] [i])])),false,hp,0):=by
 have hb0:=valA_bound hi c hA0.len hA0.coef
 have h10:=hA0.lo
 have h20:=hA0.hi
 have hl0:=loA_nonpos [x] [a]
 have hh0:=hiA_nonneg [x] [a]
 have hm00:=mulb (hA0.coef x (by simp)) (show 0≤i by cases hi with | cons h0 h1 h=>exact h0) (show i < a by cases hi with | cons h0 h1 h=>exact h1)
 have hz0:=hs.within a (by simp)
 simp only [loA,hiA,valA] at hb0 h10 h20 hl0 hh0
 have hp00:-3≤x * (a - 1)∧x * (a - 1)≤3:=by rcases hA0.coef x (by simp) with h | h | h<;>rw [h]<;>omega
 have wp00:wr .i64 (x * i)=x * i:=wrap_id (by omega) (by omega)
 have wc0:wr .i64 (c)=c:=wrap_id (by omega) (by omega)
 have ws00:wr .i64 (c+x * i)=c+x * i:=wrap_id (by omega) (by omega)
 rw [k133]
 simp [c133,x133_0,x133_1,x133_2,x133_3,x133_4,x133_5,x133_6,x133_7,x133_8,x133_9,x133_10,x133_11,x133_12,x133_13,execL_loop,u133_0,u133_1,hT,encC,atD,encA,arrsD,numC,valA,w0,w1,w2,w3,wp00,wc0,ws00]
theorem s133_0_2 (hp:List O) (T:Nat) {rest:List V} {ro:Bool} {c x y i j a b dummy:Int} (hT:hp[T]?=some (.cells (.d (.list 2 arrsD) :: rest) ro))
  (hA0:AffOk c [x,y] [a,b] 5) (hs:SzOk [a,b]) (hi:AtOk [i,j] [a,b]) :
  callL K (.fn (.func 133) [] []) [.ptr (.heap T) 0,.d (encC 0 [(c,[x,y])]),.d (.list 1 [.int .i64 i,.int .i64 j])] none hp=some (.ret (.d (.agg [.int .i64 0,.int .i64 (numC 0 [(c,[x,y])] [i,j])])),false,hp,0):=by
 have hb0:=valA_bound hi c hA0.len hA0.coef
 have h10:=hA0.lo
 have h20:=hA0.hi
 have hl0:=loA_nonpos [x,y] [a,b]
 have hh0:=hiA_nonneg [x,y] [a,b]
 have hm00:=mulb (hA0.coef x (by simp)) (show 0≤i by cases hi with | cons h0 h1 h=>exact h0) (show i < a by cases hi with | cons h0 h1 h=>exact h1)
 have hm01:=mulb (hA0.coef y (by simp)) (show 0≤j by cases hi with | cons h0 h1 h=>cases h with | cons h0 h1 h=>exact h0) (show j < b by cases hi with | cons h0 h1 h=>cases h with | cons h0 h1 h=>exact h1)
 have hz0:=hs.within a (by simp)
 have hz1:=hs.within b (by simp)
 simp only [loA,hiA,valA] at hb0 h10 h20 hl0 hh0
 have hp00:-3≤x * (a - 1)∧x * (a - 1)≤3:=by rcases hA0.coef x (by simp) with h | h | h<;>rw [h]<;>omega
 have wp00:wr .i64 (x * i)=x * i:=wrap_id (by omega) (by omega)
 have hp01:-3≤y * (b - 1)∧y * (b - 1)≤3:=by rcases hA0.coef y (by simp) with h | h | h<;>rw [h]<;>omega
 have wp01:wr .i64 (y * j)=y * j:=wrap_id (by omega) (by omega)
 have wc0:wr .i64 (c)=c:=wrap_id (by omega) (by omega)
 have ws00:wr .i64 (c+x * i)=c+x * i:=wrap_id (by omega) (by omega)
 have ws01:wr .i64 (c+x * i+y * j)=c+x * i+y * j:=wrap_id (by omega) (by omega)
 rw [k133]
 simp [c133,x133_0,x133_1,x133_2,x133_3,x133_4,x133_5,x133_6,x133_7,x133_8,x133_9,x133_10,x133_11,x133_12,x133_13,execL_loop,u133_0,u133_1,hT,encC,atD,encA,arrsD,numC,valA,w0,w1,w2,w3,wp00,wp01,wc0,ws00,ws01]
theorem s133_1_0 (hp:List O) (T:Nat) {rest:List V} {ro:Bool} {c d dummy:Int} (hT:hp[T]?=some (.cells (.d (.list 2 arrsD) :: rest) ro))
  (hA0:AffOk c [] [] 4)    (hA1:AffOk d [] [] 4) (hs:SzOk []) (hi:AtOk [] []) (V0:V) (hV:V0=.d (.list 1 [])∨V0=.d .nils) :
  callL K (.fn (.func 133) [] []) [.ptr (.heap T) 0,.d (encC 1 [(c,[]),(d,[])]),V0] none hp=some (.ret (.d (.agg [.int .i64 1,.int .i64 (numC 1 [(c,[]),(d,[])] [])])),false,hp,0):=by
 have hb0:=valA_bound hi c hA0.len hA0.coef
 have h10:=hA0.lo
 have h20:=hA0.hi
 have hl0:=loA_nonpos [] []
 have hh0:=hiA_nonneg [] []
 have hb1:=valA_bound hi d hA1.len hA1.coef
 have h11:=hA1.lo
 have h21:=hA1.hi
 have hl1:=loA_nonpos [] []
 have hh1:=hiA_nonneg [] []
 simp only [loA,hiA,valA] at hb0 h10 h20 hl0 hh0 hb1 h11 h21 hl1 hh1
 have wc0:wr .i64 (c)=c:=wrap_id (by omega) (by omega)
 have wm:wr .i64 (c * 4)=c * 4:=wrap_id (by omega) (by omega)
 have wc1:wr .i64 (c * 4+d)=c * 4+d:=wrap_id (by omega) (by omega)
 rw [k133]
 rcases hV with rfl | rfl<;>simp [c133,x133_0,x133_1,x133_2,x133_3,x133_4,x133_5,x133_6,x133_7,x133_8,x133_9,x133_10,x133_11,x133_12,x133_13,execL_loop,u133_0,u133_1,hT,encC,atD,encA,arrsD,numC,valA,w0,w1,w2,w3,wc0,wm,wc1]
theorem s133_1_1 (hp:List O) (T:Nat) {rest:List V} {ro:Bool} {c d x u i a dummy:Int} (hT:hp[T]?=some (.cells (.d (.list 2 arrsD) :: rest) ro))
  (hA0:AffOk c [x] [a] 4)    (hA1:AffOk d [u] [a] 4) (hs:SzOk [a]) (hi:AtOk [i] [a]) :
  callL K (.fn (.func 133) [] []) [.ptr (.heap T) 0,.d (encC 1 [(c,[x]),(d,[u])]),.d (.list 1 [.int .i64 i])] none hp=some (.ret (.d (.agg [.int .i64 1,.int .i64 (numC 1 [(c,[x]),(d,[u])] [i])])),false,hp,0):=by
 have hb0:=valA_bound hi c hA0.len hA0.coef
 have h10:=hA0.lo
 have h20:=hA0.hi
 have hl0:=loA_nonpos [x] [a]
 have hh0:=hiA_nonneg [x] [a]
 have hm00:=mulb (hA0.coef x (by simp)) (show 0≤i by cases hi with | cons h0 h1 h=>exact h0) (show i < a by cases hi with | cons h0 h1 h=>exact h1)
 have hb1:=valA_bound hi d hA1.len hA1.coef
 have h11:=hA1.lo
 have h21:=hA1.hi
 have hl1:=loA_nonpos [u] [a]
 have hh1:=hiA_nonneg [u] [a]
 have hm10:=mulb (hA1.coef u (by simp)) (show 0≤i by cases hi with | cons h0 h1 h=>exact h0) (show i < a by cases hi with | cons h0 h1 h=>exact h1)
 have hz0:=hs.within a (by simp)
 simp only [loA,hiA,valA] at hb0 h10 h20 hl0 hh0 hb1 h11 h21 hl1 hh1
 have hp00:-3≤x * (a - 1)∧x * (a - 1)≤3:=by rcases hA0.coef x (by simp) with h | h | h<;>rw [h]<;>omega
 have wp00:wr .i64 (x * i)=x * i:=wrap_id (by omega) (by omega)
 have hp10:-3≤u * (a - 1)∧u * (a - 1)≤3:=by rcases hA1.coef u (by simp) with h | h | h<;>rw [h]<;>omega
 have wp10:wr .i64 (u * i)=u * i:=wrap_id (by omega) (by omega)
 have wc0:wr .i64 (c)=c:=wrap_id (by omega) (by omega)
 have ws00:wr .i64 (c+x * i)=c+x * i:=wrap_id (by omega) (by omega)
 have wm:wr .i64 ((c+x * i) * 4)=(c+x * i) * 4:=wrap_id (by omega) (by omega)
 have wc1:wr .i64 ((c+x * i) * 4+d)=(c+x * i) * 4+d:=wrap_id (by omega) (by omega)
 have ws10:wr .i64 ((c+x * i) * 4+d+u * i)=(c+x * i) * 4+d+u * i:=wrap_id (by omega) (by omega)
 rw [k133]
 simp [c133,x133_0,x133_1,x133_2,x133_3,x133_4,x133_5,x133_6,x133_7,x133_8,x133_9,x133_10,x133_11,x133_12,x133_13,execL_loop,u133_0,u133_1,hT,encC,atD,encA,arrsD,numC,valA,w0,w1,w2,w3,wp00,wp10,wc0,ws00,wm,wc1,ws10]
theorem s133_1_2 (hp:List O) (T:Nat) {rest:List V} {ro:Bool} {c d x y u v i j a b dummy:Int} (hT:hp[T]?=some (.cells (.d (.list 2 arrsD) :: rest) ro))
  (hA0:AffOk c [x,y] [a,b] 4)    (hA1:AffOk d [u,v] [a,b] 4) (hs:SzOk [a,b]) (hi:AtOk [i,j] [a,b]) :
  callL K (.fn (.func 133) [] []) [.ptr (.heap T) 0,.d (encC 1 [(c,[x,y]),(d,[u,v])]),.d (.list 1 [.int .i64 i,.int .i64 j])] none hp=some (.ret (.d (.agg [.int .i64 1,.int .i64 (numC 1 [(c,[x,y]),(d,[u,v])] [i,j])])),false,hp,0):=by
 have hb0:=valA_bound hi c hA0.len hA0.coef
 have h10:=hA0.lo
 have h20:=hA0.hi
 have hl0:=loA_nonpos [x,y] [a,b]
 have hh0:=hiA_nonneg [x,y] [a,b]
 have hm00:=mulb (hA0.coef x (by simp)) (show 0≤i by cases hi with | cons h0 h1 h=>exact h0) (show i < a by cases hi with | cons h0 h1 h=>exact h1)
 have hm01:=mulb (hA0.coef y (by simp)) (show 0≤j by cases hi with | cons h0 h1 h=>cases h with | cons h0 h1 h=>exact h0) (show j < b by cases hi with | cons h0 h1 h=>cases h with | cons h0 h1 h=>exact h1)
 have hb1:=valA_bound hi d hA1.len hA1.coef
 have h11:=hA1.lo
 have h21:=hA1.hi
 have hl1:=loA_nonpos [u,v] [a,b]
 have hh1:=hiA_nonneg [u,v] [a,b]
 have hm10:=mulb (hA1.coef u (by simp)) (show 0≤i by cases hi with | cons h0 h1 h=>exact h0) (show i < a by cases hi with | cons h0 h1 h=>exact h1)
 have hm11:=mulb (hA1.coef v (by simp)) (show 0≤j by cases hi with | cons h0 h1 h=>cases h with | cons h0 h1 h=>exact h0) (show j < b by cases hi with | cons h0 h1 h=>cases h with | cons h0 h1 h=>exact h1)
 have hz0:=hs.within a (by simp)
 have hz1:=hs.within b (by simp)
 simp only [loA,hiA,valA] at hb0 h10 h20 hl0 hh0 hb1 h11 h21 hl1 hh1
 have hp00:-3≤x * (a - 1)∧x * (a - 1)≤3:=by rcases hA0.coef x (by simp) with h | h | h<;>rw [h]<;>omega
 have wp00:wr .i64 (x * i)=x * i:=wrap_id (by omega) (by omega)
 have hp01:-3≤y * (b - 1)∧y * (b - 1)≤3:=by rcases hA0.coef y (by simp) with h | h | h<;>rw [h]<;>omega
 have wp01:wr .i64 (y * j)=y * j:=wrap_id (by omega) (by omega)
 have hp10:-3≤u * (a - 1)∧u * (a - 1)≤3:=by rcases hA1.coef u (by simp) with h | h | h<;>rw [h]<;>omega
 have wp10:wr .i64 (u * i)=u * i:=wrap_id (by omega) (by omega)
 have hp11:-3≤v * (b - 1)∧v * (b - 1)≤3:=by rcases hA1.coef v (by simp) with h | h | h<;>rw [h]<;>omega
 have wp11:wr .i64 (v * j)=v * j:=wrap_id (by omega) (by omega)
 have wc0:wr .i64 (c)=c:=wrap_id (by omega) (by omega)
 have ws00:wr .i64 (c+x * i)=c+x * i:=wrap_id (by omega) (by omega)
 have ws01:wr .i64 (c+x * i+y * j)=c+x * i+y * j:=wrap_id (by omega) (by omega)
 have wm:wr .i64 ((c+x * i+y * j) * 4)=(c+x * i+y * j) * 4:=wrap_id (by omega) (by omega)
 have wc1:wr .i64 ((c+x * i+y * j) * 4+d)=(c+x * i+y * j) * 4+d:=wrap_id (by omega) (by omega)
 have ws10:wr .i64 ((c+x * i+y * j) * 4+d+u * i)=(c+x * i+y * j) * 4+d+u * i:=wrap_id (by omega) (by omega)
 have ws11:wr .i64 ((c+x * i+y * j) * 4+d+u * i+v * j)=(c+x * i+y * j) * 4+d+u * i+v * j:=wrap_id (by omega) (by omega)
 rw [k133]
 simp [c133,x133_0,x133_1,x133_2,x133_3,x133_4,x133_5,x133_6,x133_7,x133_8,x133_9,x133_10,x133_11,x133_12,x133_13,execL_loop,u133_0,u133_1,hT,encC,atD,encA,arrsD,numC,valA,w0,w1,w2,w3,wp00,wp01,wp10,wp11,wc0,ws00,ws01,wm,wc1,ws10,ws11]
theorem s133_2_0 (hp:List O) (T:Nat) {rest:List V} {ro:Bool} {dummy:Int} (hT:hp[T]?=some (.cells (.d (.list 2 arrsD) :: rest) ro))
 (hs:SzOk []) (hi:AtOk [] []) (V0:V) (hV:V0=.d (.list 1 [])∨V0=.d .nils) :
  callL K (.fn (.func 133) [] []) [.ptr (.heap T) 0,.d (encC 2 []),V0] none hp=some (.ret (.d (.agg [.int .i64 2,.int .i64 (numC 2 [] [])])),false,hp,0):=by
 rw [k133]
 rcases hV with rfl | rfl<;>simp [c133,x133_0,x133_1,x133_2,x133_3,x133_4,x133_5,x133_6,x133_7,x133_8,x133_9,x133_10,x133_11,x133_12,x133_13,execL_loop,u133_0,u133_1,hT,encC,atD,encA,arrsD,numC,valA,w0,w1,w2,w3]
theorem s133_2_1 (hp:List O) (T:Nat) {rest:List V} {ro:Bool} {i a dummy:Int} (hT:hp[T]?=some (.cells (.d (.list 2 arrsD) :: rest) ro))
 (hs:SzOk [a]) (hi:AtOk [i] [a]) :
  callL K (.fn (.func 133) [] []) [.ptr (.heap T) 0,.d (encC 2 []),.d (.list 1 [.int .i64 i])] none hp=some (.ret (.d (.agg [.int .i64 2,.int .i64 (numC 2 [] [i])])),false,hp,0):=by
 have hz0:=hs.within a (by simp)
 rw [k133]
 simp [c133,x133_0,x133_1,x133_2,x133_3,x133_4,x133_5,x133_6,x133_7,x133_8,x133_9,x133_10,x133_11,x133_12,x133_13,execL_loop,u133_0,u133_1,hT,encC,atD,encA,arrsD,numC,valA,w0,w1,w2,w3]
theorem s133_2_2 (hp:List O) (T:Nat) {rest:List V} {ro:Bool} {i j a b dummy:Int} (hT:hp[T]?=some (.cells (.d (.list 2 arrsD) :: rest) ro))
 (hs:SzOk [a,b]) (hi:AtOk [i,j] [a,b]) :
  callL K (.fn (.func 133) [] []) [.ptr (.heap T) 0,.d (encC 2 []),.d (.list 1 [.int .i64 i,.int .i64 j])] none hp=some (.ret (.d (.agg [.int .i64 2,.int .i64 (numC 2 [] [i,j])])),false,hp,0):=by
 have hz0:=hs.within a (by simp)
 have hz1:=hs.within b (by simp)
 rw [k133]
 simp [c133,x133_0,x133_1,x133_2,x133_3,x133_4,x133_5,x133_6,x133_7,x133_8,x133_9,x133_10,x133_11,x133_12,x133_13,execL_loop,u133_0,u133_1,hT,encC,atD,encA,arrsD,numC,valA,w0,w1,w2,w3]
theorem s133 (hp:List O) (T:Nat) {rest:List V} {ro:Bool} {n:Nat} {x:List (Int × List Int)} {ss is:List Int} (hT:hp[T]?=some (.cells (.d (.list 2 arrsD) :: rest) ro)) (h:CellOk n x ss) (hs:SzOk ss) (hi:AtOk is ss) (V0:V) (hV:V0=.d (.list 1 (ints is))∨(V0=.d .nils∧is=[])) :
  callL K (.fn (.func 133) [] []) [.ptr (.heap T) 0,.d (encC n x),V0] none hp=some (.ret (.d (.agg [.int .i64 n,.int .i64 (numC n x is)])),false,hp,0):=by
 have hlen:=h.len
 have harr:=h.arr
 match n,harr,x,hlen,h with
 | 0,_,[p],_,h =>
  have h0:=h.ok 0 (by simp) (by simp [sizesOf])
  obtain ⟨c,cs⟩:=p
  match ss,hs,is,hi,cs,h0.len,h0 with
  | [],hs,[],hi,[],_,h0=>exact s133_0_0 hp T (dummy:=0) hT h0 hs hi V0 (by rcases hV with h | ⟨h,_⟩<;>simp [h])
  | [a],hs,[i],hi,[x],_,h0=>
   rcases hV with rfl | ⟨_,h⟩
   ·exact s133_0_1 hp T (dummy:=0) hT h0 hs hi
   ·cases h
  | [a,b],hs,[i,j],hi,[x,y],_,h0=>
   rcases hV with rfl | ⟨_,h⟩
   ·exact s133_0_2 hp T (dummy:=0) hT h0 hs hi
   ·cases h
  | _ :: _ :: _ :: _,hs,_,_,_,_,_=>have:=hs.few; simp at this
 | 1,_,[p,q],_,h =>
  have h0:=h.ok 0 (by simp) (by simp [sizesOf])
  have h1:=h.ok 1 (by simp) (by simp [sizesOf])
  obtain ⟨c,cs⟩:=p
  obtain ⟨d,ds⟩:=q
  match ss,hs,is,hi,cs,h0.len,h0,ds,h1.len,h1 with
  | [],hs,[],hi,[],_,h0,[],_,h1=>exact s133_1_0 hp T (dummy:=0) hT h0 h1 hs hi V0 (by rcases hV with h | ⟨h,_⟩<;>simp [h])
  | [a],hs,[i],hi,[x],_,h0,[u],_,h1=>
   rcases hV with rfl | ⟨_,h⟩
   ·exact s133_1_1 hp T (dummy:=0) hT h0 h1 hs hi
   ·cases h
  | [a,b],hs,[i,j],hi,[x,y],_,h0,[u,v],_,h1=>
   rcases hV with rfl | ⟨_,h⟩
   ·exact s133_1_2 hp T (dummy:=0) hT h0 h1 hs hi
   ·cases h
  | _ :: _ :: _ :: _,hs,_,_,_,_,_,_,_,_=>have:=hs.few; simp at this
 | 2,_,[],_,h =>
  match ss,hs,is,hi with
  | [],hs,[],hi=>exact s133_2_0 hp T (dummy:=0) hT hs hi V0 (by rcases hV with h | ⟨h,_⟩<;>simp [h])
  | [a],hs,[i],hi=>
   rcases hV with rfl | ⟨_,h⟩
   ·exact s133_2_1 hp T (dummy:=0) hT hs hi
   ·cases h
  | [a,b],hs,[i,j],hi=>
   rcases hV with rfl | ⟨_,h⟩
   ·exact s133_2_2 hp T (dummy:=0) hT hs hi
   ·cases h
  | _ :: _ :: _ :: _,hs,_,_=>have:=hs.few; simp at this
def allAt:List Int→List (List Int)
 | []=>[[]]
 | s :: ss=>(List.range s.toNat).flatMap fun i=>(allAt ss).map (Int.ofNat i :: ·)
def atV:List Int→D
 | []=>.nils
 | x :: xs=>.list 1 (ints (x :: xs))
theorem AtOk.snoc {p s1:List Int} (h:AtOk p s1) {i a:Int} (h0:0≤i) (h1:i < a):AtOk (p++[i]) (s1++[a]):=by
 induction h with
 | nil=>exact .cons h0 h1 .nil
 | cons g0 g1 _ ih=>exact .cons g0 g1 ih
structure Rounds (ss:List Int) (B Y G l N:Nat) (Inv:List (List Int)→List O→Prop):Prop where
 sz:∀ d H,Inv d H→∃ ro,H[B]?=some (.cells [.d (szD ss)] ro)
 yv:∀ d H,Inv d H→∃ ro,H[Y]?=some (.cells [.fn (.yield l) [] []] ro)
 gv:∀ d H,Inv d H→∃ ro,H[G]?=some (.cells [.fn (.func 191) [] [.ptr (.heap B) 0,.ptr (.heap Y) 0,.ptr (.heap G) 0]] ro)
 go:∀ d H p,Inv d H→AtOk p ss→d.length < N→∃ H' w,callL K (.fn (.yield l) [] []) [.d (atV p)] none H=some (.ret (.d (.bool true)),false,H',w)∧Inv (d++[p]) H'
theorem s191 {ss:List Int} {B Y G l N:Nat} {Inv:List (List Int)→List O→Prop} (R:Rounds ss B Y G l N Inv) (hs:SzOk ss):∀ (rs p s1:List Int),ss=s1++rs→AtOk p s1→∀ d H,Inv d H→d.length+(allAt rs).length≤N →
  ∃ H' w,callL K (.fn (.func 191) [] [.ptr (.heap B) 0,.ptr (.heap Y) 0,.ptr (.heap G) 0]) [.d (atV p)] none H=some (.ret (.d (.bool true)),false,H',w)∧Inv (d++(allAt rs).map (p++·)) H':=by
 intro rs
 induction rs with
 | nil =>
  intro p s1 he hp d H hI hN
  have hss:ss=s1:=by simpa using he
  subst hss
  obtain ⟨H',w,e1,hI'⟩:=R.go d H p hI hp (by simp [allAt] at hN; omega)
  obtain ⟨r1,hB⟩:=R.sz d H hI
  obtain ⟨r2,hY⟩:=R.yv d H hI
  refine ⟨H',w,?_,by simpa [allAt] using hI'⟩
  have hl:=hp.len
  rw [k191]
  have hl1:lenV (.d (atV p))=some p.length:=by cases p<;>simp [atV]
  have hl2:lenV (.d (szD ss))=some ss.length:=by cases ss<;>simp [szD]
  simp only [lenV] at hl1 hl2
  simp [c191,x191_0,x191_1,x191_2,hB,hY,hl1,hl2,hl,e1]
 | cons a rs ih =>
  intro p s1 he hp d H hI hN
  have hl:=hp.len
  have ha:=hs.within a (by rw [he]; simp)
  have hlt:s1.length < ss.length:=by rw [he]; simp
  have hget:ss[s1.length]?=some a:=by rw [he]; simp
  have hfew:=hs.few
  have hw1:∀ i:Nat,(i:Int) < a→wr .i64 ((i:Int)+1)=(i:Int)+1:=fun i hi=>wrap_id (by omega) (by omega)
  let st:List Int→Nat→List O→Nat→List (Nat × V)→St:=fun p i H w t=>{ tm:=(0,.d (atV p)) :: (3,.ptr (.heap G) 0) :: (19,.d (.int .i64 a)) :: (20,.d (.int .i64 i)) :: t,m:={ ob:=[],hp:=H,wl:=w },df:=[],rc:=none }
  have hstep:∀ (i:Nat) d H w,(i:Int) < a→Inv d H→d.length+(allAt rs).length≤N→∃ H' w',execL K 191 l191_0 (st p i H w [])=some (.normal,st p (i+1) H' w' [])∧Inv (d++(allAt rs).map (p++[(i:Int)]++·)) H':=by
   intro i d H w hi hI hN
   obtain ⟨H',w',e1,hI'⟩:=ih (p++[(i:Int)]) (s1++[a]) (by rw [he]; simp) (hp.snoc (by omega) hi) d H hI hN
   obtain ⟨r2,hG⟩:=R.gv d H hI
   refine ⟨H',w ||| w',?_,hI'⟩
   match p,hp,hl,e1 with
   | [],hp,hl,e1 =>
    simp only [List.nil_append,atV,ints_cons,ints_nil] at e1
    simp [st,u191_0,x191_4,x191_5,x191_6,x191_7,x191_8,hi,hG,atV,e1,hw1 i hi]
   | [x],hp,hl,e1 =>
    simp only [List.cons_append,List.nil_append,atV,ints_cons,ints_nil] at e1
    simp [st,u191_0,x191_4,x191_5,x191_6,x191_7,x191_8,hi,hG,atV,e1,hw1 i hi]
   | _ :: _ :: _,hp,hl,e1=>simp at hl; omega
  have hloop:∀ (k i:Nat),i+k=a.toNat→∀ d H w,Inv d H→d.length+k * (allAt rs).length≤N→∃ H' w',execL K 191 (.loop l191_0) (st p i H w [])=some (.exit 0,st p a.toNat H' w' [(21,.d (.bool false))])∧Inv (d++(List.range' i k).flatMap fun (j:Nat)=>(allAt rs).map (p++[(j:Int)]++·)) H':=by
   intro k
   induction k with
   | zero =>
    intro i hi d H w hI hN
    refine ⟨H,w,?_,by simpa using hI⟩
    have:¬ ((i:Int) < a):=by omega
    have hia:i=a.toNat:=by omega
    subst hia
    rw [execL_loop]
    have hm:max a 0=a:=by omega
    have hm':¬ (a < a):=by omega
    simp [st,u191_0,x191_4,hm,hm']
   | succ k ihk =>
    intro i hi d H w hI hN
    rw [Nat.succ_mul] at hN
    obtain ⟨H1,w1,e1,hI1⟩:=hstep i d H w (by omega) hI (by omega)
    obtain ⟨H2,w2,e2,hI2⟩:=ihk (i+1) (by omega) _ H1 w1 hI1 (by simp; omega)
    refine ⟨H2,w2,?_,?_⟩
    ·rw [execL_loop,e1]
     exact e2
    ·rw [List.range'_succ,List.flatMap_cons,← List.append_assoc]
     exact hI2
  obtain ⟨r1,hB⟩:=R.sz d H hI
  obtain ⟨H',w',e1,hI'⟩:=hloop a.toNat 0 (by omega) d H 0 hI (by
   have:(allAt (a :: rs)).length=a.toNat * (allAt rs).length:=by simp [allAt,List.length_flatMap,List.map_const']
   omega)
  refine ⟨H',w',?_,?_⟩
  ·rw [k191]
   have z0:((0:Nat):Int)=0:=rfl
   have n0:¬ ((0:Int)=(rs.length:Int)+1):=by omega
   have n1:¬ ((1:Int)=(rs.length:Int)+1+1):=by omega
   simp only [st,z0] at e1
   match p,s1,hp,hl,e1,he with
   | [],[],hp,hl,e1,he =>
    simp only [List.nil_append] at he
    subst he
    simp only [szD_cons,ints_cons] at hB
    simp only [atV] at e1
    simp [c191,x191_0,x191_1,x191_3,x191_9,hB,atV,e1,n0,n1]
   | [x],[s],hp,hl,e1,he =>
    simp only [List.cons_append,List.nil_append] at he
    subst he
    simp only [szD_cons,ints_cons] at hB
    simp only [atV,ints_cons,ints_nil] at e1
    simp [c191,x191_0,x191_1,x191_3,x191_9,hB,atV,e1,n0,n1]
   | [],_ :: _,hp,hl,e1,he=>simp at hl
   | [x],[],hp,hl,e1,he=>simp at hl
   | [x],_ :: _ :: _,hp,hl,e1,he=>simp at hl
   | _ :: _ :: _,s1,hp,hl,e1,he=>simp at hl; omega
  ·rw [show (allAt (a :: rs)).map (p++·)=(List.range' 0 a.toNat).flatMap fun (j:Nat)=>(allAt rs).map (p++[(j:Int)]++·) from ?_]
   ·exact hI'
   ·simp only [allAt,List.map_flatMap,List.range_eq_range',List.map_map]
    congr 1
    funext j
    congr 1
    funext r
    simp
theorem ua64 (s:St):execL K 64 a64_1 s=execL K 64 (.region 9 (opsAt K.P 64 9) false) s:=rfl
theorem ud64 (s:St):execL K 64 d64_1 s=execL K 64 (.block 3 (.seq (.region 10 (opsAt K.P 64 10) true) (.seq (.seq (.region 11 (opsAt K.P 64 11) false) (.block 4 (.loop l64_0))) (.region 16 (opsAt K.P 64 16) true)))) s:=rfl
theorem cellsD_of {d:D} (h:D.isCell d=true):D.cells d=[d]:=by
 cases d<;>first | rfl | simp [D.isCell] at h
theorem set_id {H:List O} {l:Nat} {a:O} (h:H[l]?=some a):H.set l a=H:=by
 have hl:l < H.length:=(List.getElem?_eq_some_iff.1 h).1
 have h2:H[l]=a:=(List.getElem?_eq_some_iff.1 h).2
 rw [← h2]; exact List.set_getElem_self hl
theorem back1 {H:List O} {l T:Nat} {a b c:O} (h:H[l]?=some a) (hne:l≠T):((H.set l c).set T b).set l a=H.set T b:=by
 rw [List.set_comm b a (Ne.symm hne),List.set_set,set_id h]
theorem back2 {H:List O} {l T L:Nat} {a b c d:O} (h:H[l]?=some a) (hne:l≠T) (hne2:l≠L):(((H.set l c).set L d).set T b).set l a=(H.set L d).set T b:=by
 rw [List.set_comm b a (Ne.symm hne),back1 h hne2]
theorem r64_0_0 {H Hb:List O} {l T g:Nat} {k tn pa0 pb0:Int} {sz tx stp at0 :D} {v21 v22 v23 v30 y5 y6 y7 y8 y9 y10:V} {c1:List V}
 (hl:H[l]?=some (.loop .ready none 64 [(2,.d .nilp),(3,.d (.int .i64 0)),(5,.ptr (.slot 5 0) 0),(6,.ptr (.slot 6 g) 0),(7,.ptr (.slot 7 g) 0),(21,v21),(22,v22),(23,v23),(30,v30)] [(1,0,.cells c1 true),(5,0,.cells [.ptr (.heap T) 0] true),(6,g,.cells [.d (.int .i64 k)] true),(7,g,.cells [.d sz,.d (.int .i64 tn),.d tx,.d (.nils),y5,y6,y7,y8,y9,y10] true)] [31] a64_1 d64_1)) (hT:H[T]?=some (.cells [.d (.list 2 arrsD),.d stp,.d .nils] false)) (hne:l≠T) (hHb:Hb=H.set l (.loop .busy none 64 [(2,.d .nilp),(3,.d (.int .i64 0)),(5,.ptr (.slot 5 0) 0),(6,.ptr (.slot 6 g) 0),(7,.ptr (.slot 7 g) 0),(21,v21),(22,v22),(23,v23),(30,v30)] [(1,0,.cells c1 true),(5,0,.cells [.ptr (.heap T) 0] true),(6,g,.cells [.d (.int .i64 k)] true),(7,g,.cells [.d sz,.d (.int .i64 tn),.d tx,.d (.nils),y5,y6,y7,y8,y9,y10] true)] [31] a64_1 d64_1))
 (e0:CK 133 [.ptr (.heap T) 0,.d (.agg [.int .i64 tn,tx]),.d at0] Hb (.d (.agg [.int .i64 pa0,.int .i64 pb0])) Hb 0)
 (ctx:D.isCell tx=true) (cat0:D.isCell at0=true)
 : ∃ w,callL K (.fn (.yield l) [] []) [.d at0] none H=some (.ret (.d (.bool true)),false,(H.set T (.cells [.d (.list 2 arrsD),.d stp,.sl (.heap H.length) 4 1 0 1] false)++[.vec 4 [.agg [.int .i64 k,.int .i64 0,at0,.list 2 [.agg [.int .i64 pa0,.int .i64 pb0]]]] false true]),w):=by
 subst hHb
 have kat0:D.cells at0=[at0]:=cellsD_of cat0
 simp only [D.cells] at kat0
 simp only [D.isCell] at ctx cat0
 have hll:l < H.length:=(gS.1 hl).1
 have hTl:T < H.length:=(gS.1 hT).1
 have hne':¬ T=l:=fun h=>hne h.symm
 have hl2:=hl
 have hT2:=hT
 rw [List.getElem?_eq_getElem hll] at hl2
 rw [List.getElem?_eq_getElem hTl] at hT2
 simp only [Option.some.injEq] at hl2 hT2
 rw [callL_yield]
 unfold roundL
 rw [hl]
 simp [ua64,ud64,x64_9,x64_10,x64_11,x64_12,x64_13,x64_14,x64_15,x64_16,execL_loop,u64_0,endR,insL,hl2,hT2,hne,hne',hll,hTl,w0,w1,w2,w3,kat0,List.getElem?_append_left,List.set_append_left,e0,ctx,cat0]
 exact back1 hl hne
theorem r64_0_1 {H Hb:List O} {l T L g:Nat} {k tn pa0 pb0:Int} {sz tx stp at0 :D} {v21 v22 v23 v30 y5 y6 y7 y8 y9 y10:V} {c1:List V} {es:List D}
 (hl:H[l]?=some (.loop .ready none 64 [(2,.d .nilp),(3,.d (.int .i64 0)),(5,.ptr (.slot 5 0) 0),(6,.ptr (.slot 6 g) 0),(7,.ptr (.slot 7 g) 0),(21,v21),(22,v22),(23,v23),(30,v30)] [(1,0,.cells c1 true),(5,0,.cells [.ptr (.heap T) 0] true),(6,g,.cells [.d (.int .i64 k)] true),(7,g,.cells [.d sz,.d (.int .i64 tn),.d tx,.d (.nils),y5,y6,y7,y8,y9,y10] true)] [31] a64_1 d64_1)) (hT:H[T]?=some (.cells [.d (.list 2 arrsD),.d stp,.sl (.heap L) 4 es.length 0 es.length] false)) (hne:l≠T) (hHb:Hb=H.set l (.loop .busy none 64 [(2,.d .nilp),(3,.d (.int .i64 0)),(5,.ptr (.slot 5 0) 0),(6,.ptr (.slot 6 g) 0),(7,.ptr (.slot 7 g) 0),(21,v21),(22,v22),(23,v23),(30,v30)] [(1,0,.cells c1 true),(5,0,.cells [.ptr (.heap T) 0] true),(6,g,.cells [.d (.int .i64 k)] true),(7,g,.cells [.d sz,.d (.int .i64 tn),.d tx,.d (.nils),y5,y6,y7,y8,y9,y10] true)] [31] a64_1 d64_1))
 (hL:H[L]?=some (.vec 4 es false true)) (hne2:l≠L) (hne3:T≠L) (hes:es.length≤1000)
 (e0:CK 133 [.ptr (.heap T) 0,.d (.agg [.int .i64 tn,tx]),.d at0] Hb (.d (.agg [.int .i64 pa0,.int .i64 pb0])) Hb 0)
 (ctx:D.isCell tx=true) (cat0:D.isCell at0=true)
 : ∃ w,callL K (.fn (.yield l) [] []) [.d at0] none H=some (.ret (.d (.bool true)),false,((H.set L (.vec 4 (es++[.agg [.int .i64 k,.int .i64 es.length,at0,.list 2 [.agg [.int .i64 pa0,.int .i64 pb0]]]]) false true)).set T (.cells [.d (.list 2 arrsD),.d stp,.sl (.heap L) 4 (es.length+1) 0 (es.length+1)] false)),w):=by
 subst hHb
 have kat0:D.cells at0=[at0]:=cellsD_of cat0
 simp only [D.cells] at kat0
 simp only [D.isCell] at ctx cat0
 have hll:l < H.length:=(gS.1 hl).1
 have hTl:T < H.length:=(gS.1 hT).1
 have hne':¬ T=l:=fun h=>hne h.symm
 have hLl:L < H.length:=(gS.1 hL).1
 have hne2':¬ L=l:=fun h=>hne2 h.symm
 have hne3':¬ L=T:=fun h=>hne3 h.symm
 have hg1:es.length+1≤4294967296:=by omega
 have hg2:(es.length+1) * 64≤4294967296:=by omega
 have hl2:=hl
 have hT2:=hT
 rw [List.getElem?_eq_getElem hll] at hl2
 rw [List.getElem?_eq_getElem hTl] at hT2
 simp only [Option.some.injEq] at hl2 hT2
 have hL2:=hL
 rw [List.getElem?_eq_getElem hLl] at hL2
 simp only [Option.some.injEq] at hL2
 rw [callL_yield]
 unfold roundL
 rw [hl]
 simp [ua64,ud64,x64_9,x64_10,x64_11,x64_12,x64_13,x64_14,x64_15,x64_16,execL_loop,u64_0,endR,insL,hl2,hT2,hne,hne',hll,hTl,w0,w1,w2,w3,kat0,List.getElem?_append_left,List.set_append_left,hL2,hne2,hne2',hne3,hne3',hLl,hg1,hg2,e0,ctx,cat0]
 exact back2 hl hne hne2
end Mw
