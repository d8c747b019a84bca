/- DependProofs answers true for every list of numbers: its tied card holds; no condition beyond the card's own. -/
import Derived.Test.YtdjnccgeajpegaaGreatDoorXa
import Derived.Test.YtdjnccgeajpegaaGreatDoorQa
import Derived.Test.YtdjnccgeajpegaaGreatDoorXb
set_option linter.unusedVariables false
set_option linter.unusedSimpArgs false
set_option maxRecDepth 10000
set_option maxHeartbeats 2000000
namespace Mw
open Go Go.Proofs
theorem p209_0 {h0:List O}  {pa pb:Loc}
 (hpa:pa.isHeap=true) (hpb:pb.isHeap=true):∃ w,callL K (.fn (.func 209) [] []) [.d (.nils),.fn (.func 210) [] [.ptr pa 0,.ptr pb 0]] none h0=some (.ret (.d (.int .i64 0)),false,h0,w):=by
 simp only [Loc.isHeap] at hpa hpb
 have e:=k209 [] [] [.d (.nils),.fn (.func 210) [] [.ptr pa 0,.ptr pb 0]] none h0
 simp [c209,x209_0,r209_0,x209_1,r209_1,x209_2,r209_2,x209_3,r209_3,x209_4,r209_4,x209_5,r209_5,x209_6,r209_6,x209_7,r209_7,x209_8,r209_8,execL_loop,u209_0,hw1,hw2,hw3,hpa,hpb] at e
 exact ⟨_,e⟩
theorem p209_1 {h0 h1:List O} {w1:Nat} {n0:Int} {x0:D}  {pa pb:Loc}
 (e0:callL K (.fn (.func 210) [] [.ptr pa 0,.ptr pb 0]) [.d (.int .i64 0),.d (.agg [.int .i64 n0,x0])] none h0=some (.ret (.d (.int .i64 0)),false,h1,w1)) (cx0:D.isCell x0=true)
 (hpa:pa.isHeap=true) (hpb:pb.isHeap=true):∃ w,callL K (.fn (.func 209) [] []) [.d (.list 2 [.agg [.int .i64 n0,x0]]),.fn (.func 210) [] [.ptr pa 0,.ptr pb 0]] none h0=some (.ret (.d (.int .i64 0)),false,h1,w):=by
 simp only [Loc.isHeap] at hpa hpb
 simp only [D.isCell] at cx0
 have e:=k209 [] [] [.d (.list 2 [.agg [.int .i64 n0,x0]]),.fn (.func 210) [] [.ptr pa 0,.ptr pb 0]] none h0
 simp [c209,x209_0,r209_0,x209_1,r209_1,x209_2,r209_2,x209_3,r209_3,x209_4,r209_4,x209_5,r209_5,x209_6,r209_6,x209_7,r209_7,x209_8,r209_8,execL_loop,u209_0,hw1,hw2,hw3,hpa,hpb,e0,cx0] at e
 exact ⟨_,e⟩
theorem p209_2 {h0 h1 h2:List O} {w1 w2:Nat} {n0 n1:Int} {x0 x1:D}  {pa pb:Loc}
 (e0:callL K (.fn (.func 210) [] [.ptr pa 0,.ptr pb 0]) [.d (.int .i64 0),.d (.agg [.int .i64 n0,x0])] none h0=some (.ret (.d (.int .i64 0)),false,h1,w1))
 (e1:callL K (.fn (.func 210) [] [.ptr pa 0,.ptr pb 0]) [.d (.int .i64 1),.d (.agg [.int .i64 n1,x1])] none h1=some (.ret (.d (.int .i64 0)),false,h2,w2)) (cx0:D.isCell x0=true) (cx1:D.isCell x1=true)
 (hpa:pa.isHeap=true) (hpb:pb.isHeap=true):∃ w,callL K (.fn (.func 209) [] []) [.d (.list 2 [.agg [.int .i64 n0,x0],.agg [.int .i64 n1,x1]]),.fn (.func 210) [] [.ptr pa 0,.ptr pb 0]] none h0=some (.ret (.d (.int .i64 0)),false,h2,w):=by
 simp only [Loc.isHeap] at hpa hpb
 simp only [D.isCell] at cx0 cx1
 have e:=k209 [] [] [.d (.list 2 [.agg [.int .i64 n0,x0],.agg [.int .i64 n1,x1]]),.fn (.func 210) [] [.ptr pa 0,.ptr pb 0]] none h0
 simp [c209,x209_0,r209_0,x209_1,r209_1,x209_2,r209_2,x209_3,r209_3,x209_4,r209_4,x209_5,r209_5,x209_6,r209_6,x209_7,r209_7,x209_8,r209_8,execL_loop,u209_0,hw1,hw2,hw3,hpa,hpb,e0,e1,cx0,cx1] at e
 exact ⟨_,e⟩
theorem p209_3 {h0 h1 h2 h3:List O} {w1 w2 w3:Nat} {n0 n1 n2:Int} {x0 x1 x2:D}  {pa pb:Loc}
 (e0:callL K (.fn (.func 210) [] [.ptr pa 0,.ptr pb 0]) [.d (.int .i64 0),.d (.agg [.int .i64 n0,x0])] none h0=some (.ret (.d (.int .i64 0)),false,h1,w1))
 (e1:callL K (.fn (.func 210) [] [.ptr pa 0,.ptr pb 0]) [.d (.int .i64 1),.d (.agg [.int .i64 n1,x1])] none h1=some (.ret (.d (.int .i64 0)),false,h2,w2))
 (e2:callL K (.fn (.func 210) [] [.ptr pa 0,.ptr pb 0]) [.d (.int .i64 2),.d (.agg [.int .i64 n2,x2])] none h2=some (.ret (.d (.int .i64 0)),false,h3,w3)) (cx0:D.isCell x0=true) (cx1:D.isCell x1=true) (cx2:D.isCell x2=true)
 (hpa:pa.isHeap=true) (hpb:pb.isHeap=true):∃ w,callL K (.fn (.func 209) [] []) [.d (.list 2 [.agg [.int .i64 n0,x0],.agg [.int .i64 n1,x1],.agg [.int .i64 n2,x2]]),.fn (.func 210) [] [.ptr pa 0,.ptr pb 0]] none h0=some (.ret (.d (.int .i64 0)),false,h3,w):=by
 simp only [Loc.isHeap] at hpa hpb
 simp only [D.isCell] at cx0 cx1 cx2
 have e:=k209 [] [] [.d (.list 2 [.agg [.int .i64 n0,x0],.agg [.int .i64 n1,x1],.agg [.int .i64 n2,x2]]),.fn (.func 210) [] [.ptr pa 0,.ptr pb 0]] none h0
 simp [c209,x209_0,r209_0,x209_1,r209_1,x209_2,r209_2,x209_3,r209_3,x209_4,r209_4,x209_5,r209_5,x209_6,r209_6,x209_7,r209_7,x209_8,r209_8,execL_loop,u209_0,hw1,hw2,hw3,hpa,hpb,e0,e1,e2,cx0,cx1,cx2] at e
 exact ⟨_,e⟩
theorem p173_1 {h0 h1:List O} {w1:Nat} {t0 o0 z0:Int} {p0 q0 m0:ByteArray} {s0 x0 f0 a0:D}  {pa:Loc}
 (e0:callL K (.fn (.func 174) [] [.ptr pa 0]) [.d (.int .i64 0),.d (.agg [s0,.int .i64 t0,x0,f0,.int .i64 o0,.str p0,.str q0,.str m0,.int .i64 z0,a0])] none h0=some (.ret (.d (.int .i64 0)),false,h1,w1)) (cs0:D.isCell s0=true) (cx0:D.isCell x0=true) (cf0:D.isCell f0=true) (ca0:D.isCell a0=true)
 (hpa:pa.isHeap=true):∃ w,callL K (.fn (.func 173) [] []) [.d (.list 10 [.agg [s0,.int .i64 t0,x0,f0,.int .i64 o0,.str p0,.str q0,.str m0,.int .i64 z0,a0]]),.fn (.func 174) [] [.ptr pa 0]] none h0=some (.ret (.d (.int .i64 0)),false,h1,w):=by
 simp only [Loc.isHeap] at hpa
 simp only [D.isCell] at cs0 cx0 cf0 ca0
 have e:=k173 [] [] [.d (.list 10 [.agg [s0,.int .i64 t0,x0,f0,.int .i64 o0,.str p0,.str q0,.str m0,.int .i64 z0,a0]]),.fn (.func 174) [] [.ptr pa 0]] none h0
 simp [c173,x173_0,r173_0,x173_1,r173_1,x173_2,r173_2,x173_3,r173_3,x173_4,r173_4,x173_5,r173_5,x173_6,r173_6,x173_7,r173_7,x173_8,r173_8,execL_loop,u173_0,hw1,hw2,hw3,hpa,e0,cs0,cx0,cf0,ca0] at e
 exact ⟨_,e⟩
theorem p173_2 {h0 h1 h2:List O} {w1 w2:Nat} {t0 o0 z0 t1 o1 z1:Int} {p0 q0 m0 p1 q1 m1:ByteArray} {s0 x0 f0 a0 s1 x1 f1 a1:D}  {pa:Loc}
 (e0:callL K (.fn (.func 174) [] [.ptr pa 0]) [.d (.int .i64 0),.d (.agg [s0,.int .i64 t0,x0,f0,.int .i64 o0,.str p0,.str q0,.str m0,.int .i64 z0,a0])] none h0=some (.ret (.d (.int .i64 0)),false,h1,w1))
 (e1:callL K (.fn (.func 174) [] [.ptr pa 0]) [.d (.int .i64 1),.d (.agg [s1,.int .i64 t1,x1,f1,.int .i64 o1,.str p1,.str q1,.str m1,.int .i64 z1,a1])] none h1=some (.ret (.d (.int .i64 0)),false,h2,w2)) (cs0:D.isCell s0=true) (cx0:D.isCell x0=true) (cf0:D.isCell f0=true) (ca0:D.isCell a0=true) (cs1:D.isCell s1=true) (cx1:D.isCell x1=true) (cf1:D.isCell f1=true) (ca1:D.isCell a1=true)
 (hpa:pa.isHeap=true):∃ w,callL K (.fn (.func 173) [] []) [.d (.list 10 [.agg [s0,.int .i64 t0,x0,f0,.int .i64 o0,.str p0,.str q0,.str m0,.int .i64 z0,a0],.agg [s1,.int .i64 t1,x1,f1,.int .i64 o1,.str p1,.str q1,.str m1,.int .i64 z1,a1]]),.fn (.func 174) [] [.ptr pa 0]] none h0=some (.ret (.d (.int .i64 0)),false,h2,w):=by
 simp only [Loc.isHeap] at hpa
 simp only [D.isCell] at cs0 cx0 cf0 ca0 cs1 cx1 cf1 ca1
 have e:=k173 [] [] [.d (.list 10 [.agg [s0,.int .i64 t0,x0,f0,.int .i64 o0,.str p0,.str q0,.str m0,.int .i64 z0,a0],.agg [s1,.int .i64 t1,x1,f1,.int .i64 o1,.str p1,.str q1,.str m1,.int .i64 z1,a1]]),.fn (.func 174) [] [.ptr pa 0]] none h0
 simp [c173,x173_0,r173_0,x173_1,r173_1,x173_2,r173_2,x173_3,r173_3,x173_4,r173_4,x173_5,r173_5,x173_6,r173_6,x173_7,r173_7,x173_8,r173_8,execL_loop,u173_0,hw1,hw2,hw3,hpa,e0,e1,cs0,cx0,cf0,ca0,cs1,cx1,cf1,ca1] at e
 exact ⟨_,e⟩
theorem p173_3 {h0 h1 h2 h3:List O} {w1 w2 w3:Nat} {t0 o0 z0 t1 o1 z1 t2 o2 z2:Int} {p0 q0 m0 p1 q1 m1 p2 q2 m2:ByteArray} {s0 x0 f0 a0 s1 x1 f1 a1 s2 x2 f2 a2:D}  {pa:Loc}
 (e0:callL K (.fn (.func 174) [] [.ptr pa 0]) [.d (.int .i64 0),.d (.agg [s0,.int .i64 t0,x0,f0,.int .i64 o0,.str p0,.str q0,.str m0,.int .i64 z0,a0])] none h0=some (.ret (.d (.int .i64 0)),false,h1,w1))
 (e1:callL K (.fn (.func 174) [] [.ptr pa 0]) [.d (.int .i64 1),.d (.agg [s1,.int .i64 t1,x1,f1,.int .i64 o1,.str p1,.str q1,.str m1,.int .i64 z1,a1])] none h1=some (.ret (.d (.int .i64 0)),false,h2,w2))
 (e2:callL K (.fn (.func 174) [] [.ptr pa 0]) [.d (.int .i64 2),.d (.agg [s2,.int .i64 t2,x2,f2,.int .i64 o2,.str p2,.str q2,.str m2,.int .i64 z2,a2])] none h2=some (.ret (.d (.int .i64 0)),false,h3,w3)) (cs0:D.isCell s0=true) (cx0:D.isCell x0=true) (cf0:D.isCell f0=true) (ca0:D.isCell a0=true) (cs1:D.isCell s1=true) (cx1:D.isCell x1=true) (cf1:D.isCell f1=true) (ca1:D.isCell a1=true) (cs2:D.isCell s2=true) (cx2:D.isCell x2=true) (cf2:D.isCell f2=true) (ca2:D.isCell a2=true)
 (hpa:pa.isHeap=true):∃ w,callL K (.fn (.func 173) [] []) [.d (.list 10 [.agg [s0,.int .i64 t0,x0,f0,.int .i64 o0,.str p0,.str q0,.str m0,.int .i64 z0,a0],.agg [s1,.int .i64 t1,x1,f1,.int .i64 o1,.str p1,.str q1,.str m1,.int .i64 z1,a1],.agg [s2,.int .i64 t2,x2,f2,.int .i64 o2,.str p2,.str q2,.str m2,.int .i64 z2,a2]]),.fn (.func 174) [] [.ptr pa 0]] none h0=some (.ret (.d (.int .i64 0)),false,h3,w):=by
 simp only [Loc.isHeap] at hpa
 simp only [D.isCell] at cs0 cx0 cf0 ca0 cs1 cx1 cf1 ca1 cs2 cx2 cf2 ca2
 have e:=k173 [] [] [.d (.list 10 [.agg [s0,.int .i64 t0,x0,f0,.int .i64 o0,.str p0,.str q0,.str m0,.int .i64 z0,a0],.agg [s1,.int .i64 t1,x1,f1,.int .i64 o1,.str p1,.str q1,.str m1,.int .i64 z1,a1],.agg [s2,.int .i64 t2,x2,f2,.int .i64 o2,.str p2,.str q2,.str m2,.int .i64 z2,a2]]),.fn (.func 174) [] [.ptr pa 0]] none h0
 simp [c173,x173_0,r173_0,x173_1,r173_1,x173_2,r173_2,x173_3,r173_3,x173_4,r173_4,x173_5,r173_5,x173_6,r173_6,x173_7,r173_7,x173_8,r173_8,execL_loop,u173_0,hw1,hw2,hw3,hpa,e0,e1,e2,cs0,cx0,cf0,ca0,cs1,cx1,cf1,ca1,cs2,cx2,cf2,ca2] at e
 exact ⟨_,e⟩
theorem s240 (hp:List O) (a b:Nat) {i:Nat} {c:Int} {cs ss own:List Int} {ro ro':Bool} (ha:hp[a]?=some (.cells [.d (szD ss)] ro)) (hb:hp[b]?=some (.cells [.d (szD own)] ro')) (hs:SzOk ss) (hi:i < own.length) (h5:own[i]≤5) (h:AffOk c cs ss own[i]) :
  ∃ J w,callL K (.fn (.func 240) [] [.ptr (.heap a) 0,.ptr (.heap b) 0]) [.d (.int .i64 i),.d (.agg [.int .i64 c,.list 1 (ints cs)])] none hp=some (.ret (.d (.int .i64 0)),false,hp++J,w):=by
 have hA:=loA_nonpos cs ss
 have hB:=hiA_nonneg cs ss
 have h1:=h.lo
 have h2:=h.hi
 obtain ⟨J,w,e1⟩:=s241 hp (c:=c) h.len (by have:=hs.few; omega) ⟨by omega,by omega⟩ (fun x hx=>by rcases h.coef x hx with rfl | rfl | rfl<;>omega)
 have e2:=s242 (hp++J) h hs h5
 have ha':(hp++J)[a]?=some (.cells [.d (szD ss)] ro):=by rw [List.getElem?_append_left (gS.1 ha).1]; exact ha
 have hb':(hp++J)[b]?=some (.cells [.d (szD own)] ro'):=by rw [List.getElem?_append_left (gS.1 hb).1]; exact hb
 have e:=k240 [] [.ptr (.heap a) 0,.ptr (.heap b) 0] [.d (.int .i64 i),.d (.agg [.int .i64 c,.list 1 (ints cs)])] none hp
 have h3:¬ (c+loA cs ss < 0):=by omega
 have h4:¬ (own[i]≤c+hiA cs ss):=by omega
 obtain ⟨o,os,rfl⟩:∃ o os,own=o :: os:=by
  cases own with
  | nil=>simp at hi
  | cons o os=>exact ⟨o,os,rfl⟩
 have e0:(ints (o :: os))[i]?=some (.int .i64 (o :: os)[i]):=ints_get hi
 rw [ints_cons] at e0
 simp only [szD_cons] at hb hb'
 simp [c240,x240_0,r240_0,x240_1,r240_1,x240_2,r240_2,x240_3,r240_3,x240_4,r240_4,x240_5,r240_5,x240_6,r240_6,x240_7,r240_7,ha,hb,ha',hb',e0,e1,e2,h3,h4] at e
 exact ⟨_,_,e⟩
theorem s239 (hp:List O) (a b:Nat) {ss own:List Int} {ro ro':Bool} (ha:hp[a]?=some (.cells [.d (szD ss)] ro)) (hb:hp[b]?=some (.cells [.d (szD own)] ro')) (hs:SzOk ss) (x:List (Int × List Int)) (hx:x.length=own.length) (h2:own.length≤2) (h5:∀ s∈own,s≤5)
  (h:∀ i (h:i < x.length) (h':i < own.length),AffOk x[i].1 x[i].2 ss own[i]) :
  ∃ J w,callL K (.fn (.func 239) [] []) [.d (atD x),.fn (.func 240) [] [.ptr (.heap a) 0,.ptr (.heap b) 0]] none hp=some (.ret (.d (.int .i64 0)),false,hp++J,w):=by
 have e:=k239 [] [] [.d (atD x),.fn (.func 240) [] [.ptr (.heap a) 0,.ptr (.heap b) 0]] none hp
 match x,own,hx,h2,hb,h5,h with
 | [],[],_,_,hb,h5,h =>
  simp [c239,x239_0,r239_0,x239_1,r239_1,x239_2,r239_2,x239_3,r239_3,x239_4,r239_4,x239_5,r239_5,x239_6,r239_6,x239_7,r239_7,x239_8,r239_8,execL_loop,u239_0,atD] at e
  exact ⟨[],_,by simpa [atD] using e⟩
 | [p],[s],_,_,hb,h5,h =>
  obtain ⟨J,w,e1⟩:=s240 hp a b (i:=0) ha hb hs (by simp) (h5 _ (by simp)) (h 0 (by simp) (by simp))
  simp only [List.getElem_cons_zero,show ((0:Nat):Int)=0 from rfl] at e1
  simp [c239,x239_0,r239_0,x239_1,r239_1,x239_2,r239_2,x239_3,r239_3,x239_4,r239_4,x239_5,r239_5,x239_6,r239_6,x239_7,r239_7,x239_8,r239_8,execL_loop,u239_0,atD,encA,hw1,e1] at e
  exact ⟨J,_,by simpa [atD,encA] using e⟩
 | [p,q],[s,t],_,_,hb,h5,h =>
  obtain ⟨J,w,e1⟩:=s240 hp a b (i:=0) ha hb hs (by simp) (h5 _ (by simp)) (h 0 (by simp) (by simp))
  have ha':(hp++J)[a]?=some (.cells [.d (szD ss)] ro):=by rw [List.getElem?_append_left (gS.1 ha).1]; exact ha
  have hb':(hp++J)[b]?=some (.cells [.d (szD [s,t])] ro'):=by rw [List.getElem?_append_left (gS.1 hb).1]; exact hb
  obtain ⟨J2,w2,e2⟩:=s240 (hp++J) a b (i:=1) ha' hb' hs (by simp) (h5 _ (by simp)) (h 1 (by simp) (by simp))
  simp only [List.getElem_cons_zero,List.getElem_cons_succ,show ((0:Nat):Int)=0 from rfl,show ((1:Nat):Int)=1 from rfl] at e1 e2
  simp [c239,x239_0,r239_0,x239_1,r239_1,x239_2,r239_2,x239_3,r239_3,x239_4,r239_4,x239_5,r239_5,x239_6,r239_6,x239_7,r239_7,x239_8,r239_8,execL_loop,u239_0,atD,encA,hw1,hw2,e1,e2] at e
  exact ⟨J++J2,_,by simpa [atD,encA] using e⟩
 | _ :: _ :: _ :: _,_ :: _ :: _ :: _,_,h2,_,_,_=>simp at h2
theorem szD_nil:szD []=.nils:=rfl
theorem s238 (hp:List O) (x:List (Int × List Int)) (n:Int) (h:(x.length:Int)=n):callL K (.fn (.func 238) [] []) [.d (atD x),.d (.int .i64 n)] none hp=some (.ret (.d (.int .i64 0)),false,hp,0):=by
 rw [k238]
 cases x with
 | nil =>
  simp at h
  simp [c238,x238_0,r238_0,x238_1,r238_1,x238_2,r238_2,x238_3,r238_3,x238_4,r238_4,x238_5,r238_5,atD,← h]
 | cons p x =>
  simp at h
  simp [c238,x238_0,r238_0,x238_1,r238_1,x238_2,r238_2,x238_3,r238_3,x238_4,r238_4,x238_5,r238_5,atD,← h]
theorem sizesOf_le (n:Nat):(sizesOf n).length≤2∧∀ s∈sizesOf n,s≤5:=by
 match n with
 | 0=>simp [sizesOf]
 | 1=>simp [sizesOf]
 | _+2=>simp [sizesOf]
theorem s208 (hp:List O) {n:Nat} {x:List (Int × List Int)} {ss:List Int} (st:D) (hst:st.isCell=true) (hs:SzOk ss) (h:CellOk n x ss) :
  ∃ J w,callL K (.fn (.func 208) [] []) [.d (.agg [.list 2 arrsD,st]),.d (encC n x),.d (szD ss)] none hp=some (.ret (.d (.int .i64 0)),false,hp++J,w):=by
 have e:=k208 [] [] [.d (.agg [.list 2 arrsD,st]),.d (encC n x),.d (szD ss)] none hp
 have hal:arrsD.length=3:=rfl
 have hw:wr .i64 2=2:=wrap_id (by omega) (by omega)
 have hx:(atD x).isCell=true:=by cases x<;>rfl
 have hz:(szD ss).isCell=true:=by cases ss<;>rfl
 have hz2:(szD ss).cells=[szD ss]:=by cases ss<;>rfl
 simp only [D.isCell] at hst hx hz
 simp only [D.cells] at hz2
 obtain ⟨J,w,e1⟩:=s239 (hp++[.cells [.d (szD ss)] false,.cells [.d (szD (sizesOf n))] false]) hp.length (hp.length+1) (ss:=ss) (own:=sizesOf n) (ro:=false) (ro':=false) (by simp) (by simp) hs x h.len (sizesOf_le n).1 (sizesOf_le n).2 h.ok
 have e2:=fun (hp:List O) (m:Int) (hm:(x.length:Int)=m)=>s238 hp x m hm
 have e3:=s109 hp n 0 2 (by omega) (by have:=h.arr; omega)
 have hlen:=h.len
 match n,h.arr with
 | 0,_ =>
  have e4:=fun hp=>s238 hp x 1 (by rw [hlen]; rfl)
  have e3':=fun hp:List O=>s109 hp 0 0 2 (by omega) (by omega)
  simp only [sizesOf,szD_nil,szD_cons,ints_cons,ints_nil] at e1
  simp [c208,x208_0,r208_0,x208_1,r208_1,x208_2,r208_2,x208_3,r208_3,x208_4,r208_4,x208_5,r208_5,x208_6,r208_6,x208_7,r208_7,encC,arrsD,hst,hx,hz,hz2,hw,e3',e4,e1] at e
  exact ⟨_,_,e⟩
 | 1,_ =>
  have e4:=fun hp=>s238 hp x 2 (by rw [hlen]; rfl)
  have e3':=fun hp:List O=>s109 hp 1 0 2 (by omega) (by omega)
  simp only [sizesOf,szD_nil,szD_cons,ints_cons,ints_nil] at e1
  simp [c208,x208_0,r208_0,x208_1,r208_1,x208_2,r208_2,x208_3,r208_3,x208_4,r208_4,x208_5,r208_5,x208_6,r208_6,x208_7,r208_7,encC,arrsD,hst,hx,hz,hz2,hw,e3',e4,e1] at e
  exact ⟨_,_,e⟩
 | 2,_ =>
  have e4:=fun hp=>s238 hp x 0 (by rw [hlen]; rfl)
  have e3':=fun hp:List O=>s109 hp 2 0 2 (by omega) (by omega)
  simp only [sizesOf,szD_nil,szD_cons,ints_cons,ints_nil] at e1
  simp [c208,x208_0,r208_0,x208_1,r208_1,x208_2,r208_2,x208_3,r208_3,x208_4,r208_4,x208_5,r208_5,x208_6,r208_6,x208_7,r208_7,encC,arrsD,hst,hx,hz,hz2,hw,e3',e4,e1] at e
  exact ⟨_,_,e⟩
theorem p243_0 {h0:List O}  {pa pb:Loc}
 (hpa:pa.isHeap=true) (hpb:pb.isHeap=true):∃ w,callL K (.fn (.func 243) [] []) [.d (.nils),.fn (.func 244) [] [.ptr pa 0,.ptr pb 0]] none h0=some (.ret (.d (.int .i64 0)),false,h0,w):=by
 simp only [Loc.isHeap] at hpa hpb
 have e:=k243 [] [] [.d (.nils),.fn (.func 244) [] [.ptr pa 0,.ptr pb 0]] none h0
 simp [c243,x243_0,r243_0,x243_1,r243_1,x243_2,r243_2,x243_3,r243_3,x243_4,r243_4,x243_5,r243_5,x243_6,r243_6,x243_7,r243_7,x243_8,r243_8,execL_loop,u243_0,hw1,hw2,hw3,hpa,hpb] at e
 exact ⟨_,e⟩
theorem p243_1 {h0 h1:List O} {w1:Nat} {o0 z0:Int} {p0 q0 m0:ByteArray} {a0:D}  {pa pb:Loc}
 (e0:callL K (.fn (.func 244) [] [.ptr pa 0,.ptr pb 0]) [.d (.int .i64 0),.d (.agg [.int .i64 o0,.str p0,.str q0,.str m0,.int .i64 z0,a0])] none h0=some (.ret (.d (.int .i64 0)),false,h1,w1)) (ca0:D.isCell a0=true)
 (hpa:pa.isHeap=true) (hpb:pb.isHeap=true):∃ w,callL K (.fn (.func 243) [] []) [.d (.list 6 [.agg [.int .i64 o0,.str p0,.str q0,.str m0,.int .i64 z0,a0]]),.fn (.func 244) [] [.ptr pa 0,.ptr pb 0]] none h0=some (.ret (.d (.int .i64 0)),false,h1,w):=by
 simp only [Loc.isHeap] at hpa hpb
 simp only [D.isCell] at ca0
 have e:=k243 [] [] [.d (.list 6 [.agg [.int .i64 o0,.str p0,.str q0,.str m0,.int .i64 z0,a0]]),.fn (.func 244) [] [.ptr pa 0,.ptr pb 0]] none h0
 simp [c243,x243_0,r243_0,x243_1,r243_1,x243_2,r243_2,x243_3,r243_3,x243_4,r243_4,x243_5,r243_5,x243_6,r243_6,x243_7,r243_7,x243_8,r243_8,execL_loop,u243_0,hw1,hw2,hw3,hpa,hpb,e0,ca0] at e
 exact ⟨_,e⟩
theorem p243_2 {h0 h1 h2:List O} {w1 w2:Nat} {o0 z0 o1 z1:Int} {p0 q0 m0 p1 q1 m1:ByteArray} {a0 a1:D}  {pa pb:Loc}
 (e0:callL K (.fn (.func 244) [] [.ptr pa 0,.ptr pb 0]) [.d (.int .i64 0),.d (.agg [.int .i64 o0,.str p0,.str q0,.str m0,.int .i64 z0,a0])] none h0=some (.ret (.d (.int .i64 0)),false,h1,w1))
 (e1:callL K (.fn (.func 244) [] [.ptr pa 0,.ptr pb 0]) [.d (.int .i64 1),.d (.agg [.int .i64 o1,.str p1,.str q1,.str m1,.int .i64 z1,a1])] none h1=some (.ret (.d (.int .i64 0)),false,h2,w2)) (ca0:D.isCell a0=true) (ca1:D.isCell a1=true)
 (hpa:pa.isHeap=true) (hpb:pb.isHeap=true):∃ w,callL K (.fn (.func 243) [] []) [.d (.list 6 [.agg [.int .i64 o0,.str p0,.str q0,.str m0,.int .i64 z0,a0],.agg [.int .i64 o1,.str p1,.str q1,.str m1,.int .i64 z1,a1]]),.fn (.func 244) [] [.ptr pa 0,.ptr pb 0]] none h0=some (.ret (.d (.int .i64 0)),false,h2,w):=by
 simp only [Loc.isHeap] at hpa hpb
 simp only [D.isCell] at ca0 ca1
 have e:=k243 [] [] [.d (.list 6 [.agg [.int .i64 o0,.str p0,.str q0,.str m0,.int .i64 z0,a0],.agg [.int .i64 o1,.str p1,.str q1,.str m1,.int .i64 z1,a1]]),.fn (.func 244) [] [.ptr pa 0,.ptr pb 0]] none h0
 simp [c243,x243_0,r243_0,x243_1,r243_1,x243_2,r243_2,x243_3,r243_3,x243_4,r243_4,x243_5,r243_5,x243_6,r243_6,x243_7,r243_7,x243_8,r243_8,execL_loop,u243_0,hw1,hw2,hw3,hpa,hpb,e0,e1,ca0,ca1] at e
 exact ⟨_,e⟩
theorem s236 (hp:List O) (e:Int):callL K (.fn (.func 236) [] []) [.d (.bool false),.d (.int .i64 e)] none hp=some (.ret (.tuple []),false,hp,0):=by
 rw [k236]
 simp [c236,x236_0,r236_0,x236_1,r236_1]
theorem s264 (hp:List O) (n lo hi:Int) (h1:lo≤n) (h2:n≤hi):callL K (.fn (.func 264) [] []) [.d (.int .i64 n),.d (.int .i64 lo),.d (.int .i64 hi)] none hp=some (.ret (.d (.bool true)),false,hp,0):=by
 rw [k264]
 simp [c264,x264_0,r264_0,x264_1,r264_1,h1,h2]
theorem s265_0 (hp:List O):callL K (.fn (.func 265) [] []) [.d (.int .i64 0)] none hp=some (.ret (.d (.agg [.int .i64 0,.int .i64 0])),false,hp,0):=by
 rw [k265]
 simp [c265,x265_0,r265_0,x265_1,r265_1,x265_2,r265_2,x265_3,r265_3,x265_4,r265_4,x265_5,r265_5,x265_6,r265_6,x265_7,r265_7,x265_8,r265_8,x265_9,r265_9,x265_10,r265_10,x265_11,r265_11,x265_12,r265_12,x265_13,r265_13,x265_14,r265_14,x265_15,r265_15,x265_16,r265_16,x265_17,r265_17,x265_18,r265_18,x265_19,r265_19]
theorem s269_0 (hp:List O):callL K (.fn (.func 269) [] []) [.d (.int .i64 0)] none hp=some (.ret (.d (.agg [.int .i64 0,.int .i64 0])),false,hp,0):=by
 rw [k269]
 simp [c269,x269_0,r269_0,x269_1,r269_1,x269_2,r269_2,x269_3,r269_3,x269_4,r269_4,x269_5,r269_5,x269_6,r269_6,x269_7,r269_7]
theorem s265_1 (hp:List O):callL K (.fn (.func 265) [] []) [.d (.int .i64 1)] none hp=some (.ret (.d (.agg [.int .i64 0,.int .i64 0])),false,hp,0):=by
 rw [k265]
 simp [c265,x265_0,r265_0,x265_1,r265_1,x265_2,r265_2,x265_3,r265_3,x265_4,r265_4,x265_5,r265_5,x265_6,r265_6,x265_7,r265_7,x265_8,r265_8,x265_9,r265_9,x265_10,r265_10,x265_11,r265_11,x265_12,r265_12,x265_13,r265_13,x265_14,r265_14,x265_15,r265_15,x265_16,r265_16,x265_17,r265_17,x265_18,r265_18,x265_19,r265_19]
theorem s269_1 (hp:List O):callL K (.fn (.func 269) [] []) [.d (.int .i64 1)] none hp=some (.ret (.d (.agg [.int .i64 0,.int .i64 0])),false,hp,0):=by
 rw [k269]
 simp [c269,x269_0,r269_0,x269_1,r269_1,x269_2,r269_2,x269_3,r269_3,x269_4,r269_4,x269_5,r269_5,x269_6,r269_6,x269_7,r269_7]
theorem s265_2 (hp:List O):callL K (.fn (.func 265) [] []) [.d (.int .i64 2)] none hp=some (.ret (.d (.agg [.int .i64 1,.int .i64 1])),false,hp,0):=by
 rw [k265]
 simp [c265,x265_0,r265_0,x265_1,r265_1,x265_2,r265_2,x265_3,r265_3,x265_4,r265_4,x265_5,r265_5,x265_6,r265_6,x265_7,r265_7,x265_8,r265_8,x265_9,r265_9,x265_10,r265_10,x265_11,r265_11,x265_12,r265_12,x265_13,r265_13,x265_14,r265_14,x265_15,r265_15,x265_16,r265_16,x265_17,r265_17,x265_18,r265_18,x265_19,r265_19]
theorem s269_2 (hp:List O):callL K (.fn (.func 269) [] []) [.d (.int .i64 2)] none hp=some (.ret (.d (.agg [.int .i64 0,.int .i64 0])),false,hp,0):=by
 rw [k269]
 simp [c269,x269_0,r269_0,x269_1,r269_1,x269_2,r269_2,x269_3,r269_3,x269_4,r269_4,x269_5,r269_5,x269_6,r269_6,x269_7,r269_7]
theorem s265_3 (hp:List O):callL K (.fn (.func 265) [] []) [.d (.int .i64 3)] none hp=some (.ret (.d (.agg [.int .i64 2,.int .i64 2])),false,hp,0):=by
 rw [k265]
 simp [c265,x265_0,r265_0,x265_1,r265_1,x265_2,r265_2,x265_3,r265_3,x265_4,r265_4,x265_5,r265_5,x265_6,r265_6,x265_7,r265_7,x265_8,r265_8,x265_9,r265_9,x265_10,r265_10,x265_11,r265_11,x265_12,r265_12,x265_13,r265_13,x265_14,r265_14,x265_15,r265_15,x265_16,r265_16,x265_17,r265_17,x265_18,r265_18,x265_19,r265_19]
theorem s269_3 (hp:List O):callL K (.fn (.func 269) [] []) [.d (.int .i64 3)] none hp=some (.ret (.d (.agg [.int .i64 0,.int .i64 0])),false,hp,0):=by
 rw [k269]
 simp [c269,x269_0,r269_0,x269_1,r269_1,x269_2,r269_2,x269_3,r269_3,x269_4,r269_4,x269_5,r269_5,x269_6,r269_6,x269_7,r269_7]
theorem s265_4 (hp:List O):callL K (.fn (.func 265) [] []) [.d (.int .i64 4)] none hp=some (.ret (.d (.agg [.int .i64 2,.int .i64 2])),false,hp,0):=by
 rw [k265]
 simp [c265,x265_0,r265_0,x265_1,r265_1,x265_2,r265_2,x265_3,r265_3,x265_4,r265_4,x265_5,r265_5,x265_6,r265_6,x265_7,r265_7,x265_8,r265_8,x265_9,r265_9,x265_10,r265_10,x265_11,r265_11,x265_12,r265_12,x265_13,r265_13,x265_14,r265_14,x265_15,r265_15,x265_16,r265_16,x265_17,r265_17,x265_18,r265_18,x265_19,r265_19]
theorem s269_4 (hp:List O):callL K (.fn (.func 269) [] []) [.d (.int .i64 4)] none hp=some (.ret (.d (.agg [.int .i64 0,.int .i64 0])),false,hp,0):=by
 rw [k269]
 simp [c269,x269_0,r269_0,x269_1,r269_1,x269_2,r269_2,x269_3,r269_3,x269_4,r269_4,x269_5,r269_5,x269_6,r269_6,x269_7,r269_7]
theorem s265_5 (hp:List O):callL K (.fn (.func 265) [] []) [.d (.int .i64 5)] none hp=some (.ret (.d (.agg [.int .i64 2,.int .i64 2])),false,hp,0):=by
 rw [k265]
 simp [c265,x265_0,r265_0,x265_1,r265_1,x265_2,r265_2,x265_3,r265_3,x265_4,r265_4,x265_5,r265_5,x265_6,r265_6,x265_7,r265_7,x265_8,r265_8,x265_9,r265_9,x265_10,r265_10,x265_11,r265_11,x265_12,r265_12,x265_13,r265_13,x265_14,r265_14,x265_15,r265_15,x265_16,r265_16,x265_17,r265_17,x265_18,r265_18,x265_19,r265_19]
theorem s269_5 (hp:List O):callL K (.fn (.func 269) [] []) [.d (.int .i64 5)] none hp=some (.ret (.d (.agg [.int .i64 0,.int .i64 0])),false,hp,0):=by
 rw [k269]
 simp [c269,x269_0,r269_0,x269_1,r269_1,x269_2,r269_2,x269_3,r269_3,x269_4,r269_4,x269_5,r269_5,x269_6,r269_6,x269_7,r269_7]
theorem s265_6 (hp:List O):callL K (.fn (.func 265) [] []) [.d (.int .i64 6)] none hp=some (.ret (.d (.agg [.int .i64 2,.int .i64 2])),false,hp,0):=by
 rw [k265]
 simp [c265,x265_0,r265_0,x265_1,r265_1,x265_2,r265_2,x265_3,r265_3,x265_4,r265_4,x265_5,r265_5,x265_6,r265_6,x265_7,r265_7,x265_8,r265_8,x265_9,r265_9,x265_10,r265_10,x265_11,r265_11,x265_12,r265_12,x265_13,r265_13,x265_14,r265_14,x265_15,r265_15,x265_16,r265_16,x265_17,r265_17,x265_18,r265_18,x265_19,r265_19]
theorem s269_6 (hp:List O):callL K (.fn (.func 269) [] []) [.d (.int .i64 6)] none hp=some (.ret (.d (.agg [.int .i64 0,.int .i64 0])),false,hp,0):=by
 rw [k269]
 simp [c269,x269_0,r269_0,x269_1,r269_1,x269_2,r269_2,x269_3,r269_3,x269_4,r269_4,x269_5,r269_5,x269_6,r269_6,x269_7,r269_7]
theorem eg309:K.P.eqGuardType K.P.depth 309=false:=by kernel_rfl
theorem eg42:K.P.eqGuardType K.P.depth 42=false:=by kernel_rfl
theorem sh42:K.P.stoodInHeld 42=false:=by kernel_rfl
theorem lit_facts {p q:ByteArray} (h:(p,q)∈lits):(∀ hp,callL K (.fn (.func 266) [] []) [.d (.agg [.str p,.str q])] none hp=some (.ret (.d (.int .i64 0)),false,hp,0))∧∃ b:UInt8,p.data[0]?=some b∧¬ ((b.toNat:Int)=45):=by
 simp only [lits,List.mem_cons,List.mem_nil_iff,or_false,Prod.mk.injEq] at h
 rcases h with ⟨rfl,rfl⟩ | ⟨rfl,rfl⟩ | ⟨rfl,rfl⟩ | ⟨rfl,rfl⟩ | ⟨rfl,rfl⟩ | ⟨rfl,rfl⟩ | ⟨rfl,rfl⟩ | ⟨rfl,rfl⟩ | ⟨rfl,rfl⟩
 all_goals exact ⟨fun hp=>by simp,_,rfl,by decide⟩
theorem s237_lit (hp:List O) {p q:ByteArray} (h:(p,q)∈lits):callL K (.fn (.func 237) [] []) [.d (litD p q)] none hp=some (.ret (.tuple []),false,hp,0):=by
 have e1:=fun hp e=>s236 hp e
 have e2:=fun hp=>s264 hp 0 0 14 (by omega) (by omega)
 have e3:=fun hp=>s264 hp 0 0 0 (by omega) (by omega)
 obtain ⟨e4,b,e5,e6⟩:=lit_facts h
 rw [k237]
 simp [c237,x237_0,r237_0,x237_1,r237_1,x237_2,r237_2,x237_3,r237_3,x237_4,r237_4,x237_5,r237_5,x237_6,r237_6,x237_7,r237_7,x237_8,r237_8,x237_9,r237_9,x237_10,r237_10,x237_11,r237_11,x237_12,r237_12,x237_13,r237_13,x237_14,r237_14,x237_15,r237_15,x237_16,r237_16,x237_17,r237_17,x237_18,r237_18,x237_19,r237_19,x237_20,r237_20,x237_21,r237_21,x237_22,r237_22,x237_23,r237_23,litD,exD,e0,e1,e2,e3,e4,e5,e6,s265_0,s269_0,binStr,eg309,eg42,sh42]
theorem s237_ref (hp:List O) {n:ByteArray} (h:∀ hp,callL K (.fn (.func 268) [] []) [.d (.str n)] none hp=some (.ret (.d (.bool true)),false,hp,0)):callL K (.fn (.func 237) [] []) [.d (refD n)] none hp=some (.ret (.tuple []),false,hp,0):=by
 have e1:=fun hp e=>s236 hp e
 have e2:=fun hp=>s264 hp 1 0 14 (by omega) (by omega)
 have e3:=fun hp=>s264 hp 0 0 0 (by omega) (by omega)
 rw [k237]
 simp [c237,x237_0,r237_0,x237_1,r237_1,x237_2,r237_2,x237_3,r237_3,x237_4,r237_4,x237_5,r237_5,x237_6,r237_6,x237_7,r237_7,x237_8,r237_8,x237_9,r237_9,x237_10,r237_10,x237_11,r237_11,x237_12,r237_12,x237_13,r237_13,x237_14,r237_14,x237_15,r237_15,x237_16,r237_16,x237_17,r237_17,x237_18,r237_18,x237_19,r237_19,x237_20,r237_20,x237_21,r237_21,x237_22,r237_22,x237_23,r237_23,refD,exD,e0,e1,e2,e3,h,s265_1,s269_1,binStr,eg309,eg42,sh42]
theorem s237_neg (hp:List O) (a:D):callL K (.fn (.func 237) [] []) [.d (negD a)] none hp=some (.ret (.tuple []),false,hp,0):=by
 have e1:=fun hp e=>s236 hp e
 have e2:=fun hp=>s264 hp 2 0 14 (by omega) (by omega)
 have e3:=fun hp=>s264 hp 0 0 0 (by omega) (by omega)
 rw [k237]
 simp [c237,x237_0,r237_0,x237_1,r237_1,x237_2,r237_2,x237_3,r237_3,x237_4,r237_4,x237_5,r237_5,x237_6,r237_6,x237_7,r237_7,x237_8,r237_8,x237_9,r237_9,x237_10,r237_10,x237_11,r237_11,x237_12,r237_12,x237_13,r237_13,x237_14,r237_14,x237_15,r237_15,x237_16,r237_16,x237_17,r237_17,x237_18,r237_18,x237_19,r237_19,x237_20,r237_20,x237_21,r237_21,x237_22,r237_22,x237_23,r237_23,negD,exD,e0,e1,e2,e3,s265_2,s269_2,binStr,eg309,eg42,sh42]
theorem s237_two (hp:List O) (op:Int) (hop:op=3∨op=4∨op=5∨op=6) (a b:D):callL K (.fn (.func 237) [] []) [.d (twoD op a b)] none hp=some (.ret (.tuple []),false,hp,0):=by
 have e1:=fun hp e=>s236 hp e
 have e2:=fun hp=>s264 hp op 0 14 (by omega) (by omega)
 have e3:=fun hp=>s264 hp 0 0 0 (by omega) (by omega)
 rw [k237]
 rcases hop with rfl | rfl | rfl | rfl
 all_goals
  simp [c237,x237_0,r237_0,x237_1,r237_1,x237_2,r237_2,x237_3,r237_3,x237_4,r237_4,x237_5,r237_5,x237_6,r237_6,x237_7,r237_7,x237_8,r237_8,x237_9,r237_9,x237_10,r237_10,x237_11,r237_11,x237_12,r237_12,x237_13,r237_13,x237_14,r237_14,x237_15,r237_15,x237_16,r237_16,x237_17,r237_17,x237_18,r237_18,x237_19,r237_19,x237_20,r237_20,x237_21,r237_21,x237_22,r237_22,x237_23,r237_23,twoD,exD,e0,e1,e2,e3,s265_3,s269_3,s265_4,s269_4,s265_5,s269_5,s265_6,s269_6,binStr,eg309,eg42,sh42]
theorem rn_name (k:Nat) (hp:List O):callL K (.fn (.func 268) [] []) [.d (.str (rn k))] none hp=some (.ret (.d (.bool true)),false,hp,0):=by
 match k with
 | 0=>simp [rn]
 | 1=>simp [rn]
 | _+2=>simp [rn]
theorem inm_name (k:Nat) (hp:List O):callL K (.fn (.func 268) [] []) [.d (.str (inm k))] none hp=some (.ret (.d (.bool true)),false,hp,0):=by
 match k with
 | 0=>simp [inm]
 | _+1=>simp [inm]
theorem s205 {c l n:Nat} {d:D} (h:BodyD c l n d):∀ (hp:List O) (m:Int),0≤m→m+n≤20→callL K (.fn (.func 205) [] []) [.d d,.d (.int .i64 m)] none hp=some (.ret (.tuple []),false,hp,0):=by
 induction h with
 | @lit p q h n =>
  intro hp m h0 h1
  have e1:=fun hp=>s237_lit hp h
  have e2:=fun hp=>s236 hp 7
  have h3:¬ ((30:Int)≤m):=by omega
  rw [k205]
  simp only [litD,exD,e0] at e1
  simp [c205,x205_0,r205_0,x205_1,r205_1,x205_2,r205_2,x205_3,r205_3,x205_4,r205_4,x205_5,r205_5,x205_6,r205_6,x205_7,r205_7,execL_loop,u205_0,litD,exD,e0,e1,e2,h3]
 | @ref k h n =>
  intro hp m h0 h1
  have e1:=fun hp=>s237_ref hp (rn_name k)
  have e2:=fun hp=>s236 hp 7
  have h3:¬ ((30:Int)≤m):=by omega
  rw [k205]
  simp only [refD,exD,e0] at e1
  simp [c205,x205_0,r205_0,x205_1,r205_1,x205_2,r205_2,x205_3,r205_3,x205_4,r205_4,x205_5,r205_5,x205_6,r205_6,x205_7,r205_7,execL_loop,u205_0,refD,exD,e0,e1,e2,h3]
 | @ind k h n =>
  intro hp m h0 h1
  have e1:=fun hp=>s237_ref hp (inm_name k)
  have e2:=fun hp=>s236 hp 7
  have h3:¬ ((30:Int)≤m):=by omega
  rw [k205]
  simp only [refD,exD,e0] at e1
  simp [c205,x205_0,r205_0,x205_1,r205_1,x205_2,r205_2,x205_3,r205_3,x205_4,r205_4,x205_5,r205_5,x205_6,r205_6,x205_7,r205_7,execL_loop,u205_0,refD,exD,e0,e1,e2,h3]
 | @two op n a b hop ha hb iha ihb =>
  intro hp m h0 h1
  have e1:=fun hp=>s237_two hp op hop a b
  have e2:=fun hp=>s236 hp 7
  have h3:¬ ((30:Int)≤m):=by omega
  have hw:wr .i64 (m+1)=m+1:=wrap_id (by omega) (by omega)
  have e3:=fun hp=>iha hp (m+1) (by omega) (by omega)
  have e4:=fun hp=>ihb hp (m+1) (by omega) (by omega)
  obtain ⟨o1,p1,q1,n1,z1,a1,rfl,i1⟩:=ha.form
  obtain ⟨o2,p2,q2,n2,z2,a2,rfl,i2⟩:=hb.form
  have c1:a1.isCell=true:=by rcases i1 with rfl | ⟨l,rfl⟩<;>rfl
  have c2:a2.isCell=true:=by rcases i2 with rfl | ⟨l,rfl⟩<;>rfl
  simp only [D.isCell] at c1 c2
  rw [k205]
  simp only [twoD,exD,e0] at e1 e3 e4
  simp [c205,x205_0,r205_0,x205_1,r205_1,x205_2,r205_2,x205_3,r205_3,x205_4,r205_4,x205_5,r205_5,x205_6,r205_6,x205_7,r205_7,execL_loop,u205_0,twoD,exD,e0,e1,e2,e3,e4,h3,hw,hw1,hw2,c1,c2]
 | @neg n a ha iha =>
  intro hp m h0 h1
  have e1:=fun hp=>s237_neg hp a
  have e2:=fun hp=>s236 hp 7
  have h3:¬ ((30:Int)≤m):=by omega
  have hw:wr .i64 (m+1)=m+1:=wrap_id (by omega) (by omega)
  have e3:=fun hp=>iha hp (m+1) (by omega) (by omega)
  obtain ⟨o1,p1,q1,n1,z1,a1,rfl,i1⟩:=ha.form
  have c1:a1.isCell=true:=by rcases i1 with rfl | ⟨l,rfl⟩<;>rfl
  simp only [D.isCell] at c1
  rw [k205]
  simp only [negD,exD,e0] at e1 e3
  simp [c205,x205_0,r205_0,x205_1,r205_1,x205_2,r205_2,x205_3,r205_3,x205_4,r205_4,x205_5,r205_5,x205_6,r205_6,x205_7,r205_7,execL_loop,u205_0,negD,exD,e0,e1,e2,e3,h3,hw,hw1,c1]
theorem s204 (hp:List O):callL K (.fn (.func 204) [] []) [.d .nili] none hp=some (.ret (.d (.int .i64 0)),false,hp,0):=by
 obtain ⟨u,hu⟩:∃ u,K.P.underlying 271=some u:=Option.isSome_iff_exists.1 (by kernel_rfl)
 have hz:zeroT K 271=some .nili:=by kernel_rfl
 rw [k204]
 simp [c204,x204_0,r204_0,x204_1,r204_1,x204_2,r204_2,x204_3,r204_3,x204_4,r204_4,hu,hz]
theorem s203 (hp:List O) (l:Nat) (o:V) (hl:l < hp.length) (h:hp[l]=.cells [o] false):callL K (.fn (.func 203) [] []) [.ptr (.heap l) 0] (some none) hp=some (.ret (.tuple []),false,hp.set l (.cells [.d (.int .i64 0)] false),1 <<< l):=by
 rw [k203]
 simp [c203,x203_0,r203_0,hl,h,s204]
theorem s171 {c l n:Nat} {d:D} (h:BodyD c l n d) (hn:n≤20) (hp:List O):∃ J w,callL K (.fn (.func 171) [] []) [.d d] none hp=some (.ret (.d (.int .i64 0)),false,hp++J,w):=by
 have e:=k171 [] [] [.d d] none hp
 have e1:=fun hp=>s205 h hp 0 (by omega) (by omega)
 have e2:=s203 (hp++[.cells [.d (.int .i64 0)] false]) hp.length (.d (.int .i64 0)) (by simp) (by simp)
 obtain ⟨o1,p1,q1,n1,z1,a1,rfl,i1⟩:=h.form
 have c1:a1.isCell=true:=by rcases i1 with rfl | ⟨l,rfl⟩<;>rfl
 simp only [D.isCell] at c1
 simp only [exD] at e e1
 simp at e2
 simp [c171,x171_0,r171_0,x171_1,r171_1,x171_2,r171_2,x171_3,r171_3,e1,e2,c1] at e
 exact ⟨_,_,by simpa [exD] using e⟩
theorem num_r {k c:Nat} (h:k < c) (hc:c≤3):∃ v:Int,(∀ hp,callL K (.fn (.func 165) [] []) [.d (.str (rn k)),.d (.int .u8 114),.d (.int .i64 c)] none hp=some (.ret (.d (.int .i64 v)),false,hp,0))∧¬ v < 0:=by
 have key:(k=0∧c=1)∨(k=0∧c=2)∨(k=0∧c=3)∨(k=1∧c=2)∨(k=1∧c=3)∨(k=2∧c=3):=by omega
 rcases key with ⟨rfl,rfl⟩ | ⟨rfl,rfl⟩ | ⟨rfl,rfl⟩ | ⟨rfl,rfl⟩ | ⟨rfl,rfl⟩ | ⟨rfl,rfl⟩
 ·exact ⟨0,fun hp=>by simp [rn],by omega⟩
 ·exact ⟨0,fun hp=>by simp [rn],by omega⟩
 ·exact ⟨0,fun hp=>by simp [rn],by omega⟩
 ·exact ⟨1,fun hp=>by simp [rn],by omega⟩
 ·exact ⟨1,fun hp=>by simp [rn],by omega⟩
 ·exact ⟨2,fun hp=>by simp [rn],by omega⟩
theorem num_ir {k c:Nat} (h:k < 2) (hc:c≤3) (hp:List O):callL K (.fn (.func 165) [] []) [.d (.str (inm k)),.d (.int .u8 114),.d (.int .i64 c)] none hp=some (.ret (.d (.int .i64 (-1))),false,hp,0):=by
 have key:(k=0∨k=1)∧(c=0∨c=1∨c=2∨c=3):=by omega
 rcases key with ⟨rfl | rfl,rfl | rfl | rfl | rfl⟩<;>simp [inm]
theorem num_i {k c:Nat} (h:k < c) (hc:c≤2):∃ v:Int,(∀ hp,callL K (.fn (.func 165) [] []) [.d (.str (inm k)),.d (.int .u8 105),.d (.int .i64 c)] none hp=some (.ret (.d (.int .i64 v)),false,hp,0))∧¬ v < 0:=by
 have key:(k=0∧c=1)∨(k=0∧c=2)∨(k=1∧c=2):=by omega
 rcases key with ⟨rfl,rfl⟩ | ⟨rfl,rfl⟩ | ⟨rfl,rfl⟩
 ·exact ⟨0,fun hp=>by simp [inm],by omega⟩
 ·exact ⟨0,fun hp=>by simp [inm],by omega⟩
 ·exact ⟨1,fun hp=>by simp [inm],by omega⟩
theorem s244 (hp:List O) (a b:Nat) {o z:Int} {p q m:ByteArray} {e:D} {c l i:Int} {ro ro':Bool} (he:e.isCell=true) (ha:hp[a]?=some (.cells [.d (.int .i64 c)] ro)) (hb:hp[b]?=some (.cells [.d (.int .i64 l)] ro'))
  (ih:∃ J w,callL K (.fn (.func 211) [] []) [.d (exD o p q m z e),.d (.int .i64 c),.d (.int .i64 l)] none hp=some (.ret (.d (.int .i64 0)),false,hp++J,w)) :
  ∃ J w,callL K (.fn (.func 244) [] [.ptr (.heap a) 0,.ptr (.heap b) 0]) [.d (.int .i64 i),.d (exD o p q m z e)] none hp=some (.ret (.d (.int .i64 0)),false,hp++J,w):=by
 obtain ⟨J,w,e1⟩:=ih
 simp only [D.isCell] at he
 have e0:=k244 [] [.ptr (.heap a) 0,.ptr (.heap b) 0] [.d (.int .i64 i),.d (exD o p q m z e)] none hp
 simp only [exD] at e0 e1
 simp [c244,x244_0,r244_0,x244_1,r244_1,ha,hb,e1,he] at e0
 exact ⟨_,_,by simpa [exD] using e0⟩
theorem s211 {c l n:Nat} {d:D} (h:BodyD c l n d) (hc:c≤3) (hl:l≤2):∀ (hp:List O),∃ J w,callL K (.fn (.func 211) [] []) [.d d,.d (.int .i64 c),.d (.int .i64 l)] none hp=some (.ret (.d (.int .i64 0)),false,hp++J,w):=by
 induction h with
 | @lit p q h n =>
  intro hp
  have e:=k211 [] [] [.d (litD p q),.d (.int .i64 c),.d (.int .i64 l)] none hp
  obtain ⟨w,e1⟩:=p243_0 (h0:=hp++[.cells [.d (.int .i64 c)] false,.cells [.d (.int .i64 l)] false]) (pa:=.heap hp.length) (pb:=.heap (hp.length+1)) rfl rfl
  simp [c211,x211_0,r211_0,x211_1,r211_1,x211_2,r211_2,x211_3,r211_3,x211_4,r211_4,x211_5,r211_5,x211_6,r211_6,x211_7,r211_7,x211_8,r211_8,x211_9,r211_9,x211_10,r211_10,x211_11,r211_11,x211_12,r211_12,x211_13,r211_13,x211_14,r211_14,x211_15,r211_15,litD,exD,e0,binStr,e1] at e
  exact ⟨_,_,by simpa [litD,exD,e0] using e⟩
 | @ref k h n =>
  intro hp
  have e:=k211 [] [] [.d (refD (rn k)),.d (.int .i64 c),.d (.int .i64 l)] none hp
  obtain ⟨v,e2,hv⟩:=num_r h hc
  obtain ⟨w,e1⟩:=p243_0 (h0:=hp++[.cells [.d (.int .i64 c)] false,.cells [.d (.int .i64 l)] false]) (pa:=.heap hp.length) (pb:=.heap (hp.length+1)) rfl rfl
  simp [c211,x211_0,r211_0,x211_1,r211_1,x211_2,r211_2,x211_3,r211_3,x211_4,r211_4,x211_5,r211_5,x211_6,r211_6,x211_7,r211_7,x211_8,r211_8,x211_9,r211_9,x211_10,r211_10,x211_11,r211_11,x211_12,r211_12,x211_13,r211_13,x211_14,r211_14,x211_15,r211_15,refD,exD,e0,binStr,e1,e2,hv] at e
  exact ⟨_,_,by simpa [refD,exD,e0] using e⟩
 | @ind k h n =>
  intro hp
  have e:=k211 [] [] [.d (refD (inm k)),.d (.int .i64 c),.d (.int .i64 l)] none hp
  obtain ⟨v,e2,hv⟩:=num_i h hl
  have e3:=fun hp=>num_ir (k:=k) (by omega) hc hp
  obtain ⟨w,e1⟩:=p243_0 (h0:=hp++[.cells [.d (.int .i64 c)] false,.cells [.d (.int .i64 l)] false]) (pa:=.heap hp.length) (pb:=.heap (hp.length+1)) rfl rfl
  simp [c211,x211_0,r211_0,x211_1,r211_1,x211_2,r211_2,x211_3,r211_3,x211_4,r211_4,x211_5,r211_5,x211_6,r211_6,x211_7,r211_7,x211_8,r211_8,x211_9,r211_9,x211_10,r211_10,x211_11,r211_11,x211_12,r211_12,x211_13,r211_13,x211_14,r211_14,x211_15,r211_15,refD,exD,e0,binStr,e1,e2,e3,hv] at e
  exact ⟨_,_,by simpa [refD,exD,e0] using e⟩
 | @two op n a b hop ha hb iha ihb =>
  intro hp
  have e:=k211 [] [] [.d (twoD op a b),.d (.int .i64 c),.d (.int .i64 l)] none hp
  obtain ⟨o1,p1,q1,n1,z1,a1,rfl,i1⟩:=ha.form
  obtain ⟨o2,p2,q2,n2,z2,a2,rfl,i2⟩:=hb.form
  have c1:a1.isCell=true:=by rcases i1 with rfl | ⟨l,rfl⟩<;>rfl
  have c2:a2.isCell=true:=by rcases i2 with rfl | ⟨l,rfl⟩<;>rfl
  obtain ⟨J1,w1,e1⟩:=s244 (hp++[.cells [.d (.int .i64 c)] false,.cells [.d (.int .i64 l)] false]) hp.length (hp.length+1) (i:=0) (ro:=false) (ro':=false) c1 (by simp) (by simp) (iha _)
  obtain ⟨J2,w2,e2⟩:=s244 (hp++[.cells [.d (.int .i64 c)] false,.cells [.d (.int .i64 l)] false]++J1) hp.length (hp.length+1) (i:=1) (ro:=false) (ro':=false) c2 (by simp) (by simp) (ihb _)
  obtain ⟨w,e3⟩:=p243_2 e1 e2 c1 c2 rfl rfl
  rcases hop with rfl | rfl | rfl | rfl
  all_goals
   simp [c211,x211_0,r211_0,x211_1,r211_1,x211_2,r211_2,x211_3,r211_3,x211_4,r211_4,x211_5,r211_5,x211_6,r211_6,x211_7,r211_7,x211_8,r211_8,x211_9,r211_9,x211_10,r211_10,x211_11,r211_11,x211_12,r211_12,x211_13,r211_13,x211_14,r211_14,x211_15,r211_15,twoD,exD,e0,binStr,e3] at e
   exact ⟨_,_,by simpa [twoD,exD,e0] using e⟩
 | @neg n a ha iha =>
  intro hp
  have e:=k211 [] [] [.d (negD a),.d (.int .i64 c),.d (.int .i64 l)] none hp
  obtain ⟨o1,p1,q1,n1,z1,a1,rfl,i1⟩:=ha.form
  have c1:a1.isCell=true:=by rcases i1 with rfl | ⟨l,rfl⟩<;>rfl
  obtain ⟨J1,w1,e1⟩:=s244 (hp++[.cells [.d (.int .i64 c)] false,.cells [.d (.int .i64 l)] false]) hp.length (hp.length+1) (i:=0) (ro:=false) (ro':=false) c1 (by simp) (by simp) (iha _)
  obtain ⟨w,e3⟩:=p243_1 e1 c1 rfl rfl
  simp [c211,x211_0,r211_0,x211_1,r211_1,x211_2,r211_2,x211_3,r211_3,x211_4,r211_4,x211_5,r211_5,x211_6,r211_6,x211_7,r211_7,x211_8,r211_8,x211_9,r211_9,x211_10,r211_10,x211_11,r211_11,x211_12,r211_12,x211_13,r211_13,x211_14,r211_14,x211_15,r211_15,negD,exD,e0,binStr,e3] at e
  exact ⟨_,_,by simpa [negD,exD,e0] using e⟩
def prodI:List Int→Int
 | []=>1
 | x :: xs=>x * prodI xs
theorem prodI_bound {ss:List Int} (h:SzOk ss):1≤prodI ss∧prodI ss≤16:=by
 have key:∀ x:Int,1≤x→x≤4→x=1∨x=2∨x=3∨x=4:=fun x _ _=>by omega
 match ss,h with
 | [],_=>simp [prodI]
 | [a],h=>have:=h.within a (by simp); simp [prodI]; omega
 | [a,b],h =>
  have ha:=h.within a (by simp)
  have hb:=h.within b (by simp)
  simp only [prodI]
  rcases key a ha.1 ha.2 with rfl | rfl | rfl | rfl<;>omega
 | _ :: _ :: _ :: _,h=>have:=h.few; simp at this
theorem s110 (hp:List O) {ss:List Int} (h:SzOk ss):callL K (.fn (.func 110) [] []) [.d (szD ss)] none hp=some (.ret (.d (.int .i64 (prodI ss))),false,hp,0):=by
 rw [k110]
 match ss,h with
 | [],_=>simp [c110,x110_0,r110_0,x110_1,r110_1,x110_2,r110_2,x110_3,r110_3,x110_4,r110_4,x110_5,r110_5,x110_6,r110_6,x110_7,r110_7,execL_loop,u110_0,szD,prodI]
 | [a],h =>
  have ha:=h.within a (by simp)
  have hw:wr .i64 a=a:=wrap_id (by omega) (by omega)
  simp [c110,x110_0,r110_0,x110_1,r110_1,x110_2,r110_2,x110_3,r110_3,x110_4,r110_4,x110_5,r110_5,x110_6,r110_6,x110_7,r110_7,execL_loop,u110_0,szD,prodI,hw1,hw]
 | [a,b],h =>
  have ha:=h.within a (by simp)
  have hb:=prodI_bound h
  simp only [prodI,Int.mul_one] at hb
  have hw:wr .i64 a=a:=wrap_id (by omega) (by omega)
  have hw3:wr .i64 (a * b)=a * b:=wrap_id (by omega) (by omega)
  simp [c110,x110_0,r110_0,x110_1,r110_1,x110_2,r110_2,x110_3,r110_3,x110_4,r110_4,x110_5,r110_5,x110_6,r110_6,x110_7,r110_7,execL_loop,u110_0,szD,prodI,hw1,hw2,hw,hw3]
 | _ :: _ :: _ :: _,h=>have:=h.few; simp at this
theorem p176_1 {hp:List O} {l:Nat} {ar:D} {ro:Bool} {t0 o0 z0 r0:Int} {p0 q0 m0:ByteArray} {s0 x0 f0 a0:D}
 (hl:hp[l]?=some (.cells [.d ar,.d (.list 10 [.agg [s0,.int .i64 t0,x0,f0,.int .i64 o0,.str p0,.str q0,.str m0,.int .i64 z0,a0]])] ro))
 (e0:CK 110 [.d s0] hp (.d (.int .i64 r0)) hp 0) (l0:1≤r0) (g0:r0≤16) (cs0:D.isCell s0=true) (cx0:D.isCell x0=true) (cf0:D.isCell f0=true) (ca0:D.isCell a0=true)
 : callL K (.fn (.func 176) [] []) [.ptr (.heap l) 0] none hp=some (.ret (.d (.int .i64 (r0))),false,hp,0):=by
 simp only [D.isCell] at cs0 cx0 cf0 ca0
 have hs0:wr .i64 (r0)=r0:=wrap_id (by omega) (by omega)
 rw [k176]
 simp [c176,x176_0,r176_0,x176_1,r176_1,x176_2,r176_2,x176_3,r176_3,x176_4,r176_4,x176_5,r176_5,x176_6,r176_6,x176_7,r176_7,execL_loop,u176_0,hl,hw1,hw2,hw3,e0,hs0,cs0,cx0,cf0,ca0]
theorem p176_2 {hp:List O} {l:Nat} {ar:D} {ro:Bool} {t0 o0 z0 r0 t1 o1 z1 r1:Int} {p0 q0 m0 p1 q1 m1:ByteArray} {s0 x0 f0 a0 s1 x1 f1 a1:D}
 (hl:hp[l]?=some (.cells [.d ar,.d (.list 10 [.agg [s0,.int .i64 t0,x0,f0,.int .i64 o0,.str p0,.str q0,.str m0,.int .i64 z0,a0],.agg [s1,.int .i64 t1,x1,f1,.int .i64 o1,.str p1,.str q1,.str m1,.int .i64 z1,a1]])] ro))
 (e0:CK 110 [.d s0] hp (.d (.int .i64 r0)) hp 0) (l0:1≤r0) (g0:r0≤16)
 (e1:CK 110 [.d s1] hp (.d (.int .i64 r1)) hp 0) (l1:1≤r1) (g1:r1≤16) (cs0:D.isCell s0=true) (cx0:D.isCell x0=true) (cf0:D.isCell f0=true) (ca0:D.isCell a0=true) (cs1:D.isCell s1=true) (cx1:D.isCell x1=true) (cf1:D.isCell f1=true) (ca1:D.isCell a1=true)
 : callL K (.fn (.func 176) [] []) [.ptr (.heap l) 0] none hp=some (.ret (.d (.int .i64 (r0+r1))),false,hp,0):=by
 simp only [D.isCell] at cs0 cx0 cf0 ca0 cs1 cx1 cf1 ca1
 have hs0:wr .i64 (r0)=r0:=wrap_id (by omega) (by omega)
 have hs1:wr .i64 (r0+r1)=r0+r1:=wrap_id (by omega) (by omega)
 rw [k176]
 simp [c176,x176_0,r176_0,x176_1,r176_1,x176_2,r176_2,x176_3,r176_3,x176_4,r176_4,x176_5,r176_5,x176_6,r176_6,x176_7,r176_7,execL_loop,u176_0,hl,hw1,hw2,hw3,e0,e1,hs0,hs1,cs0,cx0,cf0,ca0,cs1,cx1,cf1,ca1]
theorem p176_3 {hp:List O} {l:Nat} {ar:D} {ro:Bool} {t0 o0 z0 r0 t1 o1 z1 r1 t2 o2 z2 r2:Int} {p0 q0 m0 p1 q1 m1 p2 q2 m2:ByteArray} {s0 x0 f0 a0 s1 x1 f1 a1 s2 x2 f2 a2:D}
 (hl:hp[l]?=some (.cells [.d ar,.d (.list 10 [.agg [s0,.int .i64 t0,x0,f0,.int .i64 o0,.str p0,.str q0,.str m0,.int .i64 z0,a0],.agg [s1,.int .i64 t1,x1,f1,.int .i64 o1,.str p1,.str q1,.str m1,.int .i64 z1,a1],.agg [s2,.int .i64 t2,x2,f2,.int .i64 o2,.str p2,.str q2,.str m2,.int .i64 z2,a2]])] ro))
 (e0:CK 110 [.d s0] hp (.d (.int .i64 r0)) hp 0) (l0:1≤r0) (g0:r0≤16)
 (e1:CK 110 [.d s1] hp (.d (.int .i64 r1)) hp 0) (l1:1≤r1) (g1:r1≤16)
 (e2:CK 110 [.d s2] hp (.d (.int .i64 r2)) hp 0) (l2:1≤r2) (g2:r2≤16) (cs0:D.isCell s0=true) (cx0:D.isCell x0=true) (cf0:D.isCell f0=true) (ca0:D.isCell a0=true) (cs1:D.isCell s1=true) (cx1:D.isCell x1=true) (cf1:D.isCell f1=true) (ca1:D.isCell a1=true) (cs2:D.isCell s2=true) (cx2:D.isCell x2=true) (cf2:D.isCell f2=true) (ca2:D.isCell a2=true)
 : callL K (.fn (.func 176) [] []) [.ptr (.heap l) 0] none hp=some (.ret (.d (.int .i64 (r0+r1+r2))),false,hp,0):=by
 simp only [D.isCell] at cs0 cx0 cf0 ca0 cs1 cx1 cf1 ca1 cs2 cx2 cf2 ca2
 have hs0:wr .i64 (r0)=r0:=wrap_id (by omega) (by omega)
 have hs1:wr .i64 (r0+r1)=r0+r1:=wrap_id (by omega) (by omega)
 have hs2:wr .i64 (r0+r1+r2)=r0+r1+r2:=wrap_id (by omega) (by omega)
 rw [k176]
 simp [c176,x176_0,r176_0,x176_1,r176_1,x176_2,r176_2,x176_3,r176_3,x176_4,r176_4,x176_5,r176_5,x176_6,r176_6,x176_7,r176_7,execL_loop,u176_0,hl,hw1,hw2,hw3,e0,e1,e2,hs0,hs1,hs2,cs0,cx0,cf0,ca0,cs1,cx1,cf1,ca1,cs2,cx2,cf2,ca2]
end Mw
