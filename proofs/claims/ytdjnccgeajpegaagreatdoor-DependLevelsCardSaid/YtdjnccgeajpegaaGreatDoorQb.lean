/- DependLevels answers true for every list of numbers: its tied card holds; no condition beyond the card's own. -/
import Derived.Test.YtdjnccgeajpegaaGreatDoorXa
import Derived.Test.YtdjnccgeajpegaaGreatDoorQa
import Derived.Test.YtdjnccgeajpegaaGreatDoorXb
set_option linter.unusedVariables false
set_option linter.unusedSimpArgs false
set_option maxRecDepth 10000
set_option maxHeartbeats 1000000
namespace Mw
open Go Go.Proofs
theorem s242_1 (hp:List O) (c x a:Int) (hc0:0≤c) (hc:c≤10) (hx:x=0∨x=1∨x=-1) (ha1:1≤a) (ha:a≤4):callL K (.fn (.func 242) [] []) [.d (.agg [.int .i64 c,.list 1 [.int .i64 x]]),.d (.list 1 [.int .i64 a])] none hp=some (.ret (.tuple [.d (.int .i64 (c+loA [x] [a])),.d (.int .i64 (c+hiA [x] [a]))]),false,hp,0):=by
 have hb:-3≤x * (a - 1)∧x * (a - 1)≤3:=by rcases hx with rfl | rfl | rfl<;>omega
 have hw1:wr .i64 (a - 1)=a - 1:=wrap_id (by omega) (by omega)
 have hw2:wr .i64 (x * (a - 1))=x * (a - 1):=wrap_id (by omega) (by omega)
 have hw3:wr .i64 1=1:=wrap_id (by omega) (by omega)
 have hw4:∀ y:Int,-3≤y→y≤3→wr .i64 (c+y)=c+y:=fun y h1 h2=>wrap_id (by omega) (by omega)
 rw [k242]
 simp [c242,x242_0,x242_1,x242_2,x242_3,x242_4,x242_5,x242_6,x242_7,x242_8,execL_loop,u242_0,hw1,hw2,hw3]
 refine ⟨?_,?_⟩<;>(rw [wrap_id (by split<;>omega) (by split<;>omega)]; simp only [loA,hiA]; split<;>omega)
theorem s242_2 (hp:List O) (c x y a b:Int) (hc0:0≤c) (hc:c≤10) (hx:x=0∨x=1∨x=-1) (hy:y=0∨y=1∨y=-1) (ha1:1≤a) (ha:a≤4) (hb1:1≤b) (hb:b≤4):callL K (.fn (.func 242) [] []) [.d (.agg [.int .i64 c,.list 1 [.int .i64 x,.int .i64 y]]),.d (.list 1 [.int .i64 a,.int .i64 b])] none hp=some (.ret (.tuple [.d (.int .i64 (c+loA [x,y] [a,b])),.d (.int .i64 (c+hiA [x,y] [a,b]))]),false,hp,0):=by
 have hx':-3≤x * (a - 1)∧x * (a - 1)≤3:=by rcases hx with rfl | rfl | rfl<;>omega
 have hy':-3≤y * (b - 1)∧y * (b - 1)≤3:=by rcases hy with rfl | rfl | rfl<;>omega
 have hw1:wr .i64 (a - 1)=a - 1:=wrap_id (by omega) (by omega)
 have hw2:wr .i64 (x * (a - 1))=x * (a - 1):=wrap_id (by omega) (by omega)
 have hv1:wr .i64 (b - 1)=b - 1:=wrap_id (by omega) (by omega)
 have hv2:wr .i64 (y * (b - 1))=y * (b - 1):=wrap_id (by omega) (by omega)
 have hw3:wr .i64 1=1:=wrap_id (by omega) (by omega)
 have hw4:wr .i64 2=2:=wrap_id (by omega) (by omega)
 rw [k242]
 simp [c242,x242_0,x242_1,x242_2,x242_3,x242_4,x242_5,x242_6,x242_7,x242_8,execL_loop,u242_0,hw1,hw2,hw3,hw4,hv1,hv2]
 have hA:wr .i64 (c+if x * (a - 1) < 0 then x * (a - 1) else 0)=c+if x * (a - 1) < 0 then x * (a - 1) else 0:=wrap_id (by split<;>omega) (by split<;>omega)
 have hB:wr .i64 (c+if 0 < x * (a - 1) then x * (a - 1) else 0)=c+if 0 < x * (a - 1) then x * (a - 1) else 0:=wrap_id (by split<;>omega) (by split<;>omega)
 rw [hA,hB]
 refine ⟨?_,?_⟩<;>(rw [wrap_id (by split<;>split<;>omega) (by split<;>split<;>omega)]; simp only [loA,hiA]; split<;>split<;>omega)
theorem s242_0 (hp:List O) (c:Int):callL K (.fn (.func 242) [] []) [.d (.agg [.int .i64 c,.list 1 []]),.d .nils] none hp=some (.ret (.tuple [.d (.int .i64 (c+loA [] [])),.d (.int .i64 (c+hiA [] []))]),false,hp,0):=by
 rw [k242]
 simp [c242,x242_0,x242_1,x242_2,x242_3,x242_4,x242_5,x242_6,x242_7,x242_8,execL_loop,u242_0,loA,hiA]
theorem s242 (hp:List O) {c:Int} {cs ss:List Int} {size:Int} (h:AffOk c cs ss size) (hs:SzOk ss) (hz:size≤5):callL K (.fn (.func 242) [] []) [.d (.agg [.int .i64 c,.list 1 (ints cs)]),.d (szD ss)] none hp=some (.ret (.tuple [.d (.int .i64 (c+loA cs ss)),.d (.int .i64 (c+hiA cs ss))]),false,hp,0):=by
 have hA:=loA_nonpos cs ss
 have hB:=hiA_nonneg cs ss
 have h1:=h.lo
 have h2:=h.hi
 match ss,cs,h.len,h,hs with
 | [],[],_,h,hs=>exact s242_0 hp c
 | [a],[x],_,h,hs=>exact s242_1 hp c x a (by omega) (by omega) (h.coef x (by simp)) (hs.within a (by simp)).1 (hs.within a (by simp)).2
 | [a,b],[x,y],_,h,hs=>exact s242_2 hp c x y a b (by omega) (by omega) (h.coef x (by simp)) (h.coef y (by simp)) (hs.within a (by simp)).1 (hs.within a (by simp)).2 (hs.within b (by simp)).1 (hs.within b (by simp)).2
 | _ :: _ :: _ :: _,_,_,_,hs=>have:=hs.few; simp at this
theorem s240 (hp:List O) (a b:Nat) {i:Nat} {c:Int} {cs ss own:List Int} {ro ro':Bool} (ha:hp[a]?=some (.cells [.d (szD ss)] ro)) (hb:hp[b]?=some (.cells [.d (szD own)] ro')) (hs:SzOk ss) (hi:i < own.length) (h5:own[i]≤5) (h:AffOk c cs ss own[i]) :
  ∃ J w,callL K (.fn (.func 240) [] [.ptr (.heap a) 0,.ptr (.heap b) 0]) [.d (.int .i64 i),.d (.agg [.int .i64 c,.list 1 (ints cs)])] none hp=some (.ret (.d (.int .i64 0)),false,hp++J,w):=by
 have hA:=loA_nonpos cs ss
 have hB:=hiA_nonneg cs ss
 have h1:=h.lo
 have h2:=h.hi
 obtain ⟨J,w,e1⟩:=s241 hp (c:=c) h.len (by have:=hs.few; omega) ⟨by omega,by omega⟩ (fun x hx=>by rcases h.coef x hx with rfl | rfl | rfl<;>omega)
 have e2:=s242 (hp++J) h hs h5
 have ha':(hp++J)[a]?=some (.cells [.d (szD ss)] ro):=by rw [List.getElem?_append_left (gS.1 ha).1]; exact ha
 have hb':(hp++J)[b]?=some (.cells [.d (szD own)] ro'):=by rw [List.getElem?_append_left (gS.1 hb).1]; exact hb
 have e:=k240 [] [.ptr (.heap a) 0,.ptr (.heap b) 0] [.d (.int .i64 i),.d (.agg [.int .i64 c,.list 1 (ints cs)])] none hp
 have h3:¬ (c+loA cs ss < 0):=by omega
 have h4:¬ (own[i]≤c+hiA cs ss):=by omega
 obtain ⟨o,os,rfl⟩:∃ o os,own=o :: os:=by
  cases own with
  | nil=>simp at hi
  | cons o os=>exact ⟨o,os,rfl⟩
 have e0:(ints (o :: os))[i]?=some (.int .i64 (o :: os)[i]):=ints_get hi
 rw [ints_cons] at e0
 simp only [szD_cons] at hb hb'
 simp [c240,x240_0,x240_1,x240_2,x240_3,x240_4,x240_5,x240_6,x240_7,ha,hb,ha',hb',e0,e1,e2,h3,h4] at e
 exact ⟨_,_,e⟩
theorem s239 (hp:List O) (a b:Nat) {ss own:List Int} {ro ro':Bool} (ha:hp[a]?=some (.cells [.d (szD ss)] ro)) (hb:hp[b]?=some (.cells [.d (szD own)] ro')) (hs:SzOk ss) (x:List (Int × List Int)) (hx:x.length=own.length) (h2:own.length≤2) (h5:∀ s∈own,s≤5)
  (h:∀ i (h:i < x.length) (h':i < own.length),AffOk x[i].1 x[i].2 ss own[i]) :
  ∃ J w,callL K (.fn (.func 239) [] []) [.d (atD x),.fn (.func 240) [] [.ptr (.heap a) 0,.ptr (.heap b) 0]] none hp=some (.ret (.d (.int .i64 0)),false,hp++J,w):=by
 have e:=k239 [] [] [.d (atD x),.fn (.func 240) [] [.ptr (.heap a) 0,.ptr (.heap b) 0]] none hp
 match x,own,hx,h2,hb,h5,h with
 | [],[],_,_,hb,h5,h =>
  simp [c239,x239_0,x239_1,x239_2,x239_3,x239_4,x239_5,x239_6,x239_7,x239_8,execL_loop,u239_0,atD] at e
  exact ⟨[],_,by simpa [atD] using e⟩
 | [p],[s],_,_,hb,h5,h =>
  obtain ⟨J,w,e1⟩:=s240 hp a b (i:=0) ha hb hs (by simp) (h5 _ (by simp)) (h 0 (by simp) (by simp))
  simp only [List.getElem_cons_zero,show ((0:Nat):Int)=0 from rfl] at e1
  simp [c239,x239_0,x239_1,x239_2,x239_3,x239_4,x239_5,x239_6,x239_7,x239_8,execL_loop,u239_0,atD,encA,hw1,e1] at e
  exact ⟨J,_,by simpa [atD,encA] using e⟩
 | [p,q],[s,t],_,_,hb,h5,h =>
  obtain ⟨J,w,e1⟩:=s240 hp a b (i:=0) ha hb hs (by simp) (h5 _ (by simp)) (h 0 (by simp) (by simp))
  have ha':(hp++J)[a]?=some (.cells [.d (szD ss)] ro):=by rw [List.getElem?_append_left (gS.1 ha).1]; exact ha
  have hb':(hp++J)[b]?=some (.cells [.d (szD [s,t])] ro'):=by rw [List.getElem?_append_left (gS.1 hb).1]; exact hb
  obtain ⟨J2,w2,e2⟩:=s240 (hp++J) a b (i:=1) ha' hb' hs (by simp) (h5 _ (by simp)) (h 1 (by simp) (by simp))
  simp only [List.getElem_cons_zero,List.getElem_cons_succ,show ((0:Nat):Int)=0 from rfl,show ((1:Nat):Int)=1 from rfl] at e1 e2
  simp [c239,x239_0,x239_1,x239_2,x239_3,x239_4,x239_5,x239_6,x239_7,x239_8,execL_loop,u239_0,atD,encA,hw1,hw2,e1,e2] at e
  exact ⟨J++J2,_,by simpa [atD,encA] using e⟩
 | _ :: _ :: _ :: _,_ :: _ :: _ :: _,_,h2,_,_,_=>simp at h2
theorem szD_nil:szD []=.nils:=rfl
theorem s238 (hp:List O) (x:List (Int × List Int)) (n:Int) (h:(x.length:Int)=n):callL K (.fn (.func 238) [] []) [.d (atD x),.d (.int .i64 n)] none hp=some (.ret (.d (.int .i64 0)),false,hp,0):=by
 rw [k238]
 cases x with
 | nil =>
  simp at h
  simp [c238,x238_0,x238_1,x238_2,x238_3,x238_4,x238_5,atD,← h]
 | cons p x =>
  simp at h
  simp [c238,x238_0,x238_1,x238_2,x238_3,x238_4,x238_5,atD,← h]
theorem sizesOf_le (n:Nat):(sizesOf n).length≤2∧∀ s∈sizesOf n,s≤5:=by
 match n with
 | 0=>simp [sizesOf]
 | 1=>simp [sizesOf]
 | _+2=>simp [sizesOf]
theorem s208 (hp:List O) {n:Nat} {x:List (Int × List Int)} {ss:List Int} (st:D) (hst:st.isCell=true) (hs:SzOk ss) (h:CellOk n x ss) :
  ∃ J w,callL K (.fn (.func 208) [] []) [.d (.agg [.list 2 arrsD,st]),.d (encC n x),.d (szD ss)] none hp=some (.ret (.d (.int .i64 0)),false,hp++J,w):=by
 have e:=k208 [] [] [.d (.agg [.list 2 arrsD,st]),.d (encC n x),.d (szD ss)] none hp
 have hal:arrsD.length=3:=rfl
 have hw:wr .i64 2=2:=wrap_id (by omega) (by omega)
 have hx:(atD x).isCell=true:=by cases x<;>rfl
 have hz:(szD ss).isCell=true:=by cases ss<;>rfl
 have hz2:(szD ss).cells=[szD ss]:=by cases ss<;>rfl
 simp only [D.isCell] at hst hx hz
 simp only [D.cells] at hz2
 obtain ⟨J,w,e1⟩:=s239 (hp++[.cells [.d (szD ss)] false,.cells [.d (szD (sizesOf n))] false]) hp.length (hp.length+1) (ss:=ss) (own:=sizesOf n) (ro:=false) (ro':=false) (by simp) (by simp) hs x h.len (sizesOf_le n).1 (sizesOf_le n).2 h.ok
 have e2:=fun (hp:List O) (m:Int) (hm:(x.length:Int)=m)=>s238 hp x m hm
 have e3:=s109 hp n 0 2 (by omega) (by have:=h.arr; omega)
 have hlen:=h.len
 match n,h.arr with
 | 0,_ =>
  have e4:=fun hp=>s238 hp x 1 (by rw [hlen]; rfl)
  have e3':=fun hp:List O=>s109 hp 0 0 2 (by omega) (by omega)
  simp only [sizesOf,szD_nil,szD_cons,ints_cons,ints_nil] at e1
  simp [c208,x208_0,x208_1,x208_2,x208_3,x208_4,x208_5,x208_6,x208_7,encC,arrsD,hst,hx,hz,hz2,hw,e3',e4,e1] at e
  exact ⟨_,_,e⟩
 | 1,_ =>
  have e4:=fun hp=>s238 hp x 2 (by rw [hlen]; rfl)
  have e3':=fun hp:List O=>s109 hp 1 0 2 (by omega) (by omega)
  simp only [sizesOf,szD_nil,szD_cons,ints_cons,ints_nil] at e1
  simp [c208,x208_0,x208_1,x208_2,x208_3,x208_4,x208_5,x208_6,x208_7,encC,arrsD,hst,hx,hz,hz2,hw,e3',e4,e1] at e
  exact ⟨_,_,e⟩
 | 2,_ =>
  have e4:=fun hp=>s238 hp x 0 (by rw [hlen]; rfl)
  have e3':=fun hp:List O=>s109 hp 2 0 2 (by omega) (by omega)
  simp only [sizesOf,szD_nil,szD_cons,ints_cons,ints_nil] at e1
  simp [c208,x208_0,x208_1,x208_2,x208_3,x208_4,x208_5,x208_6,x208_7,encC,arrsD,hst,hx,hz,hz2,hw,e3',e4,e1] at e
  exact ⟨_,_,e⟩
theorem p243_0 {h0:List O}  {pa pb:Loc}
 (hpa:pa.isHeap=true) (hpb:pb.isHeap=true):∃ w,callL K (.fn (.func 243) [] []) [.d (.nils),.fn (.func 244) [] [.ptr pa 0,.ptr pb 0]] none h0=some (.ret (.d (.int .i64 0)),false,h0,w):=by
 simp only [Loc.isHeap] at hpa hpb
 have e:=k243 [] [] [.d (.nils),.fn (.func 244) [] [.ptr pa 0,.ptr pb 0]] none h0
 simp [c243,x243_0,x243_1,x243_2,x243_3,x243_4,x243_5,x243_6,x243_7,x243_8,execL_loop,u243_0,hw1,hw2,hw3,hpa,hpb] at e
 exact ⟨_,e⟩
theorem p243_1 {h0 h1:List O} {w1:Nat} {o0 z0:Int} {p0 q0 m0:ByteArray} {a0:D}  {pa pb:Loc}
 (e0:callL K (.fn (.func 244) [] [.ptr pa 0,.ptr pb 0]) [.d (.int .i64 0),.d (.agg [.int .i64 o0,.str p0,.str q0,.str m0,.int .i64 z0,a0])] none h0=some (.ret (.d (.int .i64 0)),false,h1,w1)) (ca0:D.isCell a0=true)
 (hpa:pa.isHeap=true) (hpb:pb.isHeap=true):∃ w,callL K (.fn (.func 243) [] []) [.d (.list 6 [.agg [.int .i64 o0,.str p0,.str q0,.str m0,.int .i64 z0,a0]]),.fn (.func 244) [] [.ptr pa 0,.ptr pb 0]] none h0=some (.ret (.d (.int .i64 0)),false,h1,w):=by
 simp only [Loc.isHeap] at hpa hpb
 simp only [D.isCell] at ca0
 have e:=k243 [] [] [.d (.list 6 [.agg [.int .i64 o0,.str p0,.str q0,.str m0,.int .i64 z0,a0]]),.fn (.func 244) [] [.ptr pa 0,.ptr pb 0]] none h0
 simp [c243,x243_0,x243_1,x243_2,x243_3,x243_4,x243_5,x243_6,x243_7,x243_8,execL_loop,u243_0,hw1,hw2,hw3,hpa,hpb,e0,ca0] at e
 exact ⟨_,e⟩
theorem p243_2 {h0 h1 h2:List O} {w1 w2:Nat} {o0 z0 o1 z1:Int} {p0 q0 m0 p1 q1 m1:ByteArray} {a0 a1:D}  {pa pb:Loc}
 (e0:callL K (.fn (.func 244) [] [.ptr pa 0,.ptr pb 0]) [.d (.int .i64 0),.d (.agg [.int .i64 o0,.str p0,.str q0,.str m0,.int .i64 z0,a0])] none h0=some (.ret (.d (.int .i64 0)),false,h1,w1))
 (e1:callL K (.fn (.func 244) [] [.ptr pa 0,.ptr pb 0]) [.d (.int .i64 1),.d (.agg [.int .i64 o1,.str p1,.str q1,.str m1,.int .i64 z1,a1])] none h1=some (.ret (.d (.int .i64 0)),false,h2,w2)) (ca0:D.isCell a0=true) (ca1:D.isCell a1=true)
 (hpa:pa.isHeap=true) (hpb:pb.isHeap=true):∃ w,callL K (.fn (.func 243) [] []) [.d (.list 6 [.agg [.int .i64 o0,.str p0,.str q0,.str m0,.int .i64 z0,a0],.agg [.int .i64 o1,.str p1,.str q1,.str m1,.int .i64 z1,a1]]),.fn (.func 244) [] [.ptr pa 0,.ptr pb 0]] none h0=some (.ret (.d (.int .i64 0)),false,h2,w):=by
 simp only [Loc.isHeap] at hpa hpb
 simp only [D.isCell] at ca0 ca1
 have e:=k243 [] [] [.d (.list 6 [.agg [.int .i64 o0,.str p0,.str q0,.str m0,.int .i64 z0,a0],.agg [.int .i64 o1,.str p1,.str q1,.str m1,.int .i64 z1,a1]]),.fn (.func 244) [] [.ptr pa 0,.ptr pb 0]] none h0
 simp [c243,x243_0,x243_1,x243_2,x243_3,x243_4,x243_5,x243_6,x243_7,x243_8,execL_loop,u243_0,hw1,hw2,hw3,hpa,hpb,e0,e1,ca0,ca1] at e
 exact ⟨_,e⟩
def exD (op:Int) (p q name:ByteArray) (size:Int) (args:D):D:=.agg [.int .i64 op,.str p,.str q,.str name,.int .i64 size,args]
def IsArgs (a:D):Prop:=a=.nils∨∃ l,a=.list 6 l
def e0:ByteArray:=⟨#[]⟩
def twoD (op:Int) (a b:D):D:=exD op e0 e0 e0 0 (.list 6 [a,b])
def refD (n:ByteArray):D:=exD 1 e0 e0 n 0 .nils
def litD (p q:ByteArray):D:=exD 0 p q e0 0 .nils
theorem s113 (hp:List O) (op:Int) (o1 o2:Int) (p1 q1 n1 p2 q2 n2:ByteArray) (z1 z2:Int) (a1 a2:D) (h1:IsArgs a1) (h2:IsArgs a2):callL K (.fn (.func 113) [] []) [.d (.int .i64 op),.d (exD o1 p1 q1 n1 z1 a1),.d (exD o2 p2 q2 n2 z2 a2)] none hp=some (.ret (.d (twoD op (exD o1 p1 q1 n1 z1 a1) (exD o2 p2 q2 n2 z2 a2))),false,hp,0):=by
 rw [k113]
 rcases h1 with rfl | ⟨l1,rfl⟩<;>rcases h2 with rfl | ⟨l2,rfl⟩<;>simp [c113,x113_0,x113_1,exD,twoD,e0]
theorem s114 (hp:List O) (n:ByteArray):callL K (.fn (.func 114) [] []) [.d (.str n)] none hp=some (.ret (.d (refD n)),false,hp,0):=by
 rw [k114]
 simp [c114,x114_0,x114_1,exD,refD,e0]
theorem s187 (hp:List O) (p q:ByteArray):callL K (.fn (.func 187) [] []) [.d (.agg [.str p,.str q])] none hp=some (.ret (.d (litD p q)),false,hp,0):=by
 rw [k187]
 simp [c187,x187_0,x187_1,exD,litD,e0]
theorem s146 (hp:List O) (xs:List Int) (h:xs.length≤1000):callL K (.fn (.func 146) [] []) [.d (.list 1 (ints xs))] none hp=some (.ret (.d (.list 1 (ints xs))),false,hp,0):=by
 rw [k146]
 cases xs with
 | nil=>simp [c146,x146_0,x146_1]
 | cons x xs =>
  have h1:xs.length+1≤4294967296:=by simp at h; omega
  have h2:(xs.length+1) * 8≤4294967296:=by simp at h; omega
  have h3:(ints xs).take xs.length=ints xs:=by rw [List.take_of_length_le]; simp
  simp [c146,x146_0,x146_1,h1,h2,List.take_succ_cons]
def rn:Nat→ByteArray
 | 0=>⟨#[114,48]⟩
 | 1=>⟨#[114,49]⟩
 | _=>⟨#[114,50]⟩
def inm:Nat→ByteArray
 | 0=>⟨#[105,48]⟩
 | _=>⟨#[105,49]⟩
def lits:List (ByteArray × ByteArray):=[(⟨#[48]⟩,⟨#[49]⟩),(⟨#[49]⟩,⟨#[49]⟩),(⟨#[50]⟩,⟨#[49]⟩),(⟨#[51]⟩,⟨#[49]⟩),(⟨#[52]⟩,⟨#[49]⟩),(⟨#[53]⟩,⟨#[49]⟩),(⟨#[49]⟩,⟨#[50]⟩),(⟨#[49]⟩,⟨#[51]⟩),(⟨#[50]⟩,⟨#[51]⟩)]
def negD (a:D):D:=exD 2 e0 e0 e0 0 (.list 6 [a])
inductive BodyD (cells loops:Nat):Nat→D→Prop
 | lit {p q:ByteArray} (h:(p,q)∈lits) (n:Nat):BodyD cells loops n (litD p q)
 | ref {k:Nat} (h:k < cells) (n:Nat):BodyD cells loops n (refD (rn k))
 | ind {k:Nat} (h:k < loops) (n:Nat):BodyD cells loops n (refD (inm k))
 | two {op:Int} {n:Nat} {a b:D} (h:op=3∨op=4∨op=5∨op=6) (ha:BodyD cells loops n a) (hb:BodyD cells loops n b):BodyD cells loops (n+1) (twoD op a b)
 | neg {n:Nat} {a:D} (ha:BodyD cells loops n a):BodyD cells loops (n+1) (negD a)
theorem BodyD.up {c l n m:Nat} {d:D} (h:BodyD c l n d) (hm:n≤m):BodyD c l m d:=by
 induction h generalizing m with
 | lit h=>exact .lit h m
 | ref h=>exact .ref h m
 | ind h=>exact .ind h m
 | two h _ _ iha ihb =>
  obtain ⟨j,rfl⟩:∃ j,m=j+1:=⟨m - 1,by omega⟩
  exact .two h (iha (by omega)) (ihb (by omega))
 | neg _ iha =>
  obtain ⟨j,rfl⟩:∃ j,m=j+1:=⟨m - 1,by omega⟩
  exact .neg (iha (by omega))
theorem BodyD.form {c l n:Nat} {d:D} (h:BodyD c l n d):∃ o p q m z a,d=exD o p q m z a∧IsArgs a:=by
 cases h with
 | lit h=>exact ⟨_,_,_,_,_,_,rfl,.inl rfl⟩
 | ref h=>exact ⟨_,_,_,_,_,_,rfl,.inl rfl⟩
 | ind h=>exact ⟨_,_,_,_,_,_,rfl,.inl rfl⟩
 | two h _ _=>exact ⟨_,_,_,_,_,_,rfl,.inr ⟨_,rfl⟩⟩
 | neg _=>exact ⟨_,_,_,_,_,_,rfl,.inr ⟨_,rfl⟩⟩
def exO (d:D):O:=.cells (d.cells.map .d) false
theorem c188 {p q:Int} (h:(q=1∧0≤p∧p≤5)∨(1≤p∧p≤2∧1≤q∧q≤3)) (hp:List O):∃ a b,callL K (.fn (.func 188) [] []) [.d (.int .i64 p),.d (.int .i64 q)] none hp=some (.ret (.d (.agg [.str a,.str b])),false,hp,0)∧(a,b)∈lits:=by
 have key:(p=0∧q=1)∨(p=1∧q=1)∨(p=2∧q=1)∨(p=3∧q=1)∨(p=4∧q=1)∨(p=5∧q=1)∨(p=1∧q=2)∨(p=1∧q=3)∨(p=2∧q=2)∨(p=2∧q=3):=by omega
 rcases key with ⟨rfl,rfl⟩ | ⟨rfl,rfl⟩ | ⟨rfl,rfl⟩ | ⟨rfl,rfl⟩ | ⟨rfl,rfl⟩ | ⟨rfl,rfl⟩ | ⟨rfl,rfl⟩ | ⟨rfl,rfl⟩ | ⟨rfl,rfl⟩ | ⟨rfl,rfl⟩
 ·exact ⟨_,_,kc188_1 hp,by simp [lits]⟩
 ·exact ⟨_,_,kc188_2 hp,by simp [lits]⟩
 ·exact ⟨_,_,kc188_3 hp,by simp [lits]⟩
 ·exact ⟨_,_,kc188_4 hp,by simp [lits]⟩
 ·exact ⟨_,_,kc188_5 hp,by simp [lits]⟩
 ·exact ⟨_,_,kc188_6 hp,by simp [lits]⟩
 ·exact ⟨_,_,kc188_7 hp,by simp [lits]⟩
 ·exact ⟨_,_,kc188_8 hp,by simp [lits]⟩
 ·exact ⟨_,_,kc188_9 hp,by simp [lits]⟩
 ·exact ⟨_,_,kc188_10 hp,by simp [lits]⟩
theorem s236 (hp:List O) (e:Int):callL K (.fn (.func 236) [] []) [.d (.bool false),.d (.int .i64 e)] none hp=some (.ret (.tuple []),false,hp,0):=by
 rw [k236]
 simp [c236,x236_0,x236_1]
theorem s264 (hp:List O) (n lo hi:Int) (h1:lo≤n) (h2:n≤hi):callL K (.fn (.func 264) [] []) [.d (.int .i64 n),.d (.int .i64 lo),.d (.int .i64 hi)] none hp=some (.ret (.d (.bool true)),false,hp,0):=by
 rw [k264]
 simp [c264,x264_0,x264_1,h1,h2]
theorem s265_0 (hp:List O):callL K (.fn (.func 265) [] []) [.d (.int .i64 0)] none hp=some (.ret (.d (.agg [.int .i64 0,.int .i64 0])),false,hp,0):=by
 rw [k265]
 simp [c265,x265_0,x265_1,x265_2,x265_3,x265_4,x265_5,x265_6,x265_7,x265_8,x265_9,x265_10,x265_11,x265_12,x265_13,x265_14,x265_15,x265_16,x265_17,x265_18,x265_19]
theorem s269_0 (hp:List O):callL K (.fn (.func 269) [] []) [.d (.int .i64 0)] none hp=some (.ret (.d (.agg [.int .i64 0,.int .i64 0])),false,hp,0):=by
 rw [k269]
 simp [c269,x269_0,x269_1,x269_2,x269_3,x269_4,x269_5,x269_6,x269_7]
theorem s265_1 (hp:List O):callL K (.fn (.func 265) [] []) [.d (.int .i64 1)] none hp=some (.ret (.d (.agg [.int .i64 0,.int .i64 0])),false,hp,0):=by
 rw [k265]
 simp [c265,x265_0,x265_1,x265_2,x265_3,x265_4,x265_5,x265_6,x265_7,x265_8,x265_9,x265_10,x265_11,x265_12,x265_13,x265_14,x265_15,x265_16,x265_17,x265_18,x265_19]
theorem s269_1 (hp:List O):callL K (.fn (.func 269) [] []) [.d (.int .i64 1)] none hp=some (.ret (.d (.agg [.int .i64 0,.int .i64 0])),false,hp,0):=by
 rw [k269]
 simp [c269,x269_0,x269_1,x269_2,x269_3,x269_4,x269_5,x269_6,x269_7]
theorem s265_2 (hp:List O):callL K (.fn (.func 265) [] []) [.d (.int .i64 2)] none hp=some (.ret (.d (.agg [.int .i64 1,.int .i64 1])),false,hp,0):=by
 rw [k265]
 simp [c265,x265_0,x265_1,x265_2,x265_3,x265_4,x265_5,x265_6,x265_7,x265_8,x265_9,x265_10,x265_11,x265_12,x265_13,x265_14,x265_15,x265_16,x265_17,x265_18,x265_19]
theorem s269_2 (hp:List O):callL K (.fn (.func 269) [] []) [.d (.int .i64 2)] none hp=some (.ret (.d (.agg [.int .i64 0,.int .i64 0])),false,hp,0):=by
 rw [k269]
 simp [c269,x269_0,x269_1,x269_2,x269_3,x269_4,x269_5,x269_6,x269_7]
theorem s265_3 (hp:List O):callL K (.fn (.func 265) [] []) [.d (.int .i64 3)] none hp=some (.ret (.d (.agg [.int .i64 2,.int .i64 2])),false,hp,0):=by
 rw [k265]
 simp [c265,x265_0,x265_1,x265_2,x265_3,x265_4,x265_5,x265_6,x265_7,x265_8,x265_9,x265_10,x265_11,x265_12,x265_13,x265_14,x265_15,x265_16,x265_17,x265_18,x265_19]
theorem s269_3 (hp:List O):callL K (.fn (.func 269) [] []) [.d (.int .i64 3)] none hp=some (.ret (.d (.agg [.int .i64 0,.int .i64 0])),false,hp,0):=by
 rw [k269]
 simp [c269,x269_0,x269_1,x269_2,x269_3,x269_4,x269_5,x269_6,x269_7]
theorem s265_4 (hp:List O):callL K (.fn (.func 265) [] []) [.d (.int .i64 4)] none hp=some (.ret (.d (.agg [.int .i64 2,.int .i64 2])),false,hp,0):=by
 rw [k265]
 simp [c265,x265_0,x265_1,x265_2,x265_3,x265_4,x265_5,x265_6,x265_7,x265_8,x265_9,x265_10,x265_11,x265_12,x265_13,x265_14,x265_15,x265_16,x265_17,x265_18,x265_19]
theorem s269_4 (hp:List O):callL K (.fn (.func 269) [] []) [.d (.int .i64 4)] none hp=some (.ret (.d (.agg [.int .i64 0,.int .i64 0])),false,hp,0):=by
 rw [k269]
 simp [c269,x269_0,x269_1,x269_2,x269_3,x269_4,x269_5,x269_6,x269_7]
theorem s265_5 (hp:List O):callL K (.fn (.func 265) [] []) [.d (.int .i64 5)] none hp=some (.ret (.d (.agg [.int .i64 2,.int .i64 2])),false,hp,0):=by
 rw [k265]
 simp [c265,x265_0,x265_1,x265_2,x265_3,x265_4,x265_5,x265_6,x265_7,x265_8,x265_9,x265_10,x265_11,x265_12,x265_13,x265_14,x265_15,x265_16,x265_17,x265_18,x265_19]
theorem s269_5 (hp:List O):callL K (.fn (.func 269) [] []) [.d (.int .i64 5)] none hp=some (.ret (.d (.agg [.int .i64 0,.int .i64 0])),false,hp,0):=by
 rw [k269]
 simp [c269,x269_0,x269_1,x269_2,x269_3,x269_4,x269_5,x269_6,x269_7]
theorem s265_6 (hp:List O):callL K (.fn (.func 265) [] []) [.d (.int .i64 6)] none hp=some (.ret (.d (.agg [.int .i64 2,.int .i64 2])),false,hp,0):=by
 rw [k265]
 simp [c265,x265_0,x265_1,x265_2,x265_3,x265_4,x265_5,x265_6,x265_7,x265_8,x265_9,x265_10,x265_11,x265_12,x265_13,x265_14,x265_15,x265_16,x265_17,x265_18,x265_19]
theorem s269_6 (hp:List O):callL K (.fn (.func 269) [] []) [.d (.int .i64 6)] none hp=some (.ret (.d (.agg [.int .i64 0,.int .i64 0])),false,hp,0):=by
 rw [k269]
 simp [c269,x269_0,x269_1,x269_2,x269_3,x269_4,x269_5,x269_6,x269_7]
theorem eg309:K.P.eqGuardType K.P.depth 309=false:=by kernel_rfl
theorem eg42:K.P.eqGuardType K.P.depth 42=false:=by kernel_rfl
theorem sh42:K.P.stoodInHeld 42=false:=by kernel_rfl
theorem lit_facts {p q:ByteArray} (h:(p,q)∈lits):(∀ hp,callL K (.fn (.func 266) [] []) [.d (.agg [.str p,.str q])] none hp=some (.ret (.d (.int .i64 0)),false,hp,0))∧∃ b:UInt8,p.data[0]?=some b∧¬ ((b.toNat:Int)=45):=by
 simp only [lits,List.mem_cons,List.mem_nil_iff,or_false,Prod.mk.injEq] at h
 rcases h with ⟨rfl,rfl⟩ | ⟨rfl,rfl⟩ | ⟨rfl,rfl⟩ | ⟨rfl,rfl⟩ | ⟨rfl,rfl⟩ | ⟨rfl,rfl⟩ | ⟨rfl,rfl⟩ | ⟨rfl,rfl⟩ | ⟨rfl,rfl⟩
 all_goals exact ⟨fun hp=>by simp,_,rfl,by decide⟩
theorem s237_lit (hp:List O) {p q:ByteArray} (h:(p,q)∈lits):callL K (.fn (.func 237) [] []) [.d (litD p q)] none hp=some (.ret (.tuple []),false,hp,0):=by
 have e1:=fun hp e=>s236 hp e
 have e2:=fun hp=>s264 hp 0 0 14 (by omega) (by omega)
 have e3:=fun hp=>s264 hp 0 0 0 (by omega) (by omega)
 obtain ⟨e4,b,e5,e6⟩:=lit_facts h
 rw [k237]
 simp [c237,x237_0,x237_1,x237_2,x237_3,x237_4,x237_5,x237_6,x237_7,x237_8,x237_9,x237_10,x237_11,x237_12,x237_13,x237_14,x237_15,x237_16,x237_17,x237_18,x237_19,x237_20,x237_21,x237_22,x237_23,litD,exD,e0,e1,e2,e3,e4,e5,e6,s265_0,s269_0,binStr,eg309,eg42,sh42]
theorem s237_ref (hp:List O) {n:ByteArray} (h:∀ hp,callL K (.fn (.func 268) [] []) [.d (.str n)] none hp=some (.ret (.d (.bool true)),false,hp,0)):callL K (.fn (.func 237) [] []) [.d (refD n)] none hp=some (.ret (.tuple []),false,hp,0):=by
 have e1:=fun hp e=>s236 hp e
 have e2:=fun hp=>s264 hp 1 0 14 (by omega) (by omega)
 have e3:=fun hp=>s264 hp 0 0 0 (by omega) (by omega)
 rw [k237]
 simp [c237,x237_0,x237_1,x237_2,x237_3,x237_4,x237_5,x237_6,x237_7,x237_8,x237_9,x237_10,x237_11,x237_12,x237_13,x237_14,x237_15,x237_16,x237_17,x237_18,x237_19,x237_20,x237_21,x237_22,x237_23,refD,exD,e0,e1,e2,e3,h,s265_1,s269_1,binStr,eg309,eg42,sh42]
theorem s237_neg (hp:List O) (a:D):callL K (.fn (.func 237) [] []) [.d (negD a)] none hp=some (.ret (.tuple []),false,hp,0):=by
 have e1:=fun hp e=>s236 hp e
 have e2:=fun hp=>s264 hp 2 0 14 (by omega) (by omega)
 have e3:=fun hp=>s264 hp 0 0 0 (by omega) (by omega)
 rw [k237]
 simp [c237,x237_0,x237_1,x237_2,x237_3,x237_4,x237_5,x237_6,x237_7,x237_8,x237_9,x237_10,x237_11,x237_12,x237_13,x237_14,x237_15,x237_16,x237_17,x237_18,x237_19,x237_20,x237_21,x237_22,x237_23,negD,exD,e0,e1,e2,e3,s265_2,s269_2,binStr,eg309,eg42,sh42]
theorem s237_two (hp:List O) (op:Int) (hop:op=3∨op=4∨op=5∨op=6) (a b:D):callL K (.fn (.func 237) [] []) [.d (twoD op a b)] none hp=some (.ret (.tuple []),false,hp,0):=by
 have e1:=fun hp e=>s236 hp e
 have e2:=fun hp=>s264 hp op 0 14 (by omega) (by omega)
 have e3:=fun hp=>s264 hp 0 0 0 (by omega) (by omega)
 rw [k237]
 rcases hop with rfl | rfl | rfl | rfl
 all_goals
  simp [c237,x237_0,x237_1,x237_2,x237_3,x237_4,x237_5,x237_6,x237_7,x237_8,x237_9,x237_10,x237_11,x237_12,x237_13,x237_14,x237_15,x237_16,x237_17,x237_18,x237_19,x237_20,x237_21,x237_22,x237_23,twoD,exD,e0,e1,e2,e3,s265_3,s269_3,s265_4,s269_4,s265_5,s269_5,s265_6,s269_6,binStr,eg309,eg42,sh42]
theorem rn_name (k:Nat) (hp:List O):callL K (.fn (.func 268) [] []) [.d (.str (rn k))] none hp=some (.ret (.d (.bool true)),false,hp,0):=by
 match k with
 | 0=>simp [rn]
 | 1=>simp [rn]
 | _+2=>simp [rn]
theorem inm_name (k:Nat) (hp:List O):callL K (.fn (.func 268) [] []) [.d (.str (inm k))] none hp=some (.ret (.d (.bool true)),false,hp,0):=by
 match k with
 | 0=>simp [inm]
 | _+1=>simp [inm]
theorem s205 {c l n:Nat} {d:D} (h:BodyD c l n d):∀ (hp:List O) (m:Int),0≤m→m+n≤20→callL K (.fn (.func 205) [] []) [.d d,.d (.int .i64 m)] none hp=some (.ret (.tuple []),false,hp,0):=by
 induction h with
 | @lit p q h n =>
  intro hp m h0 h1
  have e1:=fun hp=>s237_lit hp h
  have e2:=fun hp=>s236 hp 7
  have h3:¬ ((30:Int)≤m):=by omega
  rw [k205]
  simp only [litD,exD,e0] at e1
  simp [c205,x205_0,x205_1,x205_2,x205_3,x205_4,x205_5,x205_6,x205_7,execL_loop,u205_0,litD,exD,e0,e1,e2,h3]
 | @ref k h n =>
  intro hp m h0 h1
  have e1:=fun hp=>s237_ref hp (rn_name k)
  have e2:=fun hp=>s236 hp 7
  have h3:¬ ((30:Int)≤m):=by omega
  rw [k205]
  simp only [refD,exD,e0] at e1
  simp [c205,x205_0,x205_1,x205_2,x205_3,x205_4,x205_5,x205_6,x205_7,execL_loop,u205_0,refD,exD,e0,e1,e2,h3]
 | @ind k h n =>
  intro hp m h0 h1
  have e1:=fun hp=>s237_ref hp (inm_name k)
  have e2:=fun hp=>s236 hp 7
  have h3:¬ ((30:Int)≤m):=by omega
  rw [k205]
  simp only [refD,exD,e0] at e1
  simp [c205,x205_0,x205_1,x205_2,x205_3,x205_4,x205_5,x205_6,x205_7,execL_loop,u205_0,refD,exD,e0,e1,e2,h3]
 | @two op n a b hop ha hb iha ihb =>
  intro hp m h0 h1
  have e1:=fun hp=>s237_two hp op hop a b
  have e2:=fun hp=>s236 hp 7
  have h3:¬ ((30:Int)≤m):=by omega
  have hw:wr .i64 (m+1)=m+1:=wrap_id (by omega) (by omega)
  have e3:=fun hp=>iha hp (m+1) (by omega) (by omega)
  have e4:=fun hp=>ihb hp (m+1) (by omega) (by omega)
  obtain ⟨o1,p1,q1,n1,z1,a1,rfl,i1⟩:=ha.form
  obtain ⟨o2,p2,q2,n2,z2,a2,rfl,i2⟩:=hb.form
  have c1:a1.isCell=true:=by rcases i1 with rfl | ⟨l,rfl⟩<;>rfl
  have c2:a2.isCell=true:=by rcases i2 with rfl | ⟨l,rfl⟩<;>rfl
  simp only [D.isCell] at c1 c2
  rw [k205]
  simp only [twoD,exD,e0] at e1 e3 e4
  simp [c205,x205_0,x205_1,x205_2,x205_3,x205_4,x205_5,x205_6,x205_7,execL_loop,u205_0,twoD,exD,e0,e1,e2,e3,e4,h3,hw,hw1,hw2,c1,c2]
 | @neg n a ha iha =>
  intro hp m h0 h1
  have e1:=fun hp=>s237_neg hp a
  have e2:=fun hp=>s236 hp 7
  have h3:¬ ((30:Int)≤m):=by omega
  have hw:wr .i64 (m+1)=m+1:=wrap_id (by omega) (by omega)
  have e3:=fun hp=>iha hp (m+1) (by omega) (by omega)
  obtain ⟨o1,p1,q1,n1,z1,a1,rfl,i1⟩:=ha.form
  have c1:a1.isCell=true:=by rcases i1 with rfl | ⟨l,rfl⟩<;>rfl
  simp only [D.isCell] at c1
  rw [k205]
  simp only [negD,exD,e0] at e1 e3
  simp [c205,x205_0,x205_1,x205_2,x205_3,x205_4,x205_5,x205_6,x205_7,execL_loop,u205_0,negD,exD,e0,e1,e2,e3,h3,hw,hw1,c1]
theorem s204 (hp:List O):callL K (.fn (.func 204) [] []) [.d .nili] none hp=some (.ret (.d (.int .i64 0)),false,hp,0):=by
 obtain ⟨u,hu⟩:∃ u,K.P.underlying 271=some u:=Option.isSome_iff_exists.1 (by kernel_rfl)
 have hz:zeroT K 271=some .nili:=by kernel_rfl
 rw [k204]
 simp [c204,x204_0,x204_1,x204_2,x204_3,x204_4,hu,hz]
theorem s203 (hp:List O) (l:Nat) (o:V) (hl:l < hp.length) (h:hp[l]=.cells [o] false):callL K (.fn (.func 203) [] []) [.ptr (.heap l) 0] (some none) hp=some (.ret (.tuple []),false,hp.set l (.cells [.d (.int .i64 0)] false),1 <<< l):=by
 rw [k203]
 simp [c203,x203_0,hl,h,s204]
theorem s171 {c l n:Nat} {d:D} (h:BodyD c l n d) (hn:n≤20) (hp:List O):∃ J w,callL K (.fn (.func 171) [] []) [.d d] none hp=some (.ret (.d (.int .i64 0)),false,hp++J,w):=by
 have e:=k171 [] [] [.d d] none hp
 have e1:=fun hp=>s205 h hp 0 (by omega) (by omega)
 have e2:=s203 (hp++[.cells [.d (.int .i64 0)] false]) hp.length (.d (.int .i64 0)) (by simp) (by simp)
 obtain ⟨o1,p1,q1,n1,z1,a1,rfl,i1⟩:=h.form
 have c1:a1.isCell=true:=by rcases i1 with rfl | ⟨l,rfl⟩<;>rfl
 simp only [D.isCell] at c1
 simp only [exD] at e e1
 simp at e2
 simp [c171,x171_0,x171_1,x171_2,x171_3,e1,e2,c1] at e
 exact ⟨_,_,by simpa [exD] using e⟩
theorem num_r {k c:Nat} (h:k < c) (hc:c≤3):∃ v:Int,(∀ hp,callL K (.fn (.func 165) [] []) [.d (.str (rn k)),.d (.int .u8 114),.d (.int .i64 c)] none hp=some (.ret (.d (.int .i64 v)),false,hp,0))∧¬ v < 0:=by
 have key:(k=0∧c=1)∨(k=0∧c=2)∨(k=0∧c=3)∨(k=1∧c=2)∨(k=1∧c=3)∨(k=2∧c=3):=by omega
 rcases key with ⟨rfl,rfl⟩ | ⟨rfl,rfl⟩ | ⟨rfl,rfl⟩ | ⟨rfl,rfl⟩ | ⟨rfl,rfl⟩ | ⟨rfl,rfl⟩
 ·exact ⟨0,fun hp=>by simp [rn],by omega⟩
 ·exact ⟨0,fun hp=>by simp [rn],by omega⟩
 ·exact ⟨0,fun hp=>by simp [rn],by omega⟩
 ·exact ⟨1,fun hp=>by simp [rn],by omega⟩
 ·exact ⟨1,fun hp=>by simp [rn],by omega⟩
 ·exact ⟨2,fun hp=>by simp [rn],by omega⟩
theorem num_ir {k c:Nat} (h:k < 2) (hc:c≤3) (hp:List O):callL K (.fn (.func 165) [] []) [.d (.str (inm k)),.d (.int .u8 114),.d (.int .i64 c)] none hp=some (.ret (.d (.int .i64 (-1))),false,hp,0):=by
 have key:(k=0∨k=1)∧(c=0∨c=1∨c=2∨c=3):=by omega
 rcases key with ⟨rfl | rfl,rfl | rfl | rfl | rfl⟩<;>simp [inm]
theorem num_i {k c:Nat} (h:k < c) (hc:c≤2):∃ v:Int,(∀ hp,callL K (.fn (.func 165) [] []) [.d (.str (inm k)),.d (.int .u8 105),.d (.int .i64 c)] none hp=some (.ret (.d (.int .i64 v)),false,hp,0))∧¬ v < 0:=by
 have key:(k=0∧c=1)∨(k=0∧c=2)∨(k=1∧c=2):=by omega
 rcases key with ⟨rfl,rfl⟩ | ⟨rfl,rfl⟩ | ⟨rfl,rfl⟩
 ·exact ⟨0,fun hp=>by simp [inm],by omega⟩
 ·exact ⟨0,fun hp=>by simp [inm],by omega⟩
 ·exact ⟨1,fun hp=>by simp [inm],by omega⟩
theorem s244 (hp:List O) (a b:Nat) {o z:Int} {p q m:ByteArray} {e:D} {c l i:Int} {ro ro':Bool} (he:e.isCell=true) (ha:hp[a]?=some (.cells [.d (.int .i64 c)] ro)) (hb:hp[b]?=some (.cells [.d (.int .i64 l)] ro'))
  (ih:∃ J w,callL K (.fn (.func 211) [] []) [.d (exD o p q m z e),.d (.int .i64 c),.d (.int .i64 l)] none hp=some (.ret (.d (.int .i64 0)),false,hp++J,w)) :
  ∃ J w,callL K (.fn (.func 244) [] [.ptr (.heap a) 0,.ptr (.heap b) 0]) [.d (.int .i64 i),.d (exD o p q m z e)] none hp=some (.ret (.d (.int .i64 0)),false,hp++J,w):=by
 obtain ⟨J,w,e1⟩:=ih
 simp only [D.isCell] at he
 have e0:=k244 [] [.ptr (.heap a) 0,.ptr (.heap b) 0] [.d (.int .i64 i),.d (exD o p q m z e)] none hp
 simp only [exD] at e0 e1
 simp [c244,x244_0,x244_1,ha,hb,e1,he] at e0
 exact ⟨_,_,by simpa [exD] using e0⟩
theorem s211 {c l n:Nat} {d:D} (h:BodyD c l n d) (hc:c≤3) (hl:l≤2):∀ (hp:List O),∃ J w,callL K (.fn (.func 211) [] []) [.d d,.d (.int .i64 c),.d (.int .i64 l)] none hp=some (.ret (.d (.int .i64 0)),false,hp++J,w):=by
 induction h with
 | @lit p q h n =>
  intro hp
  have e:=k211 [] [] [.d (litD p q),.d (.int .i64 c),.d (.int .i64 l)] none hp
  obtain ⟨w,e1⟩:=p243_0 (h0:=hp++[.cells [.d (.int .i64 c)] false,.cells [.d (.int .i64 l)] false]) (pa:=.heap hp.length) (pb:=.heap (hp.length+1)) rfl rfl
  simp [c211,x211_0,x211_1,x211_2,x211_3,x211_4,x211_5,x211_6,x211_7,x211_8,x211_9,x211_10,x211_11,x211_12,x211_13,x211_14,x211_15,litD,exD,e0,binStr,e1] at e
  exact ⟨_,_,by simpa [litD,exD,e0] using e⟩
 | @ref k h n =>
  intro hp
  have e:=k211 [] [] [.d (refD (rn k)),.d (.int .i64 c),.d (.int .i64 l)] none hp
  obtain ⟨v,e2,hv⟩:=num_r h hc
  obtain ⟨w,e1⟩:=p243_0 (h0:=hp++[.cells [.d (.int .i64 c)] false,.cells [.d (.int .i64 l)] false]) (pa:=.heap hp.length) (pb:=.heap (hp.length+1)) rfl rfl
  simp [c211,x211_0,x211_1,x211_2,x211_3,x211_4,x211_5,x211_6,x211_7,x211_8,x211_9,x211_10,x211_11,x211_12,x211_13,x211_14,x211_15,refD,exD,e0,binStr,e1,e2,hv] at e
  exact ⟨_,_,by simpa [refD,exD,e0] using e⟩
 | @ind k h n =>
  intro hp
  have e:=k211 [] [] [.d (refD (inm k)),.d (.int .i64 c),.d (.int .i64 l)] none hp
  obtain ⟨v,e2,hv⟩:=num_i h hl
  have e3:=fun hp=>num_ir (k:=k) (by omega) hc hp
  obtain ⟨w,e1⟩:=p243_0 (h0:=hp++[.cells [.d (.int .i64 c)] false,.cells [.d (.int .i64 l)] false]) (pa:=.heap hp.length) (pb:=.heap (hp.length+1)) rfl rfl
  simp [c211,x211_0,x211_1,x211_2,x211_3,x211_4,x211_5,x211_6,x211_7,x211_8,x211_9,x211_10,x211_11,x211_12,x211_13,x211_14,x211_15,refD,exD,e0,binStr,e1,e2,e3,hv] at e
  exact ⟨_,_,by simpa [refD,exD,e0] using e⟩
 | @two op n a b hop ha hb iha ihb =>
  intro hp
  have e:=k211 [] [] [.d (twoD op a b),.d (.int .i64 c),.d (.int .i64 l)] none hp
  obtain ⟨o1,p1,q1,n1,z1,a1,rfl,i1⟩:=ha.form
  obtain ⟨o2,p2,q2,n2,z2,a2,rfl,i2⟩:=hb.form
  have c1:a1.isCell=true:=by rcases i1 with rfl | ⟨l,rfl⟩<;>rfl
  have c2:a2.isCell=true:=by rcases i2 with rfl | ⟨l,rfl⟩<;>rfl
  obtain ⟨J1,w1,e1⟩:=s244 (hp++[.cells [.d (.int .i64 c)] false,.cells [.d (.int .i64 l)] false]) hp.length (hp.length+1) (i:=0) (ro:=false) (ro':=false) c1 (by simp) (by simp) (iha _)
  obtain ⟨J2,w2,e2⟩:=s244 (hp++[.cells [.d (.int .i64 c)] false,.cells [.d (.int .i64 l)] false]++J1) hp.length (hp.length+1) (i:=1) (ro:=false) (ro':=false) c2 (by simp) (by simp) (ihb _)
  obtain ⟨w,e3⟩:=p243_2 e1 e2 c1 c2 rfl rfl
  rcases hop with rfl | rfl | rfl | rfl
  all_goals
   simp [c211,x211_0,x211_1,x211_2,x211_3,x211_4,x211_5,x211_6,x211_7,x211_8,x211_9,x211_10,x211_11,x211_12,x211_13,x211_14,x211_15,twoD,exD,e0,binStr,e3] at e
   exact ⟨_,_,by simpa [twoD,exD,e0] using e⟩
 | @neg n a ha iha =>
  intro hp
  have e:=k211 [] [] [.d (negD a),.d (.int .i64 c),.d (.int .i64 l)] none hp
  obtain ⟨o1,p1,q1,n1,z1,a1,rfl,i1⟩:=ha.form
  have c1:a1.isCell=true:=by rcases i1 with rfl | ⟨l,rfl⟩<;>rfl
  obtain ⟨J1,w1,e1⟩:=s244 (hp++[.cells [.d (.int .i64 c)] false,.cells [.d (.int .i64 l)] false]) hp.length (hp.length+1) (i:=0) (ro:=false) (ro':=false) c1 (by simp) (by simp) (iha _)
  obtain ⟨w,e3⟩:=p243_1 e1 c1 rfl rfl
  simp [c211,x211_0,x211_1,x211_2,x211_3,x211_4,x211_5,x211_6,x211_7,x211_8,x211_9,x211_10,x211_11,x211_12,x211_13,x211_14,x211_15,negD,exD,e0,binStr,e3] at e
  exact ⟨_,_,by simpa [negD,exD,e0] using e⟩
end Mw
