/- DependProofs answers true for every list of numbers: its tied card holds; no condition beyond the card's own. -/
import Derived.Test.YtdjnccgeajpegaaGreatDoorXa
import Derived.Test.YtdjnccgeajpegaaGreatDoorQe
set_option linter.unusedVariables false
set_option linter.unusedSimpArgs false
set_option maxRecDepth 10000
set_option maxHeartbeats 2000000
namespace Mw
open Go Go.Proofs
def valA:Int→List Int→List Int→Int
 | c,x :: xs,i :: is=>valA (c+x * i) xs is
 | c,_,_=>c
def numC (n:Nat) (x:List (Int × List Int)) (at':List Int):Int:=match n,x with
 | 0,[p]=>valA p.1 p.2 at'
 | 1,[p,q]=>valA (valA p.1 p.2 at' * 4+q.1) q.2 at'
 | _,_=>0
inductive AtOk:List Int→List Int→Prop
 | nil:AtOk [] []
 | cons {i s:Int} {is ss:List Int} (h0:0≤i) (h1:i < s) (h:AtOk is ss):AtOk (i :: is) (s :: ss)
theorem AtOk.len {is ss:List Int} (h:AtOk is ss):is.length=ss.length:=by
 induction h with
 | nil=>rfl
 | cons _ _ _ ih=>simp [ih]
theorem mulb {x i s:Int} (hx:x=0∨x=1∨x=-1) (h0:0≤i) (h1:i < s):min 0 (x * (s - 1))≤x * i∧x * i≤max 0 (x * (s - 1)):=by
 rcases hx with rfl | rfl | rfl<;>omega
theorem valA_bound {cs is ss:List Int} (h:AtOk is ss):∀ (c:Int),cs.length=ss.length→(∀ x∈cs,x=0∨x=1∨x=-1)→c+loA cs ss≤valA c cs is∧valA c cs is≤c+hiA cs ss:=by
 induction h generalizing cs with
 | nil =>
  intro c hl _; have:cs=[]:=by simpa using hl
  subst this; simp [loA,hiA,valA]
 | @cons i s is ss h0 h1 h ih =>
  intro c hl hc
  match cs,hl with
  | x :: cs,hl =>
   have:=ih (cs:=cs) (c+x * i) (by simpa using hl) (fun y hy=>hc y (by simp [hy]))
   have hm:=mulb (hc x (by simp)) h0 h1
   simp only [loA,hiA,valA]
   omega
theorem s133_0_0 (hp:List O) (T:Nat) {rest:List V} {ro:Bool} {c dummy:Int} (hT:hp[T]?=some (.cells (.d (.list 2 arrsD) :: rest) ro))
  (hA0:AffOk c [] [] 5) (hs:SzOk []) (hi:AtOk [] []) (V0:V) (hV:V0=.d (.list 1 [])∨V0=.d .nils) :
  callL K (.fn (.func 133) [] []) [.ptr (.heap T) 0,.d (encC 0 [(c,[])]),V0] none hp=some (.ret (.d (.agg [.int .i64 0,.int .i64 (numC 0 [(c,[])] [])])),false,hp,0):=by
 have hb0:=valA_bound hi c hA0.len hA0.coef
 have h10:=hA0.lo
 have h20:=hA0.hi
 have hl0:=loA_nonpos [] []
 have hh0:=hiA_nonneg [] []
 simp only [loA,hiA,valA] at hb0 h10 h20 hl0 hh0
 have wc0:wr .i64 (c)=c:=wrap_id (by omega) (by omega)
 rw [k133]
 rcases hV with rfl | rfl<;>simp [c133,x133_0,r133_0,x133_1,r133_1,x133_2,r133_2,x133_3,r133_3,x133_4,r133_4,x133_5,r133_5,x133_6,r133_6,x133_7,r133_7,x133_8,r133_8,x133_9,r133_9,x133_10,r133_10,x133_11,r133_11,x133_12,r133_12,x133_13,r133_13,execL_loop,u133_0,u133_1,hT,encC,atD,encA,arrsD,numC,valA,w0,w1,w2,w3,wc0]
theorem s133_0_1 (hp:List O) (T:Nat) {rest:List V} {ro:Bool} {c x i a dummy:Int} (hT:hp[T]?=some (.cells (.d (.list 2 arrsD) :: rest) ro))
  (hA0:AffOk c [x] [a] 5) (hs:SzOk [a]) (hi:AtOk [i] [a]) :
  callL K (.fn (.func 133) [] []) [.ptr (.heap T) 0,.d (encC 0 [(c,[x])]),.d (.list 1 [.int .i64 i])] none hp=some (.ret (.d (.agg [.int .i64 0,.int .i64 (numC 0 [(c,[x])] [i])])),false,hp,0):=by
 have hb0:=valA_bound hi c hA0.len hA0.coef
 have h10:=hA0.lo
 have h20:=hA0.hi
 have hl0:=loA_nonpos [x] [a]
 have hh0:=hiA_nonneg [x] [a]
 have hm00:=mulb (hA0.coef x (by simp)) (show 0≤i by cases hi with | cons h0 h1 h=>exact h0) (show i < a by cases hi with | cons h0 h1 h=>exact h1)
 have hz0:=hs.within a (by simp)
 simp only [loA,hiA,valA] at hb0 h10 h20 hl0 hh0
 have hp00:-3≤x * (a - 1)∧x * (a - 1)≤3:=by rcases hA0.coef x (by simp) with h | h | h<;>rw [h]<;>omega
 have wp00:wr .i64 (x * i)=x * i:=wrap_id (by omega) (by omega)
 have wc0:wr .i64 (c)=c:=wrap_id (by omega) (by omega)
 have ws00:wr .i64 (c+x * i)=c+x * i:=wrap_id (by omega) (by omega)
 rw [k133]
 simp [c133,x133_0,r133_0,x133_1,r133_1,x133_2,r133_2,x133_3,r133_3,x133_4,r133_4,x133_5,r133_5,x133_6,r133_6,x133_7,r133_7,x133_8,r133_8,x133_9,r133_9,x133_10,r133_10,x133_11,r133_11,x133_12,r133_12,x133_13,r133_13,execL_loop,u133_0,u133_1,hT,encC,atD,encA,arrsD,numC,valA,w0,w1,w2,w3,wp00,wc0,ws00]
theorem s133_0_2 (hp:List O) (T:Nat) {rest:List V} {ro:Bool} {c x y i j a b dummy:Int} (hT:hp[T]?=some (.cells (.d (.list 2 arrsD) :: rest) ro))
  (hA0:AffOk c [x,y] [a,b] 5) (hs:SzOk [a,b]) (hi:AtOk [i,j] [a,b]) :
  callL K (.fn (.func 133) [] []) [.ptr (.heap T) 0,.d (encC 0 [(c,[x,y])]),.d (.list 1 [.int .i64 i,.int .i64 j])] none hp=some (.ret (.d (.agg [.int .i64 0,.int .i64 (numC 0 [(c,[x,y])] [i,j])])),false,hp,0):=by
 have hb0:=valA_bound hi c hA0.len hA0.coef
 have h10:=hA0.lo
 have h20:=hA0.hi
 have hl0:=loA_nonpos [x,y] [a,b]
 have hh0:=hiA_nonneg [x,y] [a,b]
 have hm00:=mulb (hA0.coef x (by simp)) (show 0≤i by cases hi with | cons h0 h1 h=>exact h0) (show i < a by cases hi with | cons h0 h1 h=>exact h1)
 have hm01:=mulb (hA0.coef y (by simp)) (show 0≤j by cases hi with | cons h0 h1 h=>cases h with | cons h0 h1 h=>exact h0) (show j < b by cases hi with | cons h0 h1 h=>cases h with | cons h0 h1 h=>exact h1)
 have hz0:=hs.within a (by simp)
 have hz1:=hs.within b (by simp)
 simp only [loA,hiA,valA] at hb0 h10 h20 hl0 hh0
 have hp00:-3≤x * (a - 1)∧x * (a - 1)≤3:=by rcases hA0.coef x (by simp) with h | h | h<;>rw [h]<;>omega
 have wp00:wr .i64 (x * i)=x * i:=wrap_id (by omega) (by omega)
 have hp01:-3≤y * (b - 1)∧y * (b - 1)≤3:=by rcases hA0.coef y (by simp) with h | h | h<;>rw [h]<;>omega
 have wp01:wr .i64 (y * j)=y * j:=wrap_id (by omega) (by omega)
 have wc0:wr .i64 (c)=c:=wrap_id (by omega) (by omega)
 have ws00:wr .i64 (c+x * i)=c+x * i:=wrap_id (by omega) (by omega)
 have ws01:wr .i64 (c+x * i+y * j)=c+x * i+y * j:=wrap_id (by omega) (by omega)
 rw [k133]
 simp [c133,x133_0,r133_0,x133_1,r133_1,x133_2,r133_2,x133_3,r133_3,x133_4,r133_4,x133_5,r133_5,x133_6,r133_6,x133_7,r133_7,x133_8,r133_8,x133_9,r133_9,x133_10,r133_10,x133_11,r133_11,x133_12,r133_12,x133_13,r133_13,execL_loop,u133_0,u133_1,hT,encC,atD,encA,arrsD,numC,valA,w0,w1,w2,w3,wp00,wp01,wc0,ws00,ws01]
theorem s133_1_0 (hp:List O) (T:Nat) {rest:List V} {ro:Bool} {c d dummy:Int} (hT:hp[T]?=some (.cells (.d (.list 2 arrsD) :: rest) ro))
  (hA0:AffOk c [] [] 4)    (hA1:AffOk d [] [] 4) (hs:SzOk []) (hi:AtOk [] []) (V0:V) (hV:V0=.d (.list 1 [])∨V0=.d .nils) :
  callL K (.fn (.func 133) [] []) [.ptr (.heap T) 0,.d (encC 1 [(c,[]),(d,[])]),V0] none hp=some (.ret (.d (.agg [.int .i64 1,.int .i64 (numC 1 [(c,[]),(d,[])] [])])),false,hp,0):=by
 have hb0:=valA_bound hi c hA0.len hA0.coef
 have h10:=hA0.lo
 have h20:=hA0.hi
 have hl0:=loA_nonpos [] []
 have hh0:=hiA_nonneg [] []
 have hb1:=valA_bound hi d hA1.len hA1.coef
 have h11:=hA1.lo
 have h21:=hA1.hi
 have hl1:=loA_nonpos [] []
 have hh1:=hiA_nonneg [] []
 simp only [loA,hiA,valA] at hb0 h10 h20 hl0 hh0 hb1 h11 h21 hl1 hh1
 have wc0:wr .i64 (c)=c:=wrap_id (by omega) (by omega)
 have wm:wr .i64 (c * 4)=c * 4:=wrap_id (by omega) (by omega)
 have wc1:wr .i64 (c * 4+d)=c * 4+d:=wrap_id (by omega) (by omega)
 rw [k133]
 rcases hV with rfl | rfl<;>simp [c133,x133_0,r133_0,x133_1,r133_1,x133_2,r133_2,x133_3,r133_3,x133_4,r133_4,x133_5,r133_5,x133_6,r133_6,x133_7,r133_7,x133_8,r133_8,x133_9,r133_9,x133_10,r133_10,x133_11,r133_11,x133_12,r133_12,x133_13,r133_13,execL_loop,u133_0,u133_1,hT,encC,atD,encA,arrsD,numC,valA,w0,w1,w2,w3,wc0,wm,wc1]
theorem s133_1_1 (hp:List O) (T:Nat) {rest:List V} {ro:Bool} {c d x u i a dummy:Int} (hT:hp[T]?=some (.cells (.d (.list 2 arrsD) :: rest) ro))
  (hA0:AffOk c [x] [a] 4)    (hA1:AffOk d [u] [a] 4) (hs:SzOk [a]) (hi:AtOk [i] [a]) :
  callL K (.fn (.func 133) [] []) [.ptr (.heap T) 0,.d (encC 1 [(c,[x]),(d,[u])]),.d (.list 1 [.int .i64 i])] none hp=some (.ret (.d (.agg [.int .i64 1,.int .i64 (numC 1 [(c,[x]),(d,[u])] [i])])),false,hp,0):=by
 have hb0:=valA_bound hi c hA0.len hA0.coef
 have h10:=hA0.lo
 have h20:=hA0.hi
 have hl0:=loA_nonpos [x] [a]
 have hh0:=hiA_nonneg [x] [a]
 have hm00:=mulb (hA0.coef x (by simp)) (show 0≤i by cases hi with | cons h0 h1 h=>exact h0) (show i < a by cases hi with | cons h0 h1 h=>exact h1)
 have hb1:=valA_bound hi d hA1.len hA1.coef
 have h11:=hA1.lo
 have h21:=hA1.hi
 have hl1:=loA_nonpos [u] [a]
 have hh1:=hiA_nonneg [u] [a]
 have hm10:=mulb (hA1.coef u (by simp)) (show 0≤i by cases hi with | cons h0 h1 h=>exact h0) (show i < a by cases hi with | cons h0 h1 h=>exact h1)
 have hz0:=hs.within a (by simp)
 simp only [loA,hiA,valA] at hb0 h10 h20 hl0 hh0 hb1 h11 h21 hl1 hh1
 have hp00:-3≤x * (a - 1)∧x * (a - 1)≤3:=by rcases hA0.coef x (by simp) with h | h | h<;>rw [h]<;>omega
 have wp00:wr .i64 (x * i)=x * i:=wrap_id (by omega) (by omega)
 have hp10:-3≤u * (a - 1)∧u * (a - 1)≤3:=by rcases hA1.coef u (by simp) with h | h | h<;>rw [h]<;>omega
 have wp10:wr .i64 (u * i)=u * i:=wrap_id (by omega) (by omega)
 have wc0:wr .i64 (c)=c:=wrap_id (by omega) (by omega)
 have ws00:wr .i64 (c+x * i)=c+x * i:=wrap_id (by omega) (by omega)
 have wm:wr .i64 ((c+x * i) * 4)=(c+x * i) * 4:=wrap_id (by omega) (by omega)
 have wc1:wr .i64 ((c+x * i) * 4+d)=(c+x * i) * 4+d:=wrap_id (by omega) (by omega)
 have ws10:wr .i64 ((c+x * i) * 4+d+u * i)=(c+x * i) * 4+d+u * i:=wrap_id (by omega) (by omega)
 rw [k133]
 simp [c133,x133_0,r133_0,x133_1,r133_1,x133_2,r133_2,x133_3,r133_3,x133_4,r133_4,x133_5,r133_5,x133_6,r133_6,x133_7,r133_7,x133_8,r133_8,x133_9,r133_9,x133_10,r133_10,x133_11,r133_11,x133_12,r133_12,x133_13,r133_13,execL_loop,u133_0,u133_1,hT,encC,atD,encA,arrsD,numC,valA,w0,w1,w2,w3,wp00,wp10,wc0,ws00,wm,wc1,ws10]
theorem s133_1_2 (hp:List O) (T:Nat) {rest:List V} {ro:Bool} {c d x y u v i j a b dummy:Int} (hT:hp[T]?=some (.cells (.d (.list 2 arrsD) :: rest) ro))
  (hA0:AffOk c [x,y] [a,b] 4)    (hA1:AffOk d [u,v] [a,b] 4) (hs:SzOk [a,b]) (hi:AtOk [i,j] [a,b]) :
  callL K (.fn (.func 133) [] []) [.ptr (.heap T) 0,.d (encC 1 [(c,[x,y]),(d,[u,v])]),.d (.list 1 [.int .i64 i,.int .i64 j])] none hp=some (.ret (.d (.agg [.int .i64 1,.int .i64 (numC 1 [(c,[x,y]),(d,[u,v])] [i,j])])),false,hp,0):=by
 have hb0:=valA_bound hi c hA0.len hA0.coef
 have h10:=hA0.lo
 have h20:=hA0.hi
 have hl0:=loA_nonpos [x,y] [a,b]
 have hh0:=hiA_nonneg [x,y] [a,b]
 have hm00:=mulb (hA0.coef x (by simp)) (show 0≤i by cases hi with | cons h0 h1 h=>exact h0) (show i < a by cases hi with | cons h0 h1 h=>exact h1)
 have hm01:=mulb (hA0.coef y (by simp)) (show 0≤j by cases hi with | cons h0 h1 h=>cases h with | cons h0 h1 h=>exact h0) (show j < b by cases hi with | cons h0 h1 h=>cases h with | cons h0 h1 h=>exact h1)
 have hb1:=valA_bound hi d hA1.len hA1.coef
 have h11:=hA1.lo
 have h21:=hA1.hi
 have hl1:=loA_nonpos [u,v] [a,b]
 have hh1:=hiA_nonneg [u,v] [a,b]
 have hm10:=mulb (hA1.coef u (by simp)) (show 0≤i by cases hi with | cons h0 h1 h=>exact h0) (show i < a by cases hi with | cons h0 h1 h=>exact h1)
 have hm11:=mulb (hA1.coef v (by simp)) (show 0≤j by cases hi with | cons h0 h1 h=>cases h with | cons h0 h1 h=>exact h0) (show j < b by cases hi with | cons h0 h1 h=>cases h with | cons h0 h1 h=>exact h1)
 have hz0:=hs.within a (by simp)
 have hz1:=hs.within b (by simp)
 simp only [loA,hiA,valA] at hb0 h10 h20 hl0 hh0 hb1 h11 h21 hl1 hh1
 have hp00:-3≤x * (a - 1)∧x * (a - 1)≤3:=by rcases hA0.coef x (by simp) with h | h | h<;>rw [h]<;>omega
 have wp00:wr .i64 (x * i)=x * i:=wrap_id (by omega) (by omega)
 have hp01:-3≤y * (b - 1)∧y * (b - 1)≤3:=by rcases hA0.coef y (by simp) with h | h | h<;>rw [h]<;>omega
 have wp01:wr .i64 (y * j)=y * j:=wrap_id (by omega) (by omega)
 have hp10:-3≤u * (a - 1)∧u * (a - 1)≤3:=by rcases hA1.coef u (by simp) with h | h | h<;>rw [h]<;>omega
 have wp10:wr .i64 (u * i)=u * i:=wrap_id (by omega) (by omega)
 have hp11:-3≤v * (b - 1)∧v * (b - 1)≤3:=by rcases hA1.coef v (by simp) with h | h | h<;>rw [h]<;>omega
 have wp11:wr .i64 (v * j)=v * j:=wrap_id (by omega) (by omega)
 have wc0:wr .i64 (c)=c:=wrap_id (by omega) (by omega)
 have ws00:wr .i64 (c+x * i)=c+x * i:=wrap_id (by omega) (by omega)
 have ws01:wr .i64 (c+x * i+y * j)=c+x * i+y * j:=wrap_id (by omega) (by omega)
 have wm:wr .i64 ((c+x * i+y * j) * 4)=(c+x * i+y * j) * 4:=wrap_id (by omega) (by omega)
 have wc1:wr .i64 ((c+x * i+y * j) * 4+d)=(c+x * i+y * j) * 4+d:=wrap_id (by omega) (by omega)
 have ws10:wr .i64 ((c+x * i+y * j) * 4+d+u * i)=(c+x * i+y * j) * 4+d+u * i:=wrap_id (by omega) (by omega)
 have ws11:wr .i64 ((c+x * i+y * j) * 4+d+u * i+v * j)=(c+x * i+y * j) * 4+d+u * i+v * j:=wrap_id (by omega) (by omega)
 rw [k133]
 simp [c133,x133_0,r133_0,x133_1,r133_1,x133_2,r133_2,x133_3,r133_3,x133_4,r133_4,x133_5,r133_5,x133_6,r133_6,x133_7,r133_7,x133_8,r133_8,x133_9,r133_9,x133_10,r133_10,x133_11,r133_11,x133_12,r133_12,x133_13,r133_13,execL_loop,u133_0,u133_1,hT,encC,atD,encA,arrsD,numC,valA,w0,w1,w2,w3,wp00,wp01,wp10,wp11,wc0,ws00,ws01,wm,wc1,ws10,ws11]
theorem s133_2_0 (hp:List O) (T:Nat) {rest:List V} {ro:Bool} {dummy:Int} (hT:hp[T]?=some (.cells (.d (.list 2 arrsD) :: rest) ro))
 (hs:SzOk []) (hi:AtOk [] []) (V0:V) (hV:V0=.d (.list 1 [])∨V0=.d .nils) :
  callL K (.fn (.func 133) [] []) [.ptr (.heap T) 0,.d (encC 2 []),V0] none hp=some (.ret (.d (.agg [.int .i64 2,.int .i64 (numC 2 [] [])])),false,hp,0):=by
 rw [k133]
 rcases hV with rfl | rfl<;>simp [c133,x133_0,r133_0,x133_1,r133_1,x133_2,r133_2,x133_3,r133_3,x133_4,r133_4,x133_5,r133_5,x133_6,r133_6,x133_7,r133_7,x133_8,r133_8,x133_9,r133_9,x133_10,r133_10,x133_11,r133_11,x133_12,r133_12,x133_13,r133_13,execL_loop,u133_0,u133_1,hT,encC,atD,encA,arrsD,numC,valA,w0,w1,w2,w3]
theorem s133_2_1 (hp:List O) (T:Nat) {rest:List V} {ro:Bool} {i a dummy:Int} (hT:hp[T]?=some (.cells (.d (.list 2 arrsD) :: rest) ro))
 (hs:SzOk [a]) (hi:AtOk [i] [a]) :
  callL K (.fn (.func 133) [] []) [.ptr (.heap T) 0,.d (encC 2 []),.d (.list 1 [.int .i64 i])] none hp=some (.ret (.d (.agg [.int .i64 2,.int .i64 (numC 2 [] [i])])),false,hp,0):=by
 have hz0:=hs.within a (by simp)
 rw [k133]
 simp [c133,x133_0,r133_0,x133_1,r133_1,x133_2,r133_2,x133_3,r133_3,x133_4,r133_4,x133_5,r133_5,x133_6,r133_6,x133_7,r133_7,x133_8,r133_8,x133_9,r133_9,x133_10,r133_10,x133_11,r133_11,x133_12,r133_12,x133_13,r133_13,execL_loop,u133_0,u133_1,hT,encC,atD,encA,arrsD,numC,valA,w0,w1,w2,w3]
theorem s133_2_2 (hp:List O) (T:Nat) {rest:List V} {ro:Bool} {i j a b dummy:Int} (hT:hp[T]?=some (.cells (.d (.list 2 arrsD) :: rest) ro))
 (hs:SzOk [a,b]) (hi:AtOk [i,j] [a,b]) :
  callL K (.fn (.func 133) [] []) [.ptr (.heap T) 0,.d (encC 2 []),.d (.list 1 [.int .i64 i,.int .i64 j])] none hp=some (.ret (.d (.agg [.int .i64 2,.int .i64 (numC 2 [] [i,j])])),false,hp,0):=by
 have hz0:=hs.within a (by simp)
 have hz1:=hs.within b (by simp)
 rw [k133]
 simp [c133,x133_0,r133_0,x133_1,r133_1,x133_2,r133_2,x133_3,r133_3,x133_4,r133_4,x133_5,r133_5,x133_6,r133_6,x133_7,r133_7,x133_8,r133_8,x133_9,r133_9,x133_10,r133_10,x133_11,r133_11,x133_12,r133_12,x133_13,r133_13,execL_loop,u133_0,u133_1,hT,encC,atD,encA,arrsD,numC,valA,w0,w1,w2,w3]
theorem s133 (hp:List O) (T:Nat) {rest:List V} {ro:Bool} {n:Nat} {x:List (Int × List Int)} {ss is:List Int} (hT:hp[T]?=some (.cells (.d (.list 2 arrsD) :: rest) ro)) (h:CellOk n x ss) (hs:SzOk ss) (hi:AtOk is ss) (V0:V) (hV:V0=.d (.list 1 (ints is))∨(V0=.d .nils∧is=[])) :
  callL K (.fn (.func 133) [] []) [.ptr (.heap T) 0,.d (encC n x),V0] none hp=some (.ret (.d (.agg [.int .i64 n,.int .i64 (numC n x is)])),false,hp,0):=by
 have hlen:=h.len
 have harr:=h.arr
 match n,harr,x,hlen,h with
 | 0,_,[p],_,h =>
  have h0:=h.ok 0 (by simp) (by simp [sizesOf])
  obtain ⟨c,cs⟩:=p
  match ss,hs,is,hi,cs,h0.len,h0 with
  | [],hs,[],hi,[],_,h0=>exact s133_0_0 hp T (dummy:=0) hT h0 hs hi V0 (by rcases hV with h | ⟨h,_⟩<;>simp [h])
  | [a],hs,[i],hi,[x],_,h0=>
   rcases hV with rfl | ⟨_,h⟩
   ·exact s133_0_1 hp T (dummy:=0) hT h0 hs hi
   ·cases h
  | [a,b],hs,[i,j],hi,[x,y],_,h0=>
   rcases hV with rfl | ⟨_,h⟩
   ·exact s133_0_2 hp T (dummy:=0) hT h0 hs hi
   ·cases h
  | _ :: _ :: _ :: _,hs,_,_,_,_,_=>have:=hs.few; simp at this
 | 1,_,[p,q],_,h =>
  have h0:=h.ok 0 (by simp) (by simp [sizesOf])
  have h1:=h.ok 1 (by simp) (by simp [sizesOf])
  obtain ⟨c,cs⟩:=p
  obtain ⟨d,ds⟩:=q
  match ss,hs,is,hi,cs,h0.len,h0,ds,h1.len,h1 with
  | [],hs,[],hi,[],_,h0,[],_,h1=>exact s133_1_0 hp T (dummy:=0) hT h0 h1 hs hi V0 (by rcases hV with h | ⟨h,_⟩<;>simp [h])
  | [a],hs,[i],hi,[x],_,h0,[u],_,h1=>
   rcases hV with rfl | ⟨_,h⟩
   ·exact s133_1_1 hp T (dummy:=0) hT h0 h1 hs hi
   ·cases h
  | [a,b],hs,[i,j],hi,[x,y],_,h0,[u,v],_,h1=>
   rcases hV with rfl | ⟨_,h⟩
   ·exact s133_1_2 hp T (dummy:=0) hT h0 h1 hs hi
   ·cases h
  | _ :: _ :: _ :: _,hs,_,_,_,_,_,_,_,_=>have:=hs.few; simp at this
 | 2,_,[],_,h =>
  match ss,hs,is,hi with
  | [],hs,[],hi=>exact s133_2_0 hp T (dummy:=0) hT hs hi V0 (by rcases hV with h | ⟨h,_⟩<;>simp [h])
  | [a],hs,[i],hi=>
   rcases hV with rfl | ⟨_,h⟩
   ·exact s133_2_1 hp T (dummy:=0) hT hs hi
   ·cases h
  | [a,b],hs,[i,j],hi=>
   rcases hV with rfl | ⟨_,h⟩
   ·exact s133_2_2 hp T (dummy:=0) hT hs hi
   ·cases h
  | _ :: _ :: _ :: _,hs,_,_=>have:=hs.few; simp at this
def allAt:List Int→List (List Int)
 | []=>[[]]
 | s :: ss=>(List.range s.toNat).flatMap fun i=>(allAt ss).map (Int.ofNat i :: ·)
def atV:List Int→D
 | []=>.nils
 | x :: xs=>.list 1 (ints (x :: xs))
theorem AtOk.snoc {p s1:List Int} (h:AtOk p s1) {i a:Int} (h0:0≤i) (h1:i < a):AtOk (p++[i]) (s1++[a]):=by
 induction h with
 | nil=>exact .cons h0 h1 .nil
 | cons g0 g1 _ ih=>exact .cons g0 g1 ih
structure Rounds (ss:List Int) (B Y G l N:Nat) (Inv:List (List Int)→List O→Prop):Prop where
 sz:∀ d H,Inv d H→∃ ro,H[B]?=some (.cells [.d (szD ss)] ro)
 yv:∀ d H,Inv d H→∃ ro,H[Y]?=some (.cells [.fn (.yield l) [] []] ro)
 gv:∀ d H,Inv d H→∃ ro,H[G]?=some (.cells [.fn (.func 191) [] [.ptr (.heap B) 0,.ptr (.heap Y) 0,.ptr (.heap G) 0]] ro)
 go:∀ d H p,Inv d H→AtOk p ss→d.length < N→∃ H' w,callL K (.fn (.yield l) [] []) [.d (atV p)] none H=some (.ret (.d (.bool true)),false,H',w)∧Inv (d++[p]) H'
theorem s191 {ss:List Int} {B Y G l N:Nat} {Inv:List (List Int)→List O→Prop} (R:Rounds ss B Y G l N Inv) (hs:SzOk ss):∀ (rs p s1:List Int),ss=s1++rs→AtOk p s1→∀ d H,Inv d H→d.length+(allAt rs).length≤N →
  ∃ H' w,callL K (.fn (.func 191) [] [.ptr (.heap B) 0,.ptr (.heap Y) 0,.ptr (.heap G) 0]) [.d (atV p)] none H=some (.ret (.d (.bool true)),false,H',w)∧Inv (d++(allAt rs).map (p++·)) H':=by
 intro rs
 induction rs with
 | nil =>
  intro p s1 he hp d H hI hN
  have hss:ss=s1:=by simpa using he
  subst hss
  obtain ⟨H',w,e1,hI'⟩:=R.go d H p hI hp (by simp [allAt] at hN; omega)
  obtain ⟨r1,hB⟩:=R.sz d H hI
  obtain ⟨r2,hY⟩:=R.yv d H hI
  refine ⟨H',w,?_,by simpa [allAt] using hI'⟩
  have hl:=hp.len
  rw [k191]
  have hl1:lenV (.d (atV p))=some p.length:=by cases p<;>simp [atV]
  have hl2:lenV (.d (szD ss))=some ss.length:=by cases ss<;>simp [szD]
  simp only [lenV] at hl1 hl2
  simp [c191,x191_0,r191_0,x191_1,r191_1,x191_2,r191_2,hB,hY,hl1,hl2,hl,e1]
 | cons a rs ih =>
  intro p s1 he hp d H hI hN
  have hl:=hp.len
  have ha:=hs.within a (by rw [he]; simp)
  have hlt:s1.length < ss.length:=by rw [he]; simp
  have hget:ss[s1.length]?=some a:=by rw [he]; simp
  have hfew:=hs.few
  have hw1:∀ i:Nat,(i:Int) < a→wr .i64 ((i:Int)+1)=(i:Int)+1:=fun i hi=>wrap_id (by omega) (by omega)
  let st:List Int→Nat→List O→Nat→List (Nat × V)→St:=fun p i H w t=>{ tm:=(0,.d (atV p)) :: (3,.ptr (.heap G) 0) :: (19,.d (.int .i64 a)) :: (20,.d (.int .i64 i)) :: t,m:={ ob:=[],hp:=H,wl:=w },df:=[],rc:=none }
  have hstep:∀ (i:Nat) d H w,(i:Int) < a→Inv d H→d.length+(allAt rs).length≤N→∃ H' w',execL K 191 l191_0 (st p i H w [])=some (.normal,st p (i+1) H' w' [])∧Inv (d++(allAt rs).map (p++[(i:Int)]++·)) H':=by
   intro i d H w hi hI hN
   obtain ⟨H',w',e1,hI'⟩:=ih (p++[(i:Int)]) (s1++[a]) (by rw [he]; simp) (hp.snoc (by omega) hi) d H hI hN
   obtain ⟨r2,hG⟩:=R.gv d H hI
   refine ⟨H',w ||| w',?_,hI'⟩
   match p,hp,hl,e1 with
   | [],hp,hl,e1 =>
    simp only [List.nil_append,atV,ints_cons,ints_nil] at e1
    simp [st,u191_0,x191_4,r191_4,x191_5,r191_5,x191_6,r191_6,x191_7,r191_7,x191_8,r191_8,hi,hG,atV,e1,hw1 i hi]
   | [x],hp,hl,e1 =>
    simp only [List.cons_append,List.nil_append,atV,ints_cons,ints_nil] at e1
    simp [st,u191_0,x191_4,r191_4,x191_5,r191_5,x191_6,r191_6,x191_7,r191_7,x191_8,r191_8,hi,hG,atV,e1,hw1 i hi]
   | _ :: _ :: _,hp,hl,e1=>simp at hl; omega
  have hloop:∀ (k i:Nat),i+k=a.toNat→∀ d H w,Inv d H→d.length+k * (allAt rs).length≤N→∃ H' w',execL K 191 (.loop l191_0) (st p i H w [])=some (.exit 0,st p a.toNat H' w' [(21,.d (.bool false))])∧Inv (d++(List.range' i k).flatMap fun (j:Nat)=>(allAt rs).map (p++[(j:Int)]++·)) H':=by
   intro k
   induction k with
   | zero =>
    intro i hi d H w hI hN
    refine ⟨H,w,?_,by simpa using hI⟩
    have:¬ ((i:Int) < a):=by omega
    have hia:i=a.toNat:=by omega
    subst hia
    rw [execL_loop]
    have hm:max a 0=a:=by omega
    have hm':¬ (a < a):=by omega
    simp [st,u191_0,x191_4,r191_4,hm,hm']
   | succ k ihk =>
    intro i hi d H w hI hN
    rw [Nat.succ_mul] at hN
    obtain ⟨H1,w1,e1,hI1⟩:=hstep i d H w (by omega) hI (by omega)
    obtain ⟨H2,w2,e2,hI2⟩:=ihk (i+1) (by omega) _ H1 w1 hI1 (by simp; omega)
    refine ⟨H2,w2,?_,?_⟩
    ·rw [execL_loop,e1]
     exact e2
    ·rw [List.range'_succ,List.flatMap_cons,← List.append_assoc]
     exact hI2
  obtain ⟨r1,hB⟩:=R.sz d H hI
  obtain ⟨H',w',e1,hI'⟩:=hloop a.toNat 0 (by omega) d H 0 hI (by
   have:(allAt (a :: rs)).length=a.toNat * (allAt rs).length:=by simp [allAt,List.length_flatMap,List.map_const']
   omega)
  refine ⟨H',w',?_,?_⟩
  ·rw [k191]
   have z0:((0:Nat):Int)=0:=rfl
   have n0:¬ ((0:Int)=(rs.length:Int)+1):=by omega
   have n1:¬ ((1:Int)=(rs.length:Int)+1+1):=by omega
   simp only [st,z0] at e1
   match p,s1,hp,hl,e1,he with
   | [],[],hp,hl,e1,he =>
    simp only [List.nil_append] at he
    subst he
    simp only [szD_cons,ints_cons] at hB
    simp only [atV] at e1
    simp [c191,x191_0,r191_0,x191_1,r191_1,x191_3,r191_3,x191_9,r191_9,hB,atV,e1,n0,n1]
   | [x],[s],hp,hl,e1,he =>
    simp only [List.cons_append,List.nil_append] at he
    subst he
    simp only [szD_cons,ints_cons] at hB
    simp only [atV,ints_cons,ints_nil] at e1
    simp [c191,x191_0,r191_0,x191_1,r191_1,x191_3,r191_3,x191_9,r191_9,hB,atV,e1,n0,n1]
   | [],_ :: _,hp,hl,e1,he=>simp at hl
   | [x],[],hp,hl,e1,he=>simp at hl
   | [x],_ :: _ :: _,hp,hl,e1,he=>simp at hl
   | _ :: _ :: _,s1,hp,hl,e1,he=>simp at hl; omega
  ·rw [show (allAt (a :: rs)).map (p++·)=(List.range' 0 a.toNat).flatMap fun (j:Nat)=>(allAt rs).map (p++[(j:Int)]++·) from ?_]
   ·exact hI'
   ·simp only [allAt,List.map_flatMap,List.range_eq_range',List.map_map]
    congr 1
    funext j
    congr 1
    funext r
    simp
end Mw
