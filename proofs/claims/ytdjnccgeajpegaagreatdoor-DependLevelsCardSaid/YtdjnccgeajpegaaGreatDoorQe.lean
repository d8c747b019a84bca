/- DependLevels answers true for every list of numbers: its tied card holds; no condition beyond the card's own. -/
import Derived.Test.YtdjnccgeajpegaaGreatDoorQc
import Derived.Test.YtdjnccgeajpegaaGreatDoorQd
import Derived.Test.YtdjnccgeajpegaaGreatDoorXb
import Derived.Test.YtdjnccgeajpegaaGreatDoorXa
import Derived.Test.YtdjnccgeajpegaaGreatDoorQa
import Derived.Test.YtdjnccgeajpegaaGreatDoorQb
set_option linter.unusedVariables false
set_option linter.unusedSimpArgs false
set_option maxRecDepth 10000
set_option maxHeartbeats 2000000
namespace Mw
open Go Go.Proofs
structure Stp where
 ss:List Int
 to:Nat × List (Int × List Int)
 fr:List (Nat × List (Int × List Int))
 op:Int
 num:ByteArray
 den:ByteArray
 name:ByteArray
 size:Int
 args:D
def frD:List (Nat × List (Int × List Int))→D
 | []=>.nils
 | c :: cs=>.list 2 ((c :: cs).map fun c=>encC c.1 c.2)
def encS (s:Stp):D:=.agg [szD s.ss,.int .i64 s.to.1,atD s.to.2,frD s.fr,.int .i64 s.op,.str s.num,.str s.den,.str s.name,.int .i64 s.size,s.args]
def Stp.body (s:Stp):D:=exD s.op s.num s.den s.name s.size s.args
structure StpOk (s:Stp):Prop where
 sz:SzOk s.ss
 to:CellOk s.to.1 s.to.2 s.ss
 fr:∀ c∈s.fr,CellOk c.1 c.2 s.ss
 few:s.fr.length≤3
 body:BodyD s.fr.length s.ss.length 10 s.body
theorem atD_cell (x:List (Int × List Int)):(atD x).isCell=true:=by cases x<;>rfl
theorem CellOk.two {n:Nat} {x:List (Int × List Int)} {ss:List Int} (h:CellOk n x ss):x.length≤2:=by
 rw [h.len]
 have:=h.arr
 match n,this with
 | 0,_=>simp [sizesOf]
 | 1,_=>simp [sizesOf]
 | 2,_=>simp [sizesOf]
theorem CellOk.keep {n:Nat} {x:List (Int × List Int)} {ss:List Int} (h:CellOk n x ss) (hs:SzOk ss):∀ p∈x,p.2.length≤1000:=by
 intro p hp
 obtain ⟨i,hi,rfl⟩:=List.getElem_of_mem hp
 have h1:=(h.ok i hi (by rw [← h.len]; exact hi)).len
 have:=hs.few
 omega
theorem s62 (hp:List O):callL K (.fn (.func 62) [] []) [] none hp=some (.ret (.d (.list 2 arrsD)),false,hp,0):=by
 rw [k62]
 simp [c62,x62_0,x62_1,arrsD]
theorem szOk0:SzOk []:=⟨by simp,by simp⟩
theorem szOk1 {a:Int} (h:1≤a∧a≤4):SzOk [a]:=⟨by simpa using h,by simp⟩
theorem szOk2 {a b:Int} (h:1≤a∧a≤4) (h':1≤b∧b≤4):SzOk [a,b]:=⟨by
 intro s hs
 simp at hs
 rcases hs with rfl | rfl<;>assumption,by simp⟩
theorem s63_0_0 {hp:List O} {l:Nat} {v:V} {nums:List Int} {k st:Int} {h0:List O} {w1:Nat} (hv:IsInts v nums) (hl:l < hp.length) (hk:0≤k) (hk':k < 1099511400000)
  (eP:CK 58 [.ptr (.heap l) 0,.d (.list 1 [.int .i64 0,.int .i64 1,.int .i64 1,.int .i64 2,.int .i64 2])] h0 (.d (.int .i64 0)) (hp.set l (rodO v k st)) w1)
  {ta:Int} {tn:Nat} {tx:List (Int × List Int)} {wT wA wM:Nat} {h2 h3:List O} (hs:SzOk [])
  (eA:CK 20 [.ptr (.heap l) 0,.d (.int .i64 2)] (hp.set l (rodO v k st)) (.d (.int .i64 ta)) h2 wA)
  (eT:CK 128 [.ptr (.heap l) 0,.d (.list 2 arrsD),.d (szD []),.d (.int .i64 ta)] h2 (.d (encC tn tx)) h3 wT) (hT:CellOk tn tx [])
  {kM stM:Int} (hM0:0≤kM) (hM1:kM < 1099511450000) (eM:CK 20 [.ptr (.heap l) 0,.d (.int .i64 2)] h3 (.d (.int .i64 0)) (hp.set l (rodO v kM stM)) wM) :
  ∃ k' st' s w,callL K (.fn (.func 63) [] []) [.ptr (.heap l) 0,.d (.list 2 arrsD)] none h0=some (.ret (.d (encS s)),false,hp.set l (rodO v k' st'),w)∧StpOk s∧kM≤k'∧k'≤kM+60:=by
 obtain ⟨so,b,eO⟩:=s129 (n:=3) (st:=stM) (k:=kM) hv hl (by omega) (by omega) (by omega) (by omega)
 cases b with
 | false =>
  obtain ⟨kb,sb,d,eB,hB,ib,jb⟩:=s131 (cells:=0) (loops:=0) (st:=so) (k:=kM+1) hv hl (by omega) (by omega) (by omega) (by omega)
  obtain ⟨o,p,q,n,z,a,rfl,ha⟩:=hB.form
  obtain ⟨w,e⟩:=p63_0_0_0 eP eA eT eM eO eB (atD_cell tx) (ha.cell)
  refine ⟨kb,sb,⟨[],(tn,tx),[],o,p,q,n,z,a⟩,w,e,⟨hs,hT,?_,by simp,hB⟩,by omega,by omega⟩
  simp
 | true =>
  obtain ⟨kb,sb,d,eB,hB,ib,jb⟩:=s131 (cells:=1) (loops:=0) (st:=so) (k:=kM+1) hv hl (by omega) (by omega) (by omega) (by omega)
  obtain ⟨o,p,q,n,z,a,rfl,ha⟩:=hB.form
  have eK:=fun hp=>s130 hp tn tx hT.two (hT.keep hs)
  obtain ⟨w,e⟩:=p63_0_0_1 eP eA eT eM eO eK eB (atD_cell tx) (ha.cell)
  refine ⟨kb,sb,⟨[],(tn,tx),[(tn,tx)],o,p,q,n,z,a⟩,w,e,⟨hs,hT,?_,by simp,hB⟩,by omega,by omega⟩
  intro c hc
  simp at hc
  subst hc
  exact hT
theorem s63_0_1 {hp:List O} {l:Nat} {v:V} {nums:List Int} {k st:Int} {h0:List O} {w1:Nat} (hv:IsInts v nums) (hl:l < hp.length) (hk:0≤k) (hk':k < 1099511400000)
  (eP:CK 58 [.ptr (.heap l) 0,.d (.list 1 [.int .i64 0,.int .i64 1,.int .i64 1,.int .i64 2,.int .i64 2])] h0 (.d (.int .i64 0)) (hp.set l (rodO v k st)) w1)
  {ta:Int} {tn:Nat} {tx:List (Int × List Int)} {wT wA wM:Nat} {h2 h3:List O} (hs:SzOk [])
  (eA:CK 20 [.ptr (.heap l) 0,.d (.int .i64 2)] (hp.set l (rodO v k st)) (.d (.int .i64 ta)) h2 wA)
  (eT:CK 128 [.ptr (.heap l) 0,.d (.list 2 arrsD),.d (szD []),.d (.int .i64 ta)] h2 (.d (encC tn tx)) h3 wT) (hT:CellOk tn tx [])
  {kM stM:Int} (hM0:0≤kM) (hM1:kM < 1099511450000) (eM:CK 20 [.ptr (.heap l) 0,.d (.int .i64 2)] h3 (.d (.int .i64 1)) (hp.set l (rodO v kM stM)) wM) :
  ∃ k' st' s w,callL K (.fn (.func 63) [] []) [.ptr (.heap l) 0,.d (.list 2 arrsD)] none h0=some (.ret (.d (encS s)),false,hp.set l (rodO v k' st'),w)∧StpOk s∧kM≤k'∧k'≤kM+60:=by
 obtain ⟨sf0,f0,eF0,f00,f01⟩:=s20 (n:=2) (st:=stM) (k:=kM) hv hl (by omega) (by omega) (by omega)
 obtain ⟨kc0,sc0,n0,x0,w0,eC0,hC0,i0,j0,-⟩:=s128 (a:=f0) (st:=sf0) (k:=kM+1) hv hl hs (by omega) (by omega) (by omega) (by omega)
 obtain ⟨so,b,eO⟩:=s129 (n:=3) (st:=sc0) (k:=kc0) hv hl (by omega) (by omega) (by omega) (by omega)
 cases b with
 | false =>
  obtain ⟨kb,sb,d,eB,hB,ib,jb⟩:=s131 (cells:=1) (loops:=0) (st:=so) (k:=kc0+1) hv hl (by omega) (by omega) (by omega) (by omega)
  obtain ⟨o,p,q,n,z,a,rfl,ha⟩:=hB.form
  obtain ⟨w,e⟩:=p63_0_1_0 eP eA eT eM eF0 eC0 eO eB (atD_cell tx) (ha.cell) (atD_cell x0)
  refine ⟨kb,sb,⟨[],(tn,tx),[(n0,x0)],o,p,q,n,z,a⟩,w,e,⟨hs,hT,?_,by simp,hB⟩,by omega,by omega⟩
  intro c hc
  simp at hc
  subst hc
  exact hC0
 | true =>
  obtain ⟨kb,sb,d,eB,hB,ib,jb⟩:=s131 (cells:=2) (loops:=0) (st:=so) (k:=kc0+1) hv hl (by omega) (by omega) (by omega) (by omega)
  obtain ⟨o,p,q,n,z,a,rfl,ha⟩:=hB.form
  have eK:=fun hp=>s130 hp tn tx hT.two (hT.keep hs)
  obtain ⟨w,e⟩:=p63_0_1_1 eP eA eT eM eF0 eC0 eO eK eB (atD_cell tx) (ha.cell) (atD_cell x0)
  refine ⟨kb,sb,⟨[],(tn,tx),[(n0,x0),(tn,tx)],o,p,q,n,z,a⟩,w,e,⟨hs,hT,?_,by simp,hB⟩,by omega,by omega⟩
  intro c hc
  simp at hc
  rcases hc with rfl | rfl
  ·exact hC0
  ·exact hT
theorem s63_0_2 {hp:List O} {l:Nat} {v:V} {nums:List Int} {k st:Int} {h0:List O} {w1:Nat} (hv:IsInts v nums) (hl:l < hp.length) (hk:0≤k) (hk':k < 1099511400000)
  (eP:CK 58 [.ptr (.heap l) 0,.d (.list 1 [.int .i64 0,.int .i64 1,.int .i64 1,.int .i64 2,.int .i64 2])] h0 (.d (.int .i64 0)) (hp.set l (rodO v k st)) w1)
  {ta:Int} {tn:Nat} {tx:List (Int × List Int)} {wT wA wM:Nat} {h2 h3:List O} (hs:SzOk [])
  (eA:CK 20 [.ptr (.heap l) 0,.d (.int .i64 2)] (hp.set l (rodO v k st)) (.d (.int .i64 ta)) h2 wA)
  (eT:CK 128 [.ptr (.heap l) 0,.d (.list 2 arrsD),.d (szD []),.d (.int .i64 ta)] h2 (.d (encC tn tx)) h3 wT) (hT:CellOk tn tx [])
  {kM stM:Int} (hM0:0≤kM) (hM1:kM < 1099511450000) (eM:CK 20 [.ptr (.heap l) 0,.d (.int .i64 2)] h3 (.d (.int .i64 2)) (hp.set l (rodO v kM stM)) wM) :
  ∃ k' st' s w,callL K (.fn (.func 63) [] []) [.ptr (.heap l) 0,.d (.list 2 arrsD)] none h0=some (.ret (.d (encS s)),false,hp.set l (rodO v k' st'),w)∧StpOk s∧kM≤k'∧k'≤kM+60:=by
 obtain ⟨sf0,f0,eF0,f00,f01⟩:=s20 (n:=2) (st:=stM) (k:=kM) hv hl (by omega) (by omega) (by omega)
 obtain ⟨kc0,sc0,n0,x0,w0,eC0,hC0,i0,j0,-⟩:=s128 (a:=f0) (st:=sf0) (k:=kM+1) hv hl hs (by omega) (by omega) (by omega) (by omega)
 obtain ⟨sf1,f1,eF1,f10,f11⟩:=s20 (n:=2) (st:=sc0) (k:=kc0) hv hl (by omega) (by omega) (by omega)
 obtain ⟨kc1,sc1,n1,x1,w1,eC1,hC1,i1,j1,-⟩:=s128 (a:=f1) (st:=sf1) (k:=kc0+1) hv hl hs (by omega) (by omega) (by omega) (by omega)
 obtain ⟨so,b,eO⟩:=s129 (n:=3) (st:=sc1) (k:=kc1) hv hl (by omega) (by omega) (by omega) (by omega)
 cases b with
 | false =>
  obtain ⟨kb,sb,d,eB,hB,ib,jb⟩:=s131 (cells:=2) (loops:=0) (st:=so) (k:=kc1+1) hv hl (by omega) (by omega) (by omega) (by omega)
  obtain ⟨o,p,q,n,z,a,rfl,ha⟩:=hB.form
  obtain ⟨w,e⟩:=p63_0_2_0 eP eA eT eM eF0 eC0 eF1 eC1 eO eB (atD_cell tx) (ha.cell) (atD_cell x0) (atD_cell x1)
  refine ⟨kb,sb,⟨[],(tn,tx),[(n0,x0),(n1,x1)],o,p,q,n,z,a⟩,w,e,⟨hs,hT,?_,by simp,hB⟩,by omega,by omega⟩
  intro c hc
  simp at hc
  rcases hc with rfl | rfl
  ·exact hC0
  ·exact hC1
 | true =>
  obtain ⟨kb,sb,d,eB,hB,ib,jb⟩:=s131 (cells:=3) (loops:=0) (st:=so) (k:=kc1+1) hv hl (by omega) (by omega) (by omega) (by omega)
  obtain ⟨o,p,q,n,z,a,rfl,ha⟩:=hB.form
  have eK:=fun hp=>s130 hp tn tx hT.two (hT.keep hs)
  obtain ⟨w,e⟩:=p63_0_2_1 eP eA eT eM eF0 eC0 eF1 eC1 eO eK eB (atD_cell tx) (ha.cell) (atD_cell x0) (atD_cell x1)
  refine ⟨kb,sb,⟨[],(tn,tx),[(n0,x0),(n1,x1),(tn,tx)],o,p,q,n,z,a⟩,w,e,⟨hs,hT,?_,by simp,hB⟩,by omega,by omega⟩
  intro c hc
  simp at hc
  rcases hc with rfl | rfl | rfl
  ·exact hC0
  ·exact hC1
  ·exact hT
theorem s63_1_0 {hp:List O} {l:Nat} {v:V} {nums:List Int} {k st:Int} {h0:List O} {w1:Nat} (hv:IsInts v nums) (hl:l < hp.length) (hk:0≤k) (hk':k < 1099511400000)
  (eP:CK 58 [.ptr (.heap l) 0,.d (.list 1 [.int .i64 0,.int .i64 1,.int .i64 1,.int .i64 2,.int .i64 2])] h0 (.d (.int .i64 1)) (hp.set l (rodO v k st)) w1)
  {a0 ta:Int} {tn:Nat} {tx:List (Int × List Int)} {wS wT wA wM:Nat} {h1 h2 h3:List O} (hs:SzOk [a0])
  (eS0:CK 21 [.ptr (.heap l) 0,.d (.int .i64 1),.d (.int .i64 4)] (hp.set l (rodO v k st)) (.d (.int .i64 a0)) h1 wS)
  (eA:CK 20 [.ptr (.heap l) 0,.d (.int .i64 2)] (h1) (.d (.int .i64 ta)) h2 wA)
  (eT:CK 128 [.ptr (.heap l) 0,.d (.list 2 arrsD),.d (szD [a0]),.d (.int .i64 ta)] h2 (.d (encC tn tx)) h3 wT) (hT:CellOk tn tx [a0])
  {kM stM:Int} (hM0:0≤kM) (hM1:kM < 1099511450000) (eM:CK 20 [.ptr (.heap l) 0,.d (.int .i64 2)] h3 (.d (.int .i64 0)) (hp.set l (rodO v kM stM)) wM) :
  ∃ k' st' s w,callL K (.fn (.func 63) [] []) [.ptr (.heap l) 0,.d (.list 2 arrsD)] none h0=some (.ret (.d (encS s)),false,hp.set l (rodO v k' st'),w)∧StpOk s∧kM≤k'∧k'≤kM+60:=by
 obtain ⟨so,b,eO⟩:=s129 (n:=3) (st:=stM) (k:=kM) hv hl (by omega) (by omega) (by omega) (by omega)
 cases b with
 | false =>
  obtain ⟨kb,sb,d,eB,hB,ib,jb⟩:=s131 (cells:=0) (loops:=1) (st:=so) (k:=kM+1) hv hl (by omega) (by omega) (by omega) (by omega)
  obtain ⟨o,p,q,n,z,a,rfl,ha⟩:=hB.form
  obtain ⟨w,e⟩:=p63_1_0_0 eP eS0 eA eT eM eO eB (atD_cell tx) (ha.cell)
  refine ⟨kb,sb,⟨[a0],(tn,tx),[],o,p,q,n,z,a⟩,w,e,⟨hs,hT,?_,by simp,hB⟩,by omega,by omega⟩
  simp
 | true =>
  obtain ⟨kb,sb,d,eB,hB,ib,jb⟩:=s131 (cells:=1) (loops:=1) (st:=so) (k:=kM+1) hv hl (by omega) (by omega) (by omega) (by omega)
  obtain ⟨o,p,q,n,z,a,rfl,ha⟩:=hB.form
  have eK:=fun hp=>s130 hp tn tx hT.two (hT.keep hs)
  obtain ⟨w,e⟩:=p63_1_0_1 eP eS0 eA eT eM eO eK eB (atD_cell tx) (ha.cell)
  refine ⟨kb,sb,⟨[a0],(tn,tx),[(tn,tx)],o,p,q,n,z,a⟩,w,e,⟨hs,hT,?_,by simp,hB⟩,by omega,by omega⟩
  intro c hc
  simp at hc
  subst hc
  exact hT
theorem s63_1_1 {hp:List O} {l:Nat} {v:V} {nums:List Int} {k st:Int} {h0:List O} {w1:Nat} (hv:IsInts v nums) (hl:l < hp.length) (hk:0≤k) (hk':k < 1099511400000)
  (eP:CK 58 [.ptr (.heap l) 0,.d (.list 1 [.int .i64 0,.int .i64 1,.int .i64 1,.int .i64 2,.int .i64 2])] h0 (.d (.int .i64 1)) (hp.set l (rodO v k st)) w1)
  {a0 ta:Int} {tn:Nat} {tx:List (Int × List Int)} {wS wT wA wM:Nat} {h1 h2 h3:List O} (hs:SzOk [a0])
  (eS0:CK 21 [.ptr (.heap l) 0,.d (.int .i64 1),.d (.int .i64 4)] (hp.set l (rodO v k st)) (.d (.int .i64 a0)) h1 wS)
  (eA:CK 20 [.ptr (.heap l) 0,.d (.int .i64 2)] (h1) (.d (.int .i64 ta)) h2 wA)
  (eT:CK 128 [.ptr (.heap l) 0,.d (.list 2 arrsD),.d (szD [a0]),.d (.int .i64 ta)] h2 (.d (encC tn tx)) h3 wT) (hT:CellOk tn tx [a0])
  {kM stM:Int} (hM0:0≤kM) (hM1:kM < 1099511450000) (eM:CK 20 [.ptr (.heap l) 0,.d (.int .i64 2)] h3 (.d (.int .i64 1)) (hp.set l (rodO v kM stM)) wM) :
  ∃ k' st' s w,callL K (.fn (.func 63) [] []) [.ptr (.heap l) 0,.d (.list 2 arrsD)] none h0=some (.ret (.d (encS s)),false,hp.set l (rodO v k' st'),w)∧StpOk s∧kM≤k'∧k'≤kM+60:=by
 obtain ⟨sf0,f0,eF0,f00,f01⟩:=s20 (n:=2) (st:=stM) (k:=kM) hv hl (by omega) (by omega) (by omega)
 obtain ⟨kc0,sc0,n0,x0,w0,eC0,hC0,i0,j0,-⟩:=s128 (a:=f0) (st:=sf0) (k:=kM+1) hv hl hs (by omega) (by omega) (by omega) (by omega)
 obtain ⟨so,b,eO⟩:=s129 (n:=3) (st:=sc0) (k:=kc0) hv hl (by omega) (by omega) (by omega) (by omega)
 cases b with
 | false =>
  obtain ⟨kb,sb,d,eB,hB,ib,jb⟩:=s131 (cells:=1) (loops:=1) (st:=so) (k:=kc0+1) hv hl (by omega) (by omega) (by omega) (by omega)
  obtain ⟨o,p,q,n,z,a,rfl,ha⟩:=hB.form
  obtain ⟨w,e⟩:=p63_1_1_0 eP eS0 eA eT eM eF0 eC0 eO eB (atD_cell tx) (ha.cell) (atD_cell x0)
  refine ⟨kb,sb,⟨[a0],(tn,tx),[(n0,x0)],o,p,q,n,z,a⟩,w,e,⟨hs,hT,?_,by simp,hB⟩,by omega,by omega⟩
  intro c hc
  simp at hc
  subst hc
  exact hC0
 | true =>
  obtain ⟨kb,sb,d,eB,hB,ib,jb⟩:=s131 (cells:=2) (loops:=1) (st:=so) (k:=kc0+1) hv hl (by omega) (by omega) (by omega) (by omega)
  obtain ⟨o,p,q,n,z,a,rfl,ha⟩:=hB.form
  have eK:=fun hp=>s130 hp tn tx hT.two (hT.keep hs)
  obtain ⟨w,e⟩:=p63_1_1_1 eP eS0 eA eT eM eF0 eC0 eO eK eB (atD_cell tx) (ha.cell) (atD_cell x0)
  refine ⟨kb,sb,⟨[a0],(tn,tx),[(n0,x0),(tn,tx)],o,p,q,n,z,a⟩,w,e,⟨hs,hT,?_,by simp,hB⟩,by omega,by omega⟩
  intro c hc
  simp at hc
  rcases hc with rfl | rfl
  ·exact hC0
  ·exact hT
theorem s63_1_2 {hp:List O} {l:Nat} {v:V} {nums:List Int} {k st:Int} {h0:List O} {w1:Nat} (hv:IsInts v nums) (hl:l < hp.length) (hk:0≤k) (hk':k < 1099511400000)
  (eP:CK 58 [.ptr (.heap l) 0,.d (.list 1 [.int .i64 0,.int .i64 1,.int .i64 1,.int .i64 2,.int .i64 2])] h0 (.d (.int .i64 1)) (hp.set l (rodO v k st)) w1)
  {a0 ta:Int} {tn:Nat} {tx:List (Int × List Int)} {wS wT wA wM:Nat} {h1 h2 h3:List O} (hs:SzOk [a0])
  (eS0:CK 21 [.ptr (.heap l) 0,.d (.int .i64 1),.d (.int .i64 4)] (hp.set l (rodO v k st)) (.d (.int .i64 a0)) h1 wS)
  (eA:CK 20 [.ptr (.heap l) 0,.d (.int .i64 2)] (h1) (.d (.int .i64 ta)) h2 wA)
  (eT:CK 128 [.ptr (.heap l) 0,.d (.list 2 arrsD),.d (szD [a0]),.d (.int .i64 ta)] h2 (.d (encC tn tx)) h3 wT) (hT:CellOk tn tx [a0])
  {kM stM:Int} (hM0:0≤kM) (hM1:kM < 1099511450000) (eM:CK 20 [.ptr (.heap l) 0,.d (.int .i64 2)] h3 (.d (.int .i64 2)) (hp.set l (rodO v kM stM)) wM) :
  ∃ k' st' s w,callL K (.fn (.func 63) [] []) [.ptr (.heap l) 0,.d (.list 2 arrsD)] none h0=some (.ret (.d (encS s)),false,hp.set l (rodO v k' st'),w)∧StpOk s∧kM≤k'∧k'≤kM+60:=by
 obtain ⟨sf0,f0,eF0,f00,f01⟩:=s20 (n:=2) (st:=stM) (k:=kM) hv hl (by omega) (by omega) (by omega)
 obtain ⟨kc0,sc0,n0,x0,w0,eC0,hC0,i0,j0,-⟩:=s128 (a:=f0) (st:=sf0) (k:=kM+1) hv hl hs (by omega) (by omega) (by omega) (by omega)
 obtain ⟨sf1,f1,eF1,f10,f11⟩:=s20 (n:=2) (st:=sc0) (k:=kc0) hv hl (by omega) (by omega) (by omega)
 obtain ⟨kc1,sc1,n1,x1,w1,eC1,hC1,i1,j1,-⟩:=s128 (a:=f1) (st:=sf1) (k:=kc0+1) hv hl hs (by omega) (by omega) (by omega) (by omega)
 obtain ⟨so,b,eO⟩:=s129 (n:=3) (st:=sc1) (k:=kc1) hv hl (by omega) (by omega) (by omega) (by omega)
 cases b with
 | false =>
  obtain ⟨kb,sb,d,eB,hB,ib,jb⟩:=s131 (cells:=2) (loops:=1) (st:=so) (k:=kc1+1) hv hl (by omega) (by omega) (by omega) (by omega)
  obtain ⟨o,p,q,n,z,a,rfl,ha⟩:=hB.form
  obtain ⟨w,e⟩:=p63_1_2_0 eP eS0 eA eT eM eF0 eC0 eF1 eC1 eO eB (atD_cell tx) (ha.cell) (atD_cell x0) (atD_cell x1)
  refine ⟨kb,sb,⟨[a0],(tn,tx),[(n0,x0),(n1,x1)],o,p,q,n,z,a⟩,w,e,⟨hs,hT,?_,by simp,hB⟩,by omega,by omega⟩
  intro c hc
  simp at hc
  rcases hc with rfl | rfl
  ·exact hC0
  ·exact hC1
 | true =>
  obtain ⟨kb,sb,d,eB,hB,ib,jb⟩:=s131 (cells:=3) (loops:=1) (st:=so) (k:=kc1+1) hv hl (by omega) (by omega) (by omega) (by omega)
  obtain ⟨o,p,q,n,z,a,rfl,ha⟩:=hB.form
  have eK:=fun hp=>s130 hp tn tx hT.two (hT.keep hs)
  obtain ⟨w,e⟩:=p63_1_2_1 eP eS0 eA eT eM eF0 eC0 eF1 eC1 eO eK eB (atD_cell tx) (ha.cell) (atD_cell x0) (atD_cell x1)
  refine ⟨kb,sb,⟨[a0],(tn,tx),[(n0,x0),(n1,x1),(tn,tx)],o,p,q,n,z,a⟩,w,e,⟨hs,hT,?_,by simp,hB⟩,by omega,by omega⟩
  intro c hc
  simp at hc
  rcases hc with rfl | rfl | rfl
  ·exact hC0
  ·exact hC1
  ·exact hT
theorem s63_2_0 {hp:List O} {l:Nat} {v:V} {nums:List Int} {k st:Int} {h0:List O} {w1:Nat} (hv:IsInts v nums) (hl:l < hp.length) (hk:0≤k) (hk':k < 1099511400000)
  (eP:CK 58 [.ptr (.heap l) 0,.d (.list 1 [.int .i64 0,.int .i64 1,.int .i64 1,.int .i64 2,.int .i64 2])] h0 (.d (.int .i64 2)) (hp.set l (rodO v k st)) w1)
  {a0 a1 ta:Int} {tn:Nat} {tx:List (Int × List Int)} {wS wT wA wM:Nat} {h1 h2 h3:List O} (hs:SzOk [a0,a1])
  (eS0:CK 21 [.ptr (.heap l) 0,.d (.int .i64 1),.d (.int .i64 4)] (hp.set l (rodO v k st)) (.d (.int .i64 a0)) h1 wS)
  {wS2:Nat} {h1b:List O} (eS1:CK 21 [.ptr (.heap l) 0,.d (.int .i64 1),.d (.int .i64 4)] h1 (.d (.int .i64 a1)) h1b wS2)
  (eA:CK 20 [.ptr (.heap l) 0,.d (.int .i64 2)] (h1b) (.d (.int .i64 ta)) h2 wA)
  (eT:CK 128 [.ptr (.heap l) 0,.d (.list 2 arrsD),.d (szD [a0,a1]),.d (.int .i64 ta)] h2 (.d (encC tn tx)) h3 wT) (hT:CellOk tn tx [a0,a1])
  {kM stM:Int} (hM0:0≤kM) (hM1:kM < 1099511450000) (eM:CK 20 [.ptr (.heap l) 0,.d (.int .i64 2)] h3 (.d (.int .i64 0)) (hp.set l (rodO v kM stM)) wM) :
  ∃ k' st' s w,callL K (.fn (.func 63) [] []) [.ptr (.heap l) 0,.d (.list 2 arrsD)] none h0=some (.ret (.d (encS s)),false,hp.set l (rodO v k' st'),w)∧StpOk s∧kM≤k'∧k'≤kM+60:=by
 obtain ⟨so,b,eO⟩:=s129 (n:=3) (st:=stM) (k:=kM) hv hl (by omega) (by omega) (by omega) (by omega)
 cases b with
 | false =>
  obtain ⟨kb,sb,d,eB,hB,ib,jb⟩:=s131 (cells:=0) (loops:=2) (st:=so) (k:=kM+1) hv hl (by omega) (by omega) (by omega) (by omega)
  obtain ⟨o,p,q,n,z,a,rfl,ha⟩:=hB.form
  obtain ⟨w,e⟩:=p63_2_0_0 eP eS0 eS1 eA eT eM eO eB (atD_cell tx) (ha.cell)
  refine ⟨kb,sb,⟨[a0,a1],(tn,tx),[],o,p,q,n,z,a⟩,w,e,⟨hs,hT,?_,by simp,hB⟩,by omega,by omega⟩
  simp
 | true =>
  obtain ⟨kb,sb,d,eB,hB,ib,jb⟩:=s131 (cells:=1) (loops:=2) (st:=so) (k:=kM+1) hv hl (by omega) (by omega) (by omega) (by omega)
  obtain ⟨o,p,q,n,z,a,rfl,ha⟩:=hB.form
  have eK:=fun hp=>s130 hp tn tx hT.two (hT.keep hs)
  obtain ⟨w,e⟩:=p63_2_0_1 eP eS0 eS1 eA eT eM eO eK eB (atD_cell tx) (ha.cell)
  refine ⟨kb,sb,⟨[a0,a1],(tn,tx),[(tn,tx)],o,p,q,n,z,a⟩,w,e,⟨hs,hT,?_,by simp,hB⟩,by omega,by omega⟩
  intro c hc
  simp at hc
  subst hc
  exact hT
theorem s63_2_1 {hp:List O} {l:Nat} {v:V} {nums:List Int} {k st:Int} {h0:List O} {w1:Nat} (hv:IsInts v nums) (hl:l < hp.length) (hk:0≤k) (hk':k < 1099511400000)
  (eP:CK 58 [.ptr (.heap l) 0,.d (.list 1 [.int .i64 0,.int .i64 1,.int .i64 1,.int .i64 2,.int .i64 2])] h0 (.d (.int .i64 2)) (hp.set l (rodO v k st)) w1)
  {a0 a1 ta:Int} {tn:Nat} {tx:List (Int × List Int)} {wS wT wA wM:Nat} {h1 h2 h3:List O} (hs:SzOk [a0,a1])
  (eS0:CK 21 [.ptr (.heap l) 0,.d (.int .i64 1),.d (.int .i64 4)] (hp.set l (rodO v k st)) (.d (.int .i64 a0)) h1 wS)
  {wS2:Nat} {h1b:List O} (eS1:CK 21 [.ptr (.heap l) 0,.d (.int .i64 1),.d (.int .i64 4)] h1 (.d (.int .i64 a1)) h1b wS2)
  (eA:CK 20 [.ptr (.heap l) 0,.d (.int .i64 2)] (h1b) (.d (.int .i64 ta)) h2 wA)
  (eT:CK 128 [.ptr (.heap l) 0,.d (.list 2 arrsD),.d (szD [a0,a1]),.d (.int .i64 ta)] h2 (.d (encC tn tx)) h3 wT) (hT:CellOk tn tx [a0,a1])
  {kM stM:Int} (hM0:0≤kM) (hM1:kM < 1099511450000) (eM:CK 20 [.ptr (.heap l) 0,.d (.int .i64 2)] h3 (.d (.int .i64 1)) (hp.set l (rodO v kM stM)) wM) :
  ∃ k' st' s w,callL K (.fn (.func 63) [] []) [.ptr (.heap l) 0,.d (.list 2 arrsD)] none h0=some (.ret (.d (encS s)),false,hp.set l (rodO v k' st'),w)∧StpOk s∧kM≤k'∧k'≤kM+60:=by
 obtain ⟨sf0,f0,eF0,f00,f01⟩:=s20 (n:=2) (st:=stM) (k:=kM) hv hl (by omega) (by omega) (by omega)
 obtain ⟨kc0,sc0,n0,x0,w0,eC0,hC0,i0,j0,-⟩:=s128 (a:=f0) (st:=sf0) (k:=kM+1) hv hl hs (by omega) (by omega) (by omega) (by omega)
 obtain ⟨so,b,eO⟩:=s129 (n:=3) (st:=sc0) (k:=kc0) hv hl (by omega) (by omega) (by omega) (by omega)
 cases b with
 | false =>
  obtain ⟨kb,sb,d,eB,hB,ib,jb⟩:=s131 (cells:=1) (loops:=2) (st:=so) (k:=kc0+1) hv hl (by omega) (by omega) (by omega) (by omega)
  obtain ⟨o,p,q,n,z,a,rfl,ha⟩:=hB.form
  obtain ⟨w,e⟩:=p63_2_1_0 eP eS0 eS1 eA eT eM eF0 eC0 eO eB (atD_cell tx) (ha.cell) (atD_cell x0)
  refine ⟨kb,sb,⟨[a0,a1],(tn,tx),[(n0,x0)],o,p,q,n,z,a⟩,w,e,⟨hs,hT,?_,by simp,hB⟩,by omega,by omega⟩
  intro c hc
  simp at hc
  subst hc
  exact hC0
 | true =>
  obtain ⟨kb,sb,d,eB,hB,ib,jb⟩:=s131 (cells:=2) (loops:=2) (st:=so) (k:=kc0+1) hv hl (by omega) (by omega) (by omega) (by omega)
  obtain ⟨o,p,q,n,z,a,rfl,ha⟩:=hB.form
  have eK:=fun hp=>s130 hp tn tx hT.two (hT.keep hs)
  obtain ⟨w,e⟩:=p63_2_1_1 eP eS0 eS1 eA eT eM eF0 eC0 eO eK eB (atD_cell tx) (ha.cell) (atD_cell x0)
  refine ⟨kb,sb,⟨[a0,a1],(tn,tx),[(n0,x0),(tn,tx)],o,p,q,n,z,a⟩,w,e,⟨hs,hT,?_,by simp,hB⟩,by omega,by omega⟩
  intro c hc
  simp at hc
  rcases hc with rfl | rfl
  ·exact hC0
  ·exact hT
theorem s63_2_2 {hp:List O} {l:Nat} {v:V} {nums:List Int} {k st:Int} {h0:List O} {w1:Nat} (hv:IsInts v nums) (hl:l < hp.length) (hk:0≤k) (hk':k < 1099511400000)
  (eP:CK 58 [.ptr (.heap l) 0,.d (.list 1 [.int .i64 0,.int .i64 1,.int .i64 1,.int .i64 2,.int .i64 2])] h0 (.d (.int .i64 2)) (hp.set l (rodO v k st)) w1)
  {a0 a1 ta:Int} {tn:Nat} {tx:List (Int × List Int)} {wS wT wA wM:Nat} {h1 h2 h3:List O} (hs:SzOk [a0,a1])
  (eS0:CK 21 [.ptr (.heap l) 0,.d (.int .i64 1),.d (.int .i64 4)] (hp.set l (rodO v k st)) (.d (.int .i64 a0)) h1 wS)
  {wS2:Nat} {h1b:List O} (eS1:CK 21 [.ptr (.heap l) 0,.d (.int .i64 1),.d (.int .i64 4)] h1 (.d (.int .i64 a1)) h1b wS2)
  (eA:CK 20 [.ptr (.heap l) 0,.d (.int .i64 2)] (h1b) (.d (.int .i64 ta)) h2 wA)
  (eT:CK 128 [.ptr (.heap l) 0,.d (.list 2 arrsD),.d (szD [a0,a1]),.d (.int .i64 ta)] h2 (.d (encC tn tx)) h3 wT) (hT:CellOk tn tx [a0,a1])
  {kM stM:Int} (hM0:0≤kM) (hM1:kM < 1099511450000) (eM:CK 20 [.ptr (.heap l) 0,.d (.int .i64 2)] h3 (.d (.int .i64 2)) (hp.set l (rodO v kM stM)) wM) :
  ∃ k' st' s w,callL K (.fn (.func 63) [] []) [.ptr (.heap l) 0,.d (.list 2 arrsD)] none h0=some (.ret (.d (encS s)),false,hp.set l (rodO v k' st'),w)∧StpOk s∧kM≤k'∧k'≤kM+60:=by
 obtain ⟨sf0,f0,eF0,f00,f01⟩:=s20 (n:=2) (st:=stM) (k:=kM) hv hl (by omega) (by omega) (by omega)
 obtain ⟨kc0,sc0,n0,x0,w0,eC0,hC0,i0,j0,-⟩:=s128 (a:=f0) (st:=sf0) (k:=kM+1) hv hl hs (by omega) (by omega) (by omega) (by omega)
 obtain ⟨sf1,f1,eF1,f10,f11⟩:=s20 (n:=2) (st:=sc0) (k:=kc0) hv hl (by omega) (by omega) (by omega)
 obtain ⟨kc1,sc1,n1,x1,w1,eC1,hC1,i1,j1,-⟩:=s128 (a:=f1) (st:=sf1) (k:=kc0+1) hv hl hs (by omega) (by omega) (by omega) (by omega)
 obtain ⟨so,b,eO⟩:=s129 (n:=3) (st:=sc1) (k:=kc1) hv hl (by omega) (by omega) (by omega) (by omega)
 cases b with
 | false =>
  obtain ⟨kb,sb,d,eB,hB,ib,jb⟩:=s131 (cells:=2) (loops:=2) (st:=so) (k:=kc1+1) hv hl (by omega) (by omega) (by omega) (by omega)
  obtain ⟨o,p,q,n,z,a,rfl,ha⟩:=hB.form
  obtain ⟨w,e⟩:=p63_2_2_0 eP eS0 eS1 eA eT eM eF0 eC0 eF1 eC1 eO eB (atD_cell tx) (ha.cell) (atD_cell x0) (atD_cell x1)
  refine ⟨kb,sb,⟨[a0,a1],(tn,tx),[(n0,x0),(n1,x1)],o,p,q,n,z,a⟩,w,e,⟨hs,hT,?_,by simp,hB⟩,by omega,by omega⟩
  intro c hc
  simp at hc
  rcases hc with rfl | rfl
  ·exact hC0
  ·exact hC1
 | true =>
  obtain ⟨kb,sb,d,eB,hB,ib,jb⟩:=s131 (cells:=3) (loops:=2) (st:=so) (k:=kc1+1) hv hl (by omega) (by omega) (by omega) (by omega)
  obtain ⟨o,p,q,n,z,a,rfl,ha⟩:=hB.form
  have eK:=fun hp=>s130 hp tn tx hT.two (hT.keep hs)
  obtain ⟨w,e⟩:=p63_2_2_1 eP eS0 eS1 eA eT eM eF0 eC0 eF1 eC1 eO eK eB (atD_cell tx) (ha.cell) (atD_cell x0) (atD_cell x1)
  refine ⟨kb,sb,⟨[a0,a1],(tn,tx),[(n0,x0),(n1,x1),(tn,tx)],o,p,q,n,z,a⟩,w,e,⟨hs,hT,?_,by simp,hB⟩,by omega,by omega⟩
  intro c hc
  simp at hc
  rcases hc with rfl | rfl | rfl
  ·exact hC0
  ·exact hC1
  ·exact hT
theorem s63 {hp:List O} {l:Nat} {v:V} {nums:List Int} {k st:Int} (hv:IsInts v nums) (hl:l < hp.length) (hk:0≤k) (hk':k < 1099511300000) :
  ∃ k' st' s w,callL K (.fn (.func 63) [] []) [.ptr (.heap l) 0,.d (.list 2 arrsD)] none (hp.set l (rodO v k st))=some (.ret (.d (encS s)),false,hp.set l (rodO v k' st'),w)∧StpOk s∧k≤k'∧k'≤k+100:=by
 obtain ⟨st1,r,eP,hr⟩:=s58 (xs:=[0,1,1,2,2]) (st:=st) (k:=k) hv hl hk (by omega) (by simp) (by simp)
 have hr':r=0∨r=1∨r=2:=by simp at hr; omega
 rcases hr' with rfl | rfl | rfl
 ·have hs:=szOk0
  obtain ⟨sa,ta,eA,ta0,ta1⟩:=s20 (n:=2) (st:=st1) (k:=k+1) hv hl (by omega) (by omega) (by omega)
  obtain ⟨kt,stt,tn,tx,w,eT,hT,it,jt,-⟩:=s128 (a:=ta) (st:=sa) (k:=k+1+1) hv hl hs (by omega) (by omega) (by omega) (by omega)
  obtain ⟨sm,m,eM,m0,m1⟩:=s20 (n:=2) (st:=stt) (k:=kt) hv hl (by omega) (by omega) (by omega)
  obtain rfl | rfl | rfl:m=0∨m=1∨m=2:=by omega
  ·obtain ⟨k',st',s,w,e,h,i1,j1⟩:=s63_0_0 hv hl (by omega) (by omega) eP hs  eA eT hT (by omega) (by omega) eM
   exact ⟨k',st',s,w,e,h,by omega,by omega⟩
  ·obtain ⟨k',st',s,w,e,h,i1,j1⟩:=s63_0_1 hv hl (by omega) (by omega) eP hs  eA eT hT (by omega) (by omega) eM
   exact ⟨k',st',s,w,e,h,by omega,by omega⟩
  ·obtain ⟨k',st',s,w,e,h,i1,j1⟩:=s63_0_2 hv hl (by omega) (by omega) eP hs  eA eT hT (by omega) (by omega) eM
   exact ⟨k',st',s,w,e,h,by omega,by omega⟩
 ·obtain ⟨sz0,a0,eS0,p0,q0⟩:=s21 (lo:=1) (hi:=4) (st:=st1) (k:=k+1) hv hl (by omega) (by omega) (by omega) (by omega) (by omega)
  have hs:=szOk1 ⟨p0,q0⟩
  obtain ⟨sa,ta,eA,ta0,ta1⟩:=s20 (n:=2) (st:=sz0) (k:=k+1+1) hv hl (by omega) (by omega) (by omega)
  obtain ⟨kt,stt,tn,tx,w,eT,hT,it,jt,-⟩:=s128 (a:=ta) (st:=sa) (k:=k+1+1+1) hv hl hs (by omega) (by omega) (by omega) (by omega)
  obtain ⟨sm,m,eM,m0,m1⟩:=s20 (n:=2) (st:=stt) (k:=kt) hv hl (by omega) (by omega) (by omega)
  obtain rfl | rfl | rfl:m=0∨m=1∨m=2:=by omega
  ·obtain ⟨k',st',s,w,e,h,i1,j1⟩:=s63_1_0 hv hl (by omega) (by omega) eP hs eS0 eA eT hT (by omega) (by omega) eM
   exact ⟨k',st',s,w,e,h,by omega,by omega⟩
  ·obtain ⟨k',st',s,w,e,h,i1,j1⟩:=s63_1_1 hv hl (by omega) (by omega) eP hs eS0 eA eT hT (by omega) (by omega) eM
   exact ⟨k',st',s,w,e,h,by omega,by omega⟩
  ·obtain ⟨k',st',s,w,e,h,i1,j1⟩:=s63_1_2 hv hl (by omega) (by omega) eP hs eS0 eA eT hT (by omega) (by omega) eM
   exact ⟨k',st',s,w,e,h,by omega,by omega⟩
 ·obtain ⟨sz0,a0,eS0,p0,q0⟩:=s21 (lo:=1) (hi:=4) (st:=st1) (k:=k+1) hv hl (by omega) (by omega) (by omega) (by omega) (by omega)
  obtain ⟨sz1,a1,eS1,p1,q1⟩:=s21 (lo:=1) (hi:=4) (st:=sz0) (k:=k+1+1) hv hl (by omega) (by omega) (by omega) (by omega) (by omega)
  have hs:=szOk2 ⟨p0,q0⟩ ⟨p1,q1⟩
  obtain ⟨sa,ta,eA,ta0,ta1⟩:=s20 (n:=2) (st:=sz1) (k:=k+1+1+1) hv hl (by omega) (by omega) (by omega)
  obtain ⟨kt,stt,tn,tx,w,eT,hT,it,jt,-⟩:=s128 (a:=ta) (st:=sa) (k:=k+1+1+1+1) hv hl hs (by omega) (by omega) (by omega) (by omega)
  obtain ⟨sm,m,eM,m0,m1⟩:=s20 (n:=2) (st:=stt) (k:=kt) hv hl (by omega) (by omega) (by omega)
  obtain rfl | rfl | rfl:m=0∨m=1∨m=2:=by omega
  ·obtain ⟨k',st',s,w,e,h,i1,j1⟩:=s63_2_0 hv hl (by omega) (by omega) eP hs eS0 eS1 eA eT hT (by omega) (by omega) eM
   exact ⟨k',st',s,w,e,h,by omega,by omega⟩
  ·obtain ⟨k',st',s,w,e,h,i1,j1⟩:=s63_2_1 hv hl (by omega) (by omega) eP hs eS0 eS1 eA eT hT (by omega) (by omega) eM
   exact ⟨k',st',s,w,e,h,by omega,by omega⟩
  ·obtain ⟨k',st',s,w,e,h,i1,j1⟩:=s63_2_2 hv hl (by omega) (by omega) eP hs eS0 eS1 eA eT hT (by omega) (by omega) eM
   exact ⟨k',st',s,w,e,h,by omega,by omega⟩
theorem p13_1 {h0 h1 h2:List O} {l:Nat} {w0 w1:Nat} {most:Int} {c0:List D}
 (e0:CK 21 [.ptr (.heap l) 0,.d (.int .i64 1),.d (.int .i64 most)] h0 (.d (.int .i64 1)) h1 w0)
 (e1:CK 63 [.ptr (.heap l) 0,.d (.list 2 arrsD)] h1 (.d (.agg c0)) h2 w1) (hc0:c0.length=10)
 : ∃ w,callL K (.fn (.func 13) [] []) [.ptr (.heap l) 0,.d (.int .i64 most)] none h0=some (.ret (.d (.agg [.list 2 arrsD,.list 10 [.agg c0]])),false,h2,w):=by
 have e:=k13 [] [] [.ptr (.heap l) 0,.d (.int .i64 most)] none h0
 simp [c13,x13_0,x13_1,x13_2,x13_3,x13_4,x13_5,x13_6,execL_loop,u13_0,s62,hw0,hw1,hw2,e0,e1,hc0] at e
 exact ⟨_,e⟩
theorem p13_2 {h0 h1 h2 h3:List O} {l:Nat} {w0 w1 w2:Nat} {most:Int} {c0 c1:List D}
 (e0:CK 21 [.ptr (.heap l) 0,.d (.int .i64 1),.d (.int .i64 most)] h0 (.d (.int .i64 2)) h1 w0)
 (e1:CK 63 [.ptr (.heap l) 0,.d (.list 2 arrsD)] h1 (.d (.agg c0)) h2 w1) (hc0:c0.length=10)
 (e2:CK 63 [.ptr (.heap l) 0,.d (.list 2 arrsD)] h2 (.d (.agg c1)) h3 w2) (hc1:c1.length=10)
 : ∃ w,callL K (.fn (.func 13) [] []) [.ptr (.heap l) 0,.d (.int .i64 most)] none h0=some (.ret (.d (.agg [.list 2 arrsD,.list 10 [.agg c0,.agg c1]])),false,h3,w):=by
 have e:=k13 [] [] [.ptr (.heap l) 0,.d (.int .i64 most)] none h0
 simp [c13,x13_0,x13_1,x13_2,x13_3,x13_4,x13_5,x13_6,execL_loop,u13_0,s62,hw0,hw1,hw2,e0,e1,e2,hc0,hc1] at e
 exact ⟨_,e⟩
theorem p13_3 {h0 h1 h2 h3 h4:List O} {l:Nat} {w0 w1 w2 w3:Nat} {most:Int} {c0 c1 c2:List D}
 (e0:CK 21 [.ptr (.heap l) 0,.d (.int .i64 1),.d (.int .i64 most)] h0 (.d (.int .i64 3)) h1 w0)
 (e1:CK 63 [.ptr (.heap l) 0,.d (.list 2 arrsD)] h1 (.d (.agg c0)) h2 w1) (hc0:c0.length=10)
 (e2:CK 63 [.ptr (.heap l) 0,.d (.list 2 arrsD)] h2 (.d (.agg c1)) h3 w2) (hc1:c1.length=10)
 (e3:CK 63 [.ptr (.heap l) 0,.d (.list 2 arrsD)] h3 (.d (.agg c2)) h4 w3) (hc2:c2.length=10)
 : ∃ w,callL K (.fn (.func 13) [] []) [.ptr (.heap l) 0,.d (.int .i64 most)] none h0=some (.ret (.d (.agg [.list 2 arrsD,.list 10 [.agg c0,.agg c1,.agg c2]])),false,h4,w):=by
 have e:=k13 [] [] [.ptr (.heap l) 0,.d (.int .i64 most)] none h0
 simp [c13,x13_0,x13_1,x13_2,x13_3,x13_4,x13_5,x13_6,execL_loop,u13_0,s62,hw0,hw1,hw2,e0,e1,e2,e3,hc0,hc1,hc2] at e
 exact ⟨_,e⟩
def encT (t:List Stp):D:=.agg [.list 2 arrsD,.list 10 (t.map encS)]
structure TaskOk (t:List Stp):Prop where
 ok:∀ s∈t,StpOk s
 pos:0 < t.length
theorem s13 {hp:List O} {l:Nat} {v:V} {nums:List Int} {k st most:Int} (hv:IsInts v nums) (hl:l < hp.length) (hk:0≤k) (hk':k < 1099511200000) (h1:1≤most) (h3:most≤3) :
  ∃ k' st' t w,callL K (.fn (.func 13) [] []) [.ptr (.heap l) 0,.d (.int .i64 most)] none (hp.set l (rodO v k st))=some (.ret (.d (encT t)),false,hp.set l (rodO v k' st'),w)∧TaskOk t∧t.length≤most∧k≤k'∧k'≤k+400:=by
 obtain ⟨s0,r,e0,r0,r1⟩:=s21 (lo:=1) (hi:=most) (st:=st) (k:=k) hv hl hk (by omega) (by omega) (by omega) (by omega)
 obtain ⟨k1,st1,x1,w1,e1,o1,i1,j1⟩:=s63 (st:=s0) (k:=k+1) hv hl (by omega) (by omega)
 obtain rfl | rfl | rfl:r=1∨r=2∨r=3:=by omega
 ·obtain ⟨w,e⟩:=p13_1 e0 e1 rfl
  exact ⟨k1,st1,[x1],w,e,⟨by simpa using o1,by simp⟩,by simp; omega,by omega,by omega⟩
 ·obtain ⟨k2,st2,x2,w2,e2,o2,i2,j2⟩:=s63 (st:=st1) (k:=k1) hv hl (by omega) (by omega)
  obtain ⟨w,e⟩:=p13_2 e0 e1 rfl e2 rfl
  exact ⟨k2,st2,[x1,x2],w,e,⟨by simp [o1,o2],by simp⟩,by simp; omega,by omega,by omega⟩
 ·obtain ⟨k2,st2,x2,w2,e2,o2,i2,j2⟩:=s63 (st:=st1) (k:=k1) hv hl (by omega) (by omega)
  obtain ⟨k3,st3,x3,w3,e3,o3,i3,j3⟩:=s63 (st:=st2) (k:=k2) hv hl (by omega) (by omega)
  obtain ⟨w,e⟩:=p13_3 e0 e1 rfl e2 rfl e3 rfl
  exact ⟨k3,st3,[x1,x2,x3],w,e,⟨by simp [o1,o2,o3],by simp⟩,by simp; omega,by omega,by omega⟩
def q12_1 (n:Int):List Oper:=[⟨(some 3),.move (.tmp 0),0,"",#[],none⟩,
 ⟨(some 4),.build 96 #[(0,.tmp 3),(2,.const (.int .u64 n))],0,"",#[],none⟩,
 ⟨(some 5),.box 96 (.tmp 4),0,"",#[],none⟩,
 ⟨(some 2),.assign (.tmp 5),0,"",#[],none⟩]
theorem s12 {hp:List O} {v:V} {nums:List Int} (hv:IsInts v nums):∃ st w,callL K (.fn (.func 12) [] []) [v] none hp=some (.ret (.ptr (.heap hp.length) 0),false,hp++[rodO v 0 st],w):=by
 have e:=k12 [] [] [v] none hp
 obtain ⟨n,y⟩:∃ n:Int,∀ s:St,execL K 12 (rg 12 1) s=stepK 4 (opsS K (callL K) 12 (q12_1 n) (q12_1 n) s):=⟨7640891576956012809,x12_1⟩
 refine ⟨n,0,?_⟩
 rcases hv with rfl | ⟨rfl,rfl⟩<;>simp [c12,x12_0,y,q12_1] at e<;>simpa [rodO] using e
theorem app_at {hp J:List O} {a:Nat} {o:O} (h:hp[a]?=some o):(hp++J)[a]?=some o:=by
 rw [List.getElem?_append_left (gS.1 h).1]; exact h
theorem s210 (hp:List O) (a b:Nat) {st:D} {ss:List Int} {n:Nat} {x:List (Int × List Int)} {i:Int} {ro ro':Bool} {y1 y2 y3 y4 y5 y6 y7 y8 y9:V} (hst:st.isCell=true) (ha:hp[a]?=some (.cells [.d (.list 2 arrsD),.d st] ro)) (hb:hp[b]?=some (.cells [.d (szD ss),y1,y2,y3,y4,y5,y6,y7,y8,y9] ro')) (hs:SzOk ss) (h:CellOk n x ss) :
  ∃ J w,callL K (.fn (.func 210) [] [.ptr (.heap a) 0,.ptr (.heap b) 0]) [.d (.int .i64 i),.d (encC n x)] none hp=some (.ret (.d (.int .i64 0)),false,hp++J,w):=by
 obtain ⟨J,w,e1⟩:=s208 hp st hst hs h
 have e:=k210 [] [.ptr (.heap a) 0,.ptr (.heap b) 0] [.d (.int .i64 i),.d (encC n x)] none hp
 have hx:(atD x).isCell=true:=by cases x<;>rfl
 simp only [D.isCell] at hx
 simp only [encC] at e1
 simp [c210,x210_0,x210_1,ha,hb,e1,encC,hx] at e
 exact ⟨_,_,by simpa [encC] using e⟩
theorem s209 (hp:List O) (a b:Nat) {st:D} {ss:List Int} {fs:List (Nat × List (Int × List Int))} {ro ro':Bool} {y1 y2 y3 y4 y5 y6 y7 y8 y9:V} (hst:st.isCell=true) (ha:hp[a]?=some (.cells [.d (.list 2 arrsD),.d st] ro)) (hb:hp[b]?=some (.cells [.d (szD ss),y1,y2,y3,y4,y5,y6,y7,y8,y9] ro')) (hs:SzOk ss) (h:∀ c∈fs,CellOk c.1 c.2 ss) (hn:fs.length≤3) :
  ∃ J w,callL K (.fn (.func 209) [] []) [.d (frD fs),.fn (.func 210) [] [.ptr (.heap a) 0,.ptr (.heap b) 0]] none hp=some (.ret (.d (.int .i64 0)),false,hp++J,w):=by
 have hx:∀ x,(atD x).isCell=true:=fun x=>by cases x<;>rfl
 match fs,hn,h with
 | [],_,h =>
  obtain ⟨w,e⟩:=p209_0 (h0:=hp) (pa:=.heap a) (pb:=.heap b) rfl rfl
  exact ⟨[],w,by simpa [frD] using e⟩
 | [c],_,h =>
  obtain ⟨J,w,e1⟩:=s210 hp a b (i:=0) hst ha hb hs (h c (by simp))
  obtain ⟨w,e⟩:=p209_1 e1 (hx _) rfl rfl
  exact ⟨J,w,e⟩
 | [c,d],_,h =>
  obtain ⟨J,w,e1⟩:=s210 hp a b (i:=0) hst ha hb hs (h c (by simp))
  obtain ⟨J2,w2,e2⟩:=s210 (hp++J) a b (i:=1) hst (app_at ha) (app_at hb) hs (h d (by simp))
  obtain ⟨w,e⟩:=p209_2 e1 e2 (hx _) (hx _) rfl rfl
  exact ⟨J++J2,w,by rw [← List.append_assoc]; exact e⟩
 | [c,d,f],_,h =>
  obtain ⟨J,w,e1⟩:=s210 hp a b (i:=0) hst ha hb hs (h c (by simp))
  obtain ⟨J2,w2,e2⟩:=s210 (hp++J) a b (i:=1) hst (app_at ha) (app_at hb) hs (h d (by simp))
  obtain ⟨J3,w3,e3⟩:=s210 (hp++J++J2) a b (i:=2) hst (app_at (app_at ha)) (app_at (app_at hb)) hs (h f (by simp))
  obtain ⟨w,e⟩:=p209_3 e1 e2 e3 (hx _) (hx _) (hx _) rfl rfl
  exact ⟨J++(J2++J3),w,by rw [← List.append_assoc,← List.append_assoc]; exact e⟩
 | _ :: _ :: _ :: _ :: _,hn,_=>simp at hn
theorem lenV_sz (ss:List Int):lenV (.d (szD ss))=some ss.length:=by cases ss<;>simp [szD,lenV]
theorem lenV_fr (fs:List (Nat × List (Int × List Int))):lenV (.d (frD fs))=some fs.length:=by cases fs<;>simp [frD,lenV]
theorem s175 (hp:List O) {s:Stp} {st:D} (hst:st.isCell=true) (h:StpOk s) :
  ∃ J w,callL K (.fn (.func 175) [] []) [.d (.agg [.list 2 arrsD,st]),.d (encS s)] none hp=some (.ret (.d (.int .i64 0)),false,hp++J,w):=by
 have e:=k175 [] [] [.d (.agg [.list 2 arrsD,st]),.d (encS s)] none hp
 obtain ⟨ss,⟨tn,tx⟩,fs,o,p,q,m,z,a⟩:=s
 have hB:BodyD fs.length ss.length 10 (exD o p q m z a):=h.body
 have hs:SzOk ss:=h.sz
 have c1:(szD ss).isCell=true:=by cases ss<;>rfl
 have c2:(atD tx).isCell=true:=by cases tx<;>rfl
 have c3:(frD fs).isCell=true:=by cases fs<;>rfl
 have c4:a.isCell=true:=by rcases hB.args with rfl | ⟨l,rfl⟩<;>rfl
 have e1:=fun hp=>s172 hp ss (by have:=hs.few; omega) (fun x hx=>⟨(hs.within x hx).1,by have:=(hs.within x hx).2; omega⟩)
 obtain ⟨J1,w1,e2⟩:=s208 (hp++[.cells [.d (.list 2 arrsD),.d st] false,.cells [.d (szD ss),.d (.int .i64 tn),.d (atD tx),.d (frD fs),.d (.int .i64 o),.d (.str p),.d (.str q),.d (.str m),.d (.int .i64 z),.d a] false]) st hst hs h.to
 obtain ⟨J2,w2,e3⟩:=s209 (hp++[.cells [.d (.list 2 arrsD),.d st] false,.cells [.d (szD ss),.d (.int .i64 tn),.d (atD tx),.d (frD fs),.d (.int .i64 o),.d (.str p),.d (.str q),.d (.str m),.d (.int .i64 z),.d a] false]++J1) hp.length (hp.length+1) (ss:=ss) (ro:=false) (ro':=false) (y1:=.d (.int .i64 tn)) (y2:=.d (atD tx)) (y3:=.d (frD fs)) (y4:=.d (.int .i64 o)) (y5:=.d (.str p)) (y6:=.d (.str q)) (y7:=.d (.str m)) (y8:=.d (.int .i64 z)) (y9:=.d a) hst (by simp) (by simp) hs h.fr h.few
 obtain ⟨J3,w3,e4⟩:=s171 hB (by omega) (hp++[.cells [.d (.list 2 arrsD),.d st] false,.cells [.d (szD ss),.d (.int .i64 tn),.d (atD tx),.d (frD fs),.d (.int .i64 o),.d (.str p),.d (.str q),.d (.str m),.d (.int .i64 z),.d a] false]++J1++J2)
 obtain ⟨J4,w4,e5⟩:=s211 hB h.few hs.few (hp++[.cells [.d (.list 2 arrsD),.d st] false,.cells [.d (szD ss),.d (.int .i64 tn),.d (atD tx),.d (frD fs),.d (.int .i64 o),.d (.str p),.d (.str q),.d (.str m),.d (.int .i64 z),.d a] false]++J1++J2++J3)
 have hl1:=lenV_sz ss
 have hl2:=lenV_fr fs
 have hf:¬ ((6:Int) < fs.length):=by have:=h.few; simp at this; omega
 have hf':¬ (6 < fs.length):=by have:=h.few; simp at this; omega
 simp only [D.isCell] at c1 c2 c3 c4 hst
 simp only [lenV] at hl1 hl2
 simp only [encC,exD,List.append_assoc,List.cons_append,List.nil_append] at e2 e3 e4 e5
 simp [c175,x175_0,x175_1,x175_2,x175_3,x175_4,x175_5,x175_6,x175_7,x175_8,x175_9,x175_10,x175_11,x175_12,x175_13,x175_14,x175_15,encS,hst,c1,c2,c3,c4,e1,e2,e3,e4,e5,hl1,hl2,hf,hf'] at e
 exact ⟨_,_,by simpa [encS] using e⟩
theorem s174 (hp:List O) (a:Nat) {s:Stp} {st:D} {i:Int} {ro:Bool} (hst:st.isCell=true) (ha:hp[a]?=some (.cells [.d (.list 2 arrsD),.d st] ro)) (h:StpOk s) :
  ∃ J w,callL K (.fn (.func 174) [] [.ptr (.heap a) 0]) [.d (.int .i64 i),.d (encS s)] none hp=some (.ret (.d (.int .i64 0)),false,hp++J,w):=by
 obtain ⟨J,w,e1⟩:=s175 hp hst h
 have e:=k174 [] [.ptr (.heap a) 0] [.d (.int .i64 i),.d (encS s)] none hp
 obtain ⟨ss,⟨tn,tx⟩,fs,o,p,q,m,z,x⟩:=s
 have c1:(szD ss).isCell=true:=by cases ss<;>rfl
 have c2:(atD tx).isCell=true:=by cases tx<;>rfl
 have c3:(frD fs).isCell=true:=by cases fs<;>rfl
 have c4:x.isCell=true:=by rcases h.body.args with rfl | ⟨l,rfl⟩<;>rfl
 simp only [D.isCell] at c1 c2 c3 c4 hst
 simp only [encS] at e1
 simp [c174,x174_0,x174_1,encS,ha,e1,c1,c2,c3,c4] at e
 exact ⟨_,_,by simpa [encS] using e⟩
theorem stepCells (s:Stp) (h:StpOk s):(szD s.ss).isCell=true∧(atD s.to.2).isCell=true∧(frD s.fr).isCell=true∧s.args.isCell=true :=
 ⟨by cases s.ss<;>rfl,by cases s.to.2<;>rfl,by cases s.fr<;>rfl,by rcases h.body.args with h | ⟨l,h⟩<;>rw [h]<;>rfl⟩
theorem s173 (hp:List O) (a:Nat) {t:List Stp} {st:D} {ro:Bool} (hst:st.isCell=true) (ha:hp[a]?=some (.cells [.d (.list 2 arrsD),.d st] ro)) (h:TaskOk t) (hn:t.length≤3) :
  ∃ J w,callL K (.fn (.func 173) [] []) [.d (.list 10 (t.map encS)),.fn (.func 174) [] [.ptr (.heap a) 0]] none hp=some (.ret (.d (.int .i64 0)),false,hp++J,w):=by
 match t,hn,h with
 | [],_,h=>exact absurd h.pos (by simp)
 | [c],_,h =>
  obtain ⟨J,w,e1⟩:=s174 hp a (i:=0) hst ha (h.ok c (by simp))
  obtain ⟨a1,a2,a3,a4⟩:=stepCells c (h.ok c (by simp))
  obtain ⟨w,e⟩:=p173_1 e1 a1 a2 a3 a4 rfl
  exact ⟨J,w,e⟩
 | [c,d],_,h =>
  obtain ⟨J,w,e1⟩:=s174 hp a (i:=0) hst ha (h.ok c (by simp))
  obtain ⟨J2,w2,e2⟩:=s174 (hp++J) a (i:=1) hst (app_at ha) (h.ok d (by simp))
  obtain ⟨a1,a2,a3,a4⟩:=stepCells c (h.ok c (by simp))
  obtain ⟨b1,b2,b3,b4⟩:=stepCells d (h.ok d (by simp))
  obtain ⟨w,e⟩:=p173_2 e1 e2 a1 a2 a3 a4 b1 b2 b3 b4 rfl
  exact ⟨J++J2,w,by rw [← List.append_assoc]; exact e⟩
 | [c,d,f],_,h =>
  obtain ⟨J,w,e1⟩:=s174 hp a (i:=0) hst ha (h.ok c (by simp))
  obtain ⟨J2,w2,e2⟩:=s174 (hp++J) a (i:=1) hst (app_at ha) (h.ok d (by simp))
  obtain ⟨J3,w3,e3⟩:=s174 (hp++J++J2) a (i:=2) hst (app_at (app_at ha)) (h.ok f (by simp))
  obtain ⟨a1,a2,a3,a4⟩:=stepCells c (h.ok c (by simp))
  obtain ⟨b1,b2,b3,b4⟩:=stepCells d (h.ok d (by simp))
  obtain ⟨f1,f2,f3,f4⟩:=stepCells f (h.ok f (by simp))
  obtain ⟨w,e⟩:=p173_3 e1 e2 e3 a1 a2 a3 a4 b1 b2 b3 b4 f1 f2 f3 f4 rfl
  exact ⟨J++(J2++J3),w,by rw [← List.append_assoc,← List.append_assoc]; exact e⟩
 | _ :: _ :: _ :: _ :: _,hn,_=>simp at hn
end Mw
