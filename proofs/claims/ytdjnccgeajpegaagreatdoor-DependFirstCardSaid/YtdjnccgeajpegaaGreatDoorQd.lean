/- DependFirst's tied card holds; no condition beyond the card's own. -/
import Derived.Test.YtdjnccgeajpegaaGreatDoorQc
import Derived.Test.YtdjnccgeajpegaaGreatDoorXb
import Derived.Test.YtdjnccgeajpegaaGreatDoorXa
import Derived.Test.YtdjnccgeajpegaaGreatDoorQa
import Derived.Test.YtdjnccgeajpegaaGreatDoorQb
set_option linter.unusedVariables false
set_option linter.unusedSimpArgs false
set_option maxRecDepth 10000
set_option maxHeartbeats 2000000
namespace Mw
open Go Go.Proofs
structure Stp where
 ss:List Int
 to:Nat×List (Int×List Int)
 fr:List (Nat×List (Int×List Int))
 op:Int
 num:ByteArray
 den:ByteArray
 name:ByteArray
 size:Int
 args:D
def yR:List (Nat×List (Int×List Int))→D
 |[]=>.nils|c::cs=>.list 2 ((c::cs).map fun c=>dJ c.1 c.2)
def encS(s:Stp):D:=.agg [fC s.ss,.int .i64 s.to.1,lS s.to.2,yR s.fr,.int .i64 s.op,.str s.num,.str s.den,.str s.name,.int .i64 s.size,s.args]
def Stp.body(s:Stp):D:=dK s.op s.num s.den s.name s.size s.args
structure gK(s:Stp):Prop where
 sz:eX s.ss
 to:dP s.to.1 s.to.2 s.ss
 fr:∀c∈s.fr,dP c.1 c.2 s.ss
 few:s.fr.length≤3
 body:bG s.fr.length s.ss.length 10 s.body
theorem aV(x:List (Int×List Int)):(lS x).isCell=true:=by cases x<;>rfl
theorem dP.two{n:Nat}{x:List (Int×List Int)}{ss:List Int}(h:dP n x ss):x.length≤2:=by
 rw[h.len];have:=h.arr
 match n,this with
 |0,_=>simp[dI]|1,_=>simp[dI]|2,_=>simp[dI]
theorem dP.keep{n:Nat}{x:List (Int×List Int)}{ss:List Int}(h:dP n x ss)(hs:eX ss):∀p∈x,p.2.length≤1000:=by intro p hp;obtain⟨i,hi,rfl⟩:=List.getElem_of_mem hp;have h1:=(h.ok i hi (by rw[←h.len];exact hi)).len;have:=hs.few;omega
theorem s62(hp:List O):ah K (.fn (.func 62) [] []) [] none hp=some (.ret (.d (.list 2 ax)),false,hp,0):=by rw[k62];simp[c62,akC,amF,ax]
theorem aoy:eX []:=⟨by simp,by simp⟩
theorem al9{a:Int}(h:1≤a∧a≤4):eX [a]:=⟨by simpa using h,by simp⟩
theorem akq{a b:Int}(h:1≤a∧a≤4)(h':1≤b∧b≤4):eX [a,b]:=⟨by
 intro s hs;simp at hs
 rcases hs with rfl|rfl<;>assumption,by simp⟩
theorem ab6{hp:List O}{l:Nat}{v:V}{nums:List Int}{k st:Int}{h0:List O}{w1:Nat}(hv:dn v nums)(hl:l<hp.length)(hk:0≤k)(hk':k<1099511400000)
  (eP:CK 58 [.ptr (.heap l) 0,.d (.list 1 [.int .i64 0,.int .i64 1,.int .i64 1,.int .i64 2,.int .i64 2])] h0 (.d (.int .i64 0)) (hp.set l (aW v k st)) w1)
  {ta:Int}{tn:Nat}{tx:List (Int×List Int)}{wT wA wM:Nat}{h2 h3:List O}(hs:eX [])
  (eA:CK 20 [.ptr (.heap l) 0,.d (.int .i64 2)] (hp.set l (aW v k st)) (.d (.int .i64 ta)) h2 wA)
  (eT:CK 128 [.ptr (.heap l) 0,.d (.list 2 ax),.d (fC []),.d (.int .i64 ta)] h2 (.d (dJ tn tx)) h3 wT)(hT:dP tn tx [])
  {kM stM:Int}(hM0:0≤kM)(hM1:kM<1099511450000)(eM:CK 20 [.ptr (.heap l) 0,.d (.int .i64 2)] h3 (.d (.int .i64 0)) (hp.set l (aW v kM stM)) wM) :
  ∃k' st' s w,ah K (.fn (.func 63) [] []) [.ptr (.heap l) 0,.d (.list 2 ax)] none h0=some (.ret (.d (encS s)),false,hp.set l (aW v k' st'),w)∧gK s∧kM≤k'∧k'≤kM+60:=by
 obtain⟨so,b,eO⟩:=zy (n:=3) (st:=stM) (k:=kM) hv hl (by omega) (by omega) (by omega) (by omega);cases b with
 |false=>obtain⟨kb,sb,d,eB,hB,ib,jb⟩:=qX (cells:=0) (loops:=0) (st:=so) (k:=kM+1) hv hl (by omega) (by omega) (by omega) (by omega);obtain⟨o,p,q,n,z,a,rfl,ha⟩:=hB.form;obtain⟨w,e⟩:=Ug eP eA eT eM eO eB (aV tx) (ha.cell);refine⟨kb,sb,⟨[],(tn,tx),[],o,p,q,n,z,a⟩,w,e,⟨hs,hT,?_,by simp,hB⟩,by omega,by omega⟩;simp
 |true=>obtain⟨kb,sb,d,eB,hB,ib,jb⟩:=qX (cells:=1) (loops:=0) (st:=so) (k:=kM+1) hv hl (by omega) (by omega) (by omega) (by omega);obtain⟨o,p,q,n,z,a,rfl,ha⟩:=hB.form;have eK:=fun hp=>GU hp tn tx hT.two (hT.keep hs);obtain⟨w,e⟩:=Tv eP eA eT eM eO eK eB (aV tx) (ha.cell);refine⟨kb,sb,⟨[],(tn,tx),[(tn,tx)],o,p,q,n,z,a⟩,w,e,⟨hs,hT,?_,by simp,hB⟩,by omega,by omega⟩;intro c hc;simp at hc;subst hc;exact hT
theorem abv{hp:List O}{l:Nat}{v:V}{nums:List Int}{k st:Int}{h0:List O}{w1:Nat}(hv:dn v nums)(hl:l<hp.length)(hk:0≤k)(hk':k<1099511400000)
  (eP:CK 58 [.ptr (.heap l) 0,.d (.list 1 [.int .i64 0,.int .i64 1,.int .i64 1,.int .i64 2,.int .i64 2])] h0 (.d (.int .i64 0)) (hp.set l (aW v k st)) w1)
  {ta:Int}{tn:Nat}{tx:List (Int×List Int)}{wT wA wM:Nat}{h2 h3:List O}(hs:eX [])
  (eA:CK 20 [.ptr (.heap l) 0,.d (.int .i64 2)] (hp.set l (aW v k st)) (.d (.int .i64 ta)) h2 wA)
  (eT:CK 128 [.ptr (.heap l) 0,.d (.list 2 ax),.d (fC []),.d (.int .i64 ta)] h2 (.d (dJ tn tx)) h3 wT)(hT:dP tn tx [])
  {kM stM:Int}(hM0:0≤kM)(hM1:kM<1099511450000)(eM:CK 20 [.ptr (.heap l) 0,.d (.int .i64 2)] h3 (.d (.int .i64 1)) (hp.set l (aW v kM stM)) wM) :
  ∃k' st' s w,ah K (.fn (.func 63) [] []) [.ptr (.heap l) 0,.d (.list 2 ax)] none h0=some (.ret (.d (encS s)),false,hp.set l (aW v k' st'),w)∧gK s∧kM≤k'∧k'≤kM+60:=by
 obtain⟨sf0,f0,eF0,f00,f01⟩:=s20 (n:=2) (st:=stM) (k:=kM) hv hl (by omega) (by omega) (by omega);obtain⟨kc0,sc0,n0,x0,w0,eC0,hC0,i0,j0,-⟩:=zo (a:=f0) (st:=sf0) (k:=kM+1) hv hl hs (by omega) (by omega) (by omega) (by omega);obtain⟨so,b,eO⟩:=zy (n:=3) (st:=sc0) (k:=kc0) hv hl (by omega) (by omega) (by omega) (by omega);cases b with
 |false=>obtain⟨kb,sb,d,eB,hB,ib,jb⟩:=qX (cells:=1) (loops:=0) (st:=so) (k:=kc0+1) hv hl (by omega) (by omega) (by omega) (by omega);obtain⟨o,p,q,n,z,a,rfl,ha⟩:=hB.form;obtain⟨w,e⟩:=TV eP eA eT eM eF0 eC0 eO eB (aV tx) (ha.cell) (aV x0);refine⟨kb,sb,⟨[],(tn,tx),[(n0,x0)],o,p,q,n,z,a⟩,w,e,⟨hs,hT,?_,by simp,hB⟩,by omega,by omega⟩;intro c hc;simp at hc;subst hc;exact hC0
 |true=>
  obtain⟨kb,sb,d,eB,hB,ib,jb⟩:=qX (cells:=2) (loops:=0) (st:=so) (k:=kc0+1) hv hl (by omega) (by omega) (by omega) (by omega);obtain⟨o,p,q,n,z,a,rfl,ha⟩:=hB.form;have eK:=fun hp=>GU hp tn tx hT.two (hT.keep hs);obtain⟨w,e⟩:=TQ eP eA eT eM eF0 eC0 eO eK eB (aV tx) (ha.cell) (aV x0);refine⟨kb,sb,⟨[],(tn,tx),[(n0,x0),(tn,tx)],o,p,q,n,z,a⟩,w,e,⟨hs,hT,?_,by simp,hB⟩,by omega,by omega⟩;intro c hc;simp at hc;rcases hc with rfl|rfl
  ·exact hC0
  ·exact hT
theorem acr{hp:List O}{l:Nat}{v:V}{nums:List Int}{k st:Int}{h0:List O}{w1:Nat}(hv:dn v nums)(hl:l<hp.length)(hk:0≤k)(hk':k<1099511400000)
  (eP:CK 58 [.ptr (.heap l) 0,.d (.list 1 [.int .i64 0,.int .i64 1,.int .i64 1,.int .i64 2,.int .i64 2])] h0 (.d (.int .i64 0)) (hp.set l (aW v k st)) w1)
  {ta:Int}{tn:Nat}{tx:List (Int×List Int)}{wT wA wM:Nat}{h2 h3:List O}(hs:eX [])
  (eA:CK 20 [.ptr (.heap l) 0,.d (.int .i64 2)] (hp.set l (aW v k st)) (.d (.int .i64 ta)) h2 wA)
  (eT:CK 128 [.ptr (.heap l) 0,.d (.list 2 ax),.d (fC []),.d (.int .i64 ta)] h2 (.d (dJ tn tx)) h3 wT)(hT:dP tn tx [])
  {kM stM:Int}(hM0:0≤kM)(hM1:kM<1099511450000)(eM:CK 20 [.ptr (.heap l) 0,.d (.int .i64 2)] h3 (.d (.int .i64 2)) (hp.set l (aW v kM stM)) wM) :
  ∃k' st' s w,ah K (.fn (.func 63) [] []) [.ptr (.heap l) 0,.d (.list 2 ax)] none h0=some (.ret (.d (encS s)),false,hp.set l (aW v k' st'),w)∧gK s∧kM≤k'∧k'≤kM+60:=by
 obtain⟨sf0,f0,eF0,f00,f01⟩:=s20 (n:=2) (st:=stM) (k:=kM) hv hl (by omega) (by omega) (by omega);obtain⟨kc0,sc0,n0,x0,w0,eC0,hC0,i0,j0,-⟩:=zo (a:=f0) (st:=sf0) (k:=kM+1) hv hl hs (by omega) (by omega) (by omega) (by omega);obtain⟨sf1,f1,eF1,f10,f11⟩:=s20 (n:=2) (st:=sc0) (k:=kc0) hv hl (by omega) (by omega) (by omega);obtain⟨kc1,sc1,n1,x1,w1,eC1,hC1,i1,j1,-⟩:=zo (a:=f1) (st:=sf1) (k:=kc0+1) hv hl hs (by omega) (by omega) (by omega) (by omega);obtain⟨so,b,eO⟩:=zy (n:=3) (st:=sc1) (k:=kc1) hv hl (by omega) (by omega) (by omega) (by omega);cases b with
 |false=>
  obtain⟨kb,sb,d,eB,hB,ib,jb⟩:=qX (cells:=2) (loops:=0) (st:=so) (k:=kc1+1) hv hl (by omega) (by omega) (by omega) (by omega);obtain⟨o,p,q,n,z,a,rfl,ha⟩:=hB.form;obtain⟨w,e⟩:=UX eP eA eT eM eF0 eC0 eF1 eC1 eO eB (aV tx) (ha.cell) (aV x0) (aV x1);refine⟨kb,sb,⟨[],(tn,tx),[(n0,x0),(n1,x1)],o,p,q,n,z,a⟩,w,e,⟨hs,hT,?_,by simp,hB⟩,by omega,by omega⟩;intro c hc;simp at hc;rcases hc with rfl|rfl
  ·exact hC0
  ·exact hC1
 |true=>
  obtain⟨kb,sb,d,eB,hB,ib,jb⟩:=qX (cells:=3) (loops:=0) (st:=so) (k:=kc1+1) hv hl (by omega) (by omega) (by omega) (by omega);obtain⟨o,p,q,n,z,a,rfl,ha⟩:=hB.form;have eK:=fun hp=>GU hp tn tx hT.two (hT.keep hs);obtain⟨w,e⟩:=Tf eP eA eT eM eF0 eC0 eF1 eC1 eO eK eB (aV tx) (ha.cell) (aV x0) (aV x1);refine⟨kb,sb,⟨[],(tn,tx),[(n0,x0),(n1,x1),(tn,tx)],o,p,q,n,z,a⟩,w,e,⟨hs,hT,?_,by simp,hB⟩,by omega,by omega⟩;intro c hc;simp at hc;rcases hc with rfl|rfl|rfl
  ·exact hC0
  ·exact hC1
  ·exact hT
theorem acD{hp:List O}{l:Nat}{v:V}{nums:List Int}{k st:Int}{h0:List O}{w1:Nat}(hv:dn v nums)(hl:l<hp.length)(hk:0≤k)(hk':k<1099511400000)
  (eP:CK 58 [.ptr (.heap l) 0,.d (.list 1 [.int .i64 0,.int .i64 1,.int .i64 1,.int .i64 2,.int .i64 2])] h0 (.d (.int .i64 1)) (hp.set l (aW v k st)) w1)
  {a0 ta:Int}{tn:Nat}{tx:List (Int×List Int)}{wS wT wA wM:Nat}{h1 h2 h3:List O}(hs:eX [a0])
  (eS0:CK 21 [.ptr (.heap l) 0,.d (.int .i64 1),.d (.int .i64 4)] (hp.set l (aW v k st)) (.d (.int .i64 a0)) h1 wS)
  (eA:CK 20 [.ptr (.heap l) 0,.d (.int .i64 2)] (h1) (.d (.int .i64 ta)) h2 wA)
  (eT:CK 128 [.ptr (.heap l) 0,.d (.list 2 ax),.d (fC [a0]),.d (.int .i64 ta)] h2 (.d (dJ tn tx)) h3 wT)(hT:dP tn tx [a0])
  {kM stM:Int}(hM0:0≤kM)(hM1:kM<1099511450000)(eM:CK 20 [.ptr (.heap l) 0,.d (.int .i64 2)] h3 (.d (.int .i64 0)) (hp.set l (aW v kM stM)) wM) :
  ∃k' st' s w,ah K (.fn (.func 63) [] []) [.ptr (.heap l) 0,.d (.list 2 ax)] none h0=some (.ret (.d (encS s)),false,hp.set l (aW v k' st'),w)∧gK s∧kM≤k'∧k'≤kM+60:=by
 obtain⟨so,b,eO⟩:=zy (n:=3) (st:=stM) (k:=kM) hv hl (by omega) (by omega) (by omega) (by omega);cases b with
 |false=>obtain⟨kb,sb,d,eB,hB,ib,jb⟩:=qX (cells:=0) (loops:=1) (st:=so) (k:=kM+1) hv hl (by omega) (by omega) (by omega) (by omega);obtain⟨o,p,q,n,z,a,rfl,ha⟩:=hB.form;obtain⟨w,e⟩:=TI eP eS0 eA eT eM eO eB (aV tx) (ha.cell);refine⟨kb,sb,⟨[a0],(tn,tx),[],o,p,q,n,z,a⟩,w,e,⟨hs,hT,?_,by simp,hB⟩,by omega,by omega⟩;simp
 |true=>obtain⟨kb,sb,d,eB,hB,ib,jb⟩:=qX (cells:=1) (loops:=1) (st:=so) (k:=kM+1) hv hl (by omega) (by omega) (by omega) (by omega);obtain⟨o,p,q,n,z,a,rfl,ha⟩:=hB.form;have eK:=fun hp=>GU hp tn tx hT.two (hT.keep hs);obtain⟨w,e⟩:=TP eP eS0 eA eT eM eO eK eB (aV tx) (ha.cell);refine⟨kb,sb,⟨[a0],(tn,tx),[(tn,tx)],o,p,q,n,z,a⟩,w,e,⟨hs,hT,?_,by simp,hB⟩,by omega,by omega⟩;intro c hc;simp at hc;subst hc;exact hT
theorem abe{hp:List O}{l:Nat}{v:V}{nums:List Int}{k st:Int}{h0:List O}{w1:Nat}(hv:dn v nums)(hl:l<hp.length)(hk:0≤k)(hk':k<1099511400000)
  (eP:CK 58 [.ptr (.heap l) 0,.d (.list 1 [.int .i64 0,.int .i64 1,.int .i64 1,.int .i64 2,.int .i64 2])] h0 (.d (.int .i64 1)) (hp.set l (aW v k st)) w1)
  {a0 ta:Int}{tn:Nat}{tx:List (Int×List Int)}{wS wT wA wM:Nat}{h1 h2 h3:List O}(hs:eX [a0])
  (eS0:CK 21 [.ptr (.heap l) 0,.d (.int .i64 1),.d (.int .i64 4)] (hp.set l (aW v k st)) (.d (.int .i64 a0)) h1 wS)
  (eA:CK 20 [.ptr (.heap l) 0,.d (.int .i64 2)] (h1) (.d (.int .i64 ta)) h2 wA)
  (eT:CK 128 [.ptr (.heap l) 0,.d (.list 2 ax),.d (fC [a0]),.d (.int .i64 ta)] h2 (.d (dJ tn tx)) h3 wT)(hT:dP tn tx [a0])
  {kM stM:Int}(hM0:0≤kM)(hM1:kM<1099511450000)(eM:CK 20 [.ptr (.heap l) 0,.d (.int .i64 2)] h3 (.d (.int .i64 1)) (hp.set l (aW v kM stM)) wM) :
  ∃k' st' s w,ah K (.fn (.func 63) [] []) [.ptr (.heap l) 0,.d (.list 2 ax)] none h0=some (.ret (.d (encS s)),false,hp.set l (aW v k' st'),w)∧gK s∧kM≤k'∧k'≤kM+60:=by
 obtain⟨sf0,f0,eF0,f00,f01⟩:=s20 (n:=2) (st:=stM) (k:=kM) hv hl (by omega) (by omega) (by omega);obtain⟨kc0,sc0,n0,x0,w0,eC0,hC0,i0,j0,-⟩:=zo (a:=f0) (st:=sf0) (k:=kM+1) hv hl hs (by omega) (by omega) (by omega) (by omega);obtain⟨so,b,eO⟩:=zy (n:=3) (st:=sc0) (k:=kc0) hv hl (by omega) (by omega) (by omega) (by omega);cases b with
 |false=>obtain⟨kb,sb,d,eB,hB,ib,jb⟩:=qX (cells:=1) (loops:=1) (st:=so) (k:=kc0+1) hv hl (by omega) (by omega) (by omega) (by omega);obtain⟨o,p,q,n,z,a,rfl,ha⟩:=hB.form;obtain⟨w,e⟩:=Ua eP eS0 eA eT eM eF0 eC0 eO eB (aV tx) (ha.cell) (aV x0);refine⟨kb,sb,⟨[a0],(tn,tx),[(n0,x0)],o,p,q,n,z,a⟩,w,e,⟨hs,hT,?_,by simp,hB⟩,by omega,by omega⟩;intro c hc;simp at hc;subst hc;exact hC0
 |true=>
  obtain⟨kb,sb,d,eB,hB,ib,jb⟩:=qX (cells:=2) (loops:=1) (st:=so) (k:=kc0+1) hv hl (by omega) (by omega) (by omega) (by omega);obtain⟨o,p,q,n,z,a,rfl,ha⟩:=hB.form;have eK:=fun hp=>GU hp tn tx hT.two (hT.keep hs);obtain⟨w,e⟩:=Uu eP eS0 eA eT eM eF0 eC0 eO eK eB (aV tx) (ha.cell) (aV x0);refine⟨kb,sb,⟨[a0],(tn,tx),[(n0,x0),(tn,tx)],o,p,q,n,z,a⟩,w,e,⟨hs,hT,?_,by simp,hB⟩,by omega,by omega⟩;intro c hc;simp at hc;rcases hc with rfl|rfl
  ·exact hC0
  ·exact hT
theorem abR{hp:List O}{l:Nat}{v:V}{nums:List Int}{k st:Int}{h0:List O}{w1:Nat}(hv:dn v nums)(hl:l<hp.length)(hk:0≤k)(hk':k<1099511400000)
  (eP:CK 58 [.ptr (.heap l) 0,.d (.list 1 [.int .i64 0,.int .i64 1,.int .i64 1,.int .i64 2,.int .i64 2])] h0 (.d (.int .i64 1)) (hp.set l (aW v k st)) w1)
  {a0 ta:Int}{tn:Nat}{tx:List (Int×List Int)}{wS wT wA wM:Nat}{h1 h2 h3:List O}(hs:eX [a0])
  (eS0:CK 21 [.ptr (.heap l) 0,.d (.int .i64 1),.d (.int .i64 4)] (hp.set l (aW v k st)) (.d (.int .i64 a0)) h1 wS)
  (eA:CK 20 [.ptr (.heap l) 0,.d (.int .i64 2)] (h1) (.d (.int .i64 ta)) h2 wA)
  (eT:CK 128 [.ptr (.heap l) 0,.d (.list 2 ax),.d (fC [a0]),.d (.int .i64 ta)] h2 (.d (dJ tn tx)) h3 wT)(hT:dP tn tx [a0])
  {kM stM:Int}(hM0:0≤kM)(hM1:kM<1099511450000)(eM:CK 20 [.ptr (.heap l) 0,.d (.int .i64 2)] h3 (.d (.int .i64 2)) (hp.set l (aW v kM stM)) wM) :
  ∃k' st' s w,ah K (.fn (.func 63) [] []) [.ptr (.heap l) 0,.d (.list 2 ax)] none h0=some (.ret (.d (encS s)),false,hp.set l (aW v k' st'),w)∧gK s∧kM≤k'∧k'≤kM+60:=by
 obtain⟨sf0,f0,eF0,f00,f01⟩:=s20 (n:=2) (st:=stM) (k:=kM) hv hl (by omega) (by omega) (by omega);obtain⟨kc0,sc0,n0,x0,w0,eC0,hC0,i0,j0,-⟩:=zo (a:=f0) (st:=sf0) (k:=kM+1) hv hl hs (by omega) (by omega) (by omega) (by omega);obtain⟨sf1,f1,eF1,f10,f11⟩:=s20 (n:=2) (st:=sc0) (k:=kc0) hv hl (by omega) (by omega) (by omega);obtain⟨kc1,sc1,n1,x1,w1,eC1,hC1,i1,j1,-⟩:=zo (a:=f1) (st:=sf1) (k:=kc0+1) hv hl hs (by omega) (by omega) (by omega) (by omega);obtain⟨so,b,eO⟩:=zy (n:=3) (st:=sc1) (k:=kc1) hv hl (by omega) (by omega) (by omega) (by omega);cases b with
 |false=>
  obtain⟨kb,sb,d,eB,hB,ib,jb⟩:=qX (cells:=2) (loops:=1) (st:=so) (k:=kc1+1) hv hl (by omega) (by omega) (by omega) (by omega);obtain⟨o,p,q,n,z,a,rfl,ha⟩:=hB.form;obtain⟨w,e⟩:=U5 eP eS0 eA eT eM eF0 eC0 eF1 eC1 eO eB (aV tx) (ha.cell) (aV x0) (aV x1);refine⟨kb,sb,⟨[a0],(tn,tx),[(n0,x0),(n1,x1)],o,p,q,n,z,a⟩,w,e,⟨hs,hT,?_,by simp,hB⟩,by omega,by omega⟩;intro c hc;simp at hc;rcases hc with rfl|rfl
  ·exact hC0
  ·exact hC1
 |true=>
  obtain⟨kb,sb,d,eB,hB,ib,jb⟩:=qX (cells:=3) (loops:=1) (st:=so) (k:=kc1+1) hv hl (by omega) (by omega) (by omega) (by omega);obtain⟨o,p,q,n,z,a,rfl,ha⟩:=hB.form;have eK:=fun hp=>GU hp tn tx hT.two (hT.keep hs);obtain⟨w,e⟩:=UO eP eS0 eA eT eM eF0 eC0 eF1 eC1 eO eK eB (aV tx) (ha.cell) (aV x0) (aV x1);refine⟨kb,sb,⟨[a0],(tn,tx),[(n0,x0),(n1,x1),(tn,tx)],o,p,q,n,z,a⟩,w,e,⟨hs,hT,?_,by simp,hB⟩,by omega,by omega⟩;intro c hc;simp at hc;rcases hc with rfl|rfl|rfl
  ·exact hC0
  ·exact hC1
  ·exact hT
theorem acS{hp:List O}{l:Nat}{v:V}{nums:List Int}{k st:Int}{h0:List O}{w1:Nat}(hv:dn v nums)(hl:l<hp.length)(hk:0≤k)(hk':k<1099511400000)
  (eP:CK 58 [.ptr (.heap l) 0,.d (.list 1 [.int .i64 0,.int .i64 1,.int .i64 1,.int .i64 2,.int .i64 2])] h0 (.d (.int .i64 2)) (hp.set l (aW v k st)) w1)
  {a0 a1 ta:Int}{tn:Nat}{tx:List (Int×List Int)}{wS wT wA wM:Nat}{h1 h2 h3:List O}(hs:eX [a0,a1])
  (eS0:CK 21 [.ptr (.heap l) 0,.d (.int .i64 1),.d (.int .i64 4)] (hp.set l (aW v k st)) (.d (.int .i64 a0)) h1 wS)
  {wS2:Nat}{h1b:List O}(eS1:CK 21 [.ptr (.heap l) 0,.d (.int .i64 1),.d (.int .i64 4)] h1 (.d (.int .i64 a1)) h1b wS2)
  (eA:CK 20 [.ptr (.heap l) 0,.d (.int .i64 2)] (h1b) (.d (.int .i64 ta)) h2 wA)
  (eT:CK 128 [.ptr (.heap l) 0,.d (.list 2 ax),.d (fC [a0,a1]),.d (.int .i64 ta)] h2 (.d (dJ tn tx)) h3 wT)(hT:dP tn tx [a0,a1])
  {kM stM:Int}(hM0:0≤kM)(hM1:kM<1099511450000)(eM:CK 20 [.ptr (.heap l) 0,.d (.int .i64 2)] h3 (.d (.int .i64 0)) (hp.set l (aW v kM stM)) wM) :
  ∃k' st' s w,ah K (.fn (.func 63) [] []) [.ptr (.heap l) 0,.d (.list 2 ax)] none h0=some (.ret (.d (encS s)),false,hp.set l (aW v k' st'),w)∧gK s∧kM≤k'∧k'≤kM+60:=by
 obtain⟨so,b,eO⟩:=zy (n:=3) (st:=stM) (k:=kM) hv hl (by omega) (by omega) (by omega) (by omega);cases b with
 |false=>obtain⟨kb,sb,d,eB,hB,ib,jb⟩:=qX (cells:=0) (loops:=2) (st:=so) (k:=kM+1) hv hl (by omega) (by omega) (by omega) (by omega);obtain⟨o,p,q,n,z,a,rfl,ha⟩:=hB.form;obtain⟨w,e⟩:=Ti eP eS0 eS1 eA eT eM eO eB (aV tx) (ha.cell);refine⟨kb,sb,⟨[a0,a1],(tn,tx),[],o,p,q,n,z,a⟩,w,e,⟨hs,hT,?_,by simp,hB⟩,by omega,by omega⟩;simp
 |true=>obtain⟨kb,sb,d,eB,hB,ib,jb⟩:=qX (cells:=1) (loops:=2) (st:=so) (k:=kM+1) hv hl (by omega) (by omega) (by omega) (by omega);obtain⟨o,p,q,n,z,a,rfl,ha⟩:=hB.form;have eK:=fun hp=>GU hp tn tx hT.two (hT.keep hs);obtain⟨w,e⟩:=Uc eP eS0 eS1 eA eT eM eO eK eB (aV tx) (ha.cell);refine⟨kb,sb,⟨[a0,a1],(tn,tx),[(tn,tx)],o,p,q,n,z,a⟩,w,e,⟨hs,hT,?_,by simp,hB⟩,by omega,by omega⟩;intro c hc;simp at hc;subst hc;exact hT
theorem aaX{hp:List O}{l:Nat}{v:V}{nums:List Int}{k st:Int}{h0:List O}{w1:Nat}(hv:dn v nums)(hl:l<hp.length)(hk:0≤k)(hk':k<1099511400000)
  (eP:CK 58 [.ptr (.heap l) 0,.d (.list 1 [.int .i64 0,.int .i64 1,.int .i64 1,.int .i64 2,.int .i64 2])] h0 (.d (.int .i64 2)) (hp.set l (aW v k st)) w1)
  {a0 a1 ta:Int}{tn:Nat}{tx:List (Int×List Int)}{wS wT wA wM:Nat}{h1 h2 h3:List O}(hs:eX [a0,a1])
  (eS0:CK 21 [.ptr (.heap l) 0,.d (.int .i64 1),.d (.int .i64 4)] (hp.set l (aW v k st)) (.d (.int .i64 a0)) h1 wS)
  {wS2:Nat}{h1b:List O}(eS1:CK 21 [.ptr (.heap l) 0,.d (.int .i64 1),.d (.int .i64 4)] h1 (.d (.int .i64 a1)) h1b wS2)
  (eA:CK 20 [.ptr (.heap l) 0,.d (.int .i64 2)] (h1b) (.d (.int .i64 ta)) h2 wA)
  (eT:CK 128 [.ptr (.heap l) 0,.d (.list 2 ax),.d (fC [a0,a1]),.d (.int .i64 ta)] h2 (.d (dJ tn tx)) h3 wT)(hT:dP tn tx [a0,a1])
  {kM stM:Int}(hM0:0≤kM)(hM1:kM<1099511450000)(eM:CK 20 [.ptr (.heap l) 0,.d (.int .i64 2)] h3 (.d (.int .i64 1)) (hp.set l (aW v kM stM)) wM) :
  ∃k' st' s w,ah K (.fn (.func 63) [] []) [.ptr (.heap l) 0,.d (.list 2 ax)] none h0=some (.ret (.d (encS s)),false,hp.set l (aW v k' st'),w)∧gK s∧kM≤k'∧k'≤kM+60:=by
 obtain⟨sf0,f0,eF0,f00,f01⟩:=s20 (n:=2) (st:=stM) (k:=kM) hv hl (by omega) (by omega) (by omega);obtain⟨kc0,sc0,n0,x0,w0,eC0,hC0,i0,j0,-⟩:=zo (a:=f0) (st:=sf0) (k:=kM+1) hv hl hs (by omega) (by omega) (by omega) (by omega);obtain⟨so,b,eO⟩:=zy (n:=3) (st:=sc0) (k:=kc0) hv hl (by omega) (by omega) (by omega) (by omega);cases b with
 |false=>obtain⟨kb,sb,d,eB,hB,ib,jb⟩:=qX (cells:=1) (loops:=2) (st:=so) (k:=kc0+1) hv hl (by omega) (by omega) (by omega) (by omega);obtain⟨o,p,q,n,z,a,rfl,ha⟩:=hB.form;obtain⟨w,e⟩:=UE eP eS0 eS1 eA eT eM eF0 eC0 eO eB (aV tx) (ha.cell) (aV x0);refine⟨kb,sb,⟨[a0,a1],(tn,tx),[(n0,x0)],o,p,q,n,z,a⟩,w,e,⟨hs,hT,?_,by simp,hB⟩,by omega,by omega⟩;intro c hc;simp at hc;subst hc;exact hC0
 |true=>
  obtain⟨kb,sb,d,eB,hB,ib,jb⟩:=qX (cells:=2) (loops:=2) (st:=so) (k:=kc0+1) hv hl (by omega) (by omega) (by omega) (by omega);obtain⟨o,p,q,n,z,a,rfl,ha⟩:=hB.form;have eK:=fun hp=>GU hp tn tx hT.two (hT.keep hs);obtain⟨w,e⟩:=UA eP eS0 eS1 eA eT eM eF0 eC0 eO eK eB (aV tx) (ha.cell) (aV x0);refine⟨kb,sb,⟨[a0,a1],(tn,tx),[(n0,x0),(tn,tx)],o,p,q,n,z,a⟩,w,e,⟨hs,hT,?_,by simp,hB⟩,by omega,by omega⟩;intro c hc;simp at hc;rcases hc with rfl|rfl
  ·exact hC0
  ·exact hT
theorem ab1{hp:List O}{l:Nat}{v:V}{nums:List Int}{k st:Int}{h0:List O}{w1:Nat}(hv:dn v nums)(hl:l<hp.length)(hk:0≤k)(hk':k<1099511400000)
  (eP:CK 58 [.ptr (.heap l) 0,.d (.list 1 [.int .i64 0,.int .i64 1,.int .i64 1,.int .i64 2,.int .i64 2])] h0 (.d (.int .i64 2)) (hp.set l (aW v k st)) w1)
  {a0 a1 ta:Int}{tn:Nat}{tx:List (Int×List Int)}{wS wT wA wM:Nat}{h1 h2 h3:List O}(hs:eX [a0,a1])
  (eS0:CK 21 [.ptr (.heap l) 0,.d (.int .i64 1),.d (.int .i64 4)] (hp.set l (aW v k st)) (.d (.int .i64 a0)) h1 wS)
  {wS2:Nat}{h1b:List O}(eS1:CK 21 [.ptr (.heap l) 0,.d (.int .i64 1),.d (.int .i64 4)] h1 (.d (.int .i64 a1)) h1b wS2)
  (eA:CK 20 [.ptr (.heap l) 0,.d (.int .i64 2)] (h1b) (.d (.int .i64 ta)) h2 wA)
  (eT:CK 128 [.ptr (.heap l) 0,.d (.list 2 ax),.d (fC [a0,a1]),.d (.int .i64 ta)] h2 (.d (dJ tn tx)) h3 wT)(hT:dP tn tx [a0,a1])
  {kM stM:Int}(hM0:0≤kM)(hM1:kM<1099511450000)(eM:CK 20 [.ptr (.heap l) 0,.d (.int .i64 2)] h3 (.d (.int .i64 2)) (hp.set l (aW v kM stM)) wM) :
  ∃k' st' s w,ah K (.fn (.func 63) [] []) [.ptr (.heap l) 0,.d (.list 2 ax)] none h0=some (.ret (.d (encS s)),false,hp.set l (aW v k' st'),w)∧gK s∧kM≤k'∧k'≤kM+60:=by
 obtain⟨sf0,f0,eF0,f00,f01⟩:=s20 (n:=2) (st:=stM) (k:=kM) hv hl (by omega) (by omega) (by omega);obtain⟨kc0,sc0,n0,x0,w0,eC0,hC0,i0,j0,-⟩:=zo (a:=f0) (st:=sf0) (k:=kM+1) hv hl hs (by omega) (by omega) (by omega) (by omega);obtain⟨sf1,f1,eF1,f10,f11⟩:=s20 (n:=2) (st:=sc0) (k:=kc0) hv hl (by omega) (by omega) (by omega);obtain⟨kc1,sc1,n1,x1,w1,eC1,hC1,i1,j1,-⟩:=zo (a:=f1) (st:=sf1) (k:=kc0+1) hv hl hs (by omega) (by omega) (by omega) (by omega);obtain⟨so,b,eO⟩:=zy (n:=3) (st:=sc1) (k:=kc1) hv hl (by omega) (by omega) (by omega) (by omega);cases b with
 |false=>
  obtain⟨kb,sb,d,eB,hB,ib,jb⟩:=qX (cells:=2) (loops:=2) (st:=so) (k:=kc1+1) hv hl (by omega) (by omega) (by omega) (by omega);obtain⟨o,p,q,n,z,a,rfl,ha⟩:=hB.form;obtain⟨w,e⟩:=Tq eP eS0 eS1 eA eT eM eF0 eC0 eF1 eC1 eO eB (aV tx) (ha.cell) (aV x0) (aV x1);refine⟨kb,sb,⟨[a0,a1],(tn,tx),[(n0,x0),(n1,x1)],o,p,q,n,z,a⟩,w,e,⟨hs,hT,?_,by simp,hB⟩,by omega,by omega⟩;intro c hc;simp at hc;rcases hc with rfl|rfl
  ·exact hC0
  ·exact hC1
 |true=>
  obtain⟨kb,sb,d,eB,hB,ib,jb⟩:=qX (cells:=3) (loops:=2) (st:=so) (k:=kc1+1) hv hl (by omega) (by omega) (by omega) (by omega);obtain⟨o,p,q,n,z,a,rfl,ha⟩:=hB.form;have eK:=fun hp=>GU hp tn tx hT.two (hT.keep hs);obtain⟨w,e⟩:=TK eP eS0 eS1 eA eT eM eF0 eC0 eF1 eC1 eO eK eB (aV tx) (ha.cell) (aV x0) (aV x1);refine⟨kb,sb,⟨[a0,a1],(tn,tx),[(n0,x0),(n1,x1),(tn,tx)],o,p,q,n,z,a⟩,w,e,⟨hs,hT,?_,by simp,hB⟩,by omega,by omega⟩;intro c hc;simp at hc;rcases hc with rfl|rfl|rfl
  ·exact hC0
  ·exact hC1
  ·exact hT
theorem s63{hp:List O}{l:Nat}{v:V}{nums:List Int}{k st:Int}(hv:dn v nums)(hl:l<hp.length)(hk:0≤k)(hk':k<1099511300000) :
  ∃k' st' s w,ah K (.fn (.func 63) [] []) [.ptr (.heap l) 0,.d (.list 2 ax)] none (hp.set l (aW v k st))=some (.ret (.d (encS s)),false,hp.set l (aW v k' st'),w)∧gK s∧k≤k'∧k'≤k+100:=by
 obtain⟨st1,r,eP,hr⟩:=s58 (xs:=[0,1,1,2,2]) (st:=st) (k:=k) hv hl hk (by omega) (by simp) (by simp);have hr':r=0∨r=1∨r=2:=by simp at hr;omega
 rcases hr' with rfl|rfl|rfl
 ·have hs:=aoy;obtain⟨sa,ta,eA,ta0,ta1⟩:=s20 (n:=2) (st:=st1) (k:=k+1) hv hl (by omega) (by omega) (by omega);obtain⟨kt,stt,tn,tx,w,eT,hT,it,jt,-⟩:=zo (a:=ta) (st:=sa) (k:=k+1+1) hv hl hs (by omega) (by omega) (by omega) (by omega);obtain⟨sm,m,eM,m0,m1⟩:=s20 (n:=2) (st:=stt) (k:=kt) hv hl (by omega) (by omega) (by omega);obtain rfl|rfl|rfl:m=0∨m=1∨m=2:=by omega
  ·obtain⟨k',st',s,w,e,h,i1,j1⟩:=ab6 hv hl (by omega) (by omega) eP hs eA eT hT (by omega) (by omega) eM;exact⟨k',st',s,w,e,h,by omega,by omega⟩
  ·obtain⟨k',st',s,w,e,h,i1,j1⟩:=abv hv hl (by omega) (by omega) eP hs eA eT hT (by omega) (by omega) eM;exact⟨k',st',s,w,e,h,by omega,by omega⟩
  ·obtain⟨k',st',s,w,e,h,i1,j1⟩:=acr hv hl (by omega) (by omega) eP hs eA eT hT (by omega) (by omega) eM;exact⟨k',st',s,w,e,h,by omega,by omega⟩
 ·obtain⟨sz0,a0,eS0,p0,q0⟩:=Yn (lo:=1) (hi:=4) (st:=st1) (k:=k+1) hv hl (by omega) (by omega) (by omega) (by omega) (by omega);have hs:=al9 ⟨p0,q0⟩;obtain⟨sa,ta,eA,ta0,ta1⟩:=s20 (n:=2) (st:=sz0) (k:=k+1+1) hv hl (by omega) (by omega) (by omega);obtain⟨kt,stt,tn,tx,w,eT,hT,it,jt,-⟩:=zo (a:=ta) (st:=sa) (k:=k+1+1+1) hv hl hs (by omega) (by omega) (by omega) (by omega);obtain⟨sm,m,eM,m0,m1⟩:=s20 (n:=2) (st:=stt) (k:=kt) hv hl (by omega) (by omega) (by omega);obtain rfl|rfl|rfl:m=0∨m=1∨m=2:=by omega
  ·obtain⟨k',st',s,w,e,h,i1,j1⟩:=acD hv hl (by omega) (by omega) eP hs eS0 eA eT hT (by omega) (by omega) eM;exact⟨k',st',s,w,e,h,by omega,by omega⟩
  ·obtain⟨k',st',s,w,e,h,i1,j1⟩:=abe hv hl (by omega) (by omega) eP hs eS0 eA eT hT (by omega) (by omega) eM;exact⟨k',st',s,w,e,h,by omega,by omega⟩
  ·obtain⟨k',st',s,w,e,h,i1,j1⟩:=abR hv hl (by omega) (by omega) eP hs eS0 eA eT hT (by omega) (by omega) eM;exact⟨k',st',s,w,e,h,by omega,by omega⟩
 ·obtain⟨sz0,a0,eS0,p0,q0⟩:=Yn (lo:=1) (hi:=4) (st:=st1) (k:=k+1) hv hl (by omega) (by omega) (by omega) (by omega) (by omega);obtain⟨sz1,a1,eS1,p1,q1⟩:=Yn (lo:=1) (hi:=4) (st:=sz0) (k:=k+1+1) hv hl (by omega) (by omega) (by omega) (by omega) (by omega);have hs:=akq ⟨p0,q0⟩ ⟨p1,q1⟩;obtain⟨sa,ta,eA,ta0,ta1⟩:=s20 (n:=2) (st:=sz1) (k:=k+1+1+1) hv hl (by omega) (by omega) (by omega);obtain⟨kt,stt,tn,tx,w,eT,hT,it,jt,-⟩:=zo (a:=ta) (st:=sa) (k:=k+1+1+1+1) hv hl hs (by omega) (by omega) (by omega) (by omega);obtain⟨sm,m,eM,m0,m1⟩:=s20 (n:=2) (st:=stt) (k:=kt) hv hl (by omega) (by omega) (by omega);obtain rfl|rfl|rfl:m=0∨m=1∨m=2:=by omega
  ·obtain⟨k',st',s,w,e,h,i1,j1⟩:=acS hv hl (by omega) (by omega) eP hs eS0 eS1 eA eT hT (by omega) (by omega) eM;exact⟨k',st',s,w,e,h,by omega,by omega⟩
  ·obtain⟨k',st',s,w,e,h,i1,j1⟩:=aaX hv hl (by omega) (by omega) eP hs eS0 eS1 eA eT hT (by omega) (by omega) eM;exact⟨k',st',s,w,e,h,by omega,by omega⟩
  ·obtain⟨k',st',s,w,e,h,i1,j1⟩:=ab1 hv hl (by omega) (by omega) eP hs eS0 eS1 eA eT hT (by omega) (by omega) eM;exact⟨k',st',s,w,e,h,by omega,by omega⟩
theorem akT{h0 h1 h2:List O}{l:Nat}{w0 w1:Nat}{most:Int}{c0:List D}
 (e0:CK 21 [.ptr (.heap l) 0,.d (.int .i64 1),.d (.int .i64 most)] h0 (.d (.int .i64 1)) h1 w0)
 (e1:CK 63 [.ptr (.heap l) 0,.d (.list 2 ax)] h1 (.d (.agg c0)) h2 w1)(hc0:c0.length=10)
 :∃w,ah K (.fn (.func 13) [] []) [.ptr (.heap l) 0,.d (.int .i64 most)] none h0=some (.ret (.d (.agg [.list 2 ax,.list 10 [.agg c0]])),false,h2,w):=by
 have e:=k13 [] [] [.ptr (.heap l) 0,.d (.int .i64 most)] none h0;simp[c13,Zz,Yq,YS,WW,XR,Xy,XA,af,XZ,s62,hw0,hw1,hw2,e0,e1,hc0]at e;exact⟨_,e⟩
theorem alh{h0 h1 h2 h3:List O}{l:Nat}{w0 w1 w2:Nat}{most:Int}{c0 c1:List D}
 (e0:CK 21 [.ptr (.heap l) 0,.d (.int .i64 1),.d (.int .i64 most)] h0 (.d (.int .i64 2)) h1 w0)
 (e1:CK 63 [.ptr (.heap l) 0,.d (.list 2 ax)] h1 (.d (.agg c0)) h2 w1)(hc0:c0.length=10)
 (e2:CK 63 [.ptr (.heap l) 0,.d (.list 2 ax)] h2 (.d (.agg c1)) h3 w2)(hc1:c1.length=10)
 :∃w,ah K (.fn (.func 13) [] []) [.ptr (.heap l) 0,.d (.int .i64 most)] none h0=some (.ret (.d (.agg [.list 2 ax,.list 10 [.agg c0,.agg c1]])),false,h3,w):=by
 have e:=k13 [] [] [.ptr (.heap l) 0,.d (.int .i64 most)] none h0;simp[c13,Zz,Yq,YS,WW,XR,Xy,XA,af,XZ,s62,hw0,hw1,hw2,e0,e1,e2,hc0,hc1]at e;exact⟨_,e⟩
theorem aoE{h0 h1 h2 h3 h4:List O}{l:Nat}{w0 w1 w2 w3:Nat}{most:Int}{c0 c1 c2:List D}
 (e0:CK 21 [.ptr (.heap l) 0,.d (.int .i64 1),.d (.int .i64 most)] h0 (.d (.int .i64 3)) h1 w0)
 (e1:CK 63 [.ptr (.heap l) 0,.d (.list 2 ax)] h1 (.d (.agg c0)) h2 w1)(hc0:c0.length=10)
 (e2:CK 63 [.ptr (.heap l) 0,.d (.list 2 ax)] h2 (.d (.agg c1)) h3 w2)(hc1:c1.length=10)
 (e3:CK 63 [.ptr (.heap l) 0,.d (.list 2 ax)] h3 (.d (.agg c2)) h4 w3)(hc2:c2.length=10)
 :∃w,ah K (.fn (.func 13) [] []) [.ptr (.heap l) 0,.d (.int .i64 most)] none h0=some (.ret (.d (.agg [.list 2 ax,.list 10 [.agg c0,.agg c1,.agg c2]])),false,h4,w):=by
 have e:=k13 [] [] [.ptr (.heap l) 0,.d (.int .i64 most)] none h0;simp[c13,Zz,Yq,YS,WW,XR,Xy,XA,af,XZ,s62,hw0,hw1,hw2,e0,e1,e2,e3,hc0,hc1,hc2]at e;exact⟨_,e⟩
def dw(t:List Stp):D:=.agg [.list 2 ax,.list 10 (t.map encS)]
structure dL(t:List Stp):Prop where
 ok:∀s∈t,gK s
 pos:0<t.length
theorem s13{hp:List O}{l:Nat}{v:V}{nums:List Int}{k st most:Int}(hv:dn v nums)(hl:l<hp.length)(hk:0≤k)(hk':k<1099511200000)(h1:1≤most)(h3:most≤3) :
  ∃k' st' t w,ah K (.fn (.func 13) [] []) [.ptr (.heap l) 0,.d (.int .i64 most)] none (hp.set l (aW v k st))=some (.ret (.d (dw t)),false,hp.set l (aW v k' st'),w)∧dL t∧t.length≤most∧k≤k'∧k'≤k+400:=by
 obtain⟨s0,r,e0,r0,r1⟩:=Yn (lo:=1) (hi:=most) (st:=st) (k:=k) hv hl hk (by omega) (by omega) (by omega) (by omega);obtain⟨k1,st1,x1,w1,e1,o1,i1,j1⟩:=s63 (st:=s0) (k:=k+1) hv hl (by omega) (by omega);obtain rfl|rfl|rfl:r=1∨r=2∨r=3:=by omega
 ·obtain⟨w,e⟩:=akT e0 e1 rfl;exact⟨k1,st1,[x1],w,e,⟨by simpa using o1,by simp⟩,by simp;omega,by omega,by omega⟩
 ·obtain⟨k2,st2,x2,w2,e2,o2,i2,j2⟩:=s63 (st:=st1) (k:=k1) hv hl (by omega) (by omega);obtain⟨w,e⟩:=alh e0 e1 rfl e2 rfl;exact⟨k2,st2,[x1,x2],w,e,⟨by simp[o1,o2],by simp⟩,by simp;omega,by omega,by omega⟩
 ·obtain⟨k2,st2,x2,w2,e2,o2,i2,j2⟩:=s63 (st:=st1) (k:=k1) hv hl (by omega) (by omega);obtain⟨k3,st3,x3,w3,e3,o3,i3,j3⟩:=s63 (st:=st2) (k:=k2) hv hl (by omega) (by omega);obtain⟨w,e⟩:=aoE e0 e1 rfl e2 rfl e3 rfl;exact⟨k3,st3,[x1,x2,x3],w,e,⟨by simp[o1,o2,o3],by simp⟩,by simp;omega,by omega,by omega⟩
def XV(n:Int):List Oper:=[⟨(some 3),.move (.tmp 0),0,"",#[],none⟩,
 ⟨(some 4),.build 96 #[(0,.tmp 3),(2,.const (.int .u64 n))],0,"",#[],none⟩,
 ⟨(some 5),.box 96 (.tmp 4),0,"",#[],none⟩,
 ⟨(some 2),.assign (.tmp 5),0,"",#[],none⟩]
theorem s12{hp:List O}{v:V}{nums:List Int}(hv:dn v nums):∃st w,ah K (.fn (.func 12) [] []) [v] none hp=some (.ret (.ptr (.heap hp.length) 0),false,hp++[aW v 0 st],w):=by
 have e:=k12 [] [] [v] none hp;obtain⟨n,y⟩:∃n:Int,∀s:St,aj K 12 (rg 12 1) s=oK 4 (jy K (ah K) 12 (XV n) (XV n) s):=⟨7640891576956012809,al6⟩
 refine⟨n,0,?_⟩;rcases hv with rfl|⟨rfl,rfl⟩<;>simp[c12,apc,y,XV]at e<;>simpa[aW]using e
theorem jc{hp J:List O}{a:Nat}{o:O}(h:hp[a]?=some o):(hp++J)[a]?=some o:=by rw[List.getElem?_append_left (gS.1 h).1];exact h
theorem Tn(hp:List O)(a b:Nat){st:D}{ss:List Int}{n:Nat}{x:List (Int×List Int)}{i:Int}{ro ro':Bool}{y1 y2 y3 y4 y5 y6 y7 y8 y9:V}(hst:st.isCell=true)(ha:hp[a]?=some (.cells [.d (.list 2 ax),.d st] ro))(hb:hp[b]?=some (.cells [.d (fC ss),y1,y2,y3,y4,y5,y6,y7,y8,y9] ro'))(hs:eX ss)(h:dP n x ss) :
  ∃J w,ah K (.fn (.func 210) [] [.ptr (.heap a) 0,.ptr (.heap b) 0]) [.d (.int .i64 i),.d (dJ n x)] none hp=some (.ret (.d (.int .i64 0)),false,hp++J,w):=by
 obtain⟨J,w,e1⟩:=aoH hp st hst hs h;have e:=ayP [] [.ptr (.heap a) 0,.ptr (.heap b) 0] [.d (.int .i64 i),.d (dJ n x)] none hp;have hx:(lS x).isCell=true:=by cases x<;>rfl
 simp only[D.isCell]at hx;simp only[dJ]at e1;simp[c210,ags,ag5,ha,hb,e1,dJ,hx]at e;exact⟨_,_,by simpa[dJ]using e⟩
theorem auR(hp:List O)(a b:Nat){st:D}{ss:List Int}{fs:List (Nat×List (Int×List Int))}{ro ro':Bool}{y1 y2 y3 y4 y5 y6 y7 y8 y9:V}(hst:st.isCell=true)(ha:hp[a]?=some (.cells [.d (.list 2 ax),.d st] ro))(hb:hp[b]?=some (.cells [.d (fC ss),y1,y2,y3,y4,y5,y6,y7,y8,y9] ro'))(hs:eX ss)(h:∀c∈fs,dP c.1 c.2 ss)(hn:fs.length≤3) :
  ∃J w,ah K (.fn (.func 209) [] []) [.d (yR fs),.fn (.func 210) [] [.ptr (.heap a) 0,.ptr (.heap b) 0]] none hp=some (.ret (.d (.int .i64 0)),false,hp++J,w):=by
 have hx:∀x,(lS x).isCell=true:=fun x=>by cases x<;>rfl
 match fs,hn,h with
 |[],_,h=>obtain⟨w,e⟩:=afU (h0:=hp) (pa:=.heap a) (pb:=.heap b) rfl rfl;exact⟨[],w,by simpa[yR]using e⟩
 |[c],_,h=>obtain⟨J,w,e1⟩:=Tn hp a b (i:=0) hst ha hb hs (h c (by simp));obtain⟨w,e⟩:=agD e1 (hx _) rfl rfl;exact⟨J,w,e⟩
 |[c,d],_,h=>obtain⟨J,w,e1⟩:=Tn hp a b (i:=0) hst ha hb hs (h c (by simp));obtain⟨J2,w2,e2⟩:=Tn (hp++J) a b (i:=1) hst (jc ha) (jc hb) hs (h d (by simp));obtain⟨w,e⟩:=ahc e1 e2 (hx _) (hx _) rfl rfl;exact⟨J++J2,w,by rw[←List.append_assoc];exact e⟩
 |[c,d,f],_,h=>obtain⟨J,w,e1⟩:=Tn hp a b (i:=0) hst ha hb hs (h c (by simp));obtain⟨J2,w2,e2⟩:=Tn (hp++J) a b (i:=1) hst (jc ha) (jc hb) hs (h d (by simp));obtain⟨J3,w3,e3⟩:=Tn (hp++J++J2) a b (i:=2) hst (jc (jc ha)) (jc (jc hb)) hs (h f (by simp));obtain⟨w,e⟩:=aft e1 e2 e3 (hx _) (hx _) (hx _) rfl rfl;exact⟨J++(J2++J3),w,by rw[←List.append_assoc,←List.append_assoc];exact e⟩
 |_::_::_::_::_,hn,_=>simp at hn
theorem ab3(ss:List Int):lenV (.d (fC ss))=some ss.length:=by cases ss<;>simp[fC,lenV]
theorem ab4(fs:List (Nat×List (Int×List Int))):lenV (.d (yR fs))=some fs.length:=by cases fs<;>simp[yR,lenV]
theorem au4(hp:List O){s:Stp}{st:D}(hst:st.isCell=true)(h:gK s) :
  ∃J w,ah K (.fn (.func 175) [] []) [.d (.agg [.list 2 ax,st]),.d (encS s)] none hp=some (.ret (.d (.int .i64 0)),false,hp++J,w):=by
 have e:=awv [] [] [.d (.agg [.list 2 ax,st]),.d (encS s)] none hp;obtain⟨ss,⟨tn,tx⟩,fs,o,p,q,m,z,a⟩:=s;have hB:bG fs.length ss.length 10 (dK o p q m z a):=h.body;have hs:eX ss:=h.sz;have c1:(fC ss).isCell=true:=by cases ss<;>rfl
 have c2:(lS tx).isCell=true:=by cases tx<;>rfl
 have c3:(yR fs).isCell=true:=by cases fs<;>rfl
 have c4:a.isCell=true:=by rcases hB.args with rfl|⟨l,rfl⟩<;>rfl
 have e1:=fun hp=>ani hp ss (by have:=hs.few;omega) (fun x hx=>⟨(hs.within x hx).1,by have:=(hs.within x hx).2;omega⟩);obtain⟨J1,w1,e2⟩:=aoH (hp++[.cells [.d (.list 2 ax),.d st] false,.cells [.d (fC ss),.d (.int .i64 tn),.d (lS tx),.d (yR fs),.d (.int .i64 o),.d (.str p),.d (.str q),.d (.str m),.d (.int .i64 z),.d a] false]) st hst hs h.to;obtain⟨J2,w2,e3⟩:=auR (hp++[.cells [.d (.list 2 ax),.d st] false,.cells [.d (fC ss),.d (.int .i64 tn),.d (lS tx),.d (yR fs),.d (.int .i64 o),.d (.str p),.d (.str q),.d (.str m),.d (.int .i64 z),.d a] false]++J1) hp.length (hp.length+1) (ss:=ss) (ro:=false) (ro':=false) (y1:=.d (.int .i64 tn)) (y2:=.d (lS tx)) (y3:=.d (yR fs)) (y4:=.d (.int .i64 o)) (y5:=.d (.str p)) (y6:=.d (.str q)) (y7:=.d (.str m)) (y8:=.d (.int .i64 z)) (y9:=.d a) hst (by simp) (by simp) hs h.fr h.few;obtain⟨J3,w3,e4⟩:=axU hB (by omega) (hp++[.cells [.d (.list 2 ax),.d st] false,.cells [.d (fC ss),.d (.int .i64 tn),.d (lS tx),.d (yR fs),.d (.int .i64 o),.d (.str p),.d (.str q),.d (.str m),.d (.int .i64 z),.d a] false]++J1++J2);obtain⟨J4,w4,e5⟩:=att hB h.few hs.few (hp++[.cells [.d (.list 2 ax),.d st] false,.cells [.d (fC ss),.d (.int .i64 tn),.d (lS tx),.d (yR fs),.d (.int .i64 o),.d (.str p),.d (.str q),.d (.str m),.d (.int .i64 z),.d a] false]++J1++J2++J3);have hl1:=ab3 ss;have hl2:=ab4 fs;have hf:¬((6:Int)<fs.length):=by have:=h.few;simp at this;omega
 have hf':¬(6<fs.length):=by have:=h.few;simp at this;omega
 simp only[D.isCell]at c1 c2 c3 c4 hst;simp only[lenV]at hl1 hl2;simp only[dJ,dK,List.append_assoc,List.cons_append,List.nil_append]at e2 e3 e4 e5;simp[c175,aiV,agA,aip,ahs,ahF,aiK,afm,ahx,agV,aeU,ZU,aaB,aas,aan,acK,aaz,encS,hst,c1,c2,c3,c4,e1,e2,e3,e4,e5,hl1,hl2,hf,hf']at e;exact⟨_,_,by simpa[encS]using e⟩
theorem TW(hp:List O)(a:Nat){s:Stp}{st:D}{i:Int}{ro:Bool}(hst:st.isCell=true)(ha:hp[a]?=some (.cells [.d (.list 2 ax),.d st] ro))(h:gK s) :
  ∃J w,ah K (.fn (.func 174) [] [.ptr (.heap a) 0]) [.d (.int .i64 i),.d (encS s)] none hp=some (.ret (.d (.int .i64 0)),false,hp++J,w):=by
 obtain⟨J,w,e1⟩:=au4 hp hst h;have e:=ax1 [] [.ptr (.heap a) 0] [.d (.int .i64 i),.d (encS s)] none hp;obtain⟨ss,⟨tn,tx⟩,fs,o,p,q,m,z,x⟩:=s;have c1:(fC ss).isCell=true:=by cases ss<;>rfl
 have c2:(lS tx).isCell=true:=by cases tx<;>rfl
 have c3:(yR fs).isCell=true:=by cases fs<;>rfl
 have c4:x.isCell=true:=by rcases h.body.args with rfl|⟨l,rfl⟩<;>rfl
 simp only[D.isCell]at c1 c2 c3 c4 hst;simp only[encS]at e1;simp[alX,ah8,afJ,encS,ha,e1,c1,c2,c3,c4]at e;exact⟨_,_,by simpa[encS]using e⟩
theorem fG(s:Stp)(h:gK s):(fC s.ss).isCell=true∧(lS s.to.2).isCell=true∧(yR s.fr).isCell=true∧s.args.isCell=true:=
 ⟨by cases s.ss<;>rfl,by cases s.to.2<;>rfl,by cases s.fr<;>rfl,by rcases h.body.args with h|⟨l,h⟩<;>rw[h]<;>rfl⟩
theorem as7(hp:List O)(a:Nat){t:List Stp}{st:D}{ro:Bool}(hst:st.isCell=true)(ha:hp[a]?=some (.cells [.d (.list 2 ax),.d st] ro))(h:dL t)(hn:t.length≤3) :
  ∃J w,ah K (.fn (.func 173) [] []) [.d (.list 10 (t.map encS)),.fn (.func 174) [] [.ptr (.heap a) 0]] none hp=some (.ret (.d (.int .i64 0)),false,hp++J,w):=by
 match t,hn,h with
 |[],_,h=>exact absurd h.pos (by simp)|[c],_,h=>obtain⟨J,w,e1⟩:=TW hp a (i:=0) hst ha (h.ok c (by simp));obtain⟨a1,a2,a3,a4⟩:=fG c (h.ok c (by simp));obtain⟨w,e⟩:=agI e1 a1 a2 a3 a4 rfl;exact⟨J,w,e⟩
 |[c,d],_,h=>obtain⟨J,w,e1⟩:=TW hp a (i:=0) hst ha (h.ok c (by simp));obtain⟨J2,w2,e2⟩:=TW (hp++J) a (i:=1) hst (jc ha) (h.ok d (by simp));obtain⟨a1,a2,a3,a4⟩:=fG c (h.ok c (by simp));obtain⟨b1,b2,b3,b4⟩:=fG d (h.ok d (by simp));obtain⟨w,e⟩:=agc e1 e2 a1 a2 a3 a4 b1 b2 b3 b4 rfl;exact⟨J++J2,w,by rw[←List.append_assoc];exact e⟩
 |[c,d,f],_,h=>obtain⟨J,w,e1⟩:=TW hp a (i:=0) hst ha (h.ok c (by simp));obtain⟨J2,w2,e2⟩:=TW (hp++J) a (i:=1) hst (jc ha) (h.ok d (by simp));obtain⟨J3,w3,e3⟩:=TW (hp++J++J2) a (i:=2) hst (jc (jc ha)) (h.ok f (by simp));obtain⟨a1,a2,a3,a4⟩:=fG c (h.ok c (by simp));obtain⟨b1,b2,b3,b4⟩:=fG d (h.ok d (by simp));obtain⟨f1,f2,f3,f4⟩:=fG f (h.ok f (by simp));obtain⟨w,e⟩:=afa e1 e2 e3 a1 a2 a3 a4 b1 b2 b3 b4 f1 f2 f3 f4 rfl;exact⟨J++(J2++J3),w,by rw[←List.append_assoc,←List.append_assoc];exact e⟩
 |_::_::_::_::_,hn,_=>simp at hn
def bD:List Int→Int
 |[]=>1|x::xs=>x*bD xs
theorem cZ{ss:List Int}(h:eX ss):1≤bD ss∧bD ss≤16:=by
 have key:∀x:Int,1≤x→x≤4→x=1∨x=2∨x=3∨x=4:=fun x _ _=>by omega
 match ss,h with
 |[],_=>simp[bD]|[a],h=>have:=h.within a (by simp);simp[bD];omega
 |[a,b],h=>have ha:=h.within a (by simp);have hb:=h.within b (by simp);simp only[bD];rcases key a ha.1 ha.2 with rfl|rfl|rfl|rfl<;>omega
 |_::_::_::_,h=>have:=h.few;simp at this
theorem azD(hp:List O){ss:List Int}(h:eX ss):ah K (.fn (.func 110) [] []) [.d (fC ss)] none hp=some (.ret (.d (.int .i64 (bD ss))),false,hp,0):=by
 rw[azg]
 match ss,h with
 |[],_=>simp[abo,PD,Me,MB,Oh,Qd,Oy,Qx,NV,af,MI,fC,bD]|[a],h=>have ha:=h.within a (by simp);have hw:wr .i64 a=a:=wI;simp[abo,PD,Me,MB,Oh,Qd,Oy,Qx,NV,af,MI,fC,bD,hw1,hw]
 |[a,b],h=>have ha:=h.within a (by simp);have hb:=cZ h;simp only[bD,Int.mul_one]at hb;have hw:wr .i64 a=a:=wI;have hw3:wr .i64 (a*b)=a*b:=wI;simp[abo,PD,Me,MB,Oh,Qd,Oy,Qx,NV,af,MI,fC,bD,hw1,hw2,hw,hw3]
 |_::_::_::_,h=>have:=h.few;simp at this
theorem aew{hp:List O}{l:Nat}{ar:D}{ro:Bool}{t0 o0 z0 r0:Int}{p0 q0 m0:ByteArray}{s0 x0 f0 a0:D}
 (hl:hp[l]?=some (.cells [.d ar,.d (.list 10 [.agg [s0,.int .i64 t0,x0,f0,.int .i64 o0,.str p0,.str q0,.str m0,.int .i64 z0,a0]])] ro))
 (e0:CK 110 [.d s0] hp (.d (.int .i64 r0)) hp 0)(l0:1≤r0)(g0:r0≤16)(cs0:D.isCell s0=true)(cx0:D.isCell x0=true)(cf0:D.isCell f0=true)(ca0:D.isCell a0=true)
 :ah K (.fn (.func 176) [] []) [.ptr (.heap l) 0] none hp=some (.ret (.d (.int .i64 (r0))),false,hp,0):=by
 simp only[D.isCell]at cs0 cx0 cf0 ca0;have hs0:wr .i64 (r0)=r0:=wI;rw[afA];simp[acO,NC,Qg,KJ,NP,MG,Kt,OV,Pg,af,QG,hl,hw1,hw2,hw3,e0,hs0,cs0,cx0,cf0,ca0]
theorem aeC{hp:List O}{l:Nat}{ar:D}{ro:Bool}{t0 o0 z0 r0 t1 o1 z1 r1:Int}{p0 q0 m0 p1 q1 m1:ByteArray}{s0 x0 f0 a0 s1 x1 f1 a1:D}
 (hl:hp[l]?=some (.cells [.d ar,.d (.list 10 [.agg [s0,.int .i64 t0,x0,f0,.int .i64 o0,.str p0,.str q0,.str m0,.int .i64 z0,a0],.agg [s1,.int .i64 t1,x1,f1,.int .i64 o1,.str p1,.str q1,.str m1,.int .i64 z1,a1]])] ro))
 (e0:CK 110 [.d s0] hp (.d (.int .i64 r0)) hp 0)(l0:1≤r0)(g0:r0≤16)
 (e1:CK 110 [.d s1] hp (.d (.int .i64 r1)) hp 0)(l1:1≤r1)(g1:r1≤16)(cs0:D.isCell s0=true)(cx0:D.isCell x0=true)(cf0:D.isCell f0=true)(ca0:D.isCell a0=true)(cs1:D.isCell s1=true)(cx1:D.isCell x1=true)(cf1:D.isCell f1=true)(ca1:D.isCell a1=true)
 :ah K (.fn (.func 176) [] []) [.ptr (.heap l) 0] none hp=some (.ret (.d (.int .i64 (r0+r1))),false,hp,0):=by
 simp only[D.isCell]at cs0 cx0 cf0 ca0 cs1 cx1 cf1 ca1;have hs0:wr .i64 (r0)=r0:=wI;have hs1:wr .i64 (r0+r1)=r0+r1:=wI;rw[afA];simp[acO,NC,Qg,KJ,NP,MG,Kt,OV,Pg,af,QG,hl,hw1,hw2,hw3,e0,e1,hs0,hs1,cs0,cx0,cf0,ca0,cs1,cx1,cf1,ca1]
theorem air{hp:List O}{l:Nat}{ar:D}{ro:Bool}{t0 o0 z0 r0 t1 o1 z1 r1 t2 o2 z2 r2:Int}{p0 q0 m0 p1 q1 m1 p2 q2 m2:ByteArray}{s0 x0 f0 a0 s1 x1 f1 a1 s2 x2 f2 a2:D}
 (hl:hp[l]?=some (.cells [.d ar,.d (.list 10 [.agg [s0,.int .i64 t0,x0,f0,.int .i64 o0,.str p0,.str q0,.str m0,.int .i64 z0,a0],.agg [s1,.int .i64 t1,x1,f1,.int .i64 o1,.str p1,.str q1,.str m1,.int .i64 z1,a1],.agg [s2,.int .i64 t2,x2,f2,.int .i64 o2,.str p2,.str q2,.str m2,.int .i64 z2,a2]])] ro))
 (e0:CK 110 [.d s0] hp (.d (.int .i64 r0)) hp 0)(l0:1≤r0)(g0:r0≤16)
 (e1:CK 110 [.d s1] hp (.d (.int .i64 r1)) hp 0)(l1:1≤r1)(g1:r1≤16)
 (e2:CK 110 [.d s2] hp (.d (.int .i64 r2)) hp 0)(l2:1≤r2)(g2:r2≤16)(cs0:D.isCell s0=true)(cx0:D.isCell x0=true)(cf0:D.isCell f0=true)(ca0:D.isCell a0=true)(cs1:D.isCell s1=true)(cx1:D.isCell x1=true)(cf1:D.isCell f1=true)(ca1:D.isCell a1=true)(cs2:D.isCell s2=true)(cx2:D.isCell x2=true)(cf2:D.isCell f2=true)(ca2:D.isCell a2=true)
 :ah K (.fn (.func 176) [] []) [.ptr (.heap l) 0] none hp=some (.ret (.d (.int .i64 (r0+r1+r2))),false,hp,0):=by
 simp only[D.isCell]at cs0 cx0 cf0 ca0 cs1 cx1 cf1 ca1 cs2 cx2 cf2 ca2;have hs0:wr .i64 (r0)=r0:=wI;have hs1:wr .i64 (r0+r1)=r0+r1:=wI;have hs2:wr .i64 (r0+r1+r2)=r0+r1+r2:=wI;rw[afA];simp[acO,NC,Qg,KJ,NP,MG,Kt,OV,Pg,af,QG,hl,hw1,hw2,hw3,e0,e1,e2,hs0,hs1,hs2,cs0,cx0,cf0,ca0,cs1,cx1,cf1,ca1,cs2,cx2,cf2,ca2]
end Mw
