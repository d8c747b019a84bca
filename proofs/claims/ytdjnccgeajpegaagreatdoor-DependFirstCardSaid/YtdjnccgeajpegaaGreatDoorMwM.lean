/- DependFirst's tied card holds; no condition beyond the card's own. -/
import Derived.Test.YtdjnccgeajpegaaGreatDoorMwL
import Derived.RangeFuncLeaves
import Derived.RangeFuncNested
import Derived.RecoverIn
set_option linter.unusedVariables false
set_option linter.unusedSimpArgs false
namespace Mw
open Go
theorem Inv.reWl{C:aY}{E:Env}{ob:List (Nat×Nat×O)}{hp:List O}{k k':Nat}{w:World}(h:Inv C E ⟨ob,hp,k⟩ w):Inv C E ⟨ob,hp,k'⟩ w:=
 ⟨h.prot,h.slots,h.heap,h.dist,h.held,h.freshH,h.freshS,h.top,h.glob⟩
theorem Moved.reWl{E E':Env}{ob ob':List (Nat×Nat×O)}{hp hp':List O}{k k' j j':Nat}{w w':World}(h:Moved E ⟨ob,hp,k⟩ w E' ⟨ob',hp',k'⟩ w'):Moved E ⟨ob,hp,j⟩ w E' ⟨ob',hp',j'⟩ w':=
 ⟨h.G,h.kh,h.kl,h.size,h.len,h.kept,h.owns,h.holds,h.newG,h.wos⟩
inductive mV (E:Env) (Q:Nat→Prop):List DR→List Deferred→Prop
 |nil:mV E Q [] []
 |mark {ds:List DR} {dd:List Deferred} (r:Nat) (args:Array Value) (h:Q r) (hn:∀d∈dd,d.target≠.collected r) (t:mV E Q ds dd):mV E Q ds ({target:=.collected r,args:=args}::dd)
 |call {d:DR} {d':Deferred} {ds:List DR} {dd:List Deferred} (h:YU E d d') (t:mV E Q ds dd):mV E Q (d::ds) (d'::dd)
theorem YU.mono{E E':Env}(hE:E.Le E'){d:DR}{d':Deferred}(h:YU E d d'):YU E' d d':=
 let⟨c,h1,h2,h3⟩:=h;⟨c,h1,h2,h3.mono hE⟩
theorem mV.mono{E E':Env}{Q Q':Nat→Prop}(hE:E.Le E')(hQ:∀r,Q r→Q' r){ds:List DR}{dd:List Deferred}(h:mV E Q ds dd):mV E' Q' ds dd:=by
 induction h with
 |nil=>exact .nil|mark r args h hn t ih=>exact .mark r args (hQ r h) hn ih|call h t ih=>exact .call (h.mono hE) ih
theorem mV.marks{E:Env}{Q:Nat→Prop}{ds:List DR}{dd:List Deferred}(h:mV E Q ds dd):∀d∈dd,∀r,d.target=.collected r→Q r:=by
 induction h with
 |nil=>intro d hd;cases hd|mark r args h hn t ih=>
  intro d hd r' e;cases hd with
  |head=>cases e;exact h|tail _ hd=>exact ih d hd r' e
 |call h t ih=>
  intro d hd r' e;cases hd with
  |head=>obtain⟨c,h1,_⟩:=h;rw[h1]at e;cases e
  |tail _ hd=>exact ih d hd r' e
def BA(n0:Nat)(E:Env)(m:Mem)(w:World)(r:Nat):Prop:=n0≤r∧w.heap[r]?=some (.deferred (some []))∧¬Own E m r
theorem BA.moved{n0:Nat}{E E':Env}{m m':Mem}{w w':World}(h:Moved E m w E' m' w'){r:Nat}(hr:BA n0 E m w r):BA n0 E' m' w' r:=by
 obtain⟨h1,h2,h3⟩:=hr;have hlt:=(Array.getElem?_eq_some_iff.1 h2).1;refine⟨h1,(h.kept r hlt h3).trans h2,fun ho=>?_⟩;rcases h.owns r ho with h4|h4
 ·exact h3 h4
 ·omega
structure kK(C:aY)(N n0:Nat)(E:Env)(s:St)(a:Act)(w:World):Prop where
 inv:Inv C E s.m w
 tm:qj E s.tm a.tmps
 size:N≤a.tmps.size
 df:mV E.bare (BA n0 E s.m w) s.df a.defers
def TF(cs:List Frame):List Frame:=match recoverD cs with
 |some (_,cs')=>cs'|none=>cs
inductive oQ (s s':St) (cs cs':List Frame):Prop
 |same (h:s'.rc=s.rc) (h':s'.rcd=s.rcd) (hc:cs'=cs)
 |rcv (v:V) (h:s.rc=some (some v)) (h':s'.rc=some none) (hr:s'.rcd=true) (hc:cs'=TF cs)
theorem oQ.trans{s s1 s2:St}{cs cs1 cs2:List Frame}(h:oQ s s1 cs cs1)(h':oQ s1 s2 cs1 cs2):oQ s s2 cs cs2:=by
 cases h with
 |same a b c=>
  cases h' with
  |same a' b' c'=>exact .same (a'.trans a) (b'.trans b) (c'.trans c)|rcv v a' b' r c'=>exact .rcv v (a▸a') b' r (by rw[c',c])
 |rcv v a b r c=>
  cases h' with
  |same a' b' c'=>exact .rcv v a (a'.trans b) (b'.trans r) (c'.trans c)|rcv v a'=>rw[b]at a';cases a'
theorem oQ.refl(s:St)(cs:List Frame):oQ s s cs cs:=.same rfl rfl rfl
structure Dv(E:Env)(b:Frame)(cs:List Frame)(s:St):Prop where
 rc:∀q,s.rc=some q→b.kind=.deferred∧b.roundOf=none∧∃c cs0,cs=c::cs0∧(match q with
  |some v=>∃y,c.mode=.panicking [{v:=y,recovered:=false}]∧RV E.bare v y|none=>recoverD cs=none)
 nrm:s.rc=none→b.kind=.normal
 rnd:match s.rnd with
  |none=>b.roundOf=none|some l=>∃blk c,E.k (.heap l) 0=some (blk,c)∧b.roundOf=some blk
theorem Dv.mono{E E':Env}{b:Frame}{cs:List Frame}{s s':St}(h:Dv E b cs s)(hE:E.Le E')(h1:s'.rc=s.rc)(h2:s'.rnd=s.rnd):Dv E' b cs s':=by
 refine⟨fun q hq=>?_,fun hq=>h.nrm (h1▸hq),?_⟩
 ·obtain⟨a,b',c,cs0,e,hm⟩:=h.rc q (h1▸hq);refine⟨a,b',c,cs0,e,?_⟩;cases q with
  |none=>exact hm|some v=>obtain⟨y,hy,hr⟩:=hm;exact⟨y,hy,hr.mono hE.bare⟩
 ·rw[h2];have:=h.rnd;cases hr:s.rnd with
  |none=>rw[hr]at this;exact this|some l=>rw[hr]at this;obtain⟨blk,c,h3,h4⟩:=this;exact⟨blk,c,hE.k _ _ _ h3,h4⟩
inductive nO (E:Env):CR→Ending→Prop
 |ret {v:V} {y:Value} (h:RV E v y):nO E (.ret v) (.returned y)
 |pan {v:V} {y:Value} (h:RV E v y):nO E (.pan v) (.panicked [{v:=y,recovered:=false}])
def aC(C:aY)(f:FuncId)(vs:List V)(hp:List O)(r:CR)(hp':List O):Prop:=
 ∀ (E:Env) (w:World) (xs:Array Value),Inv C E ⟨[],hp,0⟩ w→dS E vs xs.toList →
  (∀w',(callFunc f xs).run C.P w'=.ok (.enter f xs) w')∧∀cs,∃E' w' fr e,Inv C E' ⟨[],hp',0⟩ w'∧Moved E ⟨[],hp,0⟩ w E' ⟨[],hp',0⟩ w'∧nO E' r e∧
   Steps C.P (lone (Frame.enter C.P f xs .normal) cs w) (lone fr cs w')∧fr.fn=f∧fr.leaving C.P w' e
def kR(E:Env):Option V→FrameMode→Prop
 |none,u=>u=.returning|some v,u=>∃y,u=.panicking [{v:=y,recovered:=false}]∧RV E v y
def akn(C:aY)(f:FuncId)(vs:List V)(pv:Option V)(hp:List O)(rcd:Bool)(hp':List O):Prop:=
 ∀ (E:Env) (w:World) (xs:Array Value),Inv C E ⟨[],hp,0⟩ w→dS E vs xs.toList →
  (∀w',(callFunc f xs).run C.P w'=.ok (.enter f xs) w')∧∀(c:Frame) cs,kR E pv c.mode→∃E' w' fr y u',Inv C E' ⟨[],hp',0⟩ w'∧Moved E ⟨[],hp,0⟩ w E' ⟨[],hp',0⟩ w'∧
   Steps C.P (lone (Frame.enter C.P f xs .deferred) (c::cs) w) (lone fr ({c with mode:=u'}::cs) w')∧fr.kind=.deferred∧fr.going C.P w' (.returned y)∧kR E' (bif rcd then none else pv) (settle u')
def QL(C:aY)(l:Nat)(args:List V)(hp:List O)(r:CR)(hp':List O):Prop:=
 ∀ (E:Env) (w:World) (xs:Array Value) (blk c:Nat),Inv C E ⟨[],hp,0⟩ w→E.k (.heap l) 0=some (blk,c)→dS E args xs.toList →
  ∃f tmps as bd,(Instr.yield blk xs).run C.P w=.ok (.round blk f tmps as bd) w∧∀(c:Frame) cs,∃E' w' v y,r=.ret v∧Inv C E' ⟨[],hp',0⟩ w'∧Moved E ⟨[],hp,0⟩ w E' ⟨[],hp',0⟩ w'∧RV E' v y∧
   Steps C.P (lone (Frame.round blk f tmps as bd .normal) (c::cs) w) (lone (c.finish y) cs w')
structure mY(C:aY)(call:bK):Prop where
 func:∀f first caps args hp r rcd hp' wl,call (.fn (.func f) first caps) args none hp=some (r,rcd,hp',wl)→aC C f (first++args++caps) hp r hp'
 dfr:∀f args pv hp r rcd hp' wl,call (.fn (.func f) [] []) args (some pv) hp=some (.ret r,rcd,hp',wl)→akn C f args pv hp rcd hp'
 yield:∀l a b args hp r rcd hp' wl,call (.fn (.yield l) a b) args none hp=some (r,rcd,hp',wl)→QL C l args hp r hp'
 other:∀fn args rc hp r,call fn args rc hp=some r→∃f a b,fn=.fn f a b∧((∃g,f=.func g)∨∃l,f=.yield l)
 fr:mG call
section
variable{P:Program}{b:Frame}{a:Act}{k:List Item}{cs:List Frame}{w w':World}{ops:Array Oper}{i:Nat}{rest:List Nat}{o:Oper}
theorem mD(ho:ops[i]?=some o)(v:Value):(b.atR a (.inRegion ops (i::rest)::k)).finish v=b.atR (a.put o.dst v) (.inRegion ops rest::k):=by rw[Frame.finish_atR,ho];rfl
theorem rG(ho:ops[i]?=some o)(hw:Region.wanted o (yielded ops a.tmps)=true){v:Value}(hr:(o.semAt b.roundOf a.eval).run P w=.ok (.value v) w') :
  step P (lone (b.atR a (.inRegion ops (i::rest)::k)) cs w)=.next (lone (b.atR (a.put o.dst v) (.inRegion ops rest::k)) cs w'):=
 step_lone_go (by rw[stepGR_op ho hw,←mD ho];simp[stepG.apply,hr])
theorem Kv(ho:ops[i]?=some o)(hw:Region.wanted o (yielded ops a.tmps)=true)(hr:(o.semAt b.roundOf a.eval).run P w=.ok .skip w') :
  step P (lone (b.atR a (.inRegion ops (i::rest)::k)) cs w)=.next (lone (b.atR (a.put o.dst undef) (.inRegion ops rest::k)) cs w'):=
 step_lone_go (by rw[stepGR_op ho hw,←mD ho];simp[stepG.apply,hr])
theorem JY(ho:ops[i]?=some o)(hw:Region.wanted o (yielded ops a.tmps)=true){d:Deferred}(hr:(o.semAt b.roundOf a.eval).run P w=.ok (.defer d) w') :
  step P (lone (b.atR a (.inRegion ops (i::rest)::k)) cs w)=.next (lone (b.atR ({a with defers:=d::a.defers}.put o.dst undef) (.inRegion ops rest::k)) cs w'):=
 step_lone_go (by
  have:({b.atR a (.inRegion ops (i::rest)::k)with defers:=d::a.defers}:Frame).finish undef=b.atR ({a with defers:=d::a.defers}.put o.dst undef) (.inRegion ops rest::k):=by have:=Frame.finish_atR b {a with defers:=d::a.defers} ops i rest k undef;rw[ho]at this;exact this
  rw[stepGR_op ho hw];simp only[stepG.apply,Sem.runT_eq,hr,GStep.bare_after]
  exact congrArg (fun fr=>GStep.go {frame:=fr,callers:=cs,status:=.running,dying:=none} w') this)
theorem Jb(ho:ops[i]?=some o)(hw:Region.wanted o (yielded ops a.tmps)=true){v:Value}(hr:(o.semAt b.roundOf a.eval).run P w=.halt (.panic v) w') :
  step P (lone (b.atR a (.inRegion ops (i::rest)::k)) cs w)=.next (lone {b.atR a (.inRegion ops (i::rest)::k)with mode:=.panicking [{v,recovered:=false}] } cs w'):=
 step_lone_go (by rw[stepGR_op ho hw,←Frame.raise_atR];simp[stepG.apply,hr])
theorem Jt(ho:ops[i]?=some o)(hw:Region.wanted o (yielded ops a.tmps)=true){f:FuncId}{args:Array Value}(hr:(o.semAt b.roundOf a.eval).run P w=.ok (.enter f args) w') :
  step P (lone (b.atR a (.inRegion ops (i::rest)::k)) cs w)=.next (lone (Frame.enter P f args .normal) (b.atR a (.inRegion ops (i::rest)::k)::cs) w'):=
 step_lone_go (by rw[stepGR_op ho hw];simp[stepG.apply,hr,Frame.atR])
theorem Ja(ho:ops[i]?=some o)(hw:Region.wanted o (yielded ops a.tmps)=true){l:Nat}{f:FuncId}{tmps:Array Value}{as bd:Code}(hr:(o.semAt b.roundOf a.eval).run P w=.ok (.round l f tmps as bd) w') :
  step P (lone (b.atR a (.inRegion ops (i::rest)::k)) cs w)=.next (lone (Frame.round l f tmps as bd .normal) (b.atR a (.inRegion ops (i::rest)::k)::cs) w'):=
 step_lone_go (by rw[stepGR_op ho hw];simp[stepG.apply,hr,Frame.atR])
theorem uD(ho:ops[i]?=some o)(hw:Region.wanted o (yielded ops a.tmps)=true)(hr:(o.semAt b.roundOf a.eval).run P w=.ok .recover w')(hk:b.kind=.deferred)(hro:b.roundOf=none) :
  step P (lone (b.atR a (.inRegion ops (i::rest)::k)) cs w)=.next (match recoverD cs with
   |some (v,cs')=>lone (b.atR (a.put o.dst v) (.inRegion ops rest::k)) cs' w'|none=>lone (b.atR (a.put o.dst .nilIface) (.inRegion ops rest::k)) cs w'):=by
 have hk':(b.atR a (.inRegion ops (i::rest)::k)).kind=.deferred:=hk;have htr:=tryRecover_deferred hk' cs;cases hrec:recoverD cs with
 |none=>refine step_lone_go ?_;rw[stepGR_op ho hw,←mD ho];simp only[Frame.atR,hro]at htr hr ⊢;simp[stepG.apply,hr,htr,hrec]|some p=>obtain⟨v,cs'⟩:=p;refine step_lone_go ?_;rw[stepGR_op ho hw,←mD ho];simp only[Frame.atR,hro]at htr hr ⊢;simp[stepG.apply,hr,htr,hrec]
end
section
variable{C:aY}{E:Env}{N n0:Nat}{s:St}{a:Act}{w:World}
theorem kK.eval(h:kK C N n0 E s a w)(x:Operand):RV E (bJ C s x) (a.eval x):=by
 cases x with
 |tmp t=>
  simp only[bJ,Act.eval,xK];cases hl:look t s.tm with
  |none=>exact .undef _|some v=>exact(h.tm t v hl).2
 |const v=>
  simp only[bJ,Act.eval];cases hd:D.ofValue v with
  |none=>exact .undef _|some d=>exact .d _ _ (jC E.G v d hd)
 | global g =>
  simp only[bJ,Act.eval];cases hg:C.gl g with
  |none=>exact .undef _|some cs=>obtain⟨xs,h1,h2,h3⟩:=h.inv.glob g cs hg;have:=RV.dptr (E:=E) cs 0 g 0 xs (fun q c hq=>by rw[Nat.zero_add];exact h1 q c hq) h2 h3;simpa using this
 |func f=>simp only[bJ,Act.eval];exact .fn (.func f) [] [] #[] #[] (fun l=>by simp) rfl rfl (fun i v x hv=>by simp at hv) (fun i v x hv=>by simp at hv)
def DW(tmps:Array Value)(dst:Option Tmp)(y:Value):Array Value:=match dst with
 |some d=>tmps.setIfInBounds d y|none=>tmps
theorem qj.put{tm:List (Nat×V)}{tmps:Array Value}(h:qj E tm tmps){dst:Option Tmp}{v:V}{y:Value}(hv:RV E v y)(hd:∀d,dst=some d→d<tmps.size) :
  qj E (uH dst v tm) (DW tmps dst y):=by
 cases dst with
 |none=>exact h| some d =>
  intro t u hu;simp only[sV,oI]at hu;by_cases ht:d=t
  ·subst ht;rw[if_pos rfl]at hu;cases hu;have:=hd d rfl;refine⟨by simpa[DW]using this,?_⟩;simpa[DW,this]using hv
  ·rw[if_neg ht]at hu;obtain⟨h1,h2⟩:=h t u hu;refine⟨by simpa[DW]using h1,?_⟩;simp only[DW,Array.getD_eq_getD_getElem?,Array.getElem?_setIfInBounds_ne ht]at h2 ⊢;exact h2
theorem xk(a:Act)(dst:Option Tmp)(y:Value):(a.put dst y).tmps=DW a.tmps dst y:=by cases dst<;>rfl
theorem put_defers(a:Act)(dst:Option Tmp)(y:Value):(a.put dst y).defers=a.defers:=by cases dst<;>rfl
theorem kK.step(h:kK C N n0 E s a w){E':Env}{m':Mem}{w':World}(hs:Step C E s.m w E' m' w'){dst:Option Tmp}{v:V}{y:Value}(hv:RV E' v y)(hd:∀d,dst=some d→d<N){s':St}
  (h1:s'.tm=uH dst v s.tm)(h2:s'.m=m')(h3:s'.df=s.df):kK C N n0 E' s' (a.put dst y) w':=by
 refine⟨h2▸hs.inv,?_,?_,?_⟩
 ·rw[h1,xk];exact(h.tm.mono hs.le).put hv fun d e=>Nat.lt_of_lt_of_le (hd d e) h.size
 ·rw[xk];have:=h.size;cases dst<;>simpa[DW]using this
 ·rw[h3,put_defers,h2];exact h.df.mono hs.le.bare fun r hr=>hr.moved hs.mov
theorem qf(h:kK C N n0 E s a w){ops:Array Oper}{o:Oper}{t:Bool}(hw:gU ops.toList s o=some t):Region.wanted o (yielded ops a.tmps)=t:=by
 unfold gU at hw;unfold Region.wanted;cases hg:o.guard with
 |none=>simp[hg]at hw;simp[hw]| some p =>
  obtain⟨j,want⟩:=p;simp only[hg]at hw ⊢;rw[Array.getElem?_toList]at hw;cases hj:ops[j]? with
  |none=>simp[hj]at hw| some q =>
   simp only[hj]at hw;cases hd:q.dst with
   |none=>simp[hd]at hw| some d =>
    simp only[hd,xK]at hw;cases hl:look d s.tm with
    |none=>simp[hl]at hw| some v =>
     simp only[hl]at hw;obtain⟨h1,h2⟩:=h.tm d v hl;have hy:yielded ops a.tmps j=(match a.tmps.getD d undef with| .bool b=>some b|_=>none):=by simp[yielded,hj,hd,Array.getD,h1];split<;>simp_all
     rw[hy];split at hw
     ·rename_i b;rw[h2.bool_inv];simp at hw;subst hw;simp
     ·obtain⟨xs,e,hr⟩:=h2.tuple_inv;rw[e];simp at hw;subst hw;simp
     ·cases hw
end
def Y3(P:Program)(m0:Machine)(b:Frame)(K:List Item)(cs:List Frame)(E:Env):X→Act→World→Prop
 | .normal,a,w=>Steps P m0 (lone (b.atR a K) cs w)| .exit id,a,w=>(∀K',exitTo id K=some K'→Steps P m0 (lone (b.atR a K') cs w))∧(exitTo id K=none→∃K1,exitTo id K1=none∧Steps P m0 (lone (b.atR a (.code (.exit id)::K1)) cs w))| .ret,a,w=>∃K1,Steps P m0 (lone (b.atR a (.code .ret::K1)) cs w)| .pan v,a,w=>∃K1 y,RV E.bare v y∧Steps P m0 (lone {b.atR a K1 with mode:=.panicking [{v:=y,recovered:=false}] } cs w)
theorem Y3.of_steps{P:Program}{m0 m1:Machine}{b:Frame}{K:List Item}{cs:List Frame}{E:Env}{x:X}{a:Act}{w:World}(h:Steps P m0 m1)(h':Y3 P m1 b K cs E x a w):Y3 P m0 b K cs E x a w:=by
 cases x with
 |normal=>exact h.trans h'|exit id=>exact⟨fun K' hK=>h.trans (h'.1 K' hK),fun hn=>let⟨K1,h1,h2⟩:=h'.2 hn;⟨K1,h1,h.trans h2⟩⟩|ret=>exact let⟨K1,h1⟩:=h';⟨K1,h.trans h1⟩
 |pan v=>exact let⟨K1,y,h1,h2⟩:=h';⟨K1,y,h1,h.trans h2⟩
def vT(C:aY)(N n0:Nat)(E:Env)(s:St)(w:World)(b:Frame)(cs:List Frame)(m0:Machine)(K:List Item)(x:X)(s':St):Prop:=
 ∃E' a' w' cs',kK C N n0 E' s' a' w'∧Step C E s.m w E' s'.m w'∧oQ s s' cs cs'∧Dv E' b cs' s'∧s'.rnd=s.rnd∧Y3 C.P m0 b K cs' E' x a' w'
section
variable{C:aY}{E:Env}{N n0:Nat}{s s':St}{a:Act}{w:World}{b:Frame}{cs:List Frame}{k:List Item}{ops:Array Oper}{i:Nat}{rest:List Nat}{o:Oper}{f:Nat}
theorem kK.mono(h:kK C N n0 E s a w){E':Env}{m':Mem}{w':World}(hs:Step C E s.m w E' m' w')(h1:s'.tm=s.tm)(h2:s'.m=m')(h3:s'.df=s.df):kK C N n0 E' s' a w':=
 ⟨h2▸hs.inv,by rw[h1];exact h.tm.mono hs.le,h.size,by rw[h3,h2];exact h.df.mono hs.le.bare fun r hr=>hr.moved hs.mov⟩
theorem Je{m:Mem}{w w':World}{ob:O}{mk:Loc→V}{y:Value}{ss:List (Loc×O)}{esc:Bool}(hN:WN C esc E m w ob mk ss y w'){l:Loc}(hl:(m.sets ss).isNew l)(he:l.isHeap=true→esc=true) :
  ∃E',Step C E m w E' ((m.sets ss).add l ob) w'∧RV E' (mk l) y:=by
 obtain⟨E1,bb,c,h1,h2,h3,h4,h5,h6,h7⟩:=hN;have hle:=Env.le_place (key:=ob.key) (p:=(bb,c)) h1.inv hl;obtain⟨r1,r2⟩:=h7 l (E1.place l ob.key (bb,c)) he hle rfl (Env.place_at _ _ _ _);refine⟨E1.place l ob.key (bb,c),h1.trans (h1.inv.new hl h2 h3 h4.1 h4.2 h5 h6 ⟨fun i e=>?_,fun t g e=>?_⟩),r2⟩
 ·subst e;exact dG.toH r1
 ·subst e;exact r1
theorem SH{e:Eff}{x:X}{fp:FP}{ls:List Loc}(hS:kK C N n0 E s a w)(hF:Dv E b cs s)(ho:ops[i]?=some o)(hw:Region.wanted o (yielded ops a.tmps)=true)(hd:∀d,o.dst=some d→d<N)
  (hsem:(∀d,e≠.dfr d)→o.semAt b.roundOf a.eval=execOp a.eval o)(he:fF C f o E s.m w a.eval e)(h:aO C f o ls s (.eff e)=some (x,s',fp)) :
  vT C N n0 E s w b cs (lone (b.atR a (.inRegion ops (i::rest)::k)) cs w) (.inRegion ops rest::k) x s':=by
 cases e with
 |val v ss=>obtain⟨y,w',E',h1,h2,h3⟩:=he;simp only[aO,put_eq,oI,pI]at h;obtain⟨rfl,rfl,rfl⟩:=h;refine⟨E',a.put o.dst y,w',cs,hS.step h2 h3 hd rfl rfl rfl,h2,.same rfl rfl rfl,hF.mono h2.le rfl rfl,rfl,.one (rG ho hw ?_)⟩;rw[hsem fun d e=>by cases e];exact h1
 |skip ss=>obtain⟨w',E',h1,h2⟩:=he;simp only[aO,put_eq,oI,pI]at h;obtain⟨rfl,rfl,rfl⟩:=h;refine⟨E',a.put o.dst undef,w',cs,hS.step h2 (.tuple [] #[] rfl fun i v x hv=>by simp at hv) hd rfl rfl rfl,h2,.same rfl rfl rfl,hF.mono h2.le rfl rfl,rfl,.one (Kv ho hw ?_)⟩;rw[hsem fun d e=>by cases e];exact h1
 | new ob mk ss =>
  obtain⟨y,w',h1,h2⟩:=he;simp only[aO]at h;split at h
  ·rename_i t ht;simp only[ht]at h2;cases hE:C.esc f t with
   |true=>simp only[hE,cond_true,oI,pI]at h;obtain⟨rfl,rfl,rfl⟩:=h;obtain⟨E',h3,h4⟩:=Je (l:=.heap (s.m.sets ss).hp.length) h2 rfl (fun _=>hE);refine⟨E',a.put o.dst y,w',cs,hS.step h3 h4 hd (by rw[ht];rfl) rfl rfl,h3,.same rfl rfl rfl,hF.mono h3.le rfl rfl,rfl,.one (rG ho hw ?_)⟩;rw[hsem fun d e=>by cases e];exact h1
   |false=>simp only[hE,cond_false,oI,pI]at h;obtain⟨rfl,rfl,rfl⟩:=h;obtain⟨E',h3,h4⟩:=Je (l:=.slot t (dY t (s.m.sets ss).ob)) h2 rfl (fun h=>by simp[Loc.isHeap]at h);refine⟨E',a.put o.dst y,w',cs,hS.step h3 h4 hd (by rw[ht];rfl) rfl rfl,h3,.same rfl rfl rfl,hF.mono h3.le rfl rfl,rfl,.one (rG ho hw ?_)⟩;rw[hsem fun d e=>by cases e];exact h1
  ·cases h
 | dfr d =>
  obtain⟨d',E',h1,h2,h3⟩:=he;simp only[aO]at h;split at h
  ·cases h
  ·rename_i hrnd;simp only[put_eq,oI,pI]at h;obtain⟨rfl,rfl,rfl⟩:=h;have hro:b.roundOf=none:=by have:=hF.rnd;rw[hrnd]at this;exact this
   refine⟨E',({a with defers:=d'::a.defers}:Act).put o.dst undef,w,cs,⟨h2.inv,?_,?_,?_⟩,h2,.same rfl rfl rfl,hF.mono h2.le rfl rfl,rfl,.one (JY ho hw ?_)⟩
   ·rw[xk];exact(hS.tm.mono h2.le).put (.tuple [] #[] rfl fun i v x hv=>by simp at hv) fun d e=>Nat.lt_of_lt_of_le (hd d e) hS.size
   ·rw[xk];have:=hS.size;cases o.dst<;>simpa[DW]using this
   ·rw[put_defers];exact .call h3 (hS.df.mono h2.le.bare fun r hr=>hr.moved h2.mov)
   ·rw[hro,Oper.semAt_none];exact h1
 |pan v=>obtain⟨y,E',h1,h2,h3⟩:=he;simp only[aO,oI,pI]at h;obtain⟨rfl,rfl,rfl⟩:=h;refine⟨E',a,w,cs,hS.mono h2 rfl rfl rfl,h2,.same rfl rfl rfl,hF.mono h2.le rfl rfl,rfl,_,y,h3,.one (Jb ho hw ?_)⟩;rw[hsem fun d e=>by cases e];exact h1
 | recov =>
  have h1:(o.semAt b.roundOf a.eval).run C.P w=.ok .recover w:=by rw[hsem fun d e=>by cases e];exact he
  simp only[aO]at h;split at h
  ·rename_i v hrc;simp only[put_eq,oI,pI]at h;obtain⟨rfl,rfl,rfl⟩:=h;obtain⟨hk,hro,c,cs0,rfl,y,hm,hy⟩:=hF.rc _ hrc;have hrec:recoverD (c::cs0)=some (y,{c with mode:=.panicking [{v:=y,recovered:=true}] }::cs0):=by simp[recoverD,hm]
   have hr':TF (c::cs0)={c with mode:=.panicking [{v:=y,recovered:=true}] }::cs0:=by simp[TF,hrec]
   have hst:=uD (k:=k) (rest:=rest) (cs:=c::cs0) ho hw h1 hk hro;simp only[hrec]at hst;refine⟨E,a.put o.dst y,w,TF (c::cs0),hS.step (.refl hS.inv) (hy.mono E.bare_le) hd rfl rfl rfl,.refl hS.inv,.rcv v hrc rfl rfl rfl,⟨fun q hq=>?_,fun hq=>(by cases hq),hF.rnd⟩,rfl,.one (by rw[hr'];exact hst)⟩;cases hq;exact⟨hk,hro,_,cs0,hr',by rw[hr'];simp[recoverD]⟩
  ·rename_i hrc;simp only[put_eq,oI,pI]at h;obtain⟨rfl,rfl,rfl⟩:=h;obtain⟨hk,hro,c,cs0,rfl,hm⟩:=hF.rc _ hrc;have hst:=uD (k:=k) (rest:=rest) (cs:=c::cs0) ho hw h1 hk hro;simp only at hm;simp only[hm]at hst;exact⟨E,a.put o.dst .nilIface,w,c::cs0,hS.step (.refl hS.inv) (.d _ _ .nili) hd rfl rfl rfl,.refl hS.inv,.same rfl rfl rfl,hF.mono (.refl E) rfl rfl,rfl,.one hst⟩
  ·cases h
theorem noSlot{E3:Env}{hp:List O}{j:Nat}{w:World}(h:Inv C E3 ⟨[],hp,j⟩ w)(t g n:Nat):E3.k (.slot t g) n=none:=h.freshS t g n (Nat.zero_le _)
theorem QV{E3:Env}{hp:List O}{j:Nat}{w:World}(h:Inv C E3 ⟨[],hp,j⟩ w)(E2:Env):E3.Le (E2.back E3).bare:=
 ⟨fun _ _ _ h=>h,fun l n p hk=>by
  cases l with
  |slot t g=>rw[noSlot h t g n]at hk;cases hk|heap i=>exact hk⟩
theorem Hy{E2 E3:Env}{m2:Mem}{hp':List O}{w':World}{r:CR}{e:Ending}{x:X}{fp:FP}{ls:List Loc}{ss:List (Loc×O)}{wl:Nat}(hS:kK C N n0 E s a w)(hF:Dv E b cs s)(hd:∀d,o.dst=some d→d<N)
  (h2:Step C E s.m w E2 m2 w)(hm2:m2=s.m.sets ss)(hI3:Inv C E3 ⟨[],hp',0⟩ w')(hM3:Moved E2.bare ⟨[],m2.hp,0⟩ w E3 ⟨[],hp',0⟩ w')(hr:nO E3 r e)
  (h:aO C f o ls s (.call r ss hp' wl)=some (x,s',fp)){m0:Machine}
  (hsteps:match e with
   | .returned y=>Steps C.P m0 (lone (b.atR (a.put o.dst y) (.inRegion ops rest::k)) cs w')| .panicked chain=>∃K1,Steps C.P m0 (lone {b.atR a K1 with mode:=.panicking chain} cs w')| .outgrown=>False):
  vT C N n0 E s w b cs m0 (.inRegion ops rest::k) x s':=by
 subst hm2;have hb:=h2.inv.back (Start.call E2 _ w) hM3 hI3 (fun h=>by cases h) ((s.m.sets ss).wl ||| wl);have hst:=h2.trans hb;have hle:=QV hI3 E2;cases hr with
 |ret hv=>simp only[aO,put_eq,oI,pI]at h;obtain⟨rfl,rfl,rfl⟩:=h;exact⟨E2.back E3,_,w',cs,hS.step hst (hv.mono (hle.trans (Env.bare_le _))) hd rfl rfl rfl,hst,.same rfl rfl rfl,hF.mono hst.le rfl rfl,rfl,hsteps⟩
 |pan hv=>simp only[aO,oI,pI]at h;obtain⟨rfl,rfl,rfl⟩:=h;obtain⟨K1,hs⟩:=hsteps;exact⟨E2.back E3,a,w',cs,hS.mono hst rfl rfl rfl,hst,.same rfl rfl rfl,hF.mono hst.le rfl rfl,rfl,K1,_,hv.mono hle,hs⟩
theorem QI{r v':V}{name:String}{g:FuncId}(h:zC C r name=some (g,v')){x:Value}(hx:RV E r x)(n:Nat):∃t y,x=.iface t y∧(∀w,(method (n+1) t y name).run C.P w=.ok (g,y) w)∧RV E v' y:=by
 unfold zC at h;split at h
 ·rename_i t v hq;have hr:∃y,x=.iface t y∧RV E v y:=by
   split at hq
   ·simp only[oI,pI]at hq;obtain⟨rfl,rfl⟩:=hq;exact hx.iface_inv
   ·simp only[oI,pI]at hq;obtain⟨rfl,rfl⟩:=hq;exact hx.diface_inv
   ·cases hq
  obtain⟨y,rfl,hy⟩:=hr;split at h
  ·rename_i i hi;split at h
   ·rename_i mt hf;split at h
    ·rename_i g' p hp hfn;have hpath:mt.path.toList=[]:=by
      have:mt.path=#[]:=by simpa using hp
      rw[this]
     cases hu:C.P.underlying t with
     |none=>simp[hu]at h| some d =>
      have key:g'=g∧v=v'∧p=(match d with| .pointer _=>true|_=>false):=by cases d<;>cases p<;>simp[hu]at h<;>simp[h]
      obtain⟨rfl,rfl,hpp⟩:=key;refine⟨t,y,rfl,fun w=>?_,hy⟩;simp only[method,Sem.run_bind,iq hi,Result.andThen_ok,hf,hpath,follow,Sem.run_pure,hfn,receiverAt,ak hu];cases d<;>simp at hpp<;>subst hpp<;>simp[Place.get]
    ·cases h
   ·cases h
  ·cases h
 ·cases h
end
section
variable{C:aY}{E:Env}{N n0:Nat}{s s':St}{a:Act}{w:World}{b:Frame}{cs:List Frame}{k:List Item}{ops:Array Oper}{i:Nat}{rest:List Nat}{o:Oper}{f:Nat}{call:bK}
theorem Ui{c:Call}{ρ:Operand→V}{g:Rd}{e:Eff}(ho:o.op=.defer c)(h:jT C f o ρ g=some e):∃d,e=.dfr d:=by
 obtain⟨callee,args,ts⟩:=c;unfold jT at h;simp only[ho]at h;cases callee with
 | value hf =>
  dsimp only at h;split at h
  ·cases h
  ·split at h
   ·simp only[oI]at h;exact⟨_,h.symm⟩
   ·cases h
  ·cases h
 |_=>cases h
theorem EN{fn':V}{vs:List V}{y:Value}{xs:List Value}{E2:Env}{m2:Mem}{ss:List (Loc×O)}{r:CR}{rcd:Bool}{hp':List O}{wl:Nat}{x:X}{fp:FP}{ls:List Loc}(hC:mY C call)
  (hS:kK C N n0 E s a w)(hF:Dv E b cs s)(ho:ops[i]?=some o)(hw:Region.wanted o (yielded ops a.tmps)=true)(hd:∀d,o.dst=some d→d<N)
  (h2:Step C E s.m w E2 m2 w)(hm2:m2=s.m.sets ss)(hfn:RV E2.bare fn' y)(hvs:dS E2.bare vs xs)(hcall:call fn' vs none m2.hp=some (r,rcd,hp',wl))
  (hrun:∀fn A B,y=.func fn A B→(o.semAt b.roundOf a.eval).run C.P w=(invoke (.fn fn B) (A++xs.toArray)).run C.P w)
  (h:aO C f o ls s (.call r ss hp' wl)=some (x,s',fp)) :
  vT C N n0 E s w b cs (lone (b.atR a (.inRegion ops (i::rest)::k)) cs w) (.inRegion ops rest::k) x s':=by
 obtain⟨F,A,B,rfl,hF'⟩:=hC.other _ _ _ _ _ hcall;rcases hF' with ⟨g,rfl⟩|⟨l,rfl⟩
 ·cases hfn with
  | fn _ _ _ a' b' hf ha hb hA hB =>
   have rA:dS E2.bare A a'.toList:=⟨by simpa using ha,fun i v x hv hx=>hA i v x hv (by simpa using hx)⟩
   have rB:dS E2.bare B b'.toList:=⟨by simpa using hb,fun i v x hv hx=>hB i v x hv (by simpa using hx)⟩
   obtain⟨hcf,hall⟩:=hC.func _ _ _ _ _ _ _ _ _ hcall E2.bare w (a'++xs.toArray++b') (h2.inv.out 0) (by simpa using(rA.append hvs).append rB);obtain⟨E3,w',fr,e,hI3,hM3,hE,hst,hfr,hlv⟩:=hall (b.atR a (.inRegion ops (i::rest)::k)::cs);have hent:=Jt (k:=k) (rest:=rest) (cs:=cs) ho hw (by rw[hrun _ _ _ rfl];exact hcf w);refine Hy hS hF hd h2 hm2 hI3 hM3 hE h ?_;cases hE with
   |ret hv=>refine Steps.head hent (hst.trans (.one ?_));rw[←mD ho];exact step_leave_returned hlv|pan hv=>refine⟨.inRegion ops (i::rest)::k,Steps.head hent (hst.trans (.one ?_))⟩;rw[←Frame.raise_atR];exact step_leave_panicked hlv
 ·cases hfn with
  |fn _ _ _ a' b' hf ha hb hA hB=>exact absurd rfl (hf l)|yield _ blk c hk=>obtain⟨f',tmps,as,bd,hy,hall⟩:=hC.yield _ _ _ _ _ _ _ _ _ hcall E2.bare w xs.toArray blk c (h2.inv.out 0) hk (by simpa using hvs);obtain⟨E3,w',v,y',rfl,hI3,hM3,hv,hst⟩:=hall (b.atR a (.inRegion ops (i::rest)::k)) cs;have hent:=Ja (k:=k) (rest:=rest) (cs:=cs) ho hw (by rw[hrun _ _ _ rfl];simpa[invoke]using hy);refine Hy hS hF hd h2 hm2 hI3 hM3 (.ret hv) h ?_;refine Steps.head hent ?_;rw[←mD ho];exact hst
theorem al5(σ:Operand→Value)(args:Array Operand):(List.map σ args.toList).toArray=args.map σ:=by apply Array.ext';simp
theorem NJ {x:X} {fp:FP} (hC:mY C call) (hS:kK C N n0 E s a w) (hF:Dv E b cs s) (ho:ops[i]?=some o) (hw:Region.wanted o (yielded ops a.tmps)=true) (hd:∀ d,o.dst=some d→d < N)
  (h:fE C call f o s=some (x,s',fp)):
  vT C N n0 E s w b cs (lone (b.atR a (.inRegion ops (i::rest)::k)) cs w) (.inRegion ops rest::k) x s':=by
 have hρ:=hS.eval;unfold fE at h;split at h
 ·rename_i out hout;have hu:Up (iT (fB o (bJ C s)) s.m) s.m:=Up.only _ _;have hg:∀l ob,iT (fB o (bJ C s)) s.m l=some ob→s.m.get l=some ob:=fun l ob hl=>by
   unfold iT at hl;cases hb:(fB o (bJ C s)).any (Loc.eq l)with
   |false=>simp[hb]at hl|true=>simpa[hb]using hl
  unfold fD at hout;cases hp:eH o.op with
  | true =>
   simp only[hp,cond_true]at hout;split at hout
   ·rename_i v hv;simp only[oI]at hout;subst hout;obtain⟨y,h1,h2⟩:=TA (w:=w) hρ hv;exact SH hS hF ho hw hd (fun _=>Oper.semAt_eq _ _ _ fun c e=>by rw[e]at hp;cases hp) (show fF C f o E s.m w a.eval (.val v [])from⟨y,w,E,h1,.refl hS.inv,h2⟩) h
   ·cases hout
  | false =>
   simp only[hp,cond_false]at hout;split at hout
   ·rename_i fn args ts hop;split at hout
    ·rename_i vs ss hvs;split at hout
     ·rename_i fn' ts' hfn;obtain⟨E1,s1,r1,u1⟩:=bT _ _ _ _ _ E s.m w _ hvs hS.inv hu (dS.ofOps hρ args.toList);obtain⟨E2,s2,r2,u2⟩:=fZ 4 _ _ _ _ E1 (s.m.sets ss) w _ hfn s1.inv u1 ((hρ fn).mono s1.le);unfold fP at hout;split at hout
      ·rename_i r rcd hp' wl hcall;simp only[oI]at hout;subst hout;have hsets:(s.m.sets ss).sets ts'=s.m.sets (ss++ts'):=(Mem.sets_append _ _ _).symm;rw[hsets]at s2;refine EN hC hS hF ho hw hd (s1.trans s2) rfl r2 (r1.mono s2.le.bare) (by rw[Mem.sets_eq];exact hcall) (fun F A B hy=>?_) h;rw[Oper.semAt_eq _ _ _ fun c e=>by rw[hop]at e;cases e];simp only[execOp,hop,resolve,hy,Deferred.ofValue,Sem.run_bind,Sem.run_pure,Result.andThen_ok];rw[al5]
      ·cases hout
     ·cases hout
    ·cases hout
   ·rename_i rv name args ts hop;split at hout
    ·rename_i r' ts' vs ss hr hvs;split at hout
     ·rename_i g v' hm;obtain⟨E1,s1,r1,u1⟩:=fZ 4 _ _ _ _ E s.m w _ hr hS.inv hu (hρ rv);obtain⟨E2,s2,r2,u2⟩:=bT 4 _ _ _ _ E1 (s.m.sets ts') w _ hvs s1.inv u1 ((dS.ofOps hρ args.toList).mono s1.le);unfold fP at hout;split at hout
      ·rename_i r rcd hp' wl hcall;simp only[oI]at hout;subst hout;have hsets:(s.m.sets ts').sets ss=s.m.sets (ts'++ss):=(Mem.sets_append _ _ _).symm;rw[hsets]at s2;obtain⟨t,y,hx,hmeth,hv'⟩:=QI hm r1 (C.P.types.size+Made.depth-1);have hvv:=hv'.mono s2.le.bare
       have hvs':dS E2.bare (v'::vs) (y::args.toList.map a.eval):=⟨by simpa using r2.1,fun j u z hu hz=>by
        cases j with
        |zero=>simp at hu hz;subst hu;subst hz;exact hvv|succ j=>exact r2.2 j u z (by simpa using hu) (by simpa using hz)⟩
       refine EN (y:=.func (.func g) #[] #[]) hC hS hF ho hw hd (s1.trans s2) rfl (.fn (.func g) [] [] #[] #[] (fun l=>by simp) rfl rfl (fun i v x hv=>by simp at hv) (fun i v x hv=>by simp at hv)) hvs' (by rw[Mem.sets_eq];exact hcall) (fun F A B hy=>?_) h;cases hy;rw[Oper.semAt_eq _ _ _ fun c e=>by rw[hop]at e;cases e];have hfuel:C.P.types.size+Made.depth=(C.P.types.size+Made.depth-1)+1:=by unfold Made.depth;omega
       have hmeth':(method (C.P.types.size+Made.depth) t y name).run C.P w=.ok (g,y) w:=by rw[hfuel];exact hmeth w
       simp only[execOp,hop,resolve,Sem.run_bind,Sem.run_pure,Result.andThen_ok,invoke,hx];have h0:(#[Value.iface t y]++Array.map a.eval args)[0]?=some (Value.iface t y):=by rw[Array.getElem?_append_left (by simp)];rfl
       have h1:(#[Value.iface t y]++Array.map a.eval args).extract 1 (#[Value.iface t y]++Array.map a.eval args).size=Array.map a.eval args:=by apply Array.ext';simp[List.take_of_length_le]
       rw[h0];simp only[h1,callMethod,Sem.run_bind,show program.run C.P w=.ok C.P w from rfl,Result.andThen_ok,hmeth'];have h2:(#[]++(y::List.map a.eval args.toList).toArray++#[]:Array Value)=#[y]++Array.map a.eval args:=by apply Array.ext';simp
       rw[h2]
      ·cases hout
     ·cases hout
    ·cases hout
   ·split at hout
    ·rename_i e he;simp only[oI]at hout;subst hout;refine SH hS hF ho hw hd (fun hnd=>Oper.semAt_eq _ _ _ fun c e'=>?_) (TG hS.inv hu hg hρ he) h;obtain⟨d,rfl⟩:=Ui e' he;exact hnd d rfl
    ·cases hout
 ·cases h
end
end Mw
