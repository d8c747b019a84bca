/- DependFirst's tied card holds; no condition beyond the card's own. -/
import Derived.Test.YtdjnccgeajpegaaGreatDoorMwN
set_option linter.unusedVariables false
set_option linter.unusedSimpArgs false
namespace Mw
open Go
section
variable{C:aY}{E:Env}{m:Mem}{w:World}
theorem Inv.touch(hI:Inv C E m w){r:Nat}{ds:Option (List Deferred)}(h:w.heap[r]?=some (.deferred ds))(o':Obj):Inv C E m {w with heap:=w.heap.setIfInBounds r o'}:=by
 have hoth:∀q,q≠r→(w.heap.setIfInBounds r o')[q]?=w.heap[q]?:=fun q hq=>Array.getElem?_setIfInBounds_ne (Ne.symm hq)
 have row:∀{b arr},rowAt w b arr→rowAt {w with heap:=w.heap.setIfInBounds r o'} b arr:=fun {b arr} hr=>hr.of_same (hoth b fun e=>by obtain⟨_,h1⟩:=hr;rw[e,h]at h1;cases h1)
 have o0:∀{E:Env} {l:Loc} {o:O},dG E w l o→dG E {w with heap:=w.heap.setIfInBounds r o'} l o:=fun {E l o} ho=>by
  cases o with
  |cells cs ro=>obtain⟨b,c,arr,h1,h2,h3,h4,h5⟩:=ho;exact⟨b,c,arr,h1,row h2,h3,h4,h5⟩
  |vec sz es fr gr=>obtain⟨b,c,arr,h1,h2,rest⟩:=ho;exact⟨b,c,arr,h1,row h2,rest⟩
  |map es=>obtain⟨b,c,ents,h1,h2,rest⟩:=ho;exact⟨b,c,ents,h1,(hoth b fun e=>by rw[e,h]at h2;cases h2).trans h2,rest⟩
  |sit s p=>obtain⟨b,c,h1,h2,rest⟩:=ho;exact⟨b,c,h1,(hoth b fun e=>by rw[e,h]at h2;cases h2).trans h2,rest⟩
  |dead=>trivial|loop=>exact ho.elim
 refine⟨fun b i x hx=>?_,fun t g o ho=>o0 (hI.slots t g o ho),fun i o ho=>?_,hI.dist,hI.held,hI.freshH,hI.freshS,hI.top,hI.glob⟩
 ·have hc:=hI.prot b i x hx;exact hc.of_same (hoth b fun e=>by subst e;obtain⟨_,_,_,hc1,_⟩:=hc;rw[h]at hc1;cases hc1)
 ·have hr:=hI.heap i o ho;cases o with
  |loop st p f tm ob ps a bd=>obtain⟨b,c,rc,h1,h2,h3,h4,h5,h6,h7,h8,h9,h10,h11,rest⟩:=hr;exact⟨b,c,rc,h1,(hoth b fun e=>by rw[e,h]at h2;cases h2).trans h2,h3,h4,h5,h6,h7,h8,h9,h10,fun t g o h'=>⟨(h11 t g o h').1,o0 (h11 t g o h').2⟩,rest⟩
  |cells cs ro=>exact dG.toH (o0 (hr.base rfl))|vec=>exact dG.toH (o0 (hr.base rfl))|map=>exact dG.toH (o0 (hr.base rfl))|sit=>exact dG.toH (o0 (hr.base rfl))|dead=>trivial
def JK(tmps:Array Value):ResultVar→Sem Value
 | .tmp t=>pure (tmps.getD t undef)| .cell a t=>do loadVar t (←asAddr (tmps.getD a undef))
theorem NW(fn:Func)(tmps:Array Value):results fn tmps=(do
  let vs ←fn.results.mapM (JK tmps)
  pure (if h:vs.size=1 then vs[0]else .tuple vs)):=by
 unfold results;congr 1
theorem Ph{s:St}{tmps:Array Value}(hI:Inv C E s.m w)(ht:qj E s.tm tmps):∀(rs:List ResultVar) (vs:List V),G9 C s rs=some vs→
  ∃xs,(rs.mapM (JK tmps)).run C.P w=.ok xs w∧dS E vs xs:=by
 have get:∀t,RV E (xK s t) (tmps.getD t undef):=fun t=>by
  unfold xK;cases hl:look t s.tm with
  |none=>exact .undef _|some v=>exact(ht t v hl).2
 intro rs;induction rs with
 |nil=>intro vs h;simp[G9]at h;subst h;exact⟨[],by simp,rfl,fun i v x hv=>by simp at hv⟩| cons r rs ih =>
  intro vs h;simp only[G9]at h;split at h
  ·rename_i v vs' hv hvs;simp only[oI]at h;subst h;obtain⟨xs,h1,h2⟩:=ih vs' hvs;have key:∃x,(JK tmps r).run C.P w=.ok x w∧RV E v x:=by
    cases r with
    |tmp t=>simp[resV]at hv;subst hv;exact⟨_,by simp[JK],get t⟩| cell a t =>
     simp only[resV]at hv;obtain⟨y,hy,hr⟩:=yI hI (fun _ _ h=>h) hv (get a);refine⟨y,?_,hr⟩;have hptr:∃ad,tmps.getD a undef=.pointer (some ad):=by
      unfold CX at hv;have hg:=get a;split at hv
      ·cases hv
      ·split at hv
       ·rename_i he;rw[he]at hg;obtain⟨_,_,_,e⟩:=hg.ptr_inv;exact⟨_,e⟩
       ·rename_i he;rw[he]at hg;obtain⟨_,_,_,e⟩:=hg.ept_inv;exact⟨_,e⟩
       ·rename_i he;rw[he]at hg;obtain⟨_,_,_,e,_⟩:=hg.dptr_inv;exact⟨_,e⟩
       ·rename_i he;rw[he]at hg;obtain⟨_,_,_,e,_⟩:=hg.vptr_inv;exact⟨_,e⟩
       ·cases hv
     obtain⟨ad,he⟩:=hptr;rw[show JK tmps (.cell a t)=(do loadVar t (←asAddr (tmps.getD a undef)))from rfl];rw[he]at hy ⊢;simpa[Instr.loadAt,Instr.sureAddr,asAddr]using hy
   obtain⟨x,hx,hr⟩:=key;refine⟨x::xs,?_,by simp[h2.1],fun i u y hu hy=>?_⟩
   ·simp only[List.mapM_cons,Sem.run_bind,hx,Result.andThen_ok,h1,Sem.run_pure]
   ·cases i with
    |zero=>simp at hu hy;subst hu;subst hy;exact hr|succ i=>exact h2.2 i u y (by simpa using hu) (by simpa using hy)
  ·cases h
def Js:List Value→Value
 |[x]=>x|xs=>.tuple xs.toArray
theorem JL{fn:Func}{s:St}{tmps:Array Value}(hI:Inv C E s.m w)(ht:qj E s.tm tmps){vs:List V}(h:G9 C s fn.results.toList=some vs) :
  ∃xs:List Value,(results fn tmps).run C.P w=.ok (Js xs) w∧dS E vs xs:=by
 obtain⟨xs,h1,h2⟩:=Ph hI ht fn.results.toList vs h;refine⟨xs,?_,h2⟩;rw[NW,Array.mapM_eq_mapM_toList]
 match xs with
 |[]=>simp[h1,Js]|[x]=>simp[h1,Js]|x::y::r=>simp[h1,Js]
end
section
variable{C:aY}{call:bK}
theorem Us{fn:Func}{frz:Nat}:∀(ds:List DR) (pv:Option V) (s s':St) (r:CR),leave C call fn frz ds pv s=some (r,s')→s'.rcd=s.rcd:=by
 intro ds;induction ds with
 | nil =>
  intro pv s s' r h;cases pv with
  | none =>
   simp only[leave]at h;split at h
   ·split at h
    ·simp only[oI,pI]at h;rw[←h.2]
    ·cases h
   ·cases h
  |some v=>simp only[leave,oI,pI]at h;rw[←h.2]
 |cons d ds ih=>
  intro pv s s' r h;simp only[leave]at h;split at h
  ·rw[ih _ _ _ _ h]
  ·cases h
theorem Moved.upto{Ee E:Env}{me m:Mem}{we w:World}(h:Moved Ee me we E m w){r:Nat}(hr:we.heap.size≤r)(o':Obj):Moved Ee me we E m {w with heap:=w.heap.setIfInBounds r o'} where
 G:=h.G
 kh:=h.kh
 kl:=h.kl
 size:=by simpa using h.size
 len:=h.len
 kept:=fun q hq hn=>(Array.getElem?_setIfInBounds_ne (show r≠q by omega)).trans (h.kept q hq hn)
 owns:=h.owns
 holds:=h.holds
 newG:=h.newG
 wos:=h.wos.trans ⟨rfl,rfl⟩
theorem kR.mono{E E':Env}(hE:E.Le E'){pv:Option V}{u:FrameMode}(h:kR E pv u):kR E' pv u:=by
 cases pv with
 |none=>exact h|some v=>obtain⟨y,h1,h2⟩:=h;exact⟨y,h1,h2.mono hE⟩
theorem kR.run{E:Env}{pv:Option V}{u:FrameMode}(h:kR E pv u):u≠.run:=by
 cases pv with
 |none=>rw[show u=.returning from h];simp|some v=>obtain⟨y,h1,_⟩:=h;rw[h1];simp
theorem mV.markOff{E:Env}{Q Q':Nat→Prop}{ds:List DR}{dd:List Deferred}{r:Nat}(h:mV E Q ds dd)(hn:∀d∈dd,d.target≠.collected r)(hQ:∀r',Q r'→r'≠r→Q' r'):mV E Q' ds dd:=by
 induction h with
 |nil=>exact .nil|mark r' args h hn' t ih=>refine .mark r' args (hQ r' h fun e=>?_) hn' (ih fun d hd=>hn d (.tail _ hd));exact hn _ (.head _) (by rw[e])|call h t ih=>exact .call h (ih fun d hd=>hn d (.tail _ hd))
theorem TS(hC:mY C call){fn:Func}{frz:Nat}{cs:List Frame}{Ee:Env}{hpe:List O}{we:World}:∀(dd:List Deferred) (ds:List DR) (pv:Option V) (s s':St) (r:CR) (E:Env) (w:World) (fr:Frame),
  leave C call fn frz ds pv s=some (r,s')→Inv C E s.m w→qj E s.tm fr.tmps→mV E.bare (BA we.heap.size E s.m w) ds dd→kR E.bare pv fr.mode→fr.defers=dd→C.P.funcs[fr.fn]?=some fn→
  Moved Ee ⟨[],hpe,0⟩ we E s.m w→
  ∃E' w' fr' e,Inv C E' ⟨[],s'.m.hp,0⟩ w'∧Moved Ee ⟨[],hpe,0⟩ we E' ⟨[],s'.m.hp,0⟩ w'∧nO E' r e∧Steps C.P (lone fr cs w) (lone fr' cs w')∧fr'.fn=fr.fn∧fr'.kind=fr.kind∧fr'.going C.P w' e:=by
 intro dd;induction dd with
 | nil =>
  intro ds pv s s' r E w fr h hI ht hdf hm hd hfn hM;cases hdf with
  |nil=>
  cases pv with
  | none =>
   simp only[leave]at h;split at h
   ·rename_i vs hvs;split at h
    ·rename_i vs' ss he;simp only[oI,pI]at h;obtain⟨rfl,rfl⟩:=h;obtain⟨xs,hx,hr⟩:=JL (fn:=fn) hI ht hvs;obtain⟨E1,s1,r1,_⟩:=bT frz _ _ _ _ E s.m w _ he hI (Up.refl s.m) hr;refine⟨E1.bare,w,fr,_,s1.inv.out 0,(hM.trans s1.mov).out 0,.ret (y:=Js xs) ?_,.refl _ _,rfl,rfl,hm,hd,fn,hfn,hx⟩
     match vs',xs,r1 with
     |[v],[x],r1=>exact r1.2 0 v x rfl rfl|[],[],r1=>exact .tuple [] #[] rfl fun i v x hv=>by simp at hv
     |v::v2::vr,x::x2::xr,r1=>exact .tuple _ _ (by simpa using r1.1) fun i u y hu hy=>r1.2 i u y hu (by simpa using hy)
     |[],x::xr,r1=>have:=r1.1;simp at this
     |v::vr,[],r1=>have:=r1.1;simp at this
     |[v],x::x2::xr,r1=>have:=r1.1;simp at this
     |v::v2::vr,[x],r1=>have:=r1.1;simp at this
    ·cases h
   ·cases h
  |some v=>simp only[leave,oI,pI]at h;obtain⟨rfl,rfl⟩:=h;obtain⟨y,hy,hr⟩:=hm;exact⟨E.bare,w,fr,_,hI.out 0,hM.out 0,.pan hr,.refl _ _,rfl,rfl,hy,hd,fn,hfn⟩
 | cons d' dd ih =>
  intro ds pv s s' r E w fr h hI ht hdf hm hd hfn hM;cases hdf with
  | mark r0 args hq hn hdf =>
   obtain⟨q1,q2,q3⟩:=hq;have htk:(Instr.takeDeferred r0).run C.P w=.ok [] {w with heap:=w.heap.setIfInBounds r0 (.deferred none)}:=by simp[Instr.takeDeferred,dD q2,gQ _ q2]
   have hst:=step_collected (P:=C.P) (fr:=fr) (cs:=cs) hm.run hd rfl htk;have hsz:({w with heap:=w.heap.setIfInBounds r0 (.deferred none)}:World).heap.size=w.heap.size:=by simp
   obtain⟨E',w',fr',e,h1,h2,h3,h4,h5,h6,h7⟩:=ih ds pv s s' r E {w with heap:=w.heap.setIfInBounds r0 (.deferred none)} {fr with defers:=[]++dd} h (hI.touch q2 _) ht (hdf.markOff hn fun r' hr' hne=>⟨hr'.1,(Array.getElem?_setIfInBounds_ne (Ne.symm hne)).trans hr'.2.1,hr'.2.2⟩) hm rfl hfn (hM.upto q1 _);exact⟨E',w',fr',e,h1,h2,h3,.head hst h4,h5,h6,h7⟩
  | call hdr hdf =>
   rename_i d ds;simp only[leave]at h;split at h
   ·rename_i v rcd hp wl hcall;obtain⟨cap,t1,t2,t3⟩:=hdr;obtain⟨F,A,B,hf,hF⟩:=hC.other _ _ _ _ _ hcall;cases hf;rcases hF with ⟨g,hg⟩|⟨l,hg⟩
    ·rw[hg]at hcall t1;obtain⟨hcf,hall⟩:=hC.dfr _ _ _ _ _ _ _ _ hcall E.bare w (d'.args++cap) (hI.out 0) t3;obtain⟨E3,w1,frX,y,u',hI3,hM3,hst,hk,hgo,hmd⟩:=hall {fr with defers:=dd} cs hm;have hst1:=step_defer (P:=C.P) (fr:=fr) (cs:=cs) (w:=w) hm.run hd t1 (by rw[t1];exact hcf w);have hst2:=step_going_returned (c:={ {fr with defers:=dd}with mode:=u'}) (cs:=cs) hk hgo;have hb:=hI.back (Start.call E s.m w) hM3 hI3 (fun h=>by cases h) (s.m.wl ||| wl);have hle:=QV hI3 E;obtain⟨E',w',fr',e,h1,h2,h3,h4,h5,h6,h7⟩:=ih ds (bif rcd then none else pv) _ s' r (E.back E3) w1 { { {fr with defers:=dd}with mode:=u'}with mode:=settle u'} h hb.inv (ht.mono hb.le) (hdf.mono hb.le.bare fun r' hr'=>hr'.moved hb.mov) (hmd.mono hle) rfl hfn (hM.trans hb.mov);exact⟨E',w',fr',e,h1,h2,h3,.head hst1 (hst.trans (.head hst2 h4)),h5,h6,h7⟩
    ·exact absurd hg (t2 l)
   ·cases h
end
structure tY(s s':St):Prop where
 len:s.m.hp.length≤s'.m.hp.length
 bits:∀i,s.m.wl.testBit i=true→s'.m.wl.testBit i=true
 same:∀i,i<s.m.hp.length→s'.m.wl.testBit i=false→s'.m.hp[i]?=s.m.hp[i]?
theorem tY.refl(s:St):tY s s:=⟨Nat.le_refl _,fun _ h=>h,fun _ _ _=>rfl⟩
theorem tY.trans{a b c:St}(h:tY a b)(h':tY b c):tY a c:=
 ⟨Nat.le_trans h.len h'.len,fun i hi=>h'.bits i (h.bits i hi),fun i hi hb=>by
  have hb':b.m.wl.testBit i=false:=by
   cases hbb:b.m.wl.testBit i with
   |false=>rfl|true=>rw[h'.bits i hbb]at hb;cases hb
  rw[h'.same i (Nat.lt_of_lt_of_le hi h.len) hb,h.same i hi hb']⟩
theorem tY.of{s s':St}{hp:List O}{wl:Nat}(h1:s.m.hp.length≤hp.length)(h2:∀i,i<s.m.hp.length→wl.testBit i=false→hp[i]?=s.m.hp[i]?)(e1:s'.m.hp=hp)(e2:s'.m.wl=s.m.wl ||| wl):tY s s':=
 ⟨by rw[e1];exact h1,fun i hi=>by rw[e2,Nat.testBit_or,hi];rfl,fun i hi hb=>by
  rw[e2,Nat.testBit_or,Bool.or_eq_false_iff]at hb
  rw[e1];exact h2 i hi hb.2⟩
section
variable{C:aY}{call:bK}{f:Nat}
theorem EZ(s:St)(ss:List (Loc×O)){s':St}(e:s'.m=s.m.sets ss):tY s s':=
 .of (by rw[dF];exact Nat.le_refl _) (fun i _ h=>jf ss _ i h) (by rw[e,Mem.sets_eq]) (by rw[e,Mem.sets_eq])
theorem JU(hcf:mG call){o:Oper}{s s':St}{x:X}{fp:FP}(h:fE C call f o s=some (x,s',fp)):tY s s':=by
 unfold fE at h;split at h
 ·rename_i out hout;cases out with
  | eff e =>
   cases e with
   |val v ss=>simp only[aO,put_eq,oI,pI]at h;obtain⟨rfl,rfl,rfl⟩:=h;exact EZ s ss rfl
   |skip ss=>simp only[aO,put_eq,oI,pI]at h;obtain⟨rfl,rfl,rfl⟩:=h;exact EZ s ss rfl
   | new ob mk ss =>
    simp only[aO]at h;split at h
    ·rename_i t ht;cases hE:C.esc f t with
     |true=>simp only[hE,cond_true,oI,pI]at h;obtain⟨rfl,rfl,rfl⟩:=h;refine .of (hp:=setH s.m.hp ss++[ob]) (by simp[dF]) (fun i hi hb=>?_) (by simp[Mem.sets_eq]) (by simp only[Mem.sets_eq];rfl);rw[List.getElem?_append_left (by rw[dF];exact hi)];exact jf ss _ i hb
     |false=>simp only[hE,cond_false,oI,pI]at h;obtain⟨rfl,rfl,rfl⟩:=h;exact .of (by rw[dF];exact Nat.le_refl _) (fun i _ h=>jf ss _ i h) (by simp[Mem.sets_eq]) (by simp only[Mem.sets_eq])
    ·cases h
   |dfr d=>
    simp only[aO]at h;split at h
    ·cases h
    ·simp only[put_eq,oI,pI]at h;obtain⟨rfl,rfl,rfl⟩:=h;exact⟨Nat.le_refl _,fun _ h=>h,fun _ _ _=>rfl⟩
   |pan v=>simp only[aO,oI,pI]at h;obtain⟨rfl,rfl,rfl⟩:=h;exact .refl s
   |recov=>
    simp only[aO]at h;split at h
    ·simp only[put_eq,oI,pI]at h;obtain⟨rfl,rfl,rfl⟩:=h;exact⟨Nat.le_refl _,fun _ h=>h,fun _ _ _=>rfl⟩
    ·simp only[put_eq,oI,pI]at h;obtain⟨rfl,rfl,rfl⟩:=h;exact⟨Nat.le_refl _,fun _ h=>h,fun _ _ _=>rfl⟩
    ·cases h
  | call r ss hp wl =>
   obtain⟨h1,h2⟩:=BO hcf hout;rw[dF]at h1 h2;have key:∀s'':St,s''.m.hp=hp→s''.m.wl=s.m.wl ||| (bitsOf ss ||| wl)→tY s s'':=fun s'' e1 e2=>
    .of (wl:=bitsOf ss ||| wl) h1 (fun i hi hb=>by
     rw[Nat.testBit_or,Bool.or_eq_false_iff]at hb
     rw[h2 i hi hb.2,jf ss _ i hb.1]) e1 e2
   cases r with
   |ret v=>simp only[aO,put_eq,oI,pI]at h;obtain⟨rfl,rfl,rfl⟩:=h;exact key _ rfl (by simp[Mem.sets_eq,Nat.or_assoc])
   |pan v=>simp only[aO,oI,pI]at h;obtain⟨rfl,rfl,rfl⟩:=h;exact key _ rfl (by simp[Mem.sets_eq,Nat.or_assoc])
 ·cases h
theorem sS(hcf:mG call){all:List Oper}:∀(r:List Oper) (s s':St) (x:X) (fps:List FP),bg C call f all r s=some (x,s',fps)→tY s s'
 |[],s,s',x,fps,h=>by simp only[bg,oI,pI]at h;obtain⟨rfl,rfl,rfl⟩:=h;exact .refl s
 | o :: r,s,s',x,fps,h=>by
  simp only[bg]at h;split at h
  ·split at h
   ·rename_i s1 fp ho;split at h
    ·rename_i x' s2 fps' hr;simp only[oI,pI]at h;obtain⟨rfl,rfl,rfl⟩:=h;exact(JU hcf ho).trans (sS hcf r _ _ _ _ hr)
    ·cases h
   ·rename_i x' s1 fp hne ho;simp only[oI,pI]at h;obtain⟨rfl,rfl,rfl⟩:=h;exact JU hcf ho
   ·cases h
  ·split at h
   ·rename_i x' s2 fps' hr;simp only[oI,pI]at h;obtain⟨rfl,rfl,rfl⟩:=h;have:=sS hcf r _ _ _ _ hr;rw[put_eq]at this;exact⟨this.len,this.bits,this.same⟩
   ·cases h
  ·cases h
theorem FQ (hcf:mG call):∀ (k:Nat) (c:Code) (s s':St) (x:X),exec C call k f c s=some (x,s')→tY s s':=by
 intro k;induction k with
 |zero=>intro c s s' x h;simp[exec]at h| succ k ih =>
  intro c s s' x h;cases c with
  |skip=>simp only[exec,oI,pI]at h;obtain⟨rfl,rfl⟩:=h;exact .refl s
  |label l=>simp only[exec,oI,pI]at h;obtain⟨rfl,rfl⟩:=h;exact .refl s
  |exit l=>simp only[exec,oI,pI]at h;obtain⟨rfl,rfl⟩:=h;exact .refl s
  |ret=>simp only[exec,oI,pI]at h;obtain⟨rfl,rfl⟩:=h;exact .refl s
  |goto l=>simp[exec]at h|refuse why=>simp[exec]at h|scope c1=>simp only[exec]at h;exact ih _ _ _ _ h| region id ops dr =>
   simp only[exec]at h;split at h
   ·rename_i s1 fps ho;have:=sS hcf _ _ _ _ _ ho;rw[Bool.cond_eq_ite]at h;split at h
    ·simp only[oI,pI]at h;obtain⟨rfl,rfl⟩:=h;exact⟨this.len,this.bits,this.same⟩
    ·cases h
   ·rename_i x1 s1 fps _ ho;rw[Bool.cond_eq_ite]at h;split at h
    ·simp only[oI,pI]at h;obtain⟨rfl,rfl⟩:=h;exact sS hcf _ _ _ _ _ ho
    ·cases h
   ·cases h
  |seq c1 c2=>
   simp only[exec]at h;split at h
   ·rename_i s1 h1;exact(ih _ _ _ _ h1).trans (ih _ _ _ _ h)
   ·exact ih _ _ _ _ h
  | cond t c1 c2 =>
   simp only[exec]at h;split at h
   ·rename_i bt ht;cases bt with
    |true=>exact ih _ _ _ _ (by simpa using h)|false=>exact ih _ _ _ _ (by simpa using h)
   ·cases h
  | block id c1 =>
   simp only[exec]at h;split at h
   ·rename_i j s1 h1;have:=ih _ _ _ _ h1;rw[Bool.cond_eq_ite]at h;split at h<;>(simp only[oI,pI]at h;obtain⟨rfl,rfl⟩:=h;exact this)
   ·exact ih _ _ _ _ h
  |loop c1=>
   simp only[exec]at h;split at h
   ·rename_i s1 h1;exact(ih _ _ _ _ h1).trans (ih _ _ _ _ h)
   ·exact ih _ _ _ _ h
  | rangeFunc g ps as bd =>
   simp only[exec]at h;cases hin:inLoop s.rnd s.m.hp with
   |false=>simp[hin]at h| true =>
    simp only[hin,cond_true]at h;split at h
    ·split at h
     ·rename_i v rcd hp wl hcall;obtain⟨h1,h2⟩:=hcf _ _ _ _ _ _ _ _ hcall;have key:∀s'':St,s''.m.hp=hp.set s.m.hp.length .dead→s''.m.wl=s.m.wl ||| wl→tY s s'':=fun s'' e1 e2=>
       .of (by simp at h1 ⊢;omega) (fun i hi hb=>by rw[List.getElem?_set,if_neg (by omega),h2 i (by simp;omega) hb,List.getElem?_append_left hi]) e1 e2
      split at h
      ·simp only[oI,pI]at h;obtain⟨rfl,rfl⟩:=h;exact key _ rfl rfl
      ·simp only[oI,pI]at h;obtain⟨rfl,rfl⟩:=h;exact key _ rfl rfl
      ·simp only[oI,pI]at h;obtain⟨rfl,rfl⟩:=h;exact key _ rfl rfl
      ·cases h
     ·cases h
    ·cases h
theorem VD(hcf:mG call){fn:Func}{frz:Nat}:∀(ds:List DR) (pv:Option V) (s s':St) (r:CR),leave C call fn frz ds pv s=some (r,s')→tY s s':=by
 intro ds;induction ds with
 | nil =>
  intro pv s s' r h;cases pv with
  | none =>
   simp only[leave]at h;split at h
   ·split at h
    ·simp only[oI,pI]at h;obtain⟨rfl,rfl⟩:=h;exact EZ s _ rfl
    ·cases h
   ·cases h
  |some v=>simp only[leave,oI,pI]at h;obtain⟨rfl,rfl⟩:=h;exact .refl s
 | cons d ds ih =>
  intro pv s s' r h;simp only[leave]at h;split at h
  ·rename_i v rcd hp wl hcall;obtain⟨h1,h2⟩:=hcf _ _ _ _ _ _ _ _ hcall;exact(tY.of h1 h2 rfl rfl).trans (ih _ _ _ _ h)
  ·cases h
structure yX(C:aY):Prop where
 func:∀g h args hp r hp' wl,C.orc g=some h→h args hp=some (r,hp',wl)→aC C g args hp r hp'
 fr:∀g h args hp r hp' wl,C.orc g=some h→h args hp=some (r,hp',wl)→hp.length≤hp'.length∧∀i,i<hp.length→wl.testBit i=false→hp'[i]?=hp[i]?
theorem KN{a l i:Nat}(h:(a ||| (1 <<< l)).testBit i=false):a.testBit i=false∧l≠i:=by rw[Nat.testBit_or,kZ,Bool.or_eq_false_iff]at h;exact⟨h.1,by simpa using h.2⟩
theorem Jl (hO:yX C):∀ k,mG (bV C k):=by
 intro k;induction k with
 |zero=>intro fn args rc hp r b hp' wl h;simp[bV]at h| succ k ih =>
  intro fn args rc hp r b hp' wl h;simp only[bV]at h;split at h
  ·rename_i g first caps
   split at h
   ·rename_i hh ho;split at h
    ·rename_i r1 hp1 wl1 hr;simp only[oI,pI]at h;obtain⟨rfl,rfl,rfl,rfl⟩:=h;exact hO.fr _ _ _ _ _ _ _ ho hr
    ·cases h
   ·split at h
    ·rename_i fn' hfn;split at h
     ·rename_i c hc;split at h
      ·rename_i r1 s1 hs;simp only[oI,pI]at h;obtain⟨rfl,rfl,rfl,rfl⟩:=h;have done:∀{x s0} {ds} {pv},exec C (bV C k) k g c {tm:=lJ (first++args++caps) 0,m:={ob:=[],hp:=hp,wl:=0},df:=[],rc:=rc}=some (x,s0)→leave C (bV C k) fn' (C.frz g) ds pv s0=some (r1,s1)→
         hp.length≤s1.m.hp.length∧∀i,i<hp.length→s1.m.wl.testBit i=false→s1.m.hp[i]?=hp[i]?:=fun he hl=>by
        have:=(FQ ih _ _ _ _ _ he).trans (VD ih _ _ _ _ _ hl);exact⟨this.len,fun i hi hb=>this.same i hi hb⟩
       split at hs
       ·rename_i s0 he;exact done he hs
       ·rename_i s0 he;exact done he hs
       ·rename_i v s0 he;exact done he hs
       ·cases hs
      ·cases h
     ·cases h
    ·cases h
  ·rename_i l _ _;split at h
   ·rename_i f tm ob ps a bd hl;rw[Bool.cond_eq_ite]at h;split at h
    ·split at h
     ·rename_i s1 he1;split at h
      ·rename_i f1 tm1 ob1 ps1 a1 b1 hl1;split at h
       ·rename_i x2 s2 he2;split at h
        ·rename_i f2 tm2 ob2 ps2 a2 b2 hl2;have e1:=FQ ih _ _ _ _ _ he1;have e2:=FQ ih _ _ _ _ _ he2;have key:∀o:O,hp.length≤(s2.m.hp.set l o).length∧∀i,i<hp.length→(s2.m.wl ||| (1 <<< l)).testBit i=false→(s2.m.hp.set l o)[i]?=hp[i]?:=fun o=>by
          have l1:=e1.len;have l2:=e2.len;simp only[List.length_set]at l2 ⊢;refine⟨Nat.le_trans l1 l2,fun i hi hb=>?_⟩;obtain⟨hb1,hli⟩:=KN hb;have q2:=e2.same i (by simp only[List.length_set];exact Nat.lt_of_lt_of_le hi l1) hb1;simp only[List.getElem?_set,if_neg hli]at q2 ⊢;rw[q2];have hb0:s1.m.wl.testBit i=false:=by
           cases hbb:s1.m.wl.testBit i with
           |false=>rfl|true=>have:=e2.bits i (by rw[Nat.testBit_or,hbb];rfl);rw[this]at hb1;cases hb1
          exact e1.same i hi hb0
         split at h
         ·simp only[oI,pI]at h;obtain⟨rfl,rfl,rfl,rfl⟩:=h;exact key _
         ·simp only[oI,pI]at h;obtain⟨rfl,rfl,rfl,rfl⟩:=h;exact key _
         ·simp only[oI,pI]at h;obtain⟨rfl,rfl,rfl,rfl⟩:=h;exact key _
         ·cases h
        ·cases h
       ·cases h
      ·cases h
     ·cases h
    ·cases h
   ·cases h
  ·cases h
end
theorem ED(t:Nat):∀(vs:List V) (i:Nat),look t (lJ vs i)=if i≤t then vs[t-i]? else none
 |[],i=>by simp[lJ,look]| v :: r,i=>by
  simp only[lJ,look];by_cases h:i=t
  ·subst h;simp
  ·have hb:(i==t)=false:=by simpa using h
   simp only[hb,cond_false];rw[ED t r (i+1)];by_cases hl:i+1≤t
   ·rw[if_pos hl,if_pos (by omega)];have:t-i=(t-(i+1))+1:=by omega
    rw[this,List.getElem?_cons_succ]
   ·rw[if_neg hl,if_neg (by omega)]
section
variable{C:aY}{E:Env}
theorem qj.enter{vs:List V}{xs:Array Value}(h:dS E vs xs.toList)(n:Nat):qj E (lJ vs 0) (xs++Array.replicate n undef):=fun t v hv=>by
 rw[ED]at hv;simp only[Nat.zero_le,if_true,Nat.sub_zero]at hv;have hlt:=(List.getElem?_eq_some_iff.1 hv).1;have hsz:xs.size=vs.length:=by simpa using h.1
 refine⟨by simp;omega,?_⟩;have hx:xs[t]?=some xs[t]:=Array.getElem?_eq_getElem (by omega);have:(xs++Array.replicate n undef).getD t undef=xs[t]:=by simp[Array.getD,show t<xs.size by omega,Array.getElem_append];omega
 rw[this];exact h.2 t v _ hv (by rw[Array.getElem?_toList];exact hx)
theorem qj.insL:∀(ps:List Nat) (vs:List V) (xs:List Value) {tm:List (Nat×V)} {tmps:Array Value},qj E tm tmps→dS E vs xs→ps.length=vs.length→(∀p∈ps,p<tmps.size)→
  qj E (insL ps vs tm) ((ps.zip xs).foldl (fun t p=>t.setIfInBounds p.1 p.2) tmps)∧((ps.zip xs).foldl (fun t p=>t.setIfInBounds p.1 p.2) tmps).size=tmps.size
 |[],[],xs,tm,tmps,h,_,_,_=>⟨h,rfl⟩|p::ps,v::vs,[],tm,tmps,h,hr,_,_=>by have:=hr.1;simp at this
 |p::ps,v::vs,x::xs,tm,tmps,h,hr,hl,hp=>by have h1:=h.put (dst:=some p) (hr.2 0 v x rfl rfl) (fun d e=>by cases e;exact hp p (.head _));have:=qj.insL ps vs xs h1 ⟨by have:=hr.1;simpa using this,fun i u y hu hy=>hr.2 (i+1) u y (by simpa using hu) (by simpa using hy)⟩ (by simpa using hl) (fun q hq=>by simpa[DW]using hp q (.tail _ hq));refine⟨this.1,this.2.trans (by simp[DW])⟩
 |[],v::vs,xs,tm,tmps,_,_,hl,_=>by simp at hl|p::ps,[],xs,tm,tmps,_,_,hl,_=>by simp at hl
theorem Inv.le_bare{hp:List O}{w:World}(h:Inv C E ⟨[],hp,0⟩ w):E.Le E.bare:=⟨fun _ _ _ h=>h,fun l n p hk=>by
 cases l with
 |slot t g=>rw[noSlot h t g n]at hk;cases hk|heap i=>exact hk⟩
theorem Moved.le{E':Env}{hp hp':List O}{w w':World}(hM:Moved E ⟨[],hp,0⟩ w E' ⟨[],hp',0⟩ w')(h:Inv C E ⟨[],hp,0⟩ w):E.Le E':=⟨hM.G,fun l n p hk=>by
 cases l with
 |slot t g=>rw[noSlot h t g n]at hk;cases hk|heap i=>exact hM.kh i n p hk⟩
theorem gV(hOk:C.Ok){g:FuncId}{fn:Func}{c:Code}(hfn:C.P.funcs[g]?=some fn)(hc:fn.body=some c)(xs:Array Value)(w:World):(callFunc g xs).run C.P w=.ok (.enter g xs) w:=by have hn:=(hOk.code g fn c hfn hc).2;simp only[callFunc,Sem.run_bind,show program.run C.P w=.ok C.P w from rfl,Result.andThen_ok,hfn,hn,Bool.false_eq_true,if_false,hc,Option.isNone_some,Sem.run_pure]
variable{call:bK}
theorem JO(hOk:C.Ok)(hC:mY C call){g:FuncId}{fn:Func}{c:Code}(hfn:C.P.funcs[g]?=some fn)(hc:fn.body=some c){k:Nat}{vs:List V}{rc:Option (Option V)}{hp:List O}{x:X}{s0 s1:St}{r:CR}{pv:Option V}{frz:Nat}
  (he:exec C call k g c {tm:=lJ vs 0,m:={ob:=[],hp:=hp,wl:=0},df:=[],rc:=rc}=some (x,s0))(hl:leave C call fn frz s0.df pv s0=some (r,s1))(hx:x=.normal∧pv=none∨x=.ret∧pv=none∨∃v,x=.pan v∧pv=some v)
  {w:World}{xs:Array Value}(hI:Inv C E ⟨[],hp,0⟩ w)(hv:dS E vs xs.toList){kind:CallKind}{cs:List Frame}(hF:Dv E { (default:Frame)with fn:=g,kind:=kind,roundOf:=none} cs {tm:=lJ vs 0,m:={ob:=[],hp:=hp,wl:=0},df:=[],rc:=rc}) :
  ∃E' w' fr e cs',Inv C E' ⟨[],s1.m.hp,0⟩ w'∧Moved E ⟨[],hp,0⟩ w E' ⟨[],s1.m.hp,0⟩ w'∧nO E' r e∧Steps C.P (lone (Frame.enter C.P g xs kind) cs w) (lone fr cs' w')∧fr.fn=g∧fr.kind=kind∧fr.going C.P w' e∧
   oQ {tm:=lJ vs 0,m:={ob:=[],hp:=hp,wl:=0},df:=[],rc:=rc} s0 cs cs':=by
 have hent:Frame.enter C.P g xs kind=({ (default:Frame)with fn:=g,kind:=kind,roundOf:=none}:Frame).atR {tmps:=xs++Array.replicate (fn.ntmps-xs.size) undef,defers:=[] } [.code c]:=by simp[Frame.enter,Frame.atR,hfn,hc]
 have hS:kK C fn.ntmps w.heap.size E {tm:=lJ vs 0,m:={ob:=[],hp:=hp,wl:=0},df:=[],rc:=rc} {tmps:=xs++Array.replicate (fn.ntmps-xs.size) undef,defers:=[] } w:=⟨hI,.enter hv _,by simp;omega,.nil⟩
 have hr:=(BQ (n0:=w.heap.size) hOk hC hfn k c _ s0 x he (hOk.code g fn c hfn hc).1).1 E _ w _ cs [] rfl (Nat.le_refl _) hS hF;rw[show[Item.code c]++[]=[Item.code c]from rfl,←hent]at hr;obtain⟨E1,a1,w1,cs1,hS1,hst,hrc,hF1,hrn,hz⟩:=hr;have hro:s0.rnd=none:=hrn;have go:∀(u:FrameMode) (K1:List Item),Steps C.P (lone (Frame.enter C.P g xs kind) cs w) (lone { ({ (default:Frame)with fn:=g,kind:=kind,roundOf:=none}:Frame).atR a1 K1 with mode:=u} cs1 w1)→kR E1.bare pv u→
   ∃E' w' fr e cs',Inv C E' ⟨[],s1.m.hp,0⟩ w'∧Moved E ⟨[],hp,0⟩ w E' ⟨[],s1.m.hp,0⟩ w'∧nO E' r e∧Steps C.P (lone (Frame.enter C.P g xs kind) cs w) (lone fr cs' w')∧fr.fn=g∧fr.kind=kind∧fr.going C.P w' e∧
    oQ {tm:=lJ vs 0,m:={ob:=[],hp:=hp,wl:=0},df:=[],rc:=rc} s0 cs cs':=fun u K1 hs hm=>by
  obtain⟨E',w',fr',e,h1,h2,h3,h4,h5,h6,h7⟩:=TS (cs:=cs1) hC (fn:=fn) (frz:=frz) a1.defers s0.df pv s0 s1 r E1 w1 { ({ (default:Frame)with fn:=g,kind:=kind,roundOf:=none}:Frame).atR a1 K1 with mode:=u} hl hS1.inv hS1.tm hS1.df hm rfl hfn hst.mov;exact⟨E',w',fr',e,cs1,h1,h2,h3,hs.trans h4,h5,h6,h7,hrc⟩
 rcases hx with ⟨rfl,rfl⟩|⟨rfl,rfl⟩|⟨v,rfl,rfl⟩
 ·exact go .returning [] (Steps.trans hz (.one (stepR_end rfl))) rfl
 ·obtain⟨K1,hs⟩:=hz;exact go .returning (.code .ret::K1) (hs.trans (.one (stepR_ret rfl))) rfl
 ·obtain⟨K1,y,hy,hs⟩:=hz;exact go _ K1 hs ⟨y,rfl,hy⟩
theorem Dw{fr:Frame}{w:World}{e:Ending}{P:Program}(h:fr.going P w e)(hk:fr.kind=.normal):fr.leaving P w e:=by
 cases e with
 |returned v=>obtain⟨h1,h2,h3⟩:=h;exact⟨h1,h2,hk,h3⟩
 |panicked ch=>exact h|outgrown=>trivial
theorem yj(hOk:C.Ok)(hC:mY C call){k l:Nat}{args:List V}{hp:List O}{f:FuncId}{tm:List (Nat×V)}{ob:List (Nat×Nat×O)}{ps:List Tmp}{a bd:Code}(hl:hp[l]?=some (.loop .ready none f tm ob ps a bd))(hps:args.length=ps.length){s1 s2:St}{x:X}
  (he1:exec C call k f a {tm:=insL ps args tm,m:={ob:=ob,hp:=hp,wl:=0},df:=[],rnd:=some l}=some (.normal,s1)){f1:FuncId}{tm1:List (Nat×V)}{ob1:List (Nat×Nat×O)}{ps1:List Tmp}{a1 b1:Code}(hl1:s1.m.hp[l]?=some (.loop .ready none f1 tm1 ob1 ps1 a1 b1))
  (he2:exec C call k f bd {s1 with m:={s1.m with hp:=s1.m.hp.set l (.loop .busy none f1 tm1 ob1 ps1 a1 b1),wl:=s1.m.wl ||| (1 <<< l)} }=some (x,s2)){f2:FuncId}{tm2:List (Nat×V)}{ob2:List (Nat×Nat×O)}{ps2:List Tmp}{a2 b2:Code}(hl2:s2.m.hp[l]?=some (.loop .busy none f2 tm2 ob2 ps2 a2 b2))
  {jump:Option Code}(hx:x=.normal∧jump=none∨x=.ret∧jump=some .ret∨∃id,x=.exit id∧jump=some (.exit id)){st:LoopState}(hst:st=if jump.isNone then .ready else .done) :
  QL C l args hp (.ret (.d (.bool jump.isNone))) (s2.m.hp.set l (.loop st jump f2 tm2 ob2 ps2 a2 b2)):=by
 intro E w xs blk c hI hk hv;obtain⟨b',c',r,h1,h2,h3,h4,h5,h6,h7,h8,h9,h10,h11,h12,fn,hfn,hca,hcb,hpl,hsz⟩:=hI.heap l _ hl;rw[hk]at h1;cases h1;have hxs:xs.size=args.length:=by simpa using hv.1
 have hrp:r.params.size=ps.length:=by rw[h7];simp
 refine⟨f,(r.params.zip xs).foldl (fun tmps (t,a)=>tmps.setIfInBounds t a) r.tmps,a,bd,?_,fun cF cs=>?_⟩
 ·simp only[Instr.yield,Instr.getLoop,Sem.run_bind,dD h2 (by simp),Result.andThen_ok,Sem.run_pure];rw[if_neg (by omega)];simp[h6,h8,h9]
 have hfold:(r.params.zip xs).foldl (fun tmps (t,a)=>tmps.setIfInBounds t a) r.tmps=(ps.zip xs.toList).foldl (fun t p=>t.setIfInBounds p.1 p.2) r.tmps:=by rw[h7,←Array.foldl_toList];congr 1;simp[Array.toList_zip]
 rw[hfold];have hIr:=hI.round hl 0
 have leR:E.bare.Le (E.round l):=⟨fun _ _ _ h=>h,fun l' n p hk'=>by
  cases l' with
  |slot t g=>cases hk'|heap i=>exact hk'⟩
 have hvr:dS (E.round l) args xs.toList:=(hv.mono hI.le_bare).mono leR;obtain⟨ht,htsz⟩:=qj.insL ps args xs.toList h10 hvr (by omega) (fun p hp=>Nat.lt_of_lt_of_le (hpl p hp) hsz);have hS:kK C fn.ntmps w.heap.size (E.round l) {tm:=insL ps args tm,m:={ob:=ob,hp:=hp,wl:=0},df:=[],rnd:=some l} {tmps:=(ps.zip xs.toList).foldl (fun t p=>t.setIfInBounds p.1 p.2) r.tmps,defers:=[] } w:=⟨hIr,ht,by rw[htsz];exact hsz,.nil⟩
 let b:Frame:={ (default:Frame)with fn:=f,kind:=.normal,roundOf:=some blk}
 have hb0:Frame.round blk f ((ps.zip xs.toList).foldl (fun t p=>t.setIfInBounds p.1 p.2) r.tmps) a bd .normal=b.atR {tmps:=(ps.zip xs.toList).foldl (fun t p=>t.setIfInBounds p.1 p.2) r.tmps,defers:=[] } [.code a,.beginRound,.code bd]:=by simp[Frame.round,Frame.atR,b]
 have hF:Dv (E.round l) b (cF::cs) {tm:=insL ps args tm,m:={ob:=ob,hp:=hp,wl:=0},df:=[],rnd:=some l}:=⟨fun q hq=>(by cases hq),fun _=>rfl,⟨blk,c,hk,rfl⟩⟩
 have hr1:=(BQ (n0:=w.heap.size) hOk hC hfn k a _ s1 _ he1 hca).1 (E.round l) _ w b (cF::cs) [.beginRound,.code bd] rfl (Nat.le_refl _) hS hF;rw[show[Item.code a]++[.beginRound,.code bd]=[.code a,.beginRound,.code bd]from rfl,←hb0]at hr1;obtain⟨E1,ac1,w1,cs1,hS1,hst1,hrc1,hF1,hrn1,hz1⟩:=hr1;have hcs1:cs1=cF::cs:=by
  cases hrc1 with
  |same a b c=>exact c|rcv v a=>cases a
 subst hcs1;have hk1:E1.k (.heap l) 0=some (blk,c):=hst1.le.k _ _ _ hk;obtain⟨bb,cc,r1,g1,g2,g3,g4,g5,_⟩:=hS1.inv.heap l _ hl1;rw[hk1]at g1;cases g1;have hbeg:(Instr.beginRound blk).run C.P w1=.ok () {w1 with heap:=w1.heap.setIfInBounds blk (.loop {r1 with state:=.busy,pending:=none})}:=by
  have e:({r1 with state:=.busy}:Loop)={r1 with state:=.busy,pending:=none}:=by rw[←g5]
  simp[Instr.beginRound,Instr.getLoop,dD g2,gQ _ g2,g4,e]
 have hset:=hS1.inv.setLoop (st':=.busy) (p':=none) hl1 hk1 g2;have hS1':kK C fn.ntmps w.heap.size E1 {s1 with m:=s1.m.set (.heap l) (.loop .busy none f1 tm1 ob1 ps1 a1 b1)} ac1 {w1 with heap:=w1.heap.setIfInBounds blk (.loop {r1 with state:=.busy,pending:=none})}:=hS1.mono hset rfl rfl rfl;have hF1':Dv E1 b (cF::cs) {s1 with m:=s1.m.set (.heap l) (.loop .busy none f1 tm1 ob1 ps1 a1 b1)}:=hF1.mono (.refl _) rfl rfl;have hstep1:=stepR_beginRound (P:=C.P) (b:=b) (a:=ac1) (k:=[.code bd]) (cs:=cF::cs) rfl hbeg;have hn0:w.heap.size≤({w1 with heap:=w1.heap.setIfInBounds blk (.loop {r1 with state:=.busy,pending:=none})}:World).heap.size:=by have:=hst1.mov.size;simpa using this
 have hr2:=(BQ (n0:=w.heap.size) hOk hC hfn k bd _ s2 _ he2 hcb).1 E1 _ _ b (cF::cs) [] rfl hn0 hS1' hF1';obtain⟨E2,ac2,w2,cs2,hS2,hst2,hrc2,hF2,hrn2,hz2⟩:=hr2;have hrc0:s1.rc=none:=by
  cases hrc1 with
  |same a b c=>exact a|rcv v a=>cases a
 have hcs2:cs2=cF::cs:=by
  cases hrc2 with
  |same a b c=>exact c|rcv v a=>rw[show s1.rc=some (some v)from a]at hrc0;cases hrc0
 subst hcs2;have hk2:E2.k (.heap l) 0=some (blk,c):=hst2.le.k _ _ _ hk1;obtain⟨bb2,cc2,r2,q1,q2,q3,q4,q5,_⟩:=hS2.inv.heap l _ hl2;rw[hk2]at q1;cases q1;have hend:(Instr.endRound blk jump).run C.P w2=.ok (.bool jump.isNone) {w2 with heap:=w2.heap.setIfInBounds blk (.loop {r2 with state:=st,pending:=jump})}:=by subst hst;simp[Instr.endRound,Instr.getLoop,dD q2,gQ _ q2]
 have hset2:=hS2.inv.setLoop (st':=st) (p':=jump) hl2 hk2 q2;have hmov:=((hst1.mov.trans hset.mov).trans hst2.mov).trans hset2.mov;have hM:=Moved.round (n:=0) hI hl hmov;refine⟨E2.bare,{w2 with heap:=w2.heap.setIfInBounds blk (.loop {r2 with state:=st,pending:=jump})},_,.bool jump.isNone,rfl,hset2.inv.out 0,hM,.d _ _ (.bool _),?_⟩;have hto:Steps C.P (lone (Frame.round blk f ((ps.zip xs.toList).foldl (fun t p=>t.setIfInBounds p.1 p.2) r.tmps) a bd .normal) (cF::cs) w) (lone (b.atR ac1 [.code bd]) (cF::cs) {w1 with heap:=w1.heap.setIfInBounds blk (.loop {r1 with state:=.busy,pending:=none})}):=Steps.trans hz1 (.one hstep1);rcases hx with ⟨rfl,rfl⟩|⟨rfl,rfl⟩|⟨id,rfl,rfl⟩
 ·exact(hto.trans hz2).trans (.one (stepR_round_end rfl rfl hend))
 ·obtain⟨K1,hs⟩:=hz2;exact(hto.trans hs).trans (.one (stepR_round_ret rfl rfl hend))
 ·obtain⟨K1,hn,hs⟩:=hz2.2 rfl;exact(hto.trans hs).trans (.one (stepR_round_exit rfl rfl hn hend))
theorem CB (hOk:C.Ok) (hO:yX C):∀ k,mY C (bV C k):=by
 intro k;induction k with
 |zero=>exact⟨fun _ _ _ _ _ _ _ _ _ h=>by simp[bV]at h,fun _ _ _ _ _ _ _ _ h=>by simp[bV]at h,fun _ _ _ _ _ _ _ _ _ h=>by simp[bV]at h,fun _ _ _ _ _ h=>by simp[bV]at h,Jl hO 0⟩| succ k ih =>
  refine⟨?_,?_,?_,?_,Jl hO (k+1)⟩
  ·intro g first caps args hp r rcd hp' wl h
   simp only[bV]at h;split at h
   ·rename_i hh ho;split at h
    ·rename_i r1 hp1 wl1 hr;simp only[oI,pI]at h;obtain⟨rfl,rfl,rfl,rfl⟩:=h;exact hO.func _ _ _ _ _ _ _ ho hr
    ·cases h
   ·split at h
    ·rename_i fn hfn;split at h
     ·rename_i c hc;split at h
      ·rename_i r1 s1 hs;simp only[oI,pI]at h;obtain⟨rfl,rfl,rfl,rfl⟩:=h;intro E w xs hI hv;refine⟨fun w'=>gV hOk hfn hc xs w',fun cs=>?_⟩;have hF:Dv E { (default:Frame)with fn:=g,kind:=.normal,roundOf:=none} cs {tm:=lJ (first++args++caps) 0,m:={ob:=[],hp:=hp,wl:=0},df:=[],rc:=none}:=⟨fun q hq=>(by cases hq),fun _=>rfl,rfl⟩
       have fin:∀{x s0 pv},exec C (bV C k) k g c {tm:=lJ (first++args++caps) 0,m:={ob:=[],hp:=hp,wl:=0},df:=[],rc:=none}=some (x,s0)→leave C (bV C k) fn (C.frz g) s0.df pv s0=some (r1,s1)→(x=.normal∧pv=none∨x=.ret∧pv=none∨∃v,x=.pan v∧pv=some v)→
         ∃E' w' fr e,Inv C E' ⟨[],s1.m.hp,0⟩ w'∧Moved E ⟨[],hp,0⟩ w E' ⟨[],s1.m.hp,0⟩ w'∧nO E' r1 e∧Steps C.P (lone (Frame.enter C.P g xs .normal) cs w) (lone fr cs w')∧fr.fn=g∧fr.leaving C.P w' e:=fun he hl hx=>by
        obtain⟨E',w',fr,e,cs',h1,h2,h3,h4,h5,h6,h7,h8⟩:=JO hOk ih hfn hc he hl hx hI hv hF;have hcs:cs'=cs:=by
         cases h8 with
         |same a b c=>exact c|rcv v a=>cases a
        subst hcs;exact⟨E',w',fr,e,h1,h2,h3,h4,h5,Dw h7 h6⟩
       split at hs
       ·rename_i s0 he;exact fin he hs (.inl ⟨rfl,rfl⟩)
       ·rename_i s0 he;exact fin he hs (.inr (.inl ⟨rfl,rfl⟩))
       ·rename_i v s0 he;exact fin he hs (.inr (.inr ⟨v,rfl,rfl⟩))
       ·cases hs
      ·cases h
     ·cases h
    ·cases h
  ·intro g args pv hp r rcd hp' wl h;simp only[bV]at h;split at h
   ·cases h
   ·split at h
    ·rename_i fn hfn;split at h
     ·rename_i c hc;split at h
      ·rename_i r1 s1 hs;simp only[oI,pI]at h;obtain⟨hr1,rfl,rfl,rfl⟩:=h;subst hr1;intro E w xs hI hv;refine⟨fun w'=>gV hOk hfn hc xs w',fun cF cs hm=>?_⟩;have hF:Dv E { (default:Frame)with fn:=g,kind:=.deferred,roundOf:=none} (cF::cs) {tm:=lJ ([]++args++[]) 0,m:={ob:=[],hp:=hp,wl:=0},df:=[],rc:=some pv}:=by
        refine⟨fun q hq=>?_,fun hq=>(by cases hq),rfl⟩;cases hq;refine⟨rfl,rfl,cF,cs,rfl,?_⟩;cases pv with
        |none=>simp[recoverD,show cF.mode=.returning from hm]|some v=>obtain⟨y,hy,hr⟩:=hm;exact⟨y,hy,hr.mono hI.le_bare⟩
       have fin:∀{x s0 pv'},exec C (bV C k) k g c {tm:=lJ ([]++args++[]) 0,m:={ob:=[],hp:=hp,wl:=0},df:=[],rc:=some pv}=some (x,s0)→leave C (bV C k) fn (C.frz g) s0.df pv' s0=some (.ret r,s1)→(x=.normal∧pv'=none∨x=.ret∧pv'=none∨∃v,x=.pan v∧pv'=some v)→
         ∃E' w' fr y u',Inv C E' ⟨[],s1.m.hp,0⟩ w'∧Moved E ⟨[],hp,0⟩ w E' ⟨[],s1.m.hp,0⟩ w'∧Steps C.P (lone (Frame.enter C.P g xs .deferred) (cF::cs) w) (lone fr ({cF with mode:=u'}::cs) w')∧fr.kind=.deferred∧fr.going C.P w' (.returned y)∧kR E' (bif s1.rcd then none else pv) (settle u'):=fun he hl hx=>by
        obtain⟨E',w',fr,e,cs',h1,h2,h3,h4,h5,h6,h7,h8⟩:=JO hOk ih hfn hc he hl hx hI (by simpa using hv) hF;have hrcd:=Us _ _ _ _ _ hl;have hle:=h2.le hI;cases h3 with
        |ret hv'=>
        rename_i y;cases h8 with
        |same a b c=>
         subst c;have hb:s1.rcd=false:=hrcd.trans b;refine⟨E',w',fr,y,cF.mode,h1,h2,h4,h6,h7,?_⟩;rw[hb];simp only[cond_false];cases pv with
         |none=>rw[show cF.mode=.returning from hm];rfl|some v=>obtain⟨z,hz,hr⟩:=hm;rw[hz];exact⟨z,rfl,hr.mono hle⟩
        |rcv v a b c d=>
         cases a;obtain⟨z,hz,hr⟩:=hm;have hrec:TF (cF::cs)={cF with mode:=.panicking [{v:=z,recovered:=true}] }::cs:=by simp[TF,recoverD,hz]
         rw[hrec]at d;subst d;have hb:s1.rcd=true:=hrcd.trans c;refine⟨E',w',fr,y,.panicking [{v:=z,recovered:=true}],h1,h2,h4,h6,h7,?_⟩;rw[hb];show settle _=.returning;simp[settle]
       split at hs
       ·rename_i s0 he;exact fin he hs (.inl ⟨rfl,rfl⟩)
       ·rename_i s0 he;exact fin he hs (.inr (.inl ⟨rfl,rfl⟩))
       ·rename_i v s0 he;exact fin he hs (.inr (.inr ⟨v,rfl,rfl⟩))
       ·cases hs
      ·cases h
     ·cases h
    ·cases h
  ·intro l a0 b0 args hp r rcd hp' wl h;simp only[bV]at h;split at h
   ·rename_i f tm ob ps a bd hl;rw[Bool.cond_eq_ite]at h;split at h
    ·rename_i hps;have hps':args.length=ps.length:=by simpa using hps
     split at h
     ·rename_i s1 he1;split at h
      ·rename_i f1 tm1 ob1 ps1 a1 b1 hl1;split at h
       ·rename_i x2 s2 he2;split at h
        ·rename_i f2 tm2 ob2 ps2 a2 b2 hl2;split at h
         ·simp only[oI,pI]at h;obtain⟨rfl,rfl,rfl,rfl⟩:=h;exact yj (jump:=none) hOk ih hl hps' he1 hl1 he2 hl2 (.inl ⟨rfl,rfl⟩) rfl
         ·simp only[oI,pI]at h;obtain⟨rfl,rfl,rfl,rfl⟩:=h;exact yj (jump:=some .ret) hOk ih hl hps' he1 hl1 he2 hl2 (.inr (.inl ⟨rfl,rfl⟩)) rfl
         ·rename_i id;simp only[oI,pI]at h;obtain⟨rfl,rfl,rfl,rfl⟩:=h;exact yj (jump:=some (.exit id)) hOk ih hl hps' he1 hl1 he2 hl2 (.inr (.inr ⟨id,rfl,rfl⟩)) rfl
         ·cases h
        ·cases h
       ·cases h
      ·cases h
     ·cases h
    ·cases h
   ·cases h
  ·intro fn args rc hp r h;simp only[bV]at h;split at h
   ·exact⟨_,_,_,rfl,.inl ⟨_,rfl⟩⟩
   ·exact⟨_,_,_,rfl,.inr ⟨_,rfl⟩⟩
   ·cases h
end
end Mw
