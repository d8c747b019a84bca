/- DependFirst's tied card holds; no condition beyond the card's own. -/
import Derived.Test.YtdjnccgeajpegaaGreatDoorMwM
set_option linter.unusedVariables false
set_option linter.unusedSimpArgs false
namespace Mw
open Go
section
variable{C:aY}{E:Env}{m m':Mem}{w:World}
theorem Own.congr(hg:∀l,m'.get l=m.get l){r:Nat}(h:Own E m' r):Own E m r:=let⟨l,o,h1,h2⟩:=h;⟨l,o,hg l▸h1,h2⟩
theorem Inv.congr(hI:Inv C E m w)(hg:∀l,m'.get l=m.get l)(hh:m'.hp.length=m.hp.length)(hn:∀t,dY t m'.ob=dY t m.ob):Inv C E m' w where
 prot:=hI.prot
 slots:=fun t g o h=>hI.slots t g o (hg _▸h)
 heap:=fun i o h=>hI.heap i o (hg _▸h)
 dist:=fun l o l' o' b h1 h2 k1 k2=>hI.dist l o l' o' b (hg _▸h1) (hg _▸h2) k1 k2
 held:=fun b ⟨l,o,h,k⟩ h'=>hI.held b ⟨l,o,hg _▸h,k⟩ (h'.congr hg)
 freshH:=fun i n h=>hI.freshH i n (hh▸h)
 freshS:=fun t g n h=>hI.freshS t g n (hn t▸h)
 top:=fun l sz es fr gr h n hn'=>hI.top l sz es fr gr (hg _▸h) n hn'
 glob:=hI.glob
theorem Moved.congr{E':Env}{m1 m2:Mem}{w':World}(h:Moved E m w E' m1 w')(hg:∀l,m2.get l=m1.get l)(hh:m2.hp.length=m1.hp.length):Moved E m w E' m2 w' where
 G:=h.G
 kh:=h.kh
 kl:=h.kl
 size:=h.size
 len:=by rw[hh];exact h.len
 kept:=h.kept
 owns:=fun r hr=>h.owns r (hr.congr hg)
 holds:=fun r l o h1 h2=>h.holds r l o (hg _▸h1) h2
 newG:=h.newG
 wos:=h.wos
theorem Step.congr{E':Env}{m1 m2:Mem}{w':World}(h:Step C E m w E' m1 w')(hg:∀l,m2.get l=m1.get l)(hh:m2.hp.length=m1.hp.length)(hn:∀t,dY t m2.ob=dY t m1.ob):Step C E m w E' m2 w':=
 ⟨h.inv.congr hg hh hn,h.mov.congr hg hh,h.le⟩
end
theorem nZ{α:Type}(mask t:Nat):∀(tm:List (Nat×α)) (v:α),look t (cO mask tm)=some v→look t tm=some v
 |[],_,h=>by simp[cO,look]at h| (u,x) :: r,v,h=>by
  simp only[cO]at h;simp only[look];cases hb:mask.testBit u with
  |true=>
   simp only[hb,cond_true,look]at h;cases hu:(u==t)with
   |true=>simpa[hu]using h|false=>simp only[hu,cond_false]at h ⊢;exact nZ mask t r v h
  | false =>
   simp only[hb,cond_false]at h;have h':=nZ mask t r v h;cases hu:(u==t)with
   |false=>exact h'|true=>
    exfalso;have:u=t:=by simpa using hu
    subst this;exact absurd h (keepMask_none mask u r hb v)
 where
 keepMask_none (mask u:Nat):∀(r:List (Nat×α)),mask.testBit u=false→∀v,look u (cO mask r)≠some v
  |[],_,v,h=>by simp[cO,look]at h| (s,x) :: r,hb,v,h=>by
   simp only[cO]at h;cases hs:mask.testBit s with
   |false=>simp only[hs,cond_false]at h;exact keepMask_none mask u r hb v h| true =>
    simp only[hs,cond_true,look]at h;cases hu:(s==u)with
    |true=>
     have:s=u:=by simpa using hu
     subst this;rw[hb]at hs;cases hs
    |false=>simp only[hu,cond_false]at h;exact keepMask_none mask u r hb v h
section
variable{C:aY}{N n0:Nat}{b:Frame}{f:Nat}{call:bK}
theorem vT.bind{E:Env}{s s1 s':St}{w:World}{cs:List Frame}{m0:Machine}{K1 K:List Item}{x:X}(h:vT C N n0 E s w b cs m0 K1 .normal s1)
  (h':∀E1 a1 w1 cs1,kK C N n0 E1 s1 a1 w1→Dv E1 b cs1 s1→w.heap.size≤w1.heap.size→vT C N n0 E1 s1 w1 b cs1 (lone (b.atR a1 K1) cs1 w1) K x s'):vT C N n0 E s w b cs m0 K x s':=by
 obtain⟨E1,a1,w1,cs1,r1,s1',c1,f1,n1,z1⟩:=h;obtain⟨E2,a2,w2,cs2,r2,s2',c2,f2,n2,z2⟩:=h' E1 a1 w1 cs1 r1 f1 s1'.mov.size;exact⟨E2,a2,w2,cs2,r2,s1'.trans s2',c1.trans c2,f2,n2.trans n1,z2.of_steps z1⟩
theorem vT.of_steps{E:Env}{s s':St}{w:World}{cs:List Frame}{m0 m1:Machine}{K:List Item}{x:X}(h:Steps C.P m0 m1)(h':vT C N n0 E s w b cs m1 K x s'):vT C N n0 E s w b cs m0 K x s':=by obtain⟨E1,a1,w1,cs1,r1,s1',c1,f1,n1,z1⟩:=h';exact⟨E1,a1,w1,cs1,r1,s1',c1,f1,n1,z1.of_steps h⟩
theorem vT.map{E:Env}{s s':St}{w:World}{cs:List Frame}{m0:Machine}{K K':List Item}{x x':X}(h:vT C N n0 E s w b cs m0 K x s')(hz:∀E' a' w' cs',Y3 C.P m0 b K cs' E' x a' w'→Y3 C.P m0 b K' cs' E' x' a' w') :
  vT C N n0 E s w b cs m0 K' x' s':=by
 obtain⟨E1,a1,w1,cs1,r1,s1',c1,f1,n1,z1⟩:=h;exact⟨E1,a1,w1,cs1,r1,s1',c1,f1,n1,hz _ _ _ _ z1⟩
theorem vT.here{E:Env}{s:St}{a:Act}{w:World}{cs:List Frame}{m0:Machine}{K:List Item}{x:X}(hS:kK C N n0 E s a w)(hF:Dv E b cs s)(hz:Y3 C.P m0 b K cs E x a w):vT C N n0 E s w b cs m0 K x s:=
 ⟨E,a,w,cs,hS,.refl hS.inv,.refl s cs,hF,rfl,hz⟩
theorem vT.eqv{E:Env}{s s1 s':St}{w:World}{cs:List Frame}{m0:Machine}{K:List Item}{x:X}(h:vT C N n0 E s w b cs m0 K x s1)(he:s'.Eqv s1):vT C N n0 E s w b cs m0 K x s':=by
 obtain⟨E1,a1,w1,cs1,r1,s1',c1,f1,n1,z1⟩:=h;have hg:∀l,s'.m.get l=s1.m.get l:=he.get;have hh:s'.m.hp.length=s1.m.hp.length:=by rw[he.hp]
 have hn:∀t,dY t s'.m.ob=dY t s1.m.ob:=fun t=>by unfold dY;rw[he.ob]
 refine⟨E1,a1,w1,cs1,⟨r1.inv.congr hg hh hn,fun t v hv=>r1.tm t v (he.tm t▸hv),r1.size,?_⟩,s1'.congr hg hh hn,?_,?_,he.rnd.trans n1,z1⟩
 ·rw[he.df];exact r1.df.mono (.refl _) fun r ⟨h1,h2,h3⟩=>⟨h1,h2,fun ho=>h3 (ho.congr hg)⟩
 ·cases c1 with
  |same a b c=>exact .same (he.rc.trans a) (he.rcd.trans b) c|rcv v a b c d=>exact .rcv v a (he.rc.trans b) (he.rcd.trans c) d
 ·exact f1.mono (.refl _) he.rc he.rnd
theorem CW(hC:mY C call){ops:Array Oper}(hd:∀o∈ops.toList,∀d,o.dst=some d→d<N){K:List Item}:∀(r:List Oper) (i:Nat) (E:Env) (s s':St) (a:Act) (w:World) (cs:List Frame) (x:X) (fps:List FP),ops.toList.drop i=r→
  kK C N n0 E s a w→Dv E b cs s→bg C call f ops.toList r s=some (x,s',fps)→vT C N n0 E s w b cs (lone (b.atR a (.inRegion ops (List.range' i r.length)::K)) cs w) K x s':=by
 intro r;induction r with
 |nil=>intro i E s s' a w cs x fps _ hS hF h;simp only[bg,oI,pI]at h;obtain⟨rfl,rfl,rfl⟩:=h;exact .here hS hF (.one stepR_region_end)
 | cons o r ih =>
  intro i E s s' a w cs x fps hdr hS hF h;have hio:ops[i]?=some o:=by rw[←Array.getElem?_toList];have:=congrArg (fun l=>l[0]?) hdr;simpa using this
  have hmem:o∈ops.toList:=List.mem_of_getElem? (by rw[Array.getElem?_toList];exact hio);have hdr':ops.toList.drop (i+1)=r:=by have:=congrArg List.tail hdr;simpa using this
  simp only[List.length_cons,List.range'_succ];simp only[bg]at h;split at h
  ·rename_i hw;have hwm:=qf hS hw;split at h
   ·rename_i s1 fp hop;split at h
    ·rename_i x' s2 fps' hr;simp only[oI,pI]at h;obtain⟨rfl,rfl,rfl⟩:=h;exact(NJ hC hS hF hio hwm (hd o hmem) hop).bind fun E1 a1 w1 cs1 hS1 hF1 _=>ih (i+1) E1 s1 _ a1 w1 cs1 _ _ hdr' hS1 hF1 hr
    ·cases h
   ·rename_i x' s1 fp hne hop;simp only[oI,pI]at h;obtain⟨rfl,rfl,rfl⟩:=h;refine(NJ (rest:=List.range' (i+1) r.length) (k:=K) hC hS hF hio hwm (hd o hmem) hop).map fun E' a' w' cs' hz=>?_;cases x' with
    |normal=>exact(hne rfl).elim|pan v=>exact hz|exit id=>exact absurd hop (opRun_x id).1|ret=>exact absurd hop (opRun_x 0).2
   ·cases h
  ·rename_i hw;have hwm:=qf hS hw;split at h
   ·rename_i x' s2 fps' hr;simp only[oI,pI]at h;obtain⟨rfl,rfl,rfl⟩:=h;have hst:=stepR_op_skip (P:=C.P) (b:=b) (a:=a) (k:=K) (cs:=cs) (w:=w) (ops:=ops) (i:=i) (rest:=List.range' (i+1) r.length) (by simp[hio,hwm]);simp only[hio,Option.bind_some]at hst;have hS1:kK C N n0 E (put o.dst (.tuple []) s) (a.put o.dst undef) w:=hS.step (.refl hS.inv) (.tuple [] #[] rfl fun i v x hv=>by simp at hv) (hd o hmem) (by rw[put_eq]) (by rw[put_eq]) (by rw[put_eq]);have hF1:Dv E b cs (put o.dst (.tuple []) s):=hF.mono (.refl E) (by rw[put_eq]) (by rw[put_eq]);have:=ih (i+1) E _ _ _ w cs _ _ hdr' hS1 hF1 hr;obtain⟨E1,a1,w1,cs1,r1,s1',c1,f1,n1,z1⟩:=this;rw[put_eq]at s1' c1 n1;refine⟨E1,a1,w1,cs1,r1,s1',?_,f1,n1,z1.of_steps (.one hst)⟩;cases c1 with
    |same a b c=>exact .same a b c|rcv v a b c d=>exact .rcv v a b c d
   ·cases h
  ·cases h
 where
 opRun_x {C:aY} {call:bK} {f:Nat} {o:Oper} {s s1:St} {fp:FP} (id:Nat):fE C call f o s≠some (.exit id,s1,fp)∧fE C call f o s≠some (.ret,s1,fp):=by
  constructor <;>
  ·intro h;unfold fE at h;split at h
   ·unfold aO at h;split at h<;>(try split at h)<;>(try split at h)<;>(try (rw[Bool.cond_eq_ite]at h;split at h))<;>simp at h
   ·cases h
theorem JA{ops:Array Oper}:∀(r:List Oper) (i:Nat) (s s':St) (fps:List FP),ops.toList.drop i=r→bg C call f ops.toList r s=some (.normal,s',fps)→
  ∃s'',jA C call f ops (List.range' i r.length) s=some (s'',(List.range' i r.length).zip fps)∧s'.Eqv s''∧fps.length=r.length:=by
 intro r;induction r with
 |nil=>intro i s s' fps _ h;simp only[bg,oI,pI]at h;obtain⟨_,rfl,rfl⟩:=h;exact⟨s,rfl,.refl s,rfl⟩
 | cons o r ih =>
  intro i s s' fps hdr h;have hio:ops[i]?=some o:=by rw[←Array.getElem?_toList];have:=congrArg (fun l=>l[0]?) hdr;simpa using this
  have hdr':ops.toList.drop (i+1)=r:=by have:=congrArg List.tail hdr;simpa using this
  simp only[List.length_cons,List.range'_succ];simp only[bg]at h;split at h
  ·rename_i hw;split at h
   ·rename_i s1 fp hop;split at h
    ·rename_i x' s2 fps' hr;simp only[oI,pI]at h;obtain⟨rfl,rfl,rfl⟩:=h;obtain⟨s3,h1,h2,h3⟩:=ih (i+1) s1 _ fps' hdr' hr;unfold fE at hop;split at hop
     ·rename_i out hout;obtain⟨δ,hδ,rfl⟩:=(qG C f o _ s s1 fp out).1 hop;refine⟨s3,?_,h2,by simp[h3]⟩;have hst:stepD C call f ops i s=some (δ,fp):=by unfold stepD;simp only[hio,hw,hout,hδ]
      simp only[jA,hst,h1,List.zip_cons_cons]
     ·cases hop
    ·cases h
   ·simp only[oI,pI]at h;rename_i x' s1 fp hne hop;obtain⟨rfl,rfl,rfl⟩:=h;exact(hne rfl).elim
   ·cases h
  ·rename_i hw;split at h
   ·rename_i x' s2 fps' hr;simp only[oI,pI]at h;obtain⟨rfl,rfl,rfl⟩:=h;obtain⟨s3,h1,h2,h3⟩:=ih (i+1) _ _ fps' hdr' hr;have hst:stepD C call f ops i s=some (⟨o.dst,.tuple [],[],s.m.hp,0,[],false⟩,{}):=by unfold stepD;simp only[hio,hw]
    have happ:(put o.dst (.tuple []) s).Eqv (s.app ⟨o.dst,.tuple [],[],s.m.hp,0,[],false⟩):=by rw[put_eq];exact⟨fun _=>rfl,fun _=>rfl,rfl,by simp[St.app],by simp[St.app],by simp[St.app],by simp[St.app],rfl⟩
    obtain⟨s4,g1,g2⟩:=wO _ h1 happ;exact⟨s4,by simp only[jA,hst,g1,List.zip_cons_cons],h2.trans g2,by simp[h3]⟩
   ·cases h
  ·cases h
theorem VX (hC:mY C call) {ops:Array Oper} (hd:∀ o∈ops.toList,∀ d,o.dst=some d→d < N) {K:List Item}:∀ (L:List Nat) (E:Env) (s s':St) (a:Act) (w:World) (cs:List Frame) (fps:List (Nat × FP)),
  kK C N n0 E s a w→Dv E b cs s→jA C call f ops L s=some (s',fps)→vT C N n0 E s w b cs (lone (b.atR a (.inRegion ops L::K)) cs w) K .normal s':=by
 intro L;induction L with
 |nil=>intro E s s' a w cs fps hS hF h;simp only[jA,oI,pI]at h;obtain⟨rfl,rfl⟩:=h;exact .here hS hF (.one stepR_region_end)
 | cons i L ih =>
  intro E s s' a w cs fps hS hF h;simp only[jA]at h;split at h
  ·rename_i δ fp hst;split at h
   ·rename_i s2 fps' hr;simp only[oI,pI]at h;obtain⟨rfl,rfl⟩:=h;have key:vT C N n0 E s w b cs (lone (b.atR a (.inRegion ops (i::L)::K)) cs w) (.inRegion ops L::K) .normal (s.app δ):=by
     unfold stepD at hst;split at hst
     ·cases hst
     ·rename_i o hio;have hmem:o∈ops.toList:=List.mem_of_getElem? (by rw[Array.getElem?_toList];exact hio);split at hst
      ·rename_i hw;split at hst
       ·rename_i out hout;refine NJ (fp:=fp) (f:=f) hC hS hF hio (qf hS hw) (hd o hmem) ?_;unfold fE;rw[hout];exact(qG C f o _ s _ fp out).2 ⟨δ,hst,rfl⟩
       ·cases hst
      ·rename_i hw;simp only[oI,pI]at hst;obtain⟨rfl,rfl⟩:=hst;have hwm:=qf hS hw;have hs1:=stepR_op_skip (P:=C.P) (b:=b) (a:=a) (k:=K) (cs:=cs) (w:=w) (ops:=ops) (i:=i) (rest:=L) (by simp[hio,hwm]);simp only[hio,Option.bind_some]at hs1;have hm:(s.app ⟨o.dst,.tuple [],[],s.m.hp,0,[],false⟩).m=s.m:=by simp[St.app,dB]
       have hst:=Step.refl hS.inv;exact⟨E,a.put o.dst undef,w,cs,hS.step hst (.tuple [] #[] rfl fun i v x hv=>by simp at hv) (hd o hmem) rfl hm (by simp[St.app]),by rw[hm];exact hst,.same (by simp[St.app]) (by simp[St.app]) rfl,hF.mono (.refl E) (by simp[St.app]) rfl,rfl,.one hs1⟩
      ·cases hst
    exact key.bind fun E1 a1 w1 cs1 hS1 hF1 _=>ih E1 _ _ a1 w1 cs1 _ hS1 hF1 hr
   ·cases h
  ·cases h
theorem vT.keep{E:Env}{s s':St}{w:World}{cs:List Frame}{m0:Machine}{K:List Item}{x:X}(h:vT C N n0 E s w b cs m0 K x s')(mask:Nat):vT C N n0 E s w b cs m0 K x {s' with tm:=cO mask s'.tm}:=by
 obtain⟨E1,a1,w1,cs1,r1,s1',c1,f1,n1,z1⟩:=h;refine⟨E1,a1,w1,cs1,⟨r1.inv,fun t v hv=>r1.tm t v (nZ mask t _ _ hv),r1.size,r1.df⟩,s1',?_,⟨f1.rc,f1.nrm,f1.rnd⟩,n1,z1⟩;cases c1 with
 |same a b c=>exact .same a b c|rcv v a b c d=>exact .rcv v a b c d
theorem OL(hOk:C.Ok)(hC:mY C call){id:Nat}{ops:Array Oper}{dr:Bool}(hc:wE C N f id ops dr=true){K:List Item}{E:Env}{s s':St}{a:Act}{w:World}{cs:List Frame}{x:X}(hS:kK C N n0 E s a w)(hF:Dv E b cs s)
  (h:(match bg C call f ops.toList ops.toList s with
   |some (.normal,s',fps)=>bif !dr || jK s.m.hp.length fps (C.pairs f id)then some (.normal,{s' with tm:=cO (C.keep f id) s'.tm})else none
   |some (x,s',_)=>bif !dr then some (x,s')else none|none=>none)=some (x,s')):vT C N n0 E s w b cs (lone (b.atR a (.code (.region id ops dr)::K)) cs w) K x s':=by
 simp only[wE,Bool.and_eq_true,Bool.or_eq_true,Bool.not_eq_true',List.all_eq_true]at hc;obtain⟨hc1,hc2⟩:=hc;have hd:∀o∈ops.toList,∀d,o.dst=some d→d<N:=fun o ho d e=>by have:=hc1 o ho;rw[e]at this;simpa using this
 have hlen:ops.toList.length=ops.size:=by simp
 cases dr with
 | false =>
  split at h
  ·rename_i s1 fps ho;simp only[Bool.not_false,Bool.true_or,cond_true,oI,pI]at h;obtain⟨rfl,rfl⟩:=h;have:=CW (K:=K) hC hd ops.toList 0 E s s1 a w cs _ fps (by simp) hS hF ho;rw[hlen,←List.range_eq_range']at this;exact(vT.of_steps (.one stepR_region) this).keep _
  ·rename_i x1 s1 fps hne ho;simp only[Bool.not_false,cond_true,oI,pI]at h;obtain⟨rfl,rfl⟩:=h;have:=CW (K:=K) hC hd ops.toList 0 E s s1 a w cs _ fps (by simp) hS hF ho;rw[hlen,←List.range_eq_range']at this;exact vT.of_steps (.one stepR_region) this
  ·cases h
 | true =>
  split at h
  ·rename_i s1 fps ho;cases hp:jK s.m.hp.length fps (C.pairs f id)with
   |false=>simp[hp]at h| true =>
    simp only[hp,Bool.or_true,cond_true,oI,pI]at h;obtain⟨rfl,rfl⟩:=h;have hord:=Hl (hc2.resolve_left (by simp));obtain⟨s2,hr,he,hfl⟩:=JA ops.toList 0 s s1 fps (by simp) ho;rw[hlen,←List.range_eq_range']at hr;have hleft:left ops.size (Array.replicate ops.size false)=List.range ops.size:=by unfold left;rw[List.filter_eq_self];intro i hi;have:=List.mem_range.1 hi;simp[this]
    obtain⟨s3,fps3,h3,h4⟩:=OZ (n:=s.m.hp.length) hC.fr hord ops.size (w.tape w.drawn (.order b.fn id)) (Array.replicate ops.size false) (by simp) (by rw[hleft];simp) (Nat.le_refl _) (by rw[hleft];exact hr)
     (fun i o e hi hio _ _=>by
      have:=(Array.getElem?_eq_some_iff.1 hio).1
      simp[this]at hi)
     (fun j i fa fc hj hi hlt hb=>by
      have at_:∀i fa,(i,fa)∈(List.range ops.size).zip fps→i<ops.size∧fps[i]?=some fa:=fun i fa hm=>by obtain⟨q,hq,heq⟩:=List.mem_iff_getElem.1 hm;simp only[List.length_zip,List.length_range]at hq;simp only[List.getElem_zip,List.getElem_range,pI]at heq;obtain⟨rfl,rfl⟩:=heq;exact⟨by omega,List.getElem?_eq_getElem (by omega)⟩
      obtain⟨hj1,hj2⟩:=at_ j fa hj;obtain⟨hi1,hi2⟩:=at_ i fc hi;obtain⟨p,hp1,hp2,hp3⟩:=hord.apart i j _ (Array.getElem?_eq_getElem hi1) hlt hb;have fpOf:∀i fa o,(i,fa)∈(List.range ops.size).zip fps→ops[i]?=some o→eH o.op=true→fa.reads=true∧fa.rd=[]:=fun i fa o hm hio hpu=>runD_pure _ hr hm hio hpu;rcases hp3 with hp3|hp3|hp3
      ·obtain⟨q1,q2⟩:=fpOf j fa p hj hp1 hp3;exact qZ q1 q2
      ·obtain⟨q1,q2⟩:=fpOf i fc _ hi (Array.getElem?_eq_getElem hi1) hp3;exact(qZ q1 q2).symm
      ·exact Dk (pairsOk_spec hp hp3 hj2 hi2))
    have hw0:({w with drawn:=w.drawn+1}:World).heap=w.heap:=rfl;have hst0:Step C E s.m w E s.m {w with drawn:=w.drawn+1}:=hS.inv.grow (fun _ _ _ h=>h) rfl rfl (Nat.le_refl _) ⟨rfl,rfl⟩ (fun _ _=>rfl) (fun b i x h=>.inl h);have hS0:kK C N n0 E s a {w with drawn:=w.drawn+1}:=hS.mono hst0 rfl rfl rfl;have hres:=VX (K:=K) hC hd _ E s s3 a {w with drawn:=w.drawn+1} cs fps3 hS0 hF h3;have hres':=hres.eqv (he.trans h4);obtain⟨E1,a1,w1,cs1,r1,s1',c1,f1,n1,z1⟩:=hres';have hdraw:=stepR_region_draw (P:=C.P) (b:=b) (a:=a) (k:=K) (cs:=cs) (w:=w) (ops:=ops) (id:=id);have hsch:Region.schedule (C.P.follows .mixedOrders) ops (w.tape w.drawn (.order b.fn id))=Region.linearise.go .any ops ops.size (w.tape w.drawn (.order b.fn id)) (Array.replicate ops.size false) []:=by simp only[Region.schedule,hOk.mixed,Bool.true_or,if_true,Region.linearise]
    rw[hsch]at hdraw;have:vT C N n0 E s w b cs (lone (b.atR a (.code (.region id ops true)::K)) cs w) K .normal s1:=⟨E1,a1,w1,cs1,r1,hst0.trans s1',c1,f1,n1,z1.of_steps (.one hdraw)⟩
    exact this.keep _
  ·simp at h
  ·cases h
 where
 runD_pure {C:aY} {call:bK} {f:Nat} {ops:Array Oper}:∀(L:List Nat) {s s':St} {fps:List (Nat×FP)},jA C call f ops L s=some (s',fps)→∀{i:Nat} {fa:FP} {o:Oper},(i,fa)∈fps→ops[i]?=some o→eH o.op=true→fa.reads=true∧fa.rd=[]
  |[],s,s',fps,h,i,fa,o,hm,_,_=>by simp only[jA,oI,pI]at h;obtain⟨rfl,rfl⟩:=h;cases hm
  | j :: L,s,s',fps,h,i,fa,o,hm,hio,hp=>by
   simp only[jA]at h;split at h
   ·rename_i δ fp hst;split at h
    ·rename_i s2 fps' hr;simp only[oI,pI]at h;obtain⟨rfl,rfl⟩:=h;cases hm with
     |head=>exact aa5 hst hio hp|tail _ hm=>exact runD_pure L hr hm hio hp
    ·cases h
   ·cases h
 pairsOk_spec {n:Nat} {fps:List FP}:∀{ps:List (Nat×Nat)},jK n fps ps=true→∀{j i:Nat} {a c:FP},(j,i)∈ps→fps[j]?=some a→fps[i]?=some c→FP.meets n a c=false
  |[],_,j,i,a,c,hm,_,_=>by cases hm|(j',i')::ps,h,j,i,a,c,hm,hj,hi=>by
   simp only[jK,Bool.and_eq_true]at h;cases hm with
   |head=>have:=h.1;rw[hj,hi]at this;simpa using this
   |tail _ hm=>exact pairsOk_spec h.2 hm hj hi
end
section
variable{P:Program}{b:Frame}{a:Act}{k:List Item}{cs:List Frame}{w:World}
theorem IK{c:Code}:step P (lone (b.atR a (.code (.scope c)::k)) cs w)=.next (lone (b.atR a (.code c::.inScope c::k)) cs w):=
 step_lone_go (by simp[stepG,stepG.exec,Frame.atR])
theorem DN{c:Code}:step P (lone (b.atR a (.inScope c::k)) cs w)=.next (lone (b.atR a k) cs w):=
 step_lone_go (by simp[stepG,stepG.exec,Frame.atR])
theorem Bf{x:Item}(hx:∀id,x≠.inBlock id)(id:Nat)(k:List Item):exitTo id (x::k)=exitTo id k:=by cases x<;>first|rfl|exact absurd rfl (hx _)
theorem Y3.pass{m0:Machine}{E:Env}{x:X}{it:Item}(hx:x≠.normal)(hi:∀id,it≠.inBlock id)(h:Y3 P m0 b (it::k) cs E x a w):Y3 P m0 b k cs E x a w:=by
 cases x with
 |normal=>exact absurd rfl hx|exit id=>exact⟨fun K' hK=>h.1 K' (by rw[Bf hi];exact hK),fun hn=>h.2 (by rw[Bf hi];exact hn)⟩|ret=>exact h|pan v=>exact h
end
section
variable{C:aY}{N n0:Nat}{f:Nat}{call:bK}
def Ah(C:aY)(N n0:Nat)(f:FuncId)(items:List Item)(s:St)(x:X)(s':St):Prop:=
 ∀(E:Env) (a:Act) (w:World) (b:Frame) (cs:List Frame) (K:List Item),b.fn=f→n0≤w.heap.size→kK C N n0 E s a w→Dv E b cs s→
  vT C N n0 E s w b cs (lone (b.atR a (items++K)) cs w) K x s'
theorem xG(hC:mY C call){fn:Func}(hfn:C.P.funcs[f]?=some fn){g:Operand}{ps:Array Tmp}{as bd:Code}(hc:codeOk C fn.ntmps f (.rangeFunc g ps as bd)=true){s s':St}{x:X}{l:Nat}(hl:l=s.m.hp.length)(hin:inLoop s.rnd s.m.hp=true)
  {gf:FuncId}{ga gb:List V}(hg:bH 4 s.m.get (bJ C s g)=some (.fn (.func gf) ga gb,[])){v:V}{rcd:Bool}{hp:List O}{wl:Nat}
  (hcall:call (.fn (.func gf) ga gb) [.fn (.yield l) [] []] none (s.m.hp++[.loop .ready none f (vN s.m.ob s.tm) (uf s.m.ob) ps.toList as bd])=some (.ret v,rcd,hp,wl))
  (hs':s'={s with m:={s.m with hp:=hp.set l .dead,wl:=s.m.wl ||| wl} }){st:LoopState}{pe:Option Code}{f':FuncId}{tm':List (Nat×V)}{ob':List (Nat×Nat×O)}{ps':List Tmp}{as' bd':Code}(hrec:hp[l]?=some (.loop st pe f' tm' ob' ps' as' bd'))
  (hst:st≠.busy)(hx:x=.normal∧pe=none∨x=.ret∧pe=some .ret∨∃id,x=.exit id∧pe=some (.exit id)):Ah C fn.ntmps n0 f [.code (.rangeFunc g ps as bd)] s x s':=by
 subst hl;intro E0 a w b cs K hbf hn0 hS0 hF0;simp only[codeOk,Bool.and_eq_true,List.all_eq_true,Nat.blt_eq]at hc;obtain⟨⟨hc1,hc2⟩,hc3⟩:=hc;obtain⟨E,s0,r0,_⟩:=fZ 4 _ _ _ _ E0 s.m w _ hg hS0.inv (Up.refl s.m) (hS0.eval g);have hS:kK C fn.ntmps n0 E s a w:=hS0.mono s0 rfl rfl rfl;have hF:Dv E b cs s:=hF0.mono s0.le rfl rfl;obtain⟨blk,mark,w1,r,hent,hblk,hsz,hwos,hsame,hrw,q1,q2,q3,q4,q5,q6,q7,hmark⟩:∃blk mark w1 r,(Instr.enterLoop b.fn a.tmps ps as bd b.roundOf).run C.P w=.ok (blk,mark) w1∧w.heap.size≤blk∧blk<w1.heap.size∧nS w w1∧(∀q,q<w.heap.size→w1.heap[q]?=w.heap[q]?)∧w1.heap[blk]?=some (.loop r)∧
   r.state=.ready∧r.pending=none∧r.fn=f∧r.params=ps∧r.assign=as∧r.body=bd∧r.tmps=a.tmps∧
   (mark=[]∨∃r0,mark=[{target:=.collected r0,args:=#[] }]∧w.heap.size≤r0∧r0≠blk∧r0<w1.heap.size∧w1.heap[r0]?=some (.deferred (some []))):=by
  cases hr:s.rnd with
  | none =>
   have hro:b.roundOf=none:=by have:=hF.rnd;rw[hr]at this;exact this
   refine⟨w.heap.size+1,[{target:=.collected w.heap.size,args:=#[] }],(w.alloc (.deferred (some []))).alloc (.loop {state:=.ready,pending:=none,fn:=b.fn,tmps:=a.tmps,params:=ps,assign:=as,body:=bd,defers:=w.heap.size}),{state:=.ready,pending:=none,fn:=b.fn,tmps:=a.tmps,params:=ps,assign:=as,body:=bd,defers:=w.heap.size},?_,by omega,by simp,⟨rfl,rfl⟩,fun q hq=>?_,?_,rfl,rfl,hbf,rfl,rfl,rfl,rfl,.inr ⟨w.heap.size,rfl,Nat.le_refl _,by omega,by simp;omega,?_⟩⟩
   ·rw[hro];exact run_enterLoop_outer _ _ _ _ _
   ·rw[heap_alloc _ _ _ (by simp;omega),heap_alloc _ _ _ hq]
   ·have:=World.alloc_heap_new (w.alloc (.deferred (some []))) (.loop {state:=.ready,pending:=none,fn:=b.fn,tmps:=a.tmps,params:=ps,assign:=as,body:=bd,defers:=w.heap.size});rwa[World.size_alloc]at this
   ·rw[heap_alloc _ _ _ (by simp)];exact World.alloc_heap_new w _
  | some l0 =>
   have hrn:=hF.rnd;rw[hr]at hrn;obtain⟨blk0,c0,hk0,hro⟩:=hrn;rw[hr]at hin;unfold inLoop at hin;dsimp only at hin;split at hin
   ·rename_i st0 p0 f0 tm0 ob0 ps0 a0 bd0 hl0;obtain⟨b1,c1,r1,k1,k2,_⟩:=hS.inv.heap l0 _ hl0;rw[hk0]at k1;cases k1;refine⟨w.heap.size,[],w.alloc (.loop {state:=.ready,pending:=none,fn:=b.fn,tmps:=a.tmps,params:=ps,assign:=as,body:=bd,defers:=r1.defers}),{state:=.ready,pending:=none,fn:=b.fn,tmps:=a.tmps,params:=ps,assign:=as,body:=bd,defers:=r1.defers},by rw[hro];exact run_enterLoop_inner k2 _ _ _ _ _,Nat.le_refl _,by simp,⟨rfl,rfl⟩,fun q hq=>heap_alloc w _ q hq,World.alloc_heap_new w _,rfl,rfl,hbf,rfl,rfl,rfl,rfl,.inl rfl⟩
   ·cases hin
 have hR:sO C f ps.toList as bd r.tmps.size:=⟨fn,hfn,hc2,hc3,fun p hp=>hc1 p hp,by rw[q7];exact hS.size⟩
 obtain⟨hI1,hSt,hown⟩:=hS.inv.newLoop (ps:=ps) (a:=as) (bd:=bd) (f:=f) (by rw[q7];exact hS.tm) hR hblk (by omega) hwos hsame hrw q1 q2 q3 q4 q5 q6 0
 have le1:E.bare.Le (E.withLoop s.m.hp.length blk):=⟨fun _ _ _ h=>h,fun l n p hk=>by
  cases l with
  |slot t g=>cases hk|heap i=>exact hSt.kh i n p hk⟩
 have r1:=r0.mono le1;have hy:RV (E.withLoop s.m.hp.length blk) (.fn (.yield s.m.hp.length) [] []) (.func (.yield blk) #[] #[]):=.yield _ blk 0 (by simp[Env.withLoop]);generalize hgv:a.eval g=gv at r1;cases r1 with
 |fn _ _ _ ga' gb' hnf hla hlb hA hB=>
 have rA:dS (E.withLoop s.m.hp.length blk) ga ga'.toList:=⟨by simpa using hla,fun i v x hv hx=>hA i v x hv (by simpa using hx)⟩
 have rB:dS (E.withLoop s.m.hp.length blk) gb gb'.toList:=⟨by simpa using hlb,fun i v x hv hx=>hB i v x hv (by simpa using hx)⟩
 have rY:dS (E.withLoop s.m.hp.length blk) [.fn (.yield s.m.hp.length) [] []] [.func (.yield blk) #[] #[]]:=⟨rfl,fun i v x hv hx=>by
  cases i with
  |zero=>simp at hv hx;subst hv;subst hx;exact hy|succ i=>simp at hv⟩
 obtain⟨hcf,hall⟩:=hC.func _ _ _ _ _ _ _ _ _ hcall (E.withLoop s.m.hp.length blk) w1 (ga'++#[.func (.yield blk) #[] #[]]++gb') hI1 (by simpa using(rA.append rY).append rB);obtain⟨E3,w2,fr,e,hI3,hM3,hE,hsteps,hfr,hlv⟩:=hall (b.atR {a with defers:=mark++a.defers} (.inRangeFunc blk::K)::cs);cases hE with
 |ret hv=>
 rename_i y;have hent':=stepR_rangeFunc (P:=C.P) (b:=b) (a:=a) (k:=K) (cs:=cs) (w:=w) (g:=g) (ps:=ps) (assign:=as) (body:=bd) (d:={target:=.fn (.func gf) gb',args:=ga'++#[.func (.yield blk) #[] #[]] }) (w₁':=w1) hent
  (by
   show(Deferred.ofValue (a.eval g) (#[Operand.const (.func (.yield blk) #[] #[])].map a.eval)).run C.P w1=_;rw[hgv];have h1:(#[Operand.const (.func (.yield blk) #[] #[])]:Array Operand).map a.eval=#[.func (.yield blk) #[] #[]]:=by simp[Act.eval]
   rw[h1]
   simp[Deferred.ofValue]) (by simpa[invoke]using hcf w1)
 obtain⟨b3,c3,r3,k1,k2,k3,k4,k5,_⟩:=hI3.heap _ _ hrec;have hkl:E3.k (.heap s.m.hp.length) 0=some (blk,0):=hM3.kh _ _ _ (by simp[Env.withLoop]);rw[hkl]at k1;cases k1;have hendl:(Instr.endLoop blk).run C.P w2=.ok pe {w2 with heap:=w2.heap.setIfInBounds blk (.loop {r3 with state:=.exhausted})}:=by
  have hnb:¬r3.state=.busy:=by rw[k4];exact hst
  simp[Instr.endLoop,Instr.getLoop,dD k2,hnb,gQ _ k2,k5]
 have hstE:=hI3.endLoop (l:=s.m.hp.length) hrec hkl (.loop {r3 with state:=.exhausted}) (fun i=>by simp[World.cell?,k2]);have hlen1:s.m.hp.length<hp.length:=by have:=hM3.len;simp at this;omega
 have hM:Moved (E.withLoop s.m.hp.length blk) ⟨[],s.m.hp++[.loop .ready none f (vN s.m.ob s.tm) (uf s.m.ob) ps.toList as bd],0⟩ w1 E3 ⟨[],hp.set s.m.hp.length .dead,0⟩ {w2 with heap:=w2.heap.setIfInBounds blk (.loop {r3 with state:=.exhausted})}:=(hM3.trans hstE.mov).reWl;have hI':Inv C E3 ⟨[],hp.set s.m.hp.length .dead,0⟩ {w2 with heap:=w2.heap.setIfInBounds blk (.loop {r3 with state:=.exhausted})}:=hstE.inv.reWl;have hback:=hS.inv.back hSt hM hI' (fun _=>by simp[hlen1]) (s.m.wl ||| wl);have hstp:=s0.trans hback;have hSf:kK C fn.ntmps n0 (E.back E3) s' {a with defers:=mark++a.defers} {w2 with heap:=w2.heap.setIfInBounds blk (.loop {r3 with state:=.exhausted})}:=by
  subst hs';have hS1:=hS.mono (s':={s with m:={s.m with hp:=hp.set s.m.hp.length .dead,wl:=s.m.wl ||| wl} }) hback rfl rfl rfl;refine⟨hS1.inv,hS1.tm,hS1.size,?_⟩;rcases hmark with rfl|⟨r0,rfl,h1,h2,h3,h4⟩
  ·exact hS1.df
  ·have hno:¬Own (E.withLoop s.m.hp.length blk) ⟨[],s.m.hp++[.loop .ready none f (vN s.m.ob s.tm) (uf s.m.ob) ps.toList as bd],0⟩ r0:=fun⟨l,o,hgo,hoo⟩=>by
    cases l with
    |slot t g=>simp[Mem.get,look]at hgo|heap j=>
     rcases hown j o r0 hgo hoo with h|h
     ·omega
     ·exact h2 h
   refine .mark r0 #[] ⟨by omega,by rw[hM.kept r0 h3 hno];exact h4,fun⟨l,o,hgo,hoo⟩=>?_⟩ (fun d hd e=>?_) hS1.df
   rotate_left
   ·have:=(Array.getElem?_eq_some_iff.1 (hS.df.marks d hd r0 e).2.1).1;omega
   cases l with
   |slot t g=>have:=hS.inv.lt_own (l:=.slot t g) hgo hoo;omega
   |heap j=>
    rcases hM.owns r0 ⟨.heap j,o,hgo,hoo⟩with h|h
    ·exact hno h
    ·omega
 have hFf:Dv (E.back E3) b cs s':=by subst hs';exact hF.mono hback.le rfl rfl
 have hto:Steps C.P (lone (b.atR a (.code (.rangeFunc g ps as bd)::K)) cs w) (lone (b.atR {a with defers:=mark++a.defers} ((pe.map Item.code).toList++K)) cs {w2 with heap:=w2.heap.setIfInBounds blk (.loop {r3 with state:=.exhausted})}):=by refine Steps.head hent' (hsteps.trans (.head ?_ (.one (stepR_endRangeFunc hendl))));rw[←finish_atR_inRangeFunc blk y];exact step_leave_returned hlv
 refine⟨E.back E3,_,_,cs,hSf,by subst hs';exact hstp,by subst hs';exact .same rfl rfl rfl,hFf,by subst hs';rfl,?_⟩;rcases hx with ⟨rfl,rfl⟩|⟨rfl,rfl⟩|⟨id,rfl,rfl⟩
 ·exact hto
 ·exact⟨K,hto⟩
 ·exact⟨fun K' hK=>hto.trans (.one (stepR_exit hK)),fun hn=>⟨K,hn,hto⟩⟩
theorem BQ(hOk:C.Ok)(hC:mY C call){fn:Func}(hfn:C.P.funcs[f]?=some fn):∀(k:Nat) (c:Code) (s s':St) (x:X),exec C call k f c s=some (x,s')→codeOk C fn.ntmps f c=true→
  Ah C fn.ntmps n0 f [.code c] s x s'∧∀c',c=.loop c'→Ah C fn.ntmps n0 f [.code c',.inLoop c'] s x s':=by
 intro k;induction k with
 |zero=>intro c s s' x h;simp[exec]at h| succ k ih =>
  intro c s s' x h hc;cases c with
  |skip=>simp only[exec,oI,pI]at h;obtain⟨rfl,rfl⟩:=h;exact⟨fun E a w b cs K hb hn hS hF=>.here hS hF (.one stepR_skip),fun c' e=>by cases e⟩
  |label l=>simp only[exec,oI,pI]at h;obtain⟨rfl,rfl⟩:=h;exact⟨fun E a w b cs K hb hn hS hF=>.here hS hF (.one stepR_label),fun c' e=>by cases e⟩
  |region id ops dr=>refine⟨fun E a w b cs K hb hn hS hF=>?_,fun c' e=>by cases e⟩;simp only[exec]at h;simp only[codeOk]at hc;exact OL (f:=f) hOk hC hc hS hF h| seq c1 c2 =>
   refine⟨fun E a w b cs K hb hn hS hF=>?_,fun c' e=>by cases e⟩;simp only[codeOk,Bool.and_eq_true]at hc;simp only[exec]at h;refine .of_steps (.one stepR_seq) ?_;split at h
   ·rename_i s1 h1;exact((ih c1 s s1 _ h1 hc.1).1 E a w b cs (.code c2::K) hb hn hS hF).bind fun E1 a1 w1 cs1 hS1 hF1 hn1=>(ih c2 s1 s' x h hc.2).1 E1 a1 w1 b cs1 K hb (Nat.le_trans hn hn1) hS1 hF1
   ·rename_i r hne;have hx:x≠.normal:=fun e=>by subst e;exact hne _ h
    exact((ih c1 s s' x h hc.1).1 E a w b cs (.code c2::K) hb hn hS hF).map fun E' a' w' cs' hz=>hz.pass hx (fun id=>by simp)
  | cond t c1 c2 =>
   refine⟨fun E a w b cs K hb hn hS hF=>?_,fun c' e=>by cases e⟩;simp only[codeOk,Bool.and_eq_true]at hc;simp only[exec]at h;split at h
   ·rename_i bt ht;have hev:=hS.eval t;rw[ht]at hev;refine .of_steps (.one (stepR_cond hev.bool_inv)) ?_;cases bt with
    |true=>exact(ih c1 s s' x (by simpa using h) hc.1).1 E a w b cs K hb hn hS hF|false=>exact(ih c2 s s' x (by simpa using h) hc.2).1 E a w b cs K hb hn hS hF
   ·cases h
  | block id c1 =>
   refine⟨fun E a w b cs K hb hn hS hF=>?_,fun c' e=>by cases e⟩;simp only[codeOk]at hc;simp only[exec]at h;refine .of_steps (.one stepR_block) ?_;split at h
   ·rename_i j s1 h1;have hr:=(ih c1 s s1 _ h1 hc).1 E a w b cs (.inBlock id::K) hb hn hS hF;cases hj:(j==id)with
    | true =>
     simp only[hj,cond_true,oI,pI]at h;obtain⟨rfl,rfl⟩:=h;have hji:id=j:=by
      have:j=id:=by simpa using hj
      exact this.symm
     exact hr.map fun E' a' w' cs' hz=>hz.1 K (by simp[exitTo,hji])
    | false =>
     simp only[hj,cond_false,oI,pI]at h;obtain⟨rfl,rfl⟩:=h;have hji:(id==j)=false:=by simp only[beq_eq_false_iff_ne,ne_eq]at hj ⊢;exact fun e=>hj e.symm
     have hxt:exitTo j (.inBlock id::K)=exitTo j K:=by simp[exitTo,hji]
     exact hr.map fun E' a' w' cs' hz=>⟨fun K' hK=>hz.1 K' (by rw[hxt];exact hK),fun hn=>hz.2 (by rw[hxt];exact hn)⟩
   ·rename_i r hne;have hr:=(ih c1 s s' x h hc).1 E a w b cs (.inBlock id::K) hb hn hS hF;refine hr.map fun E' a' w' cs' hz=>?_;cases x with
    |normal=>exact Steps.trans hz (.one stepR_inBlock)|exit j=>exact absurd h (hne _ _)|ret=>exact hz|pan v=>exact hz
  | loop c1 =>
   have hc0:=hc;simp only[codeOk]at hc;have two:Ah C fn.ntmps n0 f [.code c1,.inLoop c1] s x s':=fun E a w b cs K hb hn hS hF=>by
    simp only[exec]at h;split at h
    ·rename_i s1 h1;exact((ih c1 s s1 _ h1 hc).1 E a w b cs (.inLoop c1::K) hb hn hS hF).bind fun E1 a1 w1 cs1 hS1 hF1 hn1=>
      .of_steps (.one stepR_inLoop) ((ih (.loop c1) s1 s' x h hc0).2 c1 rfl E1 a1 w1 b cs1 K hb (Nat.le_trans hn hn1) hS1 hF1)
    ·rename_i r hne;have hx:x≠.normal:=fun e=>by subst e;exact hne _ h
     exact((ih c1 s s' x h hc).1 E a w b cs (.inLoop c1::K) hb hn hS hF).map fun E' a' w' cs' hz=>hz.pass hx (fun id=>by simp)
   exact⟨fun E a w b cs K hb hn hS hF=>.of_steps (.one stepR_loop) (two E a w b cs K hb hn hS hF),fun c' e=>by cases e;exact two⟩
  |scope c1=>
   refine⟨fun E a w b cs K hb hn hS hF=>?_,fun c' e=>by cases e⟩;simp only[codeOk]at hc;simp only[exec]at h;refine .of_steps (.one IK) ?_;refine((ih c1 s s' x h hc).1 E a w b cs (.inScope c1::K) hb hn hS hF).map fun E' a' w' cs' hz=>?_;cases x with
   |normal=>exact Steps.trans hz (.one DN)|exit j=>exact Y3.pass (by simp) (fun id=>by simp) hz|ret=>exact hz|pan v=>exact hz
  |exit id=>simp only[exec,oI,pI]at h;obtain⟨rfl,rfl⟩:=h;exact⟨fun E a w b cs K hb hn hS hF=>.here hS hF ⟨fun K' hK=>.one (stepR_exit hK),fun hn=>⟨K,hn,.refl _ _⟩⟩,fun c' e=>by cases e⟩
  |ret=>simp only[exec,oI,pI]at h;obtain⟨rfl,rfl⟩:=h;exact⟨fun E a w b cs K hb hn hS hF=>.here hS hF ⟨K,.refl _ _⟩,fun c' e=>by cases e⟩
  | rangeFunc g ps as bd =>
   refine⟨?_,fun c' e=>by cases e⟩;simp only[exec]at h;cases hin:inLoop s.rnd s.m.hp with
   |false=>simp[hin]at h| true =>
    simp only[hin,cond_true]at h;split at h
    ·rename_i gf ga gb hg;split at h
     ·rename_i v rcd hp wl hcall;split at h
      ·rename_i hrec;simp only[oI,pI]at h;obtain⟨rfl,rfl⟩:=h;exact xG hC hfn hc rfl hin hg hcall rfl hrec (by simp) (.inl ⟨rfl,rfl⟩)
      ·rename_i hrec;simp only[oI,pI]at h;obtain⟨rfl,rfl⟩:=h;exact xG hC hfn hc rfl hin hg hcall rfl hrec (by simp) (.inr (.inl ⟨rfl,rfl⟩))
      ·rename_i id _ _ _ _ _ _ hrec;simp only[oI,pI]at h;obtain⟨rfl,rfl⟩:=h;exact xG hC hfn hc rfl hin hg hcall rfl hrec (by simp) (.inr (.inr ⟨_,rfl,rfl⟩))
      ·cases h
     ·cases h
    ·cases h
  |goto l=>simp[exec]at h|refuse why=>simp[exec]at h
end
end Mw
