/- DependFirst's tied card holds; no condition beyond the card's own. -/
import Derived.Test.YtdjnccgeajpegaaGreatDoorMwJ
set_option linter.unusedVariables false
set_option linter.unusedSimpArgs false
namespace Mw
open Go
section
variable(C:aY)(call:bK)(f:Nat)(ops:Array Oper)
def stepD(i:Nat)(s:St):Option (Dl×FP):=match ops[i]? with
 |none=>none| some o=>match gU ops.toList s o with
  |some true=>match fD C call f o (bJ C s) (iT (fB o (bJ C s)) s.m) s.m.hp with
   |some out=>jG C f o (fB o (bJ C s)) s out|none=>none
  |some false=>some (⟨o.dst,.tuple [],[],s.m.hp,0,[],false⟩,{})|none=>none
def jA:List Nat→St→Option (St×List (Nat×FP))
 |[],s=>some (s,[])| i :: r,s=>match stepD C call f ops i s with
  |some (δ,fp)=>match jA r (s.app δ)with
   |some (s',fps)=>some (s',(i,fp)::fps)|none=>none
  |none=>none
end
def mG(call:bK):Prop:=∀fn args rc hp r b hp' wl,call fn args rc hp=some (r,b,hp',wl)→hp.length≤hp'.length∧∀i,i<hp.length→wl.testBit i=false→hp'[i]?=hp[i]?
section
variable{C:aY}{call:bK}{f:Nat}{ops:Array Oper}
structure ZY(n:Nat)(s:St)(δ:Dl)(fp:FP):Prop where
 w:∀p∈δ.w,p.1∈fp.ws
 len:s.m.hp.length≤δ.hp.length
 hp:n≤s.m.hp.length→∀i,fp.touches n (.heap i)=false→δ.hp[i]?=s.m.hp[i]?
 loc:fp.local=true→δ.hp=s.m.hp∧δ.wl=0∧δ.df=[]∧δ.rcv=false
theorem Qv{n:Nat}{hp hp' hp0:List O}{wl wb:Nat}(h2:∀i,i<hp.length→wl.testBit i=false→hp'[i]?=hp[i]?)(h0:hp.length=hp0.length)
  (h3:∀i,wb.testBit i=false→hp[i]?=hp0[i]?)(i:Nat)(hn:n≤hp0.length)(ht:((wb ||| wl).testBit i || (!(hp'.length==hp.length)&&Nat.ble n i))=false):hp'[i]?=hp0[i]?:=by
 simp only[Nat.testBit_or,Bool.or_eq_false_iff]at ht;obtain⟨⟨hb,hl⟩,hg⟩:=ht;rcases Nat.lt_or_ge i hp.length with hi|hi
 ·rw[h2 i hi hl,h3 i hb]
 ·have hni:Nat.ble n i=true:=by rw[Nat.ble_eq];omega
  simp only[hni,Bool.and_true,Bool.not_eq_false',beq_iff_eq]at hg;rw[List.getElem?_eq_none (by omega),List.getElem?_eq_none (by omega)]
theorem abZ{n:Nat}{o:Oper}{ls:List Loc}{s:St}{out:Out}{δ:Dl}{fp:FP}(h:jG C f o ls s out=some (δ,fp))
  (hc:∀r ss hp wl,out=.call r ss hp wl→(setH s.m.hp ss).length≤hp.length∧∀i,i<(setH s.m.hp ss).length→wl.testBit i=false→hp[i]?=(setH s.m.hp ss)[i]?):ZY n s δ fp:=by
 have ws:∀ss:List (Loc×O),∀p∈jd ss,p.1∈slotsOf ss:=fun ss p hp=>by rw[uG];exact List.mem_map.2 ⟨p,hp,rfl⟩
 have base:∀(dst:Option Tmp) (v:V) (ss:List (Loc×O)) (ls:List Loc),ZY n s ⟨dst,v,jd ss,setH s.m.hp ss,bitsOf ss,[],false⟩ {rd:=ls,ws:=slotsOf ss,wh:=bitsOf ss}:=fun dst v ss ls=>
  ⟨ws ss,by simp[dF],fun _ i hi=>jf ss _ i (by simpa[FP.touches]using hi),fun hl=>by
   simp only[FP.local,Bool.and_eq_true,beq_iff_eq]at hl
   exact⟨nG ss hl.1.1 _,hl.1.1,rfl,rfl⟩⟩
 cases out with
 | eff e =>
  cases e with
  |val v ss=>simp only[jG,oI,pI]at h;obtain⟨rfl,rfl⟩:=h;exact base _ _ _ _
  |skip ss=>simp only[jG,oI,pI]at h;obtain⟨rfl,rfl⟩:=h;exact base _ _ _ _
  | new ob mk ss =>
   simp only[jG]at h;split at h
   ·rename_i t ht;cases hE:C.esc f t with
    | true =>
     simp only[hE,cond_true,oI,pI]at h;obtain⟨rfl,rfl⟩:=h;refine⟨ws ss,by simp[dF],fun hn i hi=>?_,fun hl=>by simp[FP.local]at hl⟩;simp only[FP.touches,Bool.true_and,Bool.or_eq_false_iff]at hi;have hni:i<n:=by
      rcases Nat.lt_or_ge i n with h|h
      ·exact h
      ·have:Nat.ble n i=true:=by rw[Nat.ble_eq];exact h
       rw[this]at hi;simp at hi
     rw[List.getElem?_append_left (by rw[dF];omega)];exact jf ss _ i hi.1
    | false =>
     simp only[hE,cond_false,oI,pI]at h;obtain⟨rfl,rfl⟩:=h;refine⟨fun p hp=>?_,by simp[dF],fun _ i hi=>jf ss _ i (by simpa[FP.touches]using hi),fun hl=>?_⟩
     ·rcases List.mem_append.1 hp with hp|hp
      ·exact .tail _ (ws ss p hp)
      ·have:=List.mem_singleton.1 hp;subst this;exact .head _
     ·simp only[FP.local,Bool.and_eq_true,beq_iff_eq]at hl;exact⟨nG ss hl.1.1 _,hl.1.1,rfl,rfl⟩
   ·cases h
  | dfr d =>
   simp only[jG]at h;split at h
   ·cases h
   ·simp only[oI,pI]at h;obtain⟨rfl,rfl⟩:=h;exact⟨fun p hp=>by simp at hp,Nat.le_refl _,fun _ i _=>rfl,fun hl=>by simp[FP.local]at hl⟩
  |pan v=>simp[jG]at h| recov =>
   simp only[jG]at h;split at h
   ·simp only[oI,pI]at h;obtain⟨rfl,rfl⟩:=h;exact⟨fun p hp=>by simp at hp,Nat.le_refl _,fun _ i _=>rfl,fun hl=>by simp[FP.local]at hl⟩
   ·simp only[oI,pI]at h;obtain⟨rfl,rfl⟩:=h;exact⟨fun p hp=>by simp at hp,Nat.le_refl _,fun _ i _=>rfl,fun hl=>by simp[FP.local]at hl⟩
   ·cases h
 | call r ss hp wl =>
  cases r with
  |pan v=>simp[jG]at h|ret v=>simp only[jG,oI,pI]at h;obtain⟨rfl,rfl⟩:=h;obtain⟨h1,h2⟩:=hc _ _ _ _ rfl;refine⟨ws ss,by rw[dF]at h1;exact h1,fun hn i hi=>?_,fun hl=>by simp[FP.local]at hl⟩;exact Qv (n:=n) h2 (dF ss _) (fun i hi=>jf ss _ i hi) i hn (by simpa[FP.touches]using hi)
theorem BO{o:Oper}{ρ:Operand→V}{g:Rd}{hp:List O}{r:CR}{ss:List (Loc×O)}{hp':List O}{wl:Nat}(hcf:mG call)(h:fD C call f o ρ g hp=some (.call r ss hp' wl)) :
  (setH hp ss).length≤hp'.length∧∀i,i<(setH hp ss).length→wl.testBit i=false→hp'[i]?=(setH hp ss)[i]?:=by
 have nc:∀(ts:List (Loc×O)) q,fP ts q=some (.call r ss hp' wl)→ts=ss∧∃b,q=some (r,b,hp',wl):=fun ts q hc=>by
  unfold fP at hc;split at hc
  ·simp only[oI,Out.call.injEq]at hc;obtain⟨rfl,rfl,rfl,rfl⟩:=hc;exact⟨rfl,_,rfl⟩
  ·cases hc
 unfold fD at h;cases hp:eH o.op with
 |true=>simp only[hp,cond_true]at h;split at h<;>cases h| false =>
  simp only[hp,cond_false]at h;split at h
  ·split at h
   ·split at h
    ·obtain⟨rfl,b,hq⟩:=nc _ _ h;exact hcf _ _ _ _ _ _ _ _ hq
    ·cases h
   ·cases h
  ·split at h
   ·split at h
    ·obtain⟨rfl,b,hq⟩:=nc _ _ h;exact hcf _ _ _ _ _ _ _ _ hq
    ·cases h
   ·cases h
  ·split at h<;>cases h
theorem sF {n i:Nat} {s:St} {δ:Dl} {fp:FP} (hcf:mG call) (h:stepD C call f ops i s=some (δ,fp)):ZY n s δ fp∧(∃ o,ops[i]?=some o∧δ.dst=o.dst):=by
 unfold stepD at h;split at h
 ·cases h
 ·rename_i o ho;split at h
  ·split at h
   ·rename_i out hout;refine⟨abZ h fun r ss hp wl e=>?_,o,ho,?_⟩
    ·subst e;exact BO hcf hout
    ·cases out with
     | eff e =>
      cases e<;>simp only[jG]at h
      case val=>simp at h;rw[←h.1]
      case skip=>simp at h;rw[←h.1]
      case new=>
       split at h
       ·rename_i t ht;rw[ht];cases hE:C.esc f t<;>simp[hE]at h<;>rw[←h.1]
       ·cases h
      case dfr=>split at h<;>simp at h;rw[←h.1]
      case pan=>cases h
      case recov=>split at h<;>simp at h<;>rw[←h.1]
     |call r ss hp wl=>
      cases r<;>simp only[jG]at h
      ·simp at h;rw[←h.1]
      ·cases h
   ·cases h
  ·simp only[oI,pI]at h;obtain⟨rfl,rfl⟩:=h;exact⟨⟨fun p hp=>by simp at hp,Nat.le_refl _,fun _ i _=>rfl,fun _=>⟨rfl,rfl,rfl,rfl⟩⟩,o,ho,rfl⟩
  ·cases h
theorem Iq{o:Oper}{t:Nat}(h:(.tmp t:Operand)∈o.op.operands):t∈o.looksAt ops:=
 List.mem_append_left _ (List.mem_filterMap.2 ⟨.tmp t,by simpa using h,rfl⟩)
theorem DV{o:Oper}{s s':St}(h:∀t∈o.looksAt ops,look t s'.tm=look t s.tm):gU ops.toList s' o=gU ops.toList s o:=by
 unfold gU;cases hg:o.guard with
 |none=>rfl| some p =>
  obtain⟨j,want⟩:=p;dsimp only;rw[Array.getElem?_toList];cases hj:ops[j]? with
  |none=>rfl| some q =>
   dsimp only;cases hd:q.dst with
   |none=>rfl| some d =>
    have:xK s' d=xK s d:=by unfold xK;rw[h d (by unfold Oper.looksAt;rw[hg];simp[hj,hd])]
    dsimp only;rw[this]
theorem aiy(a b:Loc):Loc.eq a b=true↔a=b:=by cases a<;>cases b<;>simp[Loc.eq]
theorem aaY{o:Oper}{ls:List Loc}{s:St}{out:Out}{δ:Dl}{fp:FP}(h:jG C f o ls s out=some (δ,fp)):fp.rd=ls:=by
 cases out with
 | eff e =>
  cases e<;>simp only[jG]at h
  case val=>simp at h;rw[←h.2]
  case skip=>simp at h;rw[←h.2]
  case new=>
   split at h
   ·rename_i t ht;cases hE:C.esc f t<;>simp[hE]at h<;>rw[←h.2]
   ·cases h
  case dfr=>split at h<;>simp at h;rw[←h.2]
  case pan=>cases h
  case recov=>split at h<;>simp at h<;>rw[←h.2]
 |call r ss hp wl=>
  cases r<;>simp only[jG]at h
  ·simp at h;rw[←h.2]
  ·cases h
theorem MK{o:Oper}{ls:List Loc}{s s':St}{out:Out}{δ:Dl}{fp:FP}(h:jG C f o ls s out=some (δ,fp))(hgen:∀t∈fp.ws,look t s'.m.ob=look t s.m.ob)(hrnd:s'.rnd=s.rnd)
  (hloc:fp.local=true∨s'.m.hp=s.m.hp∧s'.rc=s.rc) :
  ∃δ',jG C f o ls s' out=some (δ',fp)∧δ'.dst=δ.dst∧δ'.v=δ.v∧δ'.w=δ.w∧δ'.wl=δ.wl∧δ'.df=δ.df∧δ'.rcv=δ.rcv∧(s'.m.hp=s.m.hp→δ'.hp=δ.hp)∧(fp.local=true→δ'.hp=s'.m.hp):=by
 have zero:∀{ss:List (Loc×O)} {rd:List Loc} {ws:List Nat},({rd:=rd,ws:=ws,wh:=bitsOf ss}:FP).local=true→setH s'.m.hp ss=s'.m.hp:=fun {ss rd ws} hl=>by simp only[FP.local,Bool.and_eq_true,beq_iff_eq]at hl;exact nG ss hl.1.1 _
 have nl:fp.local=false→s'.m.hp=s.m.hp∧s'.rc=s.rc:=fun hf=>hloc.resolve_left (by simp[hf]);cases out with
 | eff e =>
  cases e<;>simp only[jG]at h ⊢
  case val v ss=>
   simp only[oI,pI]at h;obtain⟨rfl,rfl⟩:=h;exact⟨_,rfl,rfl,rfl,rfl,rfl,rfl,rfl,fun e=>by simp[e],fun hl=>zero hl⟩
  case skip ss=>
   simp only[oI,pI]at h;obtain⟨rfl,rfl⟩:=h;exact⟨_,rfl,rfl,rfl,rfl,rfl,rfl,rfl,fun e=>by simp[e],fun hl=>zero hl⟩
  case new ob mk ss=>
   split at h
   ·rename_i t ht;cases hE:C.esc f t with
    |true=>simp only[hE,cond_true,oI,pI]at h ⊢;obtain⟨rfl,rfl⟩:=h;obtain⟨hh,hr⟩:=nl (by simp[FP.local]);rw[hh];exact⟨_,⟨rfl,rfl⟩,rfl,rfl,rfl,rfl,rfl,rfl,fun _=>rfl,fun hl=>by simp[FP.local]at hl⟩
    | false =>
     simp only[hE,cond_false,oI,pI]at h ⊢;obtain⟨rfl,rfl⟩:=h;have hgo:dY t (dB (jd ss) s'.m.ob)=dY t (dB (jd ss) s.m.ob):=by unfold dY;rw[fQ (jd ss) _ _ (hgen t (.head _))]
     rw[hgo];exact⟨_,⟨rfl,rfl⟩,rfl,rfl,rfl,rfl,rfl,rfl,fun e=>by simp[e],fun hl=>zero hl⟩
   ·cases h
  case dfr d=>
   rw[hrnd];split at h
   ·cases h
   ·simp only[oI,pI]at h ⊢;obtain⟨rfl,rfl⟩:=h;obtain⟨hh,hr⟩:=nl (by simp[FP.local]);rw[hh];exact⟨_,⟨rfl,rfl⟩,rfl,rfl,rfl,rfl,rfl,rfl,fun _=>rfl,fun hl=>by simp[FP.local]at hl⟩
  case pan v=>cases h
  case recov=>
   have hf:fp.local=false:=by
    split at h
    ·simp only[oI,pI]at h;obtain⟨_,rfl⟩:=h;simp[FP.local]
    ·simp only[oI,pI]at h;obtain⟨_,rfl⟩:=h;simp[FP.local]
    ·cases h
   obtain⟨hh,hr⟩:=nl hf;rw[hr,hh];refine⟨δ,h,rfl,rfl,rfl,rfl,rfl,rfl,fun _=>rfl,fun hl=>by rw[hf]at hl;cases hl⟩
 | call r ss hp wl =>
  cases r<;>simp only[jG]at h ⊢
  ·simp only[oI,pI]at h;obtain⟨rfl,rfl⟩:=h;obtain⟨hh,hr⟩:=nl (by simp[FP.local]);rw[hh];exact⟨_,rfl,rfl,rfl,rfl,rfl,rfl,rfl,fun _=>rfl,fun hl=>by simp[FP.local]at hl⟩
  ·cases h
theorem rE{i:Nat}{o:Oper}{s s':St}{δ:Dl}{fp:FP}(h:stepD C call f ops i s=some (δ,fp))(ho:ops[i]?=some o)(hv:∀t∈o.looksAt ops,look t s'.tm=look t s.tm)
  (hg:∀l∈fp.rd,s'.m.get l=s.m.get l)(hgen:∀t∈fp.ws,look t s'.m.ob=look t s.m.ob)(hrnd:s'.rnd=s.rnd)(hloc:fp.local=true∨s'.m.hp=s.m.hp∧s'.rc=s.rc) :
  ∃δ',stepD C call f ops i s'=some (δ',fp)∧δ'.dst=δ.dst∧δ'.v=δ.v∧δ'.w=δ.w∧δ'.wl=δ.wl∧δ'.df=δ.df∧δ'.rcv=δ.rcv∧(s'.m.hp=s.m.hp→δ'.hp=δ.hp)∧(fp.local=true→δ'.hp=s'.m.hp):=by
 unfold stepD at h ⊢;simp only[ho]at h ⊢;rw[DV hv];split at h
 ·rename_i hw;split at h
  ·rename_i out hout;have hops:∀x∈o.op.operands,bJ C s x=bJ C s' x:=fun x hx=>Ij fun t e=>(hv t (Iq (e▸hx))).symm;have hls:fB o (bJ C s')=fB o (bJ C s):=by unfold fB;rw[gm hops]
   have hrd:fp.rd=fB o (bJ C s):=aaY h;have hon:iT (fB o (bJ C s)) s'.m=iT (fB o (bJ C s)) s.m:=by
    funext l;unfold iT;cases ha:(fB o (bJ C s)).any (Loc.eq l)with
    |false=>rfl|true=>obtain⟨l',hl',he⟩:=List.any_eq_true.1 ha;have:=(aiy l l').1 he;subst this;exact hg l (by rw[hrd];exact hl')
   have hout':fD C call f o (bJ C s') (iT (fB o (bJ C s')) s'.m) s'.m.hp=some out:=by
    rw[hls,hon,←Ib hops];rcases hloc with hl|⟨hh,_⟩
    ·cases out with
     |eff e=>exact YZ hout|call r ss hp wl=>
      cases r<;>simp only[jG]at h
      ·simp only[oI,pI]at h;obtain⟨rfl,rfl⟩:=h;simp[FP.local]at hl
      ·cases h
    ·rw[hh];exact hout
   rw[hout',hls];dsimp only;exact MK h hgen hrnd hloc
  ·cases h
 ·rename_i hw;simp only[oI,pI]at h;obtain⟨rfl,rfl⟩:=h;exact⟨_,rfl,rfl,rfl,rfl,rfl,rfl,rfl,fun e=>e,fun _=>rfl⟩
 ·cases h
end
section
variable{C:aY}{call:bK}{f:Nat}{ops:Array Oper}{n:Nat}
structure yJ(n:Nat)(a b:FP):Prop where
 loc:a.local=true∨b.local=true
 ab:∀l∈a.rd,b.touches n l=false
 ba:∀l∈b.rd,a.touches n l=false
 ws:∀t∈a.ws,t ∉ b.ws
theorem any_false{α:Type}{p:α→Bool}{l:List α}(h:l.any p=false):∀x∈l,p x=false:=fun x hx=>by
 cases hp:p x with
 |false=>rfl|true=>rw[List.any_eq_true.2 ⟨x,hx,hp⟩]at h;cases h
theorem nR{a:FP}(h:a.reads=true)(n:Nat)(l:Loc):a.touches n l=false:=by simp only[FP.reads,Bool.and_eq_true,beq_iff_eq,Bool.not_eq_true',List.isEmpty_iff]at h;obtain⟨⟨⟨h1,h2⟩,h3⟩,h4⟩:=h;cases l<;>simp[FP.touches,h1,h2,h4]
theorem jD{a:FP}(h:a.reads=true):a.local=true∧a.ws=[]:=by simp only[FP.reads,Bool.and_eq_true,beq_iff_eq,Bool.not_eq_true',List.isEmpty_iff]at h;obtain⟨⟨⟨h1,h2⟩,h3⟩,h4⟩:=h;simp[FP.local,h1,h2,h3,h4]
theorem Dk{a b:FP}(h:FP.meets n a b=false):yJ n a b:=by
 unfold FP.meets at h;simp only[Bool.not_eq_false',Bool.or_eq_true,Bool.and_eq_true,Bool.not_eq_true']at h;rcases h with ((⟨h1,h2⟩|⟨h1,h2⟩)|⟨⟨⟨h1,h2⟩,h3⟩,h4⟩)|⟨⟨⟨h1,h2⟩,h3⟩,h4⟩
 ·exact⟨.inl (jD h1).1,any_false h2,fun l _=>nR h1 n l,fun t ht=>by rw[(jD h1).2]at ht;cases ht⟩
 ·exact⟨.inr (jD h1).1,fun l _=>nR h1 n l,any_false h2,fun t _=>by rw[(jD h1).2];exact List.not_mem_nil⟩
 ·exact⟨.inl h1,any_false h2,any_false h3,fun t ht=>by have:=any_false h4 t ht;simpa using this⟩
 ·exact⟨.inr h1,any_false h2,any_false h3,fun t ht hb=>by have:=any_false h4 t hb;simp at this;exact this ht⟩
theorem yJ.symm{a b:FP}(h:yJ n a b):yJ n b a:=⟨h.loc.symm,h.ba,h.ab,fun t ht ha=>h.ws t ha ht⟩
theorem qZ{a b:FP}(h:a.reads=true)(hr:a.rd=[]):yJ n a b:=
 ⟨.inl (jD h).1,fun l hl=>(by rw[hr]at hl;cases hl),fun l _=>nR h n l,fun t ht=>by rw[(jD h).2]at ht;cases ht⟩
theorem aa5{i:Nat}{o:Oper}{s:St}{δ:Dl}{fp:FP}(h:stepD C call f ops i s=some (δ,fp))(ho:ops[i]?=some o)(hp:eH o.op=true):fp.reads=true∧fp.rd=[]:=by
 unfold stepD at h;simp only[ho]at h;split at h
 ·split at h
  ·rename_i out hout;unfold fD at hout;simp only[hp,cond_true]at hout;split at hout
   ·simp only[oI]at hout;subst hout;simp only[jG,oI,pI]at h;obtain⟨_,rfl⟩:=h;simp[FP.reads,slotsOf,bitsOf,fB,hp]
   ·cases hout
  ·cases h
 ·simp only[oI,pI]at h;obtain⟨_,rfl⟩:=h;exact⟨rfl,rfl⟩
 ·cases h
theorem Rn{s:St}{δ:Dl}{fp:FP}(h:ZY n s δ fp)(hn:n≤s.m.hp.length){l:Loc}(hl:fp.touches n l=false):(s.app δ).m.get l=s.m.get l:=by
 cases l with
 |slot t g=>simp only[FP.touches,List.contains_eq_mem,decide_eq_false_iff_not]at hl;simp only[St.app,Mem.get];rw[dH];exact fun p hp e=>hl (e▸h.w p hp)
 |heap i=>exact h.hp hn i hl
theorem Jh{s:St}{δ:Dl}{t:Nat}(h:δ.dst≠some t):look t (s.app δ).tm=look t s.tm:=by simp only[St.app,sV,if_neg h]
theorem Dl.ext'{a b:Dl}(h1:a.dst=b.dst)(h2:a.v=b.v)(h3:a.w=b.w)(h4:a.hp=b.hp)(h5:a.wl=b.wl)(h6:a.df=b.df)(h7:a.rcv=b.rcv):a=b:=by cases a;cases b;simp_all
theorem swap{i j:Nat}{oi oj:Oper}(hcf:mG call)(hi:ops[i]?=some oi)(hj:ops[j]?=some oj)(hap:Oper.apart ops oi oj=true){s:St}{δi δj:Dl}{fi fj:FP}
  (h1:stepD C call f ops i s=some (δi,fi))(h2:stepD C call f ops j (s.app δi)=some (δj,fj))(hn:n≤s.m.hp.length)(hin:yJ n fi fj) :
  ∃δj' δi',stepD C call f ops j s=some (δj',fj)∧stepD C call f ops i (s.app δj')=some (δi',fi)∧((s.app δi).app δj).Eqv ((s.app δj').app δi'):=by
 obtain⟨a1,a2,a3⟩:=Oper.apart_spec hap;obtain⟨ki,⟨oi',hi',di⟩⟩:=sF (n:=n) hcf h1;rw[hi]at hi';cases hi';obtain⟨kj,⟨oj',hj',dj⟩⟩:=sF (n:=n) hcf h2;rw[hj]at hj';cases hj';have hiloc:fi.local=true→(s.app δi).m.hp=s.m.hp∧(s.app δi).rc=s.rc:=fun hl=>by obtain⟨b1,b2,b3,b4⟩:=ki.loc hl;exact⟨b1,by simp[St.app,b4]⟩
 obtain⟨δj',e0,e1,e2,e3,e4,e5,e6,e7,e8⟩:=rE (s':=s) h2 hj (fun t ht=>(Jh (fun e=>a1 t (di▸e) ht)).symm)
  (fun l hl=>(Rn ki hn (hin.ba l hl)).symm) (fun t ht=>by
   simp only[St.app];rw[dH]
   exact fun p hp e=>hin.ws t (e▸ki.w p hp) ht) rfl
  (hin.loc.symm.imp id fun hl=>⟨(hiloc hl).1.symm,(hiloc hl).2.symm⟩)
 obtain⟨kj',_⟩:=sF (n:=n) hcf e0;have hjloc:fj.local=true→(s.app δj').m.hp=s.m.hp∧(s.app δj').rc=s.rc:=fun hl=>by obtain⟨b1,b2,b3,b4⟩:=kj'.loc hl;exact⟨b1,by simp[St.app,b4]⟩
 obtain⟨δi',g0,g1,g2,g3,g4,g5,g6,g7,g8⟩:=rE (s':=s.app δj') h1 hi (fun t ht=>Jh (fun e=>a3 t (by rw[←dj,←e1];exact e) ht))
  (fun l hl=>Rn kj' hn (hin.ab l hl)) (fun t ht=>by
   simp only[St.app];rw[dH]
   exact fun p hp e=>hin.ws t ht (e▸kj'.w p hp)) rfl
  (hin.loc.imp id fun hl=>hjloc hl)
 refine⟨δj',δi',e0,g0,?_,?_,?_,?_,?_,?_,?_,rfl⟩
 ·intro t;simp only[St.app];rw[g1,g2,e1,e2];exact Cf _ _ _ _ _ (fun t ht=>by rw[dj];exact a2 t (di▸ht)) t
 ·intro t;simp only[St.app];rw[g3,e3];exact xQ _ _ _ (fun p hp q hq e=>hin.ws p.1 (ki.w p hp) (e▸kj.w q hq)) t
 ·show δj.hp=δi'.hp;rcases hin.loc with hl|hl
  ·rw[g8 hl,←e7 (hiloc hl).1.symm];rfl
  ·rw[g7 (hjloc hl).1,(kj.loc hl).1];rfl
 ·show(s.m.wl ||| δi.wl) ||| δj.wl=(s.m.wl ||| δj'.wl) ||| δi'.wl
  rw[g4,e4,Nat.or_assoc,Nat.or_assoc,Nat.or_comm δi.wl]
 ·show δj.df++(δi.df++s.df)=δi'.df++(δj'.df++s.df);rw[g5,e5];rcases hin.loc with hl|hl
  ·simp[(ki.loc hl).2.2.1]
  ·simp[(kj.loc hl).2.2.1]
 ·show(bif δj.rcv then some none else bif δi.rcv then some none else s.rc)=(bif δi'.rcv then some none else bif δj'.rcv then some none else s.rc);rw[g6,e6];cases δi.rcv<;>cases δj.rcv<;>rfl
 ·show(δj.rcv || (δi.rcv || s.rcd))=(δi'.rcv || (δj'.rcv || s.rcd));rw[g6,e6];cases δi.rcv<;>cases δj.rcv<;>rfl
theorem St.Eqv.get{s t:St}(h:s.Eqv t)(l:Loc):s.m.get l=t.m.get l:=by
 cases l with
 |slot u g=>simp only[Mem.get,h.ob u]|heap i=>simp only[Mem.get,h.hp]
theorem St.Eqv.app{s t:St}(h:s.Eqv t)(δ:Dl):(s.app δ).Eqv (t.app δ):=
 ⟨fun i=>by simp only[St.app,sV,h.tm i],fun i=>fQ _ _ _ (h.ob i),rfl,by simp only[St.app,h.wl],by simp only[St.app,h.df],by simp only[St.app,h.rc],by simp only[St.app,h.rcd],h.rnd⟩
theorem TU{i:Nat}{s t:St}{δ:Dl}{fp:FP}(h:stepD C call f ops i s=some (δ,fp))(he:s.Eqv t):stepD C call f ops i t=some (δ,fp):=by
 cases ho:ops[i]? with
 |none=>unfold stepD at h;simp[ho]at h|some o=>obtain⟨δ',e0,e1,e2,e3,e4,e5,e6,e7,e8⟩:=rE (s':=t) h ho (fun u _=>(he.tm u).symm) (fun l _=>(he.get l).symm) (fun u _=>(he.ob u).symm) he.rnd.symm (.inr ⟨he.hp.symm,he.rc.symm⟩);rw[e0,Dl.ext' e1 e2 e3 (e7 he.hp.symm) e4 e5 e6]
theorem wO:∀(L:List Nat) {s t s':St} {fps:List (Nat×FP)},jA C call f ops L s=some (s',fps)→s.Eqv t→∃t',jA C call f ops L t=some (t',fps)∧s'.Eqv t'
 |[],s,t,s',fps,h,he=>by simp only[jA,oI,pI]at h;obtain⟨rfl,rfl⟩:=h;exact⟨t,rfl,he⟩
 | i :: r,s,t,s',fps,h,he=>by
  simp only[jA]at h;split at h
  ·rename_i δ fp hs;split at h
   ·rename_i s1 fps1 hr;simp only[oI,pI]at h;obtain⟨rfl,rfl⟩:=h;obtain⟨t',h1,h2⟩:=wO r hr (he.app δ);exact⟨t',by simp only[jA,TU hs he,h1],h2⟩
   ·cases h
  ·cases h
theorem nJ:∀(a b:List Nat) {s s':St} {fps:List (Nat×FP)},jA C call f ops (a++b) s=some (s',fps) ↔
  ∃s1 f1 f2,jA C call f ops a s=some (s1,f1)∧jA C call f ops b s1=some (s',f2)∧fps=f1++f2
 |[],b,s,s',fps=>by
  simp only[List.nil_append,jA,oI,pI];constructor
  ·intro h;exact⟨s,[],fps,⟨rfl,rfl⟩,h,rfl⟩
  ·rintro⟨s1,f1,f2,⟨rfl,rfl⟩,h,rfl⟩;exact h
 | i :: a,b,s,s',fps=>by
  simp only[List.cons_append,jA];cases hs:stepD C call f ops i s with
  |none=>simp| some p =>
   obtain⟨δ,fp⟩:=p;dsimp only;constructor
   ·intro h;split at h
    ·rename_i s1 fps1 hr;simp only[oI,pI]at h;obtain⟨rfl,rfl⟩:=h;obtain⟨s2,f1,f2,h1,h2,rfl⟩:=(nJ a b).1 hr;exact⟨s2,(i,fp)::f1,f2,by rw[h1],h2,rfl⟩
    ·cases h
   ·rintro⟨s2,f1,f2,h1,h2,rfl⟩;split at h1
    ·rename_i s1 fps1 hr;simp only[oI,pI]at h1;obtain⟨rfl,rfl⟩:=h1;rw[(nJ a b).2 ⟨s1,fps1,f2,hr,h2,rfl⟩];rfl
    ·cases h1
theorem EO(hcf:mG call){i:Nat}{oi:Oper}(hi:ops[i]?=some oi):∀(T:List Nat) {s s':St} {fps:List (Nat×FP)},n≤s.m.hp.length→jA C call f ops (T++[i]) s=some (s',fps)→
  (∀j∈T,∃oj,ops[j]?=some oj∧Oper.apart ops oj oi=true)→(∀j a b,j∈T→(j,a)∈fps→(i,b)∈fps→yJ n a b)→
  ∃s'' fps',jA C call f ops (i::T) s=some (s'',fps')∧s'.Eqv s''∧∀p,p∈fps'↔p∈fps
 |[],s,s',fps,_,h,_,_=>⟨s',fps,h,.refl _,fun _=>Iff.rfl⟩| j :: T,s,s',fps,hn,h,ha,hp=>by
  obtain⟨oj,hj,hap⟩:=ha j (.head _);simp only[List.cons_append,jA]at h;split at h
  ·rename_i δj fj hs;split at h
   ·rename_i s1 fps1 hr;simp only[oI,pI]at h;obtain⟨rfl,rfl⟩:=h;have hn1:n≤(s.app δj).m.hp.length:=Nat.le_trans hn (sF (n:=0) hcf hs).1.len;obtain⟨s2,fps2,r1,r2,r3⟩:=EO hcf hi T hn1 hr (fun k hk=>ha k (.tail _ hk)) (fun k a b hk h1 h2=>hp k a b (.tail _ hk) (.tail _ h1) (.tail _ h2));simp only[jA]at r1;split at r1
    ·rename_i δi fi hsi;split at r1
     ·rename_i s3 fps3 hr3;simp only[oI,pI]at r1;obtain⟨rfl,rfl⟩:=r1;have hfi:(i,fi)∈fps1:=(r3 _).1 (.head _);obtain⟨δi',δj',g1,g2,g3⟩:=swap hcf hj hi hap hs hsi hn (hp j fj fi (.head _) (.head _) (.tail _ hfi));obtain⟨s4,q1,q2⟩:=wO T hr3 g3;refine⟨s4,(i,fi)::(j,fj)::fps3,by simp only[jA,g1,g2,q1],r2.trans q2,fun p=>?_⟩;simp only[List.mem_cons,←r3 p];constructor
      ·rintro(h|h|h)
       ·exact .inr (.inl h)
       ·exact .inl h
       ·exact .inr (.inr h)
      ·rintro(h|h|h)
       ·exact .inr (.inl h)
       ·exact .inl h
       ·exact .inr (.inr h)
     ·cases r1
    ·cases r1
   ·cases h
  ·cases h
structure RY(ops:Array Oper)(b:Array Nat)(ps:List (Nat×Nat)):Prop where
 back:∀(i:Nat) (o:Oper) (e:Edge),ops[i]?=some o→e∈o.after→Region.binds .any e=true→e.on<i
 before:∀(i j:Nat) (o:Oper),ops[i]?=some o→j<i→(b.getD i 0).testBit j=true→∃e∈o.after,Region.binds .any e=true∧(e.on=j∨e.on<i∧j<e.on∧(b.getD e.on 0).testBit j=true)
 apart:∀(i j:Nat) (o:Oper),ops[i]?=some o→j<i→(b.getD i 0).testBit j=false→∃p,ops[j]?=some p∧Oper.apart ops p o=true∧(eH p.op=true∨eH o.op=true∨(j,i)∈ps)
theorem Hl{b:Array Nat}{ps:List (Nat×Nat)}(h:FI ops b ps=true):RY ops b ps:=by
 unfold FI at h;rw[List.all_eq_true]at h
 have at_:∀(i:Nat) (o:Oper),ops[i]?=some o→(o.after.toList.all fun e=>!Region.binds .any e || Nat.blt e.on i)=true∧((List.range i).all fun j=>
   bif (b.getD i 0).testBit j then o.after.toList.any fun e=>Region.binds .any e&&((e.on==j) || (Nat.blt e.on i&&Nat.blt j e.on&&(b.getD e.on 0).testBit j))
   else match ops[j]? with
    |none=>false|some p=>Oper.apart ops p o&&(eH p.op || eH o.op || ps.contains (j,i)))=true:=fun i o ho=>by
  have:=h i (List.mem_range.2 (Array.getElem?_eq_some_iff.1 ho).1);rw[ho]at this;exact(Bool.and_eq_true _ _).mp this
 refine⟨fun i o e ho he hb=>?_,fun i j o ho hj hb=>?_,fun i j o ho hj hb=>?_⟩
 ·have:=List.all_eq_true.1 (at_ i o ho).1 e (by simpa using he);simp only[hb,Bool.not_true,Bool.false_or,Nat.blt_eq]at this;exact this
 ·have:=List.all_eq_true.1 (at_ i o ho).2 j (List.mem_range.2 hj);simp only[hb,cond_true,List.any_eq_true,Bool.and_eq_true,Bool.or_eq_true,beq_iff_eq,Nat.blt_eq]at this;obtain⟨e,he,h1,h2⟩:=this;exact⟨e,by simpa using he,h1,h2.imp id fun h=>⟨h.1.1,h.1.2,h.2⟩⟩
 ·have:=List.all_eq_true.1 (at_ i o ho).2 j (List.mem_range.2 hj);simp only[hb,cond_false]at this;split at this
  ·cases this
  ·rename_i p hp;simp only[Bool.and_eq_true,Bool.or_eq_true,List.contains_iff_mem]at this;exact⟨p,hp,this.1,by rcases this.2 with (h|h)|h<;>simp[h]⟩
def left(n:Nat)(listed:Array Bool):List Nat:=(List.range n).filter fun i=>!listed.getD i true
theorem mem_left{n i:Nat}{listed:Array Bool}:i∈left n listed↔i<n∧listed.getD i true=false:=by simp[left]
theorem OM{n i:Nat}{listed:Array Bool}(h:i∈left n listed)(hs:listed.size=n):∃T1 T2,left n listed=T1++i::T2∧left n (listed.setIfInBounds i true)=T1++T2∧∀j∈T1,j<i∧listed.getD j true=false:=by
 obtain⟨hi,hl⟩:=mem_left.1 h;have hr:List.range n=List.range i++i::List.range' (i+1) (n-(i+1)):=by
  rw[List.range_eq_range',List.range_eq_range'];have:n=i+(1+(n-(i+1))):=by omega
  conv=>lhs;rw[this]
  rw[←List.range'_append_1,←List.range'_append_1];simp
 refine⟨(List.range i).filter fun j=>!listed.getD j true,(List.range' (i+1) (n-(i+1))).filter fun j=>!listed.getD j true,?_,?_,fun j hj=>?_⟩
 ·unfold left;rw[hr,List.filter_append,List.filter_cons,hl];simp
 ·unfold left;rw[hr,List.filter_append,List.filter_cons];have h0:(listed.setIfInBounds i true).getD i true=true:=by simp[hs,hi]
  rw[h0];simp only[Bool.not_true,Bool.false_eq_true,if_false];congr 1
  ·refine List.filter_congr fun j hj=>?_;rw[getD_set_ne true (show i≠j from fun e=>by have:=List.mem_range.1 hj;omega)]
  ·refine List.filter_congr fun j hj=>?_;rw[getD_set_ne true (show i≠j from fun e=>by have:=(List.mem_range'_1.1 hj).1;omega)]
 ·simp only[List.mem_filter,List.mem_range,Bool.not_eq_true']at hj;exact hj
theorem OZ (hcf:mG call) {b:Array Nat} {ps:List (Nat × Nat)} (hok:RY ops b ps):∀ (fuel t:Nat) (listed:Array Bool) {s s':St} {fps:List (Nat × FP)},listed.size=ops.size →
  (left ops.size listed).length≤fuel→n≤s.m.hp.length→jA C call f ops (left ops.size listed) s=some (s',fps)→
  (∀(i:Nat) (o:Oper) (e:Edge),listed.getD i true=true→ops[i]?=some o→e∈o.after→Region.binds .any e=true→listed.getD e.on false=true)→
  (∀j i a c,(j,a)∈fps→(i,c)∈fps→j<i→(b.getD i 0).testBit j=false→yJ n a c)→
  ∃s'' fps',jA C call f ops (Region.linearise.go .any ops fuel t listed []) s=some (s'',fps')∧s'.Eqv s'':=by
 intro fuel;induction fuel with
 |zero=>intro t listed s s' fps hs hl hn hr hcl hin;have:left ops.size listed=[]:=List.eq_nil_of_length_eq_zero (by omega);rw[this]at hr;exact⟨s',fps,by simpa[Region.linearise.go]using hr,.refl _⟩
 | succ fuel ih =>
  intro t listed s s' fps hs hl hn hr hcl hin;simp only[Region.linearise.go]
  change ∃s'' fps',jA C call f ops (match(Region.ready .any ops listed)[t%(Region.ready .any ops listed).length]? with
   |some i=>Region.linearise.go .any ops fuel (t/(Region.ready .any ops listed).length) (listed.setIfInBounds i true) [i]|none=>[].reverse) s=some (s'',fps')∧s'.Eqv s''
  have lst:∀j,j<ops.size→listed.getD j true=true→listed.getD j false=true:=fun j hj h=>by
   have hj':j<listed.size:=by omega
   simpa[Array.getElem?_eq_getElem hj']using h
  have closed:∀i o j,ops[i]?=some o→(∀e∈o.after,Region.binds .any e=true→listed.getD e.on false=true)→j<i→(b.getD i 0).testBit j=true→listed.getD j false=true:=by
   intro i;induction i using Nat.strongRecOn with
   | _ i ihi =>
    intro o j ho hpre hj hb;obtain⟨e,he,hbn,h|⟨h1,h2,h3⟩⟩:=hok.before i j o ho hj hb
    ·exact h▸hpre e he hbn
    ·have hlt:e.on<ops.size:=by have:=(Array.getElem?_eq_some_iff.1 ho).1;omega
     have hle:=hpre e he hbn;have hlt':listed.getD e.on true=true:=by
      have hj':e.on<listed.size:=by omega
      simpa[Array.getElem?_eq_getElem hj']using hle
     exact ihi e.on h1 _ j (Array.getElem?_eq_getElem hlt) (fun e' he' hb'=>hcl e.on _ e' hlt' (Array.getElem?_eq_getElem hlt) he' hb') h2 h3
  cases hi:(Region.ready .any ops listed)[t%(Region.ready .any ops listed).length]? with
  | none =>
   have hnil:Region.ready .any ops listed=[]:=by
    cases hrd:Region.ready .any ops listed with
    |nil=>rfl|cons x xs=>rw[hrd]at hi;have hlt:t%(x::xs).length<(x::xs).length:=Nat.mod_lt _ (by simp);rw[List.getElem?_eq_getElem hlt]at hi;cases hi
   have hemp:left ops.size listed=[]:=by
    cases hc:left ops.size listed with
    |nil=>rfl| cons x xs =>
     exfalso;have hex:∃k,k∈left ops.size listed:=⟨x,by rw[hc];exact .head _⟩
     have hmin:∀k,k∈left ops.size listed→False:=by
      intro k;induction k using Nat.strongRecOn with
      | _ k ihk =>
       intro hk;obtain⟨hk1,hk2⟩:=mem_left.1 hk;have:k∈Region.ready .any ops listed:=by
        rw[mem_ready];refine⟨hk2,_,Array.getElem?_eq_getElem hk1,fun e he hb=>?_⟩;have hlt:=hok.back k _ e (Array.getElem?_eq_getElem hk1) he hb;cases hle:listed.getD e.on true with
        |true=>exact lst _ (by omega) hle|false=>exact(ihk e.on hlt (mem_left.2 ⟨by omega,hle⟩)).elim
       rw[hnil]at this;cases this
     exact hmin _ hex.choose_spec
   rw[hemp]at hr;exact⟨s',fps,by simpa using hr,.refl _⟩
  | some i =>
   dsimp only;rw[linearise_go_acc,List.reverse_singleton,List.singleton_append];have hrdy:=List.mem_of_getElem? hi;obtain⟨hil,oi,hio,hpre⟩:=mem_ready.1 hrdy;have hisz:i<ops.size:=(Array.getElem?_eq_some_iff.1 hio).1;obtain⟨T1,T2,e1,e2,e3⟩:=OM (mem_left.2 ⟨hisz,hil⟩) hs;have hun:∀j∈T1,(b.getD i 0).testBit j=false:=fun j hj=>by
    obtain⟨h1,h2⟩:=e3 j hj;cases hb:(b.getD i 0).testBit j with
    |false=>rfl|true=>
     have:=closed i oi j hio hpre h1 hb;have hj':j<listed.size:=by omega
     simp[Array.getElem?_eq_getElem hj']at this h2;rw[this]at h2;cases h2
   rw[e1,show T1++i::T2=(T1++[i])++T2 by simp]at hr;obtain⟨s1,f1,f2,r1,r2,rfl⟩:=(nJ _ _).1 hr
   obtain⟨s2,f1',q1,q2,q3⟩:=EO hcf hio T1 hn r1 (fun j hj=>by
    obtain⟨p,hp,hap,_⟩:=hok.apart i j oi hio (e3 j hj).1 (hun j hj)
    exact⟨p,hp,hap⟩) (fun j a c hj h1 h2=>hin j i a c (List.mem_append_left _ h1) (List.mem_append_left _ h2) (e3 j hj).1 (hun j hj))
   obtain⟨s3,p1,p2⟩:=wO T2 r2 q2;simp only[jA]at q1;split at q1
   ·rename_i δ fp hst;split at q1
    ·rename_i s4 f4 hr4;simp only[oI,pI]at q1;obtain⟨rfl,rfl⟩:=q1;have hrest:jA C call f ops (left ops.size (listed.setIfInBounds i true)) (s.app δ)=some (s3,f4++f2):=by rw[e2];exact(nJ _ _).2 ⟨_,f4,f2,hr4,p1,rfl⟩
     have hlen:(left ops.size (listed.setIfInBounds i true)).length≤fuel:=by have:=congrArg List.length e1;rw[e2];simp at this ⊢;omega
     obtain⟨s5,f5,z1,z2⟩:=ih (t/(Region.ready .any ops listed).length) (listed.setIfInBounds i true) (by simpa using hs) hlen (Nat.le_trans hn (sF (n:=0) hcf hst).1.len) hrest
      (fun k o e hk ho he hb=>by
       by_cases hki:i=k
       ·subst hki;rw[hio]at ho;cases ho;exact getD_set_true (hpre e he hb)
       ·rw[getD_set_ne true hki]at hk
        exact getD_set_true (hcl k o e hk ho he hb))
      (fun j k a c h1 h2=>by
       have back:∀p,p∈f4++f2→p∈f1++f2:=fun p hp=>by
        rcases List.mem_append.1 hp with h|h
        ·exact List.mem_append_left _ ((q3 p).1 (.tail _ h))
        ·exact List.mem_append_right _ h
       exact hin j k a c (back _ h1) (back _ h2))
     exact⟨s5,(i,fp)::f5,by simp only[jA,hst,z1],p2.trans z2⟩
    ·cases q1
   ·cases q1
end
end Mw
