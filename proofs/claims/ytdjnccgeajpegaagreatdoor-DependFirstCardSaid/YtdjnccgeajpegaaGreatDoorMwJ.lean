/- DependFirst's tied card holds; no condition beyond the card's own. -/
import Derived.Test.YtdjnccgeajpegaaGreatDoorMwI
import Derived.Test.YtdjnccgeajpegaaGreatDoorMwB
set_option linter.unusedVariables false
set_option linter.unusedSimpArgs false
namespace Mw
open Go
section
variable{C:aY}{E:Env}{m:Mem}{w:World}{f:Nat}{o:Oper}{σ:Operand→Value}{ρ:Operand→V}{g:Rd}
theorem TG{eff:Eff}(hI:Inv C E m w)(hu:Up g m)(hg:∀l o,g l=some o→m.get l=some o)(hρ:∀x,RV E (ρ x) (σ x))(h:jT C f o ρ g=some eff):fF C f o E m w σ eff:=by
 have no:∀{op:Op},o.op=op→(∀ρ':Operand→V,jT C f {o with op:=op} ρ' g=none)→fF C f o E m w σ eff:=fun {op} he hn=>by subst he;have:=hn ρ;rw[h]at this;cases this
 cases ho:o.op with
 |alloc t=>exact Uw ho hI h|box t x=>exact abd ho hI hu hρ h|buildSlice t n ps=>exact BM ho hI hu hρ h|load t x=>exact X0 ho hI hg hρ h|store t a x=>exact TY ho hI hu hg hρ h|convert s d x=>exact Ik ho hI hg hρ h|makeFunc fn a b=>exact Fp ho hI hu hρ h|makeMap t r=>
  cases r with
  |none=>exact I4 ho hI h|some r=>exact no ho fun _=>rfl
 |makeSlice t l c=>exact DJ ho hI hρ h|slice t x lo hi mx=>exact Ut ho hI hu hg hρ h|lookup t x i ok=>exact La ho hI hg hρ h|mapUpdate t mp k x=>exact DT ho hI hu hρ h|mapEntry t mp k=>exact Ff ho hI hg hρ h|entryStore t mp st x=>exact Cc ho hI hu hρ h|range t x=>exact UJ ho hI hρ h|next it b=>
  cases b with
  |true=>exact Yy ho hI hg hρ h|false=>exact no ho fun _=>rfl
 |panic x=>exact TM ho hI hu hρ h|defer c=>
  obtain⟨callee,args,ts⟩:=c;cases callee with
  |value hf=>exact UN ho hI hu hρ h|_=>exact no ho fun _=>rfl
 | call c =>
  obtain⟨callee,args,ts⟩:=c;cases callee with
  |builtin b=>
   cases b with
   |len=>exact ace ho hI hg hρ h|append=>exact Kq ho hI hg hρ h|copy=>exact Yc ho hI hg hρ h|clear=>exact UQ ho hI hg hρ h|recover=>exact IC ho h|_=>exact no ho fun _=>rfl
  |_=>exact no ho fun _=>rfl
 |_=>exact no ho fun _=>rfl
end
structure St.Eqv(s t:St):Prop where
 tm:∀i,look i s.tm=look i t.tm
 ob:∀i,look i s.m.ob=look i t.m.ob
 hp:s.m.hp=t.m.hp
 wl:s.m.wl=t.m.wl
 df:s.df=t.df
 rc:s.rc=t.rc
 rcd:s.rcd=t.rcd
 rnd:s.rnd=t.rnd
theorem St.Eqv.refl(s:St):s.Eqv s:=⟨fun _=>rfl,fun _=>rfl,rfl,rfl,rfl,rfl,rfl,rfl⟩
theorem St.Eqv.symm{s t:St}(h:s.Eqv t):t.Eqv s:=⟨fun i=>(h.tm i).symm,fun i=>(h.ob i).symm,h.hp.symm,h.wl.symm,h.df.symm,h.rc.symm,h.rcd.symm,h.rnd.symm⟩
theorem St.Eqv.trans{s t u:St}(h:s.Eqv t)(h':t.Eqv u):s.Eqv u:=
 ⟨fun i=>(h.tm i).trans (h'.tm i),fun i=>(h.ob i).trans (h'.ob i),h.hp.trans h'.hp,h.wl.trans h'.wl,h.df.trans h'.df,h.rc.trans h'.rc,h.rcd.trans h'.rcd,h.rnd.trans h'.rnd⟩
def dB:List (Nat×Nat×O)→List (Nat×Nat×O)→List (Nat×Nat×O)
 |[],ob=>ob|(t,p)::r,ob=>dB r (ins t p ob)
def uH(dst:Option Tmp)(v:V)(tm:List (Nat×V)):List (Nat×V):=match dst with
 |some t=>ins t v tm|none=>tm
def jd:List (Loc×O)→List (Nat×Nat×O)
 |[]=>[]|(.slot t g,o)::r=>(t,g,o)::jd r|_::r=>jd r
structure Dl where
 dst:Option Tmp
 v:V
 w:List (Nat×Nat×O)
 hp:List O
 wl:Nat
 df:List DR
 rcv:Bool
def St.app(s:St)(δ:Dl):St where
 tm:=uH δ.dst δ.v s.tm
 m:={ob:=dB δ.w s.m.ob,hp:=δ.hp,wl:=s.m.wl ||| δ.wl}
 df:=δ.df++s.df
 rc:=bif δ.rcv then some none else s.rc
 rcd:=δ.rcv || s.rcd
 rnd:=s.rnd
theorem dH{t:Nat}:∀(w:List (Nat×Nat×O)) (ob:List (Nat×Nat×O)),(∀p∈w,p.1≠t)→look t (dB w ob)=look t ob
 |[],_,_=>rfl|(u,p)::r,ob,h=>by rw[dB,dH r _ fun p hp=>h p (.tail _ hp),iP,if_neg fun e=>h (u,p) (.head _) e.symm]
theorem fQ{t:Nat}:∀(w:List (Nat×Nat×O)) (ob ob':List (Nat×Nat×O)),look t ob=look t ob'→look t (dB w ob)=look t (dB w ob')
 |[],_,_,h=>h|(u,p)::r,ob,ob',h=>by rw[dB,dB];refine fQ r _ _ ?_;rw[iP,iP,h]
theorem um(a b ob:List (Nat×Nat×O)):dB (a++b) ob=dB b (dB a ob):=by
 induction a generalizing ob with
 |nil=>rfl|cons p a ih=>obtain⟨t,p⟩:=p;exact ih _
theorem xQ(wa wb ob:List (Nat×Nat×O))(hd:∀p∈wa,∀q∈wb,p.1≠q.1)(t:Nat):look t (dB wb (dB wa ob))=look t (dB wa (dB wb ob)):=by
 by_cases h:∃p∈wa,p.1=t
 ·obtain⟨p,hp,rfl⟩:=h;rw[dH wb _ fun q hq=>(hd p hp q hq).symm];exact fQ wa _ _ (dH wb _ fun q hq=>(hd p hp q hq).symm).symm
 ·have h':∀p∈wa,p.1≠t:=fun p hp e=>h ⟨p,hp,e⟩;rw[dH wa _ h'];exact fQ wb _ _ (dH wa _ h')
theorem sV(dst:Option Tmp)(v:V)(tm:List (Nat×V))(t:Nat):look t (uH dst v tm)=if dst=some t then some v else look t tm:=by
 cases dst with
 |none=>simp[uH]|some d=>
  simp only[uH,iP,oI];by_cases h:t=d
  ·simp[h]
  ·rw[if_neg h,if_neg fun e=>h e.symm]
theorem Cf(da db:Option Tmp)(va vb:V)(tm:List (Nat×V))(hd:∀t,da=some t→db≠some t)(t:Nat) :
  look t (uH db vb (uH da va tm))=look t (uH da va (uH db vb tm)):=by
 simp only[sV];by_cases h1:da=some t
 ·have:=hd t h1;simp[h1,this]
 ·simp[h1]
theorem Mem.sets_eq(m:Mem):∀ss:List (Loc×O),m.sets ss={ob:=dB (jd ss) m.ob,hp:=setH m.hp ss,wl:=m.wl ||| bitsOf ss}:=by
 intro ss;induction ss generalizing m with
 |nil=>simp[Mem.sets,jd,dB,setH,bitsOf]|cons p r ih=>
  obtain⟨l,o⟩:=p;cases l with
  |slot t g=>rw[Mem.sets,ih];simp[Mem.set,jd,dB,setH,bitsOf]|heap i=>rw[Mem.sets,ih];simp[Mem.set,jd,setH,bitsOf,Nat.or_assoc]
theorem uG:∀ss:List (Loc×O),slotsOf ss=(jd ss).map (·.1)
 |[]=>rfl|(.slot t g,o)::r=>by simp[slotsOf,jd,uG r]|(.heap i,o)::r=>by simp[slotsOf,jd,uG r]
theorem kZ(i j:Nat):(1 <<< i:Nat).testBit j=decide (i=j):=by rw[Nat.shiftLeft_eq,Nat.one_mul];exact Nat.testBit_two_pow
theorem dF:∀(ss:List (Loc×O)) (hp:List O),(setH hp ss).length=hp.length
 |[],_=>rfl|(.slot t g,o)::r,hp=>by simp only[setH];exact dF r hp|(.heap i,o)::r,hp=>by simp only[setH];rw[dF r];simp
theorem jf:∀(ss:List (Loc×O)) (hp:List O) (i:Nat),(bitsOf ss).testBit i=false→(setH hp ss)[i]?=hp[i]?
 |[],_,_,_=>rfl|(.slot t g,o)::r,hp,i,h=>by simp only[setH];exact jf r hp i (by simpa[bitsOf]using h)|(.heap j,o)::r,hp,i,h=>by simp only[bitsOf,Nat.testBit_or,kZ,Bool.or_eq_false_iff,decide_eq_false_iff_not]at h;simp only[setH];rw[jf r _ i h.2,List.getElem?_set,if_neg h.1]
theorem nG:∀(ss:List (Loc×O)),bitsOf ss=0→∀hp,setH hp ss=hp
 |[],_,_=>rfl|(.slot t g,o)::r,h,hp=>by simp only[setH];exact nG r (by simpa[bitsOf]using h) hp|(.heap j,o)::r,h,hp=>by have:=congrArg (fun n=>n.testBit j) h;simp[bitsOf,Nat.testBit_or]at this
section
variable(C:aY)(f:Nat)
def jG (o:Oper) (ls:List Loc) (s:St):Out→Option (Dl × FP)
 | .eff (.val v ss)=>some (⟨o.dst,v,jd ss,setH s.m.hp ss,bitsOf ss,[],false⟩,{rd:=ls,ws:=slotsOf ss,wh:=bitsOf ss})| .eff (.skip ss)=>some (⟨o.dst,.tuple [],jd ss,setH s.m.hp ss,bitsOf ss,[],false⟩,{rd:=ls,ws:=slotsOf ss,wh:=bitsOf ss})| .eff (.new ob mk ss)=>match o.dst with
  | some t=>bif C.esc f t then
    some (⟨some t,mk (.heap (setH s.m.hp ss).length),jd ss,setH s.m.hp ss++[ob],bitsOf ss,[],false⟩,{rd:=ls,ws:=slotsOf ss,wh:=bitsOf ss,gh:=true})
   else
    some (⟨some t,mk (.slot t (dY t (dB (jd ss) s.m.ob))),jd ss++[(t,dY t (dB (jd ss) s.m.ob),ob)],setH s.m.hp ss,bitsOf ss,[],false⟩,{rd:=ls,ws:=t::slotsOf ss,wh:=bitsOf ss})
  |none=>none
 | .eff (.dfr d)=>match s.rnd with
  |some _=>none|none=>some (⟨o.dst,.tuple [],[],s.m.hp,0,[d],false⟩,{rd:=ls,rh:=true,gh:=true})
 | .eff (.pan _)=>none| .eff .recov=>match s.rc with
  |some (some v)=>some (⟨o.dst,v,[],s.m.hp,0,[],true⟩,{rd:=ls,rh:=true,gh:=true})|some none=>some (⟨o.dst,.d .nili,[],s.m.hp,0,[],false⟩,{rd:=ls,rh:=true,gh:=true})|none=>none
 | .call (.ret v) ss hp wl=>some (⟨o.dst,v,jd ss,hp,bitsOf ss ||| wl,[],false⟩,{rd:=ls,ws:=slotsOf ss,wh:=bitsOf ss ||| wl,rh:=true,gh:=!(hp.length==(setH s.m.hp ss).length)})| .call (.pan _) _ _ _=>none
theorem put_eq(dst:Option Tmp)(v:V)(s:St):put dst v s={s with tm:=uH dst v s.tm}:=by cases dst<;>rfl
theorem qG(o:Oper)(ls:List Loc)(s s':St)(fp:FP)(out:Out) :
  aO C f o ls s out=some (.normal,s',fp)↔∃δ,jG C f o ls s out=some (δ,fp)∧s'=s.app δ:=by
 cases out with
 | eff e =>
  cases e with
  |val v ss=>
   simp only[aO,jG,put_eq,Mem.sets_eq,oI,pI,true_and,St.app];constructor
   ·rintro⟨rfl,rfl⟩;exact⟨_,⟨rfl,rfl⟩,by simp⟩
   ·rintro⟨δ,⟨rfl,rfl⟩,rfl⟩;simp
  |skip ss=>
   simp only[aO,jG,put_eq,Mem.sets_eq,oI,pI,true_and,St.app];constructor
   ·rintro⟨rfl,rfl⟩;exact⟨_,⟨rfl,rfl⟩,by simp⟩
   ·rintro⟨δ,⟨rfl,rfl⟩,rfl⟩;simp
  | new ob mk ss =>
   simp only[aO,jG,Mem.sets_eq];cases o.dst with
   |none=>simp| some t =>
    dsimp only;cases hE:C.esc f t with
    |true=>
     simp only[cond_true,oI,pI,true_and,St.app];constructor
     ·rintro⟨rfl,rfl⟩;exact⟨_,⟨rfl,rfl⟩,by simp[uH]⟩
     ·rintro⟨δ,⟨rfl,rfl⟩,rfl⟩;simp[uH]
    |false=>
     simp only[cond_false,oI,pI,true_and,St.app];constructor
     ·rintro⟨rfl,rfl⟩;exact⟨_,⟨rfl,rfl⟩,by simp[uH,um,dB]⟩
     ·rintro⟨δ,⟨rfl,rfl⟩,rfl⟩;simp[uH,um,dB]
  | dfr d =>
   simp only[aO,jG,put_eq];cases hr:s.rnd with
   |some l=>simp|none=>
    simp only[oI,pI,true_and,St.app];constructor
    ·rintro⟨rfl,rfl⟩;exact⟨_,⟨rfl,rfl⟩,by simp[dB,hr]⟩
    ·rintro⟨δ,⟨rfl,rfl⟩,rfl⟩;simp[dB,hr]
  |pan v=>simp[aO,jG]| recov =>
   simp only[aO,jG,put_eq];cases hr:s.rc with
   |none=>simp| some q =>
    cases q with
    |none=>
     simp only[oI,pI,true_and,St.app];constructor
     ·rintro⟨rfl,rfl⟩;exact⟨_,⟨rfl,rfl⟩,by simp[dB,hr]⟩
     ·rintro⟨δ,⟨rfl,rfl⟩,rfl⟩;simp[dB,hr]
    |some v=>
     simp only[oI,pI,true_and,St.app];constructor
     ·rintro⟨rfl,rfl⟩;exact⟨_,⟨rfl,rfl⟩,by simp[dB]⟩
     ·rintro⟨δ,⟨rfl,rfl⟩,rfl⟩;simp[dB]
 | call r ss hp wl =>
  cases r with
  |ret v=>
   simp only[aO,jG,put_eq,Mem.sets_eq,oI,pI,true_and,St.app];constructor
   ·rintro⟨rfl,rfl⟩;exact⟨_,⟨rfl,rfl⟩,by simp[Nat.or_assoc]⟩
   ·rintro⟨δ,⟨rfl,rfl⟩,rfl⟩;simp[Nat.or_assoc]
  |pan v=>simp[aO,jG]
end
theorem gm{α:Type}{ρ ρ':Operand→α}{xs:Array Operand}(h:∀x∈xs,ρ x=ρ' x):xs.toList.map ρ=xs.toList.map ρ':=
 List.map_congr_left fun x hx=>h x (Array.mem_toList_iff.1 hx)
theorem yS{α β:Type}{ρ ρ':Operand→α}{ps:Array (Nat×Operand)}(h:∀x∈((ps.toList.map (·.2)).toArray:Array Operand),ρ x=ρ' x)(g:Nat→α→β):(ps.toList.map fun p=>g p.1 (ρ p.2))=ps.toList.map fun p=>g p.1 (ρ' p.2):=
 List.map_congr_left fun p hp=>by rw[h p.2 (by simp only[List.mem_toArray,List.mem_map];exact⟨p,hp,rfl⟩)]
variable{C:aY}{f:Nat}{o:Oper}{ρ ρ':Operand→V}{g:Rd}
theorem Ue(h:∀x∈o.op.operands,ρ x=ρ' x):J7 C o ρ=J7 C o ρ':=by
 obtain⟨dst,op,type,pos,after,guard⟩:=o;cases op<;>simp only[Op.operands]at h<;>unfold J7<;>dsimp only
 case move x=>rw[h x (by simp)]
 case assign x=>rw[h x (by simp)]
 case pick c a b=>rw[h c (by simp),h a (by simp),h b (by simp)]
 case build t ps=>rw[yS h (fun i v=>(i,v))]
 case nilCheck x=>rw[h x (by simp)]
 case binOp op t x y yt=>rw[h x (by simp),h y (by simp)]
 case unOp op t x=>rw[h x (by simp)]
 case makeInterface t x=>rw[h x (by simp)]
 case fieldAddr s x i=>rw[h x (by simp)]
 case field t x i=>rw[h x (by simp)]
 case indexAddr t x i=>rw[h x (by simp),h i (by simp)]
 case index t x i=>rw[h x (by simp),h i (by simp)]
 case typeAssert x t a ok=>rw[h x (by simp)]
 case extract t i=>rw[h t (by simp)]
 case call c=>
  obtain⟨callee,args,ts⟩:=c;have ha:args.toList.map ρ=args.toList.map ρ':=gm fun x hx=>h x (by simp[Call.operands,hx]);cases callee with
  |builtin b=>cases b<;>dsimp only<;>rw[ha]|_=>rfl
theorem Ud(h:∀x∈o.op.operands,ρ x=ρ' x):jT C f o ρ g=jT C f o ρ' g:=by
 obtain⟨dst,op,type,pos,after,guard⟩:=o;cases op<;>simp only[Op.operands]at h<;>unfold jT<;>dsimp only
 case box e x=>rw[h x (by simp)]
 case buildSlice t n ps=>rw[yS h (fun _ v=>v)]
 case load t a=>rw[h a (by simp)]
 case store t a x=>rw[h a (by simp),h x (by simp)]
 case convert s d x=>rw[h x (by simp)]
 case makeFunc fn first caps=>
  have h1:first.toList.map ρ=first.toList.map ρ':=gm fun x hx=>h x (by simp[hx]);have h2:caps.toList.map ρ=caps.toList.map ρ':=gm fun x hx=>h x (by simp[hx]);cases fn<;>dsimp only<;>rw[h1,h2]
 case makeMap t r=>cases r<;>rfl
 case makeSlice t l c=>rw[h l (by simp),h c (by simp)]
 case slice t x lo hi mx=>
  have hx:=h x (by simp);have e:∀y:Option Operand,(∀z,y=some z→ρ z=ρ' z)→y.map ρ=y.map ρ':=fun y hy=>by cases y with|none=>rfl|some z=>simp[hy z rfl]
  have h1:=e lo fun z hz=>h z (by simp[hz]);have h2:=e hi fun z hz=>h z (by simp[hz]);have h3:=e mx fun z hz=>h z (by simp[hz]);rw[hx,h1,h2,h3]
 case lookup t x i ok=>rw[h x (by simp),h i (by simp)]
 case mapUpdate t mp k x=>rw[h mp (by simp),h k (by simp),h x (by simp)]
 case mapEntry t mp k=>rw[h mp (by simp),h k (by simp)]
 case entryStore t mp st x=>rw[h mp (by simp),h st (by simp),h x (by simp)]
 case range t x=>rw[h x (by simp)]
 case next it b=>cases b<;>dsimp only<;>rw[h it (by simp)]
 case panic x=>rw[h x (by simp)]
 case call c=>
  obtain⟨callee,args,ts⟩:=c;have ha:args.toList.map ρ=args.toList.map ρ':=gm fun x hx=>h x (by simp[Call.operands,hx]);cases callee with
  |builtin b=>cases b<;>dsimp only<;>rw[ha]|_=>rfl
 case defer c=>
  obtain⟨callee,args,ts⟩:=c;have ha:args.toList.map ρ=args.toList.map ρ':=gm fun x hx=>h x (by simp[Call.operands,hx]);cases callee with
  |value fv=>have hf:ρ fv=ρ' fv:=h fv (by simp[Call.operands]);dsimp only;rw[ha,hf]
  |_=>rfl
theorem Ib{call:bK}{hp:List O}(h:∀x∈o.op.operands,ρ x=ρ' x):fD C call f o ρ g hp=fD C call f o ρ' g hp:=by
 have h1:=Ue (C:=C) h;have h2:=Ud (C:=C) (f:=f) (g:=g) h;unfold fD;rw[h1,h2];obtain⟨dst,op,type,pos,after,guard⟩:=o;cases op<;>dsimp only
 case call c=>
  obtain⟨callee,args,ts⟩:=c;simp only[Op.operands]at h;have ha:args.toList.map ρ=args.toList.map ρ':=gm fun x hx=>h x (by simp[Call.operands,hx]);cases callee with
  |builtin b=>rfl|value fv=>have hf:ρ fv=ρ' fv:=h fv (by simp[Call.operands]);dsimp only;rw[ha,hf]
  |invoke r m=>have hf:ρ r=ρ' r:=h r (by simp[Call.operands]);dsimp only;rw[ha,hf]
theorem YZ{call:bK}{hp hp':List O}{e:Eff}(h:fD C call f o ρ g hp=some (.eff e)):fD C call f o ρ g hp'=some (.eff e):=by
 have nc:∀(ss:List (Loc×O)) r,fP ss r≠some (.eff e):=fun ss r hc=>by unfold fP at hc;split at hc<;>cases hc
 unfold fD at h ⊢;cases hp:eH o.op with
 |true=>simp only[hp,cond_true]at h ⊢;exact h| false =>
  simp only[hp,cond_false]at h ⊢;split at h
  ·split at h
   ·split at h
    ·exact absurd h (nc _ _)
    ·cases h
   ·cases h
  ·split at h
   ·split at h
    ·exact absurd h (nc _ _)
    ·cases h
   ·cases h
  ·exact h
theorem Ij{s t:St}{x:Operand}(h:∀i,x=.tmp i→look i s.tm=look i t.tm):bJ C s x=bJ C t x:=by
 cases x with
 |tmp i=>simp only[bJ,xK];rw[h i rfl]|_=>rfl
end Mw
