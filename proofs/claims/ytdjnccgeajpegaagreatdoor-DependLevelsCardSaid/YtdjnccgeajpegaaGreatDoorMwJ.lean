/- DependLevels answers true for every list of numbers: its tied card holds; no condition beyond the card's own. -/
import Derived.Test.YtdjnccgeajpegaaGreatDoorMwI
import Derived.Test.YtdjnccgeajpegaaGreatDoorMwB
set_option linter.unusedVariables false
set_option linter.unusedSimpArgs false
namespace Mw
open Go
section
variable {C:Cfg} {E:Env} {m:Mem} {w:World} {f:Nat} {o:Oper} {σ:Operand→Value} {ρ:Operand→V} {g:Rd}
theorem opM_sound {eff:Eff} (hI:Inv C E m w) (hu:Up g m) (hg:∀ l o,g l=some o→m.get l=some o) (hρ:∀ x,RV E (ρ x) (σ x)) (h:opM C f o ρ g=some eff):EffOk C f o E m w σ eff:=by
 have no:∀ {op:Op},o.op=op→(∀ ρ':Operand→V,opM C f { o with op:=op } ρ' g=none)→EffOk C f o E m w σ eff:=fun {op} he hn=>by
  subst he
  have:=hn ρ
  rw [h] at this; cases this
 cases ho:o.op with
 | alloc t=>exact eff_alloc ho hI h
 | box t x=>exact eff_box ho hI hu hρ h
 | buildSlice t n ps=>exact eff_buildSlice ho hI hu hρ h
 | load t x=>exact eff_load ho hI hg hρ h
 | store t a x=>exact eff_store ho hI hu hg hρ h
 | convert s d x=>exact eff_convert ho hI hg hρ h
 | makeFunc fn a b=>exact eff_makeFunc ho hI hu hρ h
 | makeMap t r =>
  cases r with
  | none=>exact eff_makeMap ho hI h
  | some r=>exact no ho fun _=>rfl
 | makeSlice t l c=>exact eff_makeSlice ho hI hρ h
 | slice t x lo hi mx=>exact eff_slice ho hI hu hg hρ h
 | lookup t x i ok=>exact eff_lookup ho hI hg hρ h
 | mapUpdate t mp k x=>exact eff_mapUpdate ho hI hu hρ h
 | mapEntry t mp k=>exact eff_mapEntry ho hI hg hρ h
 | entryStore t mp st x=>exact eff_entryStore ho hI hu hρ h
 | range t x=>exact eff_range ho hI hρ h
 | next it b =>
  cases b with
  | true=>exact eff_next ho hI hg hρ h
  | false=>exact no ho fun _=>rfl
 | panic x=>exact eff_panic ho hI hu hρ h
 | defer c =>
  obtain ⟨callee,args,ts⟩:=c
  cases callee with
  | value hf=>exact eff_defer ho hI hu hρ h
  | _=>exact no ho fun _=>rfl
 | call c =>
  obtain ⟨callee,args,ts⟩:=c
  cases callee with
  | builtin b =>
   cases b with
   | len=>exact eff_len ho hI hg hρ h
   | append=>exact eff_append ho hI hg hρ h
   | copy=>exact eff_copy ho hI hg hρ h
   | clear=>exact eff_clear ho hI hg hρ h
   | recover=>exact eff_recover ho h
   | _=>exact no ho fun _=>rfl
  | _=>exact no ho fun _=>rfl
 | _=>exact no ho fun _=>rfl
end
end Mw
namespace Mw
open Go
structure St.Eqv (s t:St):Prop where
 tm:∀ i,look i s.tm=look i t.tm
 ob:∀ i,look i s.m.ob=look i t.m.ob
 hp:s.m.hp=t.m.hp
 wl:s.m.wl=t.m.wl
 df:s.df=t.df
 rc:s.rc=t.rc
 rcd:s.rcd=t.rcd
 rnd:s.rnd=t.rnd
theorem St.Eqv.refl (s:St):s.Eqv s:=⟨fun _=>rfl,fun _=>rfl,rfl,rfl,rfl,rfl,rfl,rfl⟩
theorem St.Eqv.symm {s t:St} (h:s.Eqv t):t.Eqv s:=⟨fun i=>(h.tm i).symm,fun i=>(h.ob i).symm,h.hp.symm,h.wl.symm,h.df.symm,h.rc.symm,h.rcd.symm,h.rnd.symm⟩
theorem St.Eqv.trans {s t u:St} (h:s.Eqv t) (h':t.Eqv u):s.Eqv u :=
 ⟨fun i=>(h.tm i).trans (h'.tm i),fun i=>(h.ob i).trans (h'.ob i),h.hp.trans h'.hp,h.wl.trans h'.wl,h.df.trans h'.df,h.rc.trans h'.rc,h.rcd.trans h'.rcd,h.rnd.trans h'.rnd⟩
def insAll:List (Nat × Nat × O)→List (Nat × Nat × O)→List (Nat × Nat × O)
 | [],ob=>ob
 | (t,p) :: r,ob=>insAll r (ins t p ob)
def putT (dst:Option Tmp) (v:V) (tm:List (Nat × V)):List (Nat × V):=match dst with
 | some t=>ins t v tm
 | none=>tm
def slotW:List (Loc × O)→List (Nat × Nat × O)
 | []=>[]
 | (.slot t g,o) :: r=>(t,g,o) :: slotW r
 | _ :: r=>slotW r
structure Dl where
 dst:Option Tmp
 v:V
 w:List (Nat × Nat × O)
 hp:List O
 wl:Nat
 df:List Dfr
 rcv:Bool
def St.app (s:St) (δ:Dl):St where
 tm:=putT δ.dst δ.v s.tm
 m:={ ob:=insAll δ.w s.m.ob,hp:=δ.hp,wl:=s.m.wl ||| δ.wl }
 df:=δ.df++s.df
 rc:=bif δ.rcv then some none else s.rc
 rcd:=δ.rcv || s.rcd
 rnd:=s.rnd
theorem look_insAll_none {t:Nat}:∀ (w:List (Nat × Nat × O)) (ob:List (Nat × Nat × O)),(∀ p∈w,p.1≠t)→look t (insAll w ob)=look t ob
 | [],_,_=>rfl
 | (u,p) :: r,ob,h=>by
  rw [insAll,look_insAll_none r _ fun p hp=>h p (.tail _ hp),look_ins,if_neg fun e=>h (u,p) (.head _) e.symm]
theorem look_insAll_congr {t:Nat}:∀ (w:List (Nat × Nat × O)) (ob ob':List (Nat × Nat × O)),look t ob=look t ob'→look t (insAll w ob)=look t (insAll w ob')
 | [],_,_,h=>h
 | (u,p) :: r,ob,ob',h=>by
  rw [insAll,insAll]
  refine look_insAll_congr r _ _ ?_
  rw [look_ins,look_ins,h]
theorem insAll_append (a b ob:List (Nat × Nat × O)):insAll (a++b) ob=insAll b (insAll a ob):=by
 induction a generalizing ob with
 | nil=>rfl
 | cons p a ih=>obtain ⟨t,p⟩:=p; exact ih _
theorem look_insAll_comm (wa wb ob:List (Nat × Nat × O)) (hd:∀ p∈wa,∀ q∈wb,p.1≠q.1) (t:Nat):look t (insAll wb (insAll wa ob))=look t (insAll wa (insAll wb ob)):=by
 by_cases h:∃ p∈wa,p.1=t
 ·obtain ⟨p,hp,rfl⟩:=h
  rw [look_insAll_none wb _ fun q hq=>(hd p hp q hq).symm]
  exact look_insAll_congr wa _ _ (look_insAll_none wb _ fun q hq=>(hd p hp q hq).symm).symm
 ·have h':∀ p∈wa,p.1≠t:=fun p hp e=>h ⟨p,hp,e⟩
  rw [look_insAll_none wa _ h']
  exact look_insAll_congr wb _ _ (look_insAll_none wa _ h')
theorem look_putT (dst:Option Tmp) (v:V) (tm:List (Nat × V)) (t:Nat):look t (putT dst v tm)=if dst=some t then some v else look t tm:=by
 cases dst with
 | none=>simp [putT]
 | some d =>
  simp only [putT,look_ins,Option.some.injEq]
  by_cases h:t=d
  ·simp [h]
  ·rw [if_neg h,if_neg fun e=>h e.symm]
theorem look_putT_comm (da db:Option Tmp) (va vb:V) (tm:List (Nat × V)) (hd:∀ t,da=some t→db≠some t) (t:Nat) :
  look t (putT db vb (putT da va tm))=look t (putT da va (putT db vb tm)):=by
 simp only [look_putT]
 by_cases h1:da=some t
 ·have:=hd t h1; simp [h1,this]
 ·simp [h1]
theorem Mem.sets_eq (m:Mem):∀ ss:List (Loc × O),m.sets ss={ ob:=insAll (slotW ss) m.ob,hp:=setH m.hp ss,wl:=m.wl ||| bitsOf ss }:=by
 intro ss
 induction ss generalizing m with
 | nil=>simp [Mem.sets,slotW,insAll,setH,bitsOf]
 | cons p r ih =>
  obtain ⟨l,o⟩:=p
  cases l with
  | slot t g=>rw [Mem.sets,ih]; simp [Mem.set,slotW,insAll,setH,bitsOf]
  | heap i=>rw [Mem.sets,ih]; simp [Mem.set,slotW,setH,bitsOf,Nat.or_assoc]
theorem slotsOf_eq:∀ ss:List (Loc × O),slotsOf ss=(slotW ss).map (·.1)
 | []=>rfl
 | (.slot t g,o) :: r=>by simp [slotsOf,slotW,slotsOf_eq r]
 | (.heap i,o) :: r=>by simp [slotsOf,slotW,slotsOf_eq r]
theorem testBit_shl (i j:Nat):(1 <<< i:Nat).testBit j=decide (i=j):=by
 rw [Nat.shiftLeft_eq,Nat.one_mul]
 exact Nat.testBit_two_pow
theorem setH_length:∀ (ss:List (Loc × O)) (hp:List O),(setH hp ss).length=hp.length
 | [],_=>rfl
 | (.slot t g,o) :: r,hp=>by simp only [setH]; exact setH_length r hp
 | (.heap i,o) :: r,hp=>by simp only [setH]; rw [setH_length r]; simp
theorem setH_get:∀ (ss:List (Loc × O)) (hp:List O) (i:Nat),(bitsOf ss).testBit i=false→(setH hp ss)[i]?=hp[i]?
 | [],_,_,_=>rfl
 | (.slot t g,o) :: r,hp,i,h=>by simp only [setH]; exact setH_get r hp i (by simpa [bitsOf] using h)
 | (.heap j,o) :: r,hp,i,h=>by
  simp only [bitsOf,Nat.testBit_or,testBit_shl,Bool.or_eq_false_iff,decide_eq_false_iff_not] at h
  simp only [setH]
  rw [setH_get r _ i h.2,List.getElem?_set,if_neg h.1]
theorem bitsOf_zero:∀ (ss:List (Loc × O)),bitsOf ss=0→∀ hp,setH hp ss=hp
 | [],_,_=>rfl
 | (.slot t g,o) :: r,h,hp=>by simp only [setH]; exact bitsOf_zero r (by simpa [bitsOf] using h) hp
 | (.heap j,o) :: r,h,hp=>by
  have:=congrArg (fun n=>n.testBit j) h
  simp [bitsOf,Nat.testBit_or] at this
section
variable (C:Cfg) (f:Nat)
def outD (o:Oper) (ls:List Loc) (s:St):Out→Option (Dl × FP)
 | .eff (.val v ss)=>some (⟨o.dst,v,slotW ss,setH s.m.hp ss,bitsOf ss,[],false⟩,{ rd:=ls,ws:=slotsOf ss,wh:=bitsOf ss })
 | .eff (.skip ss)=>some (⟨o.dst,.tuple [],slotW ss,setH s.m.hp ss,bitsOf ss,[],false⟩,{ rd:=ls,ws:=slotsOf ss,wh:=bitsOf ss })
 | .eff (.new ob mk ss)=>match o.dst with
  | some t=>bif C.esc f t then
    some (⟨some t,mk (.heap (setH s.m.hp ss).length),slotW ss,setH s.m.hp ss++[ob],bitsOf ss,[],false⟩,{ rd:=ls,ws:=slotsOf ss,wh:=bitsOf ss,gh:=true })
   else
    some (⟨some t,mk (.slot t (genOf t (insAll (slotW ss) s.m.ob))),slotW ss++[(t,genOf t (insAll (slotW ss) s.m.ob),ob)],setH s.m.hp ss,bitsOf ss,[],false⟩,{ rd:=ls,ws:=t :: slotsOf ss,wh:=bitsOf ss })
  | none=>none
 | .eff (.dfr d)=>match s.rnd with
  | some _=>none
  | none=>some (⟨o.dst,.tuple [],[],s.m.hp,0,[d],false⟩,{ rd:=ls,rh:=true,gh:=true })
 | .eff (.pan _)=>none
 | .eff .recov=>match s.rc with
  | some (some v)=>some (⟨o.dst,v,[],s.m.hp,0,[],true⟩,{ rd:=ls,rh:=true,gh:=true })
  | some none=>some (⟨o.dst,.d .nili,[],s.m.hp,0,[],false⟩,{ rd:=ls,rh:=true,gh:=true })
  | none=>none
 | .call (.ret v) ss hp wl=>some (⟨o.dst,v,slotW ss,hp,bitsOf ss ||| wl,[],false⟩,{ rd:=ls,ws:=slotsOf ss,wh:=bitsOf ss ||| wl,rh:=true,gh:=!(hp.length == (setH s.m.hp ss).length) })
 | .call (.pan _) _ _ _=>none
theorem put_eq (dst:Option Tmp) (v:V) (s:St):put dst v s={ s with tm:=putT dst v s.tm }:=by cases dst<;>rfl
theorem applyOut_normal (o:Oper) (ls:List Loc) (s s':St) (fp:FP) (out:Out) :
  applyOut C f o ls s out=some (.normal,s',fp)↔∃ δ,outD C f o ls s out=some (δ,fp)∧s'=s.app δ:=by
 cases out with
 | eff e =>
  cases e with
  | val v ss =>
   simp only [applyOut,outD,put_eq,Mem.sets_eq,Option.some.injEq,Prod.mk.injEq,true_and,St.app]
   constructor
   ·rintro ⟨rfl,rfl⟩; exact ⟨_,⟨rfl,rfl⟩,by simp⟩
   ·rintro ⟨δ,⟨rfl,rfl⟩,rfl⟩; simp
  | skip ss =>
   simp only [applyOut,outD,put_eq,Mem.sets_eq,Option.some.injEq,Prod.mk.injEq,true_and,St.app]
   constructor
   ·rintro ⟨rfl,rfl⟩; exact ⟨_,⟨rfl,rfl⟩,by simp⟩
   ·rintro ⟨δ,⟨rfl,rfl⟩,rfl⟩; simp
  | new ob mk ss =>
   simp only [applyOut,outD,Mem.sets_eq]
   cases o.dst with
   | none=>simp
   | some t =>
    dsimp only
    cases hE:C.esc f t with
    | true =>
     simp only [cond_true,Option.some.injEq,Prod.mk.injEq,true_and,St.app]
     constructor
     ·rintro ⟨rfl,rfl⟩; exact ⟨_,⟨rfl,rfl⟩,by simp [putT]⟩
     ·rintro ⟨δ,⟨rfl,rfl⟩,rfl⟩; simp [putT]
    | false =>
     simp only [cond_false,Option.some.injEq,Prod.mk.injEq,true_and,St.app]
     constructor
     ·rintro ⟨rfl,rfl⟩; exact ⟨_,⟨rfl,rfl⟩,by simp [putT,insAll_append,insAll]⟩
     ·rintro ⟨δ,⟨rfl,rfl⟩,rfl⟩; simp [putT,insAll_append,insAll]
  | dfr d =>
   simp only [applyOut,outD,put_eq]
   cases hr:s.rnd with
   | some l=>simp
   | none =>
    simp only [Option.some.injEq,Prod.mk.injEq,true_and,St.app]
    constructor
    ·rintro ⟨rfl,rfl⟩; exact ⟨_,⟨rfl,rfl⟩,by simp [insAll,hr]⟩
    ·rintro ⟨δ,⟨rfl,rfl⟩,rfl⟩; simp [insAll,hr]
  | pan v=>simp [applyOut,outD]
  | recov =>
   simp only [applyOut,outD,put_eq]
   cases hr:s.rc with
   | none=>simp
   | some q =>
    cases q with
    | none =>
     simp only [Option.some.injEq,Prod.mk.injEq,true_and,St.app]
     constructor
     ·rintro ⟨rfl,rfl⟩; exact ⟨_,⟨rfl,rfl⟩,by simp [insAll,hr]⟩
     ·rintro ⟨δ,⟨rfl,rfl⟩,rfl⟩; simp [insAll,hr]
    | some v =>
     simp only [Option.some.injEq,Prod.mk.injEq,true_and,St.app]
     constructor
     ·rintro ⟨rfl,rfl⟩; exact ⟨_,⟨rfl,rfl⟩,by simp [insAll]⟩
     ·rintro ⟨δ,⟨rfl,rfl⟩,rfl⟩; simp [insAll]
 | call r ss hp wl =>
  cases r with
  | ret v =>
   simp only [applyOut,outD,put_eq,Mem.sets_eq,Option.some.injEq,Prod.mk.injEq,true_and,St.app]
   constructor
   ·rintro ⟨rfl,rfl⟩; exact ⟨_,⟨rfl,rfl⟩,by simp [Nat.or_assoc]⟩
   ·rintro ⟨δ,⟨rfl,rfl⟩,rfl⟩; simp [Nat.or_assoc]
  | pan v=>simp [applyOut,outD]
end
end Mw
namespace Mw
open Go
theorem map_congr_ops {α:Type} {ρ ρ':Operand→α} {xs:Array Operand} (h:∀ x∈xs,ρ x=ρ' x):xs.toList.map ρ=xs.toList.map ρ' :=
 List.map_congr_left fun x hx=>h x (Array.mem_toList_iff.1 hx)
theorem pairs_congr {α β:Type} {ρ ρ':Operand→α} {ps:Array (Nat × Operand)} (h:∀ x∈((ps.toList.map (·.2)).toArray:Array Operand),ρ x=ρ' x) (g:Nat→α→β):(ps.toList.map fun p=>g p.1 (ρ p.2))=ps.toList.map fun p=>g p.1 (ρ' p.2) :=
 List.map_congr_left fun p hp=>by rw [h p.2 (by simp only [List.mem_toArray,List.mem_map]; exact ⟨p,hp,rfl⟩)]
variable {C:Cfg} {f:Nat} {o:Oper} {ρ ρ':Operand→V} {g:Rd}
theorem opP_congr (h:∀ x∈o.op.operands,ρ x=ρ' x):opP C o ρ=opP C o ρ':=by
 obtain ⟨dst,op,type,pos,after,guard⟩:=o
 cases op<;>simp only [Op.operands] at h<;>unfold opP<;>dsimp only
 case move x=>rw [h x (by simp)]
 case assign x=>rw [h x (by simp)]
 case pick c a b=>rw [h c (by simp),h a (by simp),h b (by simp)]
 case build t ps=>rw [pairs_congr h (fun i v=>(i,v))]
 case nilCheck x=>rw [h x (by simp)]
 case binOp op t x y yt=>rw [h x (by simp),h y (by simp)]
 case unOp op t x=>rw [h x (by simp)]
 case makeInterface t x=>rw [h x (by simp)]
 case fieldAddr s x i=>rw [h x (by simp)]
 case field t x i=>rw [h x (by simp)]
 case indexAddr t x i=>rw [h x (by simp),h i (by simp)]
 case index t x i=>rw [h x (by simp),h i (by simp)]
 case typeAssert x t a ok=>rw [h x (by simp)]
 case extract t i=>rw [h t (by simp)]
 case call c =>
  obtain ⟨callee,args,ts⟩:=c
  have ha:args.toList.map ρ=args.toList.map ρ':=map_congr_ops fun x hx=>h x (by simp [Call.operands,hx])
  cases callee with
  | builtin b=>cases b<;>dsimp only<;>rw [ha]
  | _=>rfl
theorem opM_congr (h:∀ x∈o.op.operands,ρ x=ρ' x):opM C f o ρ g=opM C f o ρ' g:=by
 obtain ⟨dst,op,type,pos,after,guard⟩:=o
 cases op<;>simp only [Op.operands] at h<;>unfold opM<;>dsimp only
 case box e x=>rw [h x (by simp)]
 case buildSlice t n ps=>rw [pairs_congr h (fun _ v=>v)]
 case load t a=>rw [h a (by simp)]
 case store t a x=>rw [h a (by simp),h x (by simp)]
 case convert s d x=>rw [h x (by simp)]
 case makeFunc fn first caps =>
  have h1:first.toList.map ρ=first.toList.map ρ':=map_congr_ops fun x hx=>h x (by simp [hx])
  have h2:caps.toList.map ρ=caps.toList.map ρ':=map_congr_ops fun x hx=>h x (by simp [hx])
  cases fn<;>dsimp only<;>rw [h1,h2]
 case makeMap t r=>cases r<;>rfl
 case makeSlice t l c=>rw [h l (by simp),h c (by simp)]
 case slice t x lo hi mx =>
  have hx:=h x (by simp)
  have e:∀ y:Option Operand,(∀ z,y=some z→ρ z=ρ' z)→y.map ρ=y.map ρ':=fun y hy=>by cases y with | none=>rfl | some z=>simp [hy z rfl]
  have h1:=e lo fun z hz=>h z (by simp [hz])
  have h2:=e hi fun z hz=>h z (by simp [hz])
  have h3:=e mx fun z hz=>h z (by simp [hz])
  rw [hx,h1,h2,h3]
 case lookup t x i ok=>rw [h x (by simp),h i (by simp)]
 case mapUpdate t mp k x=>rw [h mp (by simp),h k (by simp),h x (by simp)]
 case mapEntry t mp k=>rw [h mp (by simp),h k (by simp)]
 case entryStore t mp st x=>rw [h mp (by simp),h st (by simp),h x (by simp)]
 case range t x=>rw [h x (by simp)]
 case next it b=>cases b<;>dsimp only<;>rw [h it (by simp)]
 case panic x=>rw [h x (by simp)]
 case call c =>
  obtain ⟨callee,args,ts⟩:=c
  have ha:args.toList.map ρ=args.toList.map ρ':=map_congr_ops fun x hx=>h x (by simp [Call.operands,hx])
  cases callee with
  | builtin b=>cases b<;>dsimp only<;>rw [ha]
  | _=>rfl
 case defer c =>
  obtain ⟨callee,args,ts⟩:=c
  have ha:args.toList.map ρ=args.toList.map ρ':=map_congr_ops fun x hx=>h x (by simp [Call.operands,hx])
  cases callee with
  | value fv =>
   have hf:ρ fv=ρ' fv:=h fv (by simp [Call.operands])
   dsimp only
   rw [ha,hf]
  | _=>rfl
theorem opOut_congr {call:CallF} {hp:List O} (h:∀ x∈o.op.operands,ρ x=ρ' x):opOut C call f o ρ g hp=opOut C call f o ρ' g hp:=by
 have h1:=opP_congr (C:=C) h
 have h2:=opM_congr (C:=C) (f:=f) (g:=g) h
 unfold opOut
 rw [h1,h2]
 obtain ⟨dst,op,type,pos,after,guard⟩:=o
 cases op<;>dsimp only
 case call c =>
  obtain ⟨callee,args,ts⟩:=c
  simp only [Op.operands] at h
  have ha:args.toList.map ρ=args.toList.map ρ':=map_congr_ops fun x hx=>h x (by simp [Call.operands,hx])
  cases callee with
  | builtin b=>rfl
  | value fv =>
   have hf:ρ fv=ρ' fv:=h fv (by simp [Call.operands])
   dsimp only
   rw [ha,hf]
  | invoke r m =>
   have hf:ρ r=ρ' r:=h r (by simp [Call.operands])
   dsimp only
   rw [ha,hf]
theorem opOut_hp {call:CallF} {hp hp':List O} {e:Eff} (h:opOut C call f o ρ g hp=some (.eff e)):opOut C call f o ρ g hp'=some (.eff e):=by
 have nc:∀ (ss:List (Loc × O)) r,callOut ss r≠some (.eff e):=fun ss r hc=>by
  unfold callOut at hc
  split at hc<;>cases hc
 unfold opOut at h ⊢
 cases hp:isPure o.op with
 | true=>simp only [hp,cond_true] at h ⊢; exact h
 | false =>
  simp only [hp,cond_false] at h ⊢
  split at h
  ·split at h
   ·split at h
    ·exact absurd h (nc _ _)
    ·cases h
   ·cases h
  ·split at h
   ·split at h
    ·exact absurd h (nc _ _)
    ·cases h
   ·cases h
  ·exact h
theorem evalV_congr {s t:St} {x:Operand} (h:∀ i,x=.tmp i→look i s.tm=look i t.tm):evalV C s x=evalV C t x:=by
 cases x with
 | tmp i=>simp only [evalV,getT]; rw [h i rfl]
 | _=>rfl
end Mw
