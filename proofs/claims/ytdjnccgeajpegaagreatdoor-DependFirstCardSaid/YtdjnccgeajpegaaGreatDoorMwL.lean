/- DependFirst's tied card holds; no condition beyond the card's own. -/
import Derived.Test.YtdjnccgeajpegaaGreatDoorMwJ
import Derived.Test.YtdjnccgeajpegaaGreatDoorMwK
set_option linter.unusedVariables false
set_option linter.unusedSimpArgs false
namespace Mw
open Go
theorem Env.bare_bare(E:Env):E.bare.bare=E.bare:=by show Env.mk _ _ _=Env.mk _ _ _;congr 1
theorem Env.round_bare(E:Env)(i:Nat):E.bare.round i=E.round i:=by show Env.mk _ _ _=Env.mk _ _ _;congr 1
theorem Env.bare_round(E:Env)(i:Nat):(E.round i).bare=E.bare:=by show Env.mk _ _ _=Env.mk _ _ _;congr 1
theorem Env.bare_back(E E':Env):(E.back E').bare=E'.bare:=by show Env.mk _ _ _=Env.mk _ _ _;congr 1
section
variable{C:aY}{E:Env}{m:Mem}{w:World}
theorem yc{i:Nat}{o:O}:nC C E.bare w i o↔nC C E w i o:=by
 cases o with
 |loop=>simp only[nC,Env.round_bare];exact Iff.rfl|cells cs ro=>simp only[nC,Env.bare_bare]|vec a b c d=>simp only[nC,Env.bare_bare]|map es=>simp only[nC,Env.bare_bare]|sit s p=>simp only[nC,Env.bare_bare]|dead=>exact Iff.rfl
theorem BH{E E':Env}(h:E.bare=E'.bare){i:Nat}{o:O}:nC C E w i o↔nC C E' w i o:=by rw[←yc,h,yc]
def Mem.out(m:Mem)(n:Nat):Mem:={ob:=[],hp:=m.hp,wl:=n}
theorem kU{n:Nat}{l:Loc}{o:O}:(m.out n).get l=some o↔∃i,l=.heap i∧m.get (.heap i)=some o:=by
 cases l with
 |slot t g=>simp[Mem.get,Mem.out,look]|heap i=>simp[Mem.get,Mem.out]
theorem rf{i:Nat}{o:O}{b:Nat}:heldBy E.bare (.heap i) o b↔heldBy E (.heap i) o b:=by
 cases o with
 |cells cs ro=>cases ro<;>exact Iff.rfl|loop=>exact Iff.rfl|_=>exact Iff.rfl
theorem Inv.out(hI:Inv C E m w)(n:Nat):Inv C E.bare (m.out n) w where
 prot:=hI.prot
 slots:=fun t g o h=>by obtain⟨i,h,_⟩:=kU.1 h;cases h
 heap:=fun i o h=>by obtain⟨j,h,h'⟩:=kU.1 h;cases h;exact yc.2 (hI.heap i o h')
 dist:=fun l o l' o' b h1 h2 k1 k2=>by obtain⟨i,rfl,g1⟩:=kU.1 h1;obtain⟨j,rfl,g2⟩:=kU.1 h2;exact hI.dist _ _ _ _ b g1 g2 k1 k2
 held:=fun b ⟨l,o,h,k⟩ ⟨l',o',h',k'⟩=>by obtain⟨i,rfl,g1⟩:=kU.1 h;obtain⟨j,rfl,g2⟩:=kU.1 h';exact hI.held b ⟨_,_,g1,rf.1 k⟩ ⟨_,_,g2,k'⟩
 freshH:=fun i n h=>hI.freshH i n h
 freshS:=fun t g n h=>rfl
 top:=fun l sz es fr gr h n hn=>by obtain⟨i,rfl,g1⟩:=kU.1 h;exact hI.top _ sz es fr gr g1 n hn
 glob:=hI.glob
structure Start(E:Env)(m:Mem)(w:World)(E1:Env)(hp1:List O)(w1:World)(sp:Bool):Prop where
 G:∀b i,E1.G b i=E.G b i
 kh:∀i n p,E.k (.heap i) n=some p→E1.k (.heap i) n=some p
 kl:∀l t g n,l<m.hp.length→E1.kl l t g n=E.kl l t g n
 size:w.heap.size≤w1.heap.size
 wos:nS w w1
 len:m.hp.length≤hp1.length
 same:∀r,r<w.heap.size→w1.heap[r]?=w.heap[r]?
 own:∀j o1 r,hp1[j]?=some o1→own E1 (.heap j) o1 r→(∃i o',m.get (.heap i)=some o'∧own E (.heap i) o' r)∨w.heap.size≤r
 held:∀j o1 r,hp1[j]?=some o1→heldBy E1 (.heap j) o1 r→(∃o,m.get (.heap j)=some o∧heldBy E (.heap j) o r)∨sp=true∧j=m.hp.length
theorem Start.call(E:Env)(m:Mem)(w:World):Start E m w E.bare m.hp w false where
 G:=fun _ _=>rfl
 kh:=fun _ _ _ h=>h
 kl:=fun _ _ _ _ _=>rfl
 size:=Nat.le_refl _
 wos:=.refl w
 len:=Nat.le_refl _
 same:=fun _ _=>rfl
 own:=fun j o1 r h k=>.inl ⟨j,o1,h,k⟩
 held:=fun j o1 r h k=>.inl ⟨o1,h,rf.1 k⟩
theorem Inv.back{E1 Eb:Env}{hp1 hp':List O}{w1 w':World}{sp:Bool}{k1 k2:Nat}(hI:Inv C E m w)(hS:Start E m w E1 hp1 w1 sp)(hM:Moved E1 ⟨[],hp1,k1⟩ w1 Eb ⟨[],hp',k2⟩ w')(hI':Inv C Eb ⟨[],hp',k2⟩ w')
  (hd:sp=true→hp'[m.hp.length]?=some .dead)(wl:Nat):Step C E m w (E.back Eb) {ob:=m.ob,hp:=hp',wl:=wl} w':=by
 have own1:∀r,Own E1 ⟨[],hp1,k1⟩ r→(∃i o',m.get (.heap i)=some o'∧own E (.heap i) o' r)∨w.heap.size≤r:=fun r ⟨l,o,h,k⟩=>by
  cases l with
  |slot t g=>simp[Mem.get,look]at h|heap j=>exact hS.own j o r h k
 have ownM:∀r,Own E1 ⟨[],hp1,k1⟩ r→Own E m r∨w.heap.size≤r:=fun r h=>(own1 r h).imp (fun⟨i,o,a,b⟩=>⟨_,o,a,b⟩) id;have slotBlk:∀t g o b c,m.get (.slot t g)=some o→o≠.dead→E.k (.slot t g) o.key=some (b,c)→b<w.heap.size∧¬Own E1 ⟨[],hp1,k1⟩ b:=by
  intro t g o b c hg hd hk;refine⟨(hI.slots t g o hg).lt hk hd,fun ho=>?_⟩;rcases own1 b ho with ⟨i,o',a1,a2⟩|h
  ·cases hoo:o.owned with
   |true=>have:=hI.dist _ _ _ _ b hg a1 ⟨hoo,c,hk⟩ a2;cases this
   | false =>
    cases o with
    |cells cs ro=>
     cases ro with
     |true=>exact hI.held b ⟨_,_,hg,c,hk⟩ ⟨_,_,a1,a2⟩|false=>simp[O.owned]at hoo
    |dead=>exact hd rfl|_=>simp[O.owned]at hoo
  ·have:=(hI.slots t g o hg).lt hk hd;omega
 have keptB:∀b,b<w.heap.size→¬Own E1 ⟨[],hp1,k1⟩ b→w'.heap[b]?=w.heap[b]?∧∀q,E.G b q=none→Eb.G b q=none:=fun b hb hn=>
  ⟨(hM.kept b (Nat.lt_of_lt_of_le hb hS.size) hn).trans (hS.same b hb),fun q hq=>by
   cases hx:Eb.G b q with
   |none=>rfl|some x=>
    rcases hM.newG b q x hx with h|h|h
    ·rw[hS.G,hq]at h;cases h
    ·exact absurd h hn
    ·have:=hS.size;omega⟩
 have le:E.Le (E.back Eb):=⟨fun b i x h=>hM.G _ _ _ (by rw[hS.G];exact h),fun l n p h=>by
  cases l with
  |slot t g=>exact h|heap i=>exact hM.kh _ _ _ (hS.kh _ _ _ h)⟩
 have getS:∀{t g o},(⟨m.ob,hp',wl⟩:Mem).get (.slot t g)=some o→m.get (.slot t g)=some o:=fun h=>h;have dZ:∀{i o},(⟨m.ob,hp',wl⟩:Mem).get (.heap i)=some o→(⟨[],hp',k2⟩:Mem).get (.heap i)=some o:=fun h=>h;have heldB:∀{i o b},heldBy (E.back Eb) (.heap i) o b→heldBy Eb (.heap i) o b:=fun {i o b} h=>by
  cases o with
  |cells cs ro=>cases ro<;>exact h|loop=>exact h|_=>exact h
 have heldS:∀{t g o b},heldBy (E.back Eb) (.slot t g) o b→heldBy E (.slot t g) o b:=fun {t g o b} h=>by
  cases o with
  |cells cs ro=>cases ro<;>exact h|loop=>obtain⟨_,_,_,_,_,h,_⟩:=h;cases h
  |_=>exact h
 have ownEnd:∀{i o r},(⟨m.ob,hp',wl⟩:Mem).get (.heap i)=some o→own (E.back Eb) (.heap i) o r→Own E1 ⟨[],hp1,k1⟩ r∨w1.heap.size≤r:=fun {i o r} h k=>hM.owns r ⟨.heap i,o,h,k⟩;have heldEnd:∀{i o r},(⟨m.ob,hp',wl⟩:Mem).get (.heap i)=some o→heldBy (E.back Eb) (.heap i) o r→(∃o1,m.get (.heap i)=some o1∧heldBy E (.heap i) o1 r)∨Own E1 ⟨[],hp1,k1⟩ r∨w1.heap.size≤r:=fun {i o r} h k=>by
  rcases hM.holds r (.heap i) o h (heldB k)with ⟨o1,a1,a2⟩|h1
  ·rcases hS.held i o1 r a1 a2 with h2|⟨h2,rfl⟩
   ·exact .inl h2
   ·have h3:=hd h2;have h4:hp'[m.hp.length]?=some o:=h;rw[h3]at h4;cases h4;exact(heldB k).elim
  ·exact .inr h1
 have ownSlot:∀{t g o r},m.get (.slot t g)=some o→own E (.slot t g) o r→r<w.heap.size∧¬Own E1 ⟨[],hp1,k1⟩ r:=fun {t g o r} h k=>by obtain⟨k1,c,k2⟩:=k;exact slotBlk t g o r c h (fun e=>by subst e;simp[O.owned]at k1) k2
 have hsz:=hS.size;refine⟨⟨hI'.prot,?_,?_,?_,?_,?_,?_,?_,hI'.glob⟩,⟨le.G,fun i n p h=>le.k _ _ _ h,?_,Nat.le_trans hS.size hM.size,Nat.le_trans hS.len hM.len,?_,?_,?_,?_,hS.wos.trans hM.wos⟩,le⟩
 ·intro t g o h;by_cases hdd:o=.dead
  ·subst hdd;trivial
  ·refine(hI.slots t g o h).mono le fun b c hk=>?_;obtain⟨h1,h2⟩:=slotBlk t g o b c h hdd hk;exact keptB b h1 h2
 ·intro i o h;exact(BH (Env.bare_back E Eb)).2 (hI'.heap i o h)
 ·intro l o l' o' b h1 h2 k1 k2;cases l with
  | slot t g =>
   cases l' with
   |slot t' g'=>exact hI.dist _ _ _ _ b (getS h1) (getS h2) k1 k2|heap j=>
    obtain⟨a1,a2⟩:=ownSlot (getS h1) k1;rcases ownEnd h2 k2 with h|h
    ·exact absurd h a2
    ·omega
  | heap i =>
   cases l' with
   |slot t' g'=>
    obtain⟨a1,a2⟩:=ownSlot (getS h2) k2;rcases ownEnd h1 k1 with h|h
    ·exact absurd h a2
    ·omega
   |heap j=>exact hI'.dist _ _ _ _ b h1 h2 k1 k2
 ·rintro b ⟨l,o,h,k⟩ ⟨l',o',h',k'⟩;cases l with
  | slot t g =>
   have hk:=heldS k;cases l' with
   |slot t' g'=>exact hI.held b ⟨_,_,getS h,hk⟩ ⟨_,_,getS h',k'⟩| heap j =>
    have hlt:=hI.lt_held (getS h) hk;rcases ownEnd h' k' with h2|h2
    ·rcases ownM b h2 with h3|h3
     ·exact hI.held b ⟨_,_,getS h,hk⟩ h3
     ·omega
    ·omega
  | heap i =>
   cases l' with
   |slot t' g'=>
    obtain⟨a1,a2⟩:=ownSlot (getS h') k';rcases heldEnd h k with ⟨o1,c1,c2⟩|h2|h2
    ·exact hI.held b ⟨_,_,c1,c2⟩ ⟨_,_,getS h',k'⟩
    ·exact a2 h2
    ·omega
   |heap j=>exact hI'.held b ⟨_,_,dZ h,heldB k⟩ ⟨_,_,dZ h',k'⟩
 ·exact fun i n h=>hI'.freshH i n h
 ·exact fun t g n h=>hI.freshS t g n h
 ·intro l sz es fr gr h n hn;cases l with
  |slot t g=>exact hI.top _ sz es fr gr (getS h) n hn|heap i=>exact hI'.top (.heap i) sz es fr gr h n hn
 ·intro l t g n hl;show Eb.kl l t g n=_;rw[hM.kl l t g n (Nat.lt_of_lt_of_le hl hS.len),hS.kl l t g n hl]
 ·intro r hr hn;refine(keptB r hr fun ho=>?_).1;rcases ownM r ho with h|h
  ·exact hn h
  ·omega
 ·rintro r ⟨l,o,h,k⟩;cases l with
  |slot t g=>exact .inl ⟨_,_,getS h,k⟩|heap i=>
   rcases ownEnd h k with h1|h1
   ·exact ownM r h1
   ·exact .inr (by omega)
 ·intro r l o h k;cases l with
  |slot t g=>exact .inl ⟨o,getS h,heldS k⟩|heap i=>
   rcases heldEnd h k with h1|h1|h1
   ·exact .inl h1
   ·exact .inr (ownM r h1)
   ·exact .inr (.inr (by omega))
 ·intro b i x hx;rcases hM.newG b i x hx with h|h|h
  ·exact .inl (by rw[←hS.G];exact h)
  ·exact .inr (ownM b h)
  ·exact .inr (.inr (by omega))
theorem Moved.out{E1:Env}{m1:Mem}{w1:World}(h:Moved E m w E1 m1 w1)(n:Nat):Moved E m w E1.bare (m1.out n) w1 where
 G:=h.G
 kh:=h.kh
 kl:=h.kl
 size:=h.size
 len:=h.len
 kept:=h.kept
 owns:=fun r ⟨l,o,h1,h2⟩=>by obtain⟨i,rfl,g1⟩:=kU.1 h1;exact h.owns r ⟨_,_,g1,h2⟩
 holds:=fun r l o h1 h2=>by obtain⟨i,rfl,g1⟩:=kU.1 h1;exact h.holds r _ o g1 (rf.1 h2)
 newG:=h.newG
 wos:=h.wos
theorem Inv.round{Eb:Env}{hp:List O}{k:Nat}(hI:Inv C Eb ⟨[],hp,k⟩ w){l:Nat}{st:LoopState}{p:Option Code}{f:FuncId}{tm:List (Nat×V)}{ob:List (Nat×Nat×O)}{ps:List Tmp}{a bd:Code}
  (h:hp[l]?=some (.loop st p f tm ob ps a bd))(k':Nat):Inv C (Eb.round l) ⟨ob,hp,k'⟩ w:=by
 obtain⟨b,c,r,h1,h2,h3,h4,h5,h6,h7,h8,h9,h10,h11,h12,h13⟩:=hI.heap l _ h;have getS:∀{t g o},(⟨ob,hp,k'⟩:Mem).get (.slot t g)=some o→look t ob=some (g,o):=fun {t g o} hg=>by
  simp only[Mem.get]at hg;split at hg
  ·rename_i g' o' hl;cases hgg:(g'==g)with
   |false=>simp[hgg]at hg|true=>simp[hgg]at hg;subst hg;rw[hl];simp at hgg;rw[hgg]
  ·cases hg
 have slotO:∀{t g o},(⟨ob,hp,k'⟩:Mem).get (.slot t g)=some o→(o=.dead∨∃cs,o=.cells cs true)∧dG (Eb.round l) w (.slot t g) o:=fun hg=>h11 _ _ _ (getS hg);have noOwn:∀{t g o b},(⟨ob,hp,k'⟩:Mem).get (.slot t g)=some o→¬own (Eb.round l) (.slot t g) o b:=fun {t g o b} hg ho=>by obtain⟨hk,_⟩:=slotO hg;rcases hk with rfl|⟨cs,rfl⟩<;>simp[own,O.owned]at ho
 have heldH:∀{i o b},heldBy (Eb.round l) (.heap i) o b→heldBy Eb (.heap i) o b:=fun {i o b} h=>by
  cases o with
  |cells cs ro=>cases ro<;>exact h|loop=>exact h|_=>exact h
 have heldAll:∀b,Held (Eb.round l) ⟨ob,hp,k'⟩ b→Held Eb ⟨[],hp,k⟩ b:=fun b' ⟨l',o,hg,hh⟩=>by
  cases l' with
  | slot t g =>
   obtain⟨hk,_⟩:=slotO hg;rcases hk with rfl|⟨cs,rfl⟩
   ·exact hh.elim
   ·obtain⟨c',hc⟩:=hh;exact⟨.heap l,_,h,l,t,g,cs,c',rfl,getS hg,hc⟩
  |heap i=>exact⟨.heap i,o,hg,heldH hh⟩
 have ownAll:∀b,Own (Eb.round l) ⟨ob,hp,k'⟩ b→Own Eb ⟨[],hp,k⟩ b:=fun b' ⟨l',o,hg,hh⟩=>by
  cases l' with
  |slot t g=>exact absurd hh (noOwn hg)|heap i=>exact⟨.heap i,o,hg,hh⟩
 refine⟨hI.prot,fun t g o hg=>(slotO hg).2,fun i o hg=>(BH (Env.bare_round Eb l)).2 (hI.heap i o hg),?_,fun b' h1 h2=>hI.held b' (heldAll b' h1) (ownAll b' h2),fun i n hi=>hI.freshH i n hi,fun t g n hg=>h12 t g n hg,?_,hI.glob⟩
 ·intro l1 o1 l2 o2 b' g1 g2 k1 k2;cases l1 with
  |slot t g=>exact absurd k1 (noOwn g1)|heap i=>
   cases l2 with
   |slot t g=>exact absurd k2 (noOwn g2)|heap j=>exact hI.dist _ _ _ _ b' g1 g2 k1 k2
 ·intro l1 sz es fr gr hg n hn;cases l1 with
  |slot t g=>obtain⟨hk,_⟩:=slotO hg;rcases hk with hk|⟨cs,hk⟩<;>cases hk
  |heap i=>exact hI.top (.heap i) sz es fr gr hg n hn
theorem Moved.round{Eb E1:Env}{hp:List O}{k k' n:Nat}{m1:Mem}{w1:World}{l:Nat}{st:LoopState}{p:Option Code}{f:FuncId}{tm:List (Nat×V)}{ob:List (Nat×Nat×O)}{ps:List Tmp}{a bd:Code}
  (hI:Inv C Eb ⟨[],hp,k⟩ w)(h:hp[l]?=some (.loop st p f tm ob ps a bd))(hM:Moved (Eb.round l) ⟨ob,hp,k'⟩ w E1 m1 w1):Moved Eb ⟨[],hp,k⟩ w E1.bare (m1.out n) w1:=by
 obtain⟨b,c,r,h1,h2,h3,h4,h5,h6,h7,h8,h9,h10,h11,h12,h13⟩:=hI.heap l _ h;have ownAll:∀b,Own (Eb.round l) ⟨ob,hp,k'⟩ b→Own Eb ⟨[],hp,k⟩ b:=fun b' ⟨l',o,hg,hh⟩=>by
  cases l' with
  | slot t g =>
   simp only[Mem.get]at hg;split at hg
   ·rename_i g' o' hl;cases hgg:(g'==g)with
    |false=>simp[hgg]at hg|true=>simp[hgg]at hg;subst hg;rcases(h11 _ _ _ hl).1 with rfl|⟨cs,rfl⟩<;>simp[Mw.own,O.owned]at hh
   ·cases hg
  |heap i=>exact⟨.heap i,o,hg,hh⟩
 have hM':=hM.out n;refine⟨hM'.G,hM'.kh,hM'.kl,hM'.size,hM'.len,fun r hr hn=>hM'.kept r hr fun ho=>hn (ownAll r ho),fun r hr=>(hM'.owns r hr).imp (ownAll r) id,fun r l' o hg hh=>?_,fun b i x hx=>(hM'.newG b i x hx).imp id (Or.imp (ownAll b) id),hM'.wos⟩;obtain⟨i,rfl,g1⟩:=kU.1 hg;rcases hM'.holds r _ o hg hh with ⟨o1,a1,a2⟩|h'|h'
 ·refine .inl ⟨o1,a1,?_⟩;cases o1 with
  |cells cs ro=>cases ro<;>exact a2|loop=>exact a2|_=>exact a2
 ·exact .inr (.inl (ownAll r h'))
 ·exact .inr (.inr h')
theorem Inv.setLoop(hI:Inv C E m w){l:Nat}{st st':LoopState}{p p':Option Code}{f:FuncId}{tm:List (Nat×V)}{ob:List (Nat×Nat×O)}{ps:List Tmp}{a bd:Code}
  (h:m.get (.heap l)=some (.loop st p f tm ob ps a bd)){b c:Nat}(hk:E.k (.heap l) 0=some (b,c)){r:Loop}(hr:w.heap[b]?=some (.loop r)) :
  Step C E m w E (m.set (.heap l) (.loop st' p' f tm ob ps a bd)) {w with heap:=w.heap.setIfInBounds b (.loop {r with state:=st',pending:=p'})}:=by
 obtain⟨b',c',r',h1,h2,h3,h4,h5,h6,h7,h8,h9,h10,h11,h12,h13⟩:=hI.heap l _ h;rw[hk]at h1;cases h1;rw[hr]at h2;cases h2;have hlt:=(Array.getElem?_eq_some_iff.1 hr).1;have hown:own E (.heap l) (.loop st p f tm ob ps a bd) b:=⟨rfl,c,hk⟩
 have hoth:∀q,q≠b→(w.heap.setIfInBounds b (.loop {r with state:=st',pending:=p'}))[q]?=w.heap[q]?:=fun q hq=>Array.getElem?_setIfInBounds_ne (Ne.symm hq);refine hI.set h (.refl E) rfl (fun _ _ _=>rfl) (by simp) ⟨rfl,rfl⟩ (fun q hq hn=>hoth q fun e=>hn (e▸hown)) (fun b i x h=>.inl h) (fun b' i x hx _=>?_) (fun b' hb=>.inl hb) ⟨fun i hi=>?_,fun t g hi=>by cases hi⟩ (fun b' hb=>hb) (fun _ _ _ _ he=>by cases he)
 ·have hp:=hI.prot b' i x hx;exact hp.of_same (hoth b' fun e=>by subst e;rw[h3 i]at hx;cases hx)
 ·cases hi;refine⟨b,c,{r with state:=st',pending:=p'},hk,by simp[hlt],h3,rfl,rfl,h6,h7,h8,h9,h10,fun t g o ho=>?_,h12,h13⟩;obtain⟨ho',hrel⟩:=h11 t g o ho;refine⟨ho',?_⟩;rcases ho' with rfl|⟨cs,rfl⟩
  ·trivial
  ·refine hrel.mono (.refl _) fun b' c' hk'=>⟨hoth b' fun e=>?_,fun _ h=>h⟩
   subst e;exact hI.held b' ⟨.heap l,_,h,l,t,g,cs,c',rfl,ho,hk'⟩ ⟨_,_,h,hown⟩
theorem Inv.endLoop(hI:Inv C E m w){l:Nat}{st:LoopState}{p:Option Code}{f:FuncId}{tm:List (Nat×V)}{ob:List (Nat×Nat×O)}{ps:List Tmp}{a bd:Code}
  (h:m.get (.heap l)=some (.loop st p f tm ob ps a bd)){b c:Nat}(hk:E.k (.heap l) 0=some (b,c))(r:Obj)(hrc:∀i,w.cell? ⟨b,i,none⟩=none) :
  Step C E m w E (m.set (.heap l) .dead) {w with heap:=w.heap.setIfInBounds b r}:=by
 obtain⟨b',c',r',h1,h2,h3,_⟩:=hI.heap l _ h;rw[hk]at h1;cases h1;have hown:own E (.heap l) (.loop st p f tm ob ps a bd) b:=⟨rfl,c,hk⟩
 have hoth:∀q,q≠b→(w.heap.setIfInBounds b r)[q]?=w.heap[q]?:=fun q hq=>Array.getElem?_setIfInBounds_ne (Ne.symm hq);refine hI.set h (.refl E) rfl (fun _ _ _=>rfl) (by simp) ⟨rfl,rfl⟩ (fun q hq hn=>hoth q fun e=>hn (e▸hown)) (fun b i x h=>.inl h) (fun b' i x hx _=>?_) (fun b' hb=>?_) ⟨fun i hi=>trivial,fun t g hi=>by cases hi⟩ (fun b' hb=>hb.elim) (fun _ _ _ _ he=>by cases he)
 ·have hp:=hI.prot b' i x hx;exact hp.of_same (hoth b' fun e=>by subst e;rw[h3 i]at hx;cases hx)
 ·simp[own,O.owned]at hb
end
theorem Jg(ob:List (Nat×Nat×O))(t:Nat):∀tm:List (Nat×V),look t (vN ob tm)=(look t tm).map (Ux ob)
 |[]=>rfl|(s,v)::r=>by
  simp only[vN,look];cases s==t with
  |true=>rfl|false=>exact Jg ob t r
theorem wY(t:Nat):∀ob:List (Nat×Nat×O),look t (uf ob)=(look t ob).map fun p=>(p.1,Tm p.2)
 |[]=>rfl|(s,g,o)::r=>by
  simp only[uf,look];cases s==t with
  |true=>rfl|false=>exact wY t r
theorem TL(t:Nat)(ob:List (Nat×Nat×O)):dY t (uf ob)=dY t ob:=by unfold dY;rw[wY];cases look t ob<;>rfl
def Env.withLoop(E:Env)(n blk:Nat):Env where
 G:=E.G
 k:=fun
  | .slot _ _,_=>none| .heap i,q=>if i=n then(if q=0 then some (blk,0)else none)else E.k (.heap i) q
 kl:=fun l t g q=>if l=n then E.k (.slot t g) q else E.kl l t g q
section
variable{C:aY}{E:Env}{m:Mem}{w:World}
theorem Inv.newLoop (hI:Inv C E m w) {tm:List (Nat × V)} {f:FuncId} {ps:Array Tmp} {a bd:Code} {w1:World} {blk:Nat} {r:Loop} (ht:qj E tm r.tmps) (hR:sO C f ps.toList a bd r.tmps.size) (hblk:w.heap.size≤blk)
  (hsz:w.heap.size≤w1.heap.size)(hos:nS w w1)(hsame:∀q,q<w.heap.size→w1.heap[q]?=w.heap[q]?)(hrec:w1.heap[blk]?=some (.loop r))(h1:r.state=.ready)(h2:r.pending=none)(h3:r.fn=f)(h4:r.params=ps)(h5:r.assign=a)(h6:r.body=bd)(k:Nat) :
  Inv C (E.withLoop m.hp.length blk) ⟨[],m.hp++[.loop .ready none f (vN m.ob tm) (uf m.ob) ps.toList a bd],k⟩ w1∧
   Start E m w (E.withLoop m.hp.length blk) (m.hp++[.loop .ready none f (vN m.ob tm) (uf m.ob) ps.toList a bd]) w1 true∧
   ∀j o1 q,(m.hp++[.loop .ready none f (vN m.ob tm) (uf m.ob) ps.toList a bd])[j]?=some o1→own (E.withLoop m.hp.length blk) (.heap j) o1 q→q<w.heap.size∨q=blk:=by
 have kH:∀i q,i≠m.hp.length→(E.withLoop m.hp.length blk).k (.heap i) q=E.k (.heap i) q:=fun i q hi=>by simp[Env.withLoop,hi]
 have kN:∀q p,(E.withLoop m.hp.length blk).k (.heap m.hp.length) q=some p→q=0∧p=(blk,0):=fun q p h=>by
  simp only[Env.withLoop,if_true]at h;split at h
  ·rename_i hq;simp at h;exact⟨hq,h.symm⟩
  ·cases h
 have kSome:∀i q p,E.k (.heap i) q=some p→(E.withLoop m.hp.length blk).k (.heap i) q=some p:=fun i q p h=>by rw[kH i q fun e=>by rw[e,hI.freshH _ _ (Nat.le_refl _)]at h;cases h];exact h
 have get1:∀{i o},(m.hp++[.loop .ready none f (vN m.ob tm) (uf m.ob) ps.toList a bd])[i]?=some o→(i<m.hp.length∧m.get (.heap i)=some o)∨(i=m.hp.length∧o=.loop .ready none f (vN m.ob tm) (uf m.ob) ps.toList a bd):=fun {i o} h=>by
  rcases Nat.lt_or_ge i m.hp.length with hi|hi
  ·rw[List.getElem?_append_left hi]at h;exact .inl ⟨hi,h⟩
  ·rw[List.getElem?_append_right hi]at h;cases hj:i-m.hp.length with
   |zero=>rw[hj]at h;simp at h;exact .inr ⟨by omega,h.symm⟩|succ j=>rw[hj]at h;simp at h
 have leB:E.bare.Le (E.withLoop m.hp.length blk).bare:=⟨fun _ _ _ h=>h,fun l n p h=>by
  cases l with
  |slot t g=>cases h|heap i=>exact kSome i n p h⟩
 have leR:E.Le ((E.withLoop m.hp.length blk).round m.hp.length):=⟨fun _ _ _ h=>h,fun l n p h=>by
  cases l with
  |slot t g=>simp only[Env.round,Env.withLoop,if_true];exact h|heap i=>exact kSome i n p h⟩
 have slotLt:∀t g cs ro b c,look t m.ob=some (g,.cells cs ro)→E.k (.slot t g) 0=some (b,c)→b<w.heap.size:=fun t g cs ro b c hl hk=>by
  have hg:m.get (.slot t g)=some (.cells cs ro):=by simp[Mem.get,hl]
  exact(hI.slots t g _ hg).lt hk (by simp)
 have heldN:∀{b},heldBy (E.withLoop m.hp.length blk) (.heap m.hp.length) (.loop .ready none f (vN m.ob tm) (uf m.ob) ps.toList a bd) b→∃t g cs ro c,look t m.ob=some (g,.cells cs ro)∧E.k (.slot t g) 0=some (b,c):=fun {b} h=>by
  obtain⟨i,t,g,cs,c,hi,hl,hk⟩:=h;cases hi;rw[wY]at hl;cases ho:look t m.ob with
  |none=>simp[ho]at hl|some p=>
   obtain⟨g',o⟩:=p;simp only[ho,Option.map_some,oI,pI]at hl;obtain⟨rfl,hro⟩:=hl;cases o with
   |cells cs' ro=>exact⟨t,g',cs',ro,c,ho,by simpa[Env.withLoop]using hk⟩|_=>simp[Tm]at hro
 have heldO:∀{i o b},i<m.hp.length→heldBy (E.withLoop m.hp.length blk) (.heap i) o b→heldBy E (.heap i) o b:=fun {i o b} hi h=>nK (kH i 0 (by omega)) (fun i' t g n he=>by cases he;simp[Env.withLoop];omega) h;have ownO:∀{i o b},i<m.hp.length→own (E.withLoop m.hp.length blk) (.heap i) o b→own E (.heap i) o b:=fun {i o b} hi ⟨x,c,y⟩=>⟨x,c,by rw[kH i _ (by omega)]at y;exact y⟩
 have ownN:∀{o b},own (E.withLoop m.hp.length blk) (.heap m.hp.length) o b→b=blk:=fun {o b} ⟨x,c,y⟩=>by have:=(kN _ _ y).2;simp at this;exact this.1
 have apartN:∀{t g cs ro b c},look t m.ob=some (g,.cells cs ro)→E.k (.slot t g) 0=some (b,c)→∀i o,m.get (.heap i)=some o→¬own E (.heap i) o b:=fun {t g cs ro b c} hl hk i o hg ho=>by
  have hgs:m.get (.slot t g)=some (.cells cs ro):=by simp[Mem.get,hl]
  cases ro with
  |true=>exact hI.held b ⟨_,_,hgs,c,hk⟩ ⟨_,_,hg,ho⟩|false=>have:=hI.dist _ _ _ _ b hgs hg ⟨rfl,c,hk⟩ ho;cases this
 refine⟨⟨fun b i x hx=>?_,fun t g o h=>by simp[Mem.get,look]at h,fun i o h=>?_,?_,?_,fun i n hi=>?_,fun t g n _=>rfl,?_,hI.glob⟩,⟨fun _ _=>rfl,kSome,fun l t g n hl=>by simp[Env.withLoop];omega,hsz,hos,by simp,hsame,?_,?_⟩,fun j o1 q hg ho=>?_⟩
 ·have hc:=hI.prot b i x hx;exact hc.of_same (hsame b hc.lt)
 ·rcases get1 h with ⟨hi,hg⟩|⟨rfl,rfl⟩
  ·by_cases hd:o=.dead
   ·subst hd;trivial
   ·have hr:=hI.heap i o hg;refine hr.mono leB (fun t g n=>by simp[Env.withLoop];omega) (fun b c hk=>⟨hsame b ?_,fun _ h=>h⟩) (fun b hb=>⟨hsame b (hI.lt_held hg hb),fun _ h=>h⟩);cases o with
    |cells cs ro=>
     cases ro with
     |true=>exact hI.lt_held hg ⟨c,hk⟩|false=>exact hI.lt_own hg ⟨rfl,c,hk⟩
    |dead=>exact absurd rfl hd|vec=>exact hI.lt_own hg ⟨rfl,c,hk⟩|map=>exact hI.lt_own hg ⟨rfl,c,hk⟩|sit=>exact hI.lt_own hg ⟨rfl,c,hk⟩|loop=>exact hI.lt_own hg ⟨rfl,c,hk⟩
  ·refine⟨blk,0,r,by simp[Env.withLoop],hrec,fun q=>hI.G_new hblk q,h1,h2,h3,by rw[h4],h5,h6,fun t v hv=>?_,fun t g o ho=>?_,fun t g n hg=>?_,hR⟩
   ·rw [Jg] at hv;cases hl:look t tm with
    |none=>simp[hl]at hv| some u =>
     simp only[hl,Option.map_some,oI]at hv;subst hv;obtain⟨a1,a2⟩:=ht t u hl;refine⟨a1,?_⟩;unfold Ux;split
     ·rename_i u' g' sz len off n;split
      ·rename_i g2 sz' es gr hlk;cases hb:((g2==g')&&(sz'==sz)&&(es.length==len)&&Nat.ble (off+n) len)with
       |false=>exact .undef _|true=>
        simp only[Bool.and_eq_true,beq_iff_eq,Nat.ble_eq]at hb;obtain⟨⟨⟨rfl,rfl⟩,rfl⟩,hle⟩:=hb;have hgs:m.get (.slot u' g2)=some (.vec sz' es true gr):=by simp[Mem.get,hlk]
        simp only[cond_true];exact .d _ _ (hI.list_of_frozen hgs hle a2)
      ·exact .undef _
     ·exact a2.mono leR
   ·rw[wY]at ho;cases hl:look t m.ob with
    |none=>simp[hl]at ho| some p =>
     obtain⟨g',o'⟩:=p;simp only[hl,Option.map_some,oI,pI]at ho;obtain⟨rfl,rfl⟩:=ho;cases o' with
     |cells cs ro=>
      have hgs:m.get (.slot t g')=some (.cells cs ro):=by simp[Mem.get,hl]
      refine⟨.inr ⟨cs,rfl⟩,?_⟩;have h0:dG E w (.slot t g') (.cells cs ro):=hI.slots t g' _ hgs;have h0:dG E w (.slot t g') (.cells cs true):=h0;exact h0.mono leR fun b c hk=>⟨hsame b (slotLt t g' cs ro b c hl hk),fun _ h=>h⟩
     |_=>exact⟨.inl rfl,trivial⟩
   ·rw[TL]at hg;simp only[Env.withLoop,if_true];exact hI.freshS t g n hg
 ·intro l1 o1 l2 o2 b g1 g2 k1 k2;cases l1 with
  |slot t g=>simp[Mem.get,look]at g1| heap i =>
   cases l2 with
   |slot t g=>simp[Mem.get,look]at g2|heap j=>
    rcases get1 g1 with ⟨hi,a1⟩|⟨rfl,rfl⟩<;>rcases get1 g2 with ⟨hj,a2⟩|⟨rfl,rfl⟩
    ·exact hI.dist _ _ _ _ b a1 a2 (ownO hi k1) (ownO hj k2)
    ·have:=hI.lt_own a1 (ownO hi k1);have:=ownN k2;omega
    ·have:=hI.lt_own a2 (ownO hj k2);have:=ownN k1;omega
    ·rfl
 ·rintro b ⟨l1,o1,g1,k1⟩ ⟨l2,o2,g2,k2⟩;cases l1 with
  |slot t g=>simp[Mem.get,look]at g1| heap i =>
   cases l2 with
   |slot t g=>simp[Mem.get,look]at g2| heap j =>
    rcases get1 g1 with ⟨hi,a1⟩|⟨rfl,rfl⟩<;>rcases get1 g2 with ⟨hj,a2⟩|⟨rfl,rfl⟩
    ·exact hI.held b ⟨_,_,a1,heldO hi k1⟩ ⟨_,_,a2,ownO hj k2⟩
    ·have:=hI.lt_held a1 (heldO hi k1);have:=ownN k2;omega
    ·obtain⟨t,g,cs,ro,c,hl,hk⟩:=heldN k1;exact apartN hl hk j o2 a2 (ownO hj k2)
    ·obtain⟨t,g,cs,ro,c,hl,hk⟩:=heldN k1;have:=slotLt t g cs ro b c hl hk;have:=ownN k2;omega
 ·simp only[List.length_append,List.length_cons,List.length_nil]at hi;rw[kH i n (by omega)];exact hI.freshH i n (by omega)
 ·intro l sz es fr gr h n hn;cases l with
  |slot t g=>simp[Mem.get,look]at h|heap i=>
   rcases get1 h with ⟨hi,a1⟩|⟨_,h2⟩
   ·rw[kH i n (by omega)];exact hI.top _ sz es fr gr a1 n hn
   ·cases h2
 ·intro j o1 q hg ho;rcases get1 hg with ⟨hj,a1⟩|⟨rfl,rfl⟩
  ·exact .inl ⟨j,o1,a1,ownO hj ho⟩
  ·have:=ownN ho;exact .inr (by omega)
 ·intro j o1 q hg hh;rcases get1 hg with ⟨hj,a1⟩|⟨rfl,rfl⟩
  ·exact .inl ⟨o1,a1,heldO hj hh⟩
  ·exact .inr ⟨rfl,rfl⟩
 ·rcases get1 hg with ⟨hj,a1⟩|⟨rfl,rfl⟩
  ·exact .inl (hI.lt_own a1 (ownO hj ho))
  ·exact .inr (ownN ho)
end
end Mw
