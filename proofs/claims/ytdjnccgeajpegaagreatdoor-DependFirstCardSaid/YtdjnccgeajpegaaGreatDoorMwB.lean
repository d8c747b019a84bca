/- DependFirst's tied card holds; no condition beyond the card's own. -/
import Derived.Test.YtdjnccgeajpegaaGreatDoorMwA
import Derived.Laws.AppendOwn
set_option linter.unusedVariables false
set_option linter.unusedSimpArgs false
namespace Mw
open Go
def Env.bare(E:Env):Env where
 G:=E.G
 k:=fun
  | .slot _ _,_=>none| .heap i,n=>E.k (.heap i) n
 kl:=E.kl
def Env.round(E:Env)(l:Nat):Env where
 G:=E.G
 k:=fun
  | .slot t g,n=>E.kl l t g n| .heap i,n=>E.k (.heap i) n
 kl:=E.kl
def Env.back(E E':Env):Env where
 G:=E'.G
 k:=fun
  | .slot t g,n=>E.k (.slot t g) n| .heap i,n=>E'.k (.heap i) n
 kl:=E'.kl
theorem Env.bare_le(E:Env):E.bare.Le E:=⟨fun _ _ _ h=>h,fun l n p h=>by cases l<;>simp[Env.bare]at h ⊢;exact h⟩
theorem Env.Le.bare{E E':Env}(h:E.Le E'):E.bare.Le E'.bare:=⟨h.G,fun l n p hp=>by cases l<;>simp[Env.bare]at hp ⊢;exact h.k _ _ _ hp⟩
def rowAt(w:World)(b:Nat)(arr:Array Value):Prop:=
 ∃e,w.heap[b]?=some (.cells arr e (0,0))
theorem rowAt.cell{w:World}{b:Nat}{arr:Array Value}(h:rowAt w b arr)(i:Nat):w.cell? ⟨b,i,none⟩=arr[i]?:=by obtain⟨e,h⟩:=h;simp[World.cell?,h]
theorem rowAt.free{w:World}{b:Nat}{arr:Array Value}(h:rowAt w b arr)(i:Nat)(hi:i<arr.size):w.frozen? ⟨b,i,none⟩=false:=by obtain⟨e,h⟩:=h;simp[World.frozen?,h]
theorem rowAt.lt{w:World}{b:Nat}{arr:Array Value}(h:rowAt w b arr):b<w.heap.size:=by obtain⟨e,h⟩:=h;exact(Array.getElem?_eq_some_iff.1 h).1
theorem rowAt.of_same{w w':World}{b:Nat}{arr:Array Value}(h:rowAt w b arr)(hs:w'.heap[b]?=w.heap[b]?):rowAt w' b arr:=by obtain⟨e,h⟩:=h;exact⟨e,hs.trans h⟩
def fM(w:World)(b i:Nat)(x:Value):Prop:=∃arr e mk,w.heap[b]?=some (.cells arr e mk)∧(x=.tuple #[]→mk=(0,0))∧(x≠.tuple #[]→arr[i]?=some x)
theorem rowAt.gcell{w:World}{b i:Nat}{x:Value}{arr:Array Value}(h:rowAt w b arr)(hx:arr[i]?=some x):fM w b i x:=by obtain⟨e,h⟩:=h;exact⟨arr,e,_,h,fun _=>rfl,fun _=>hx⟩
theorem rowAt.gflag{w:World}{b i:Nat}{arr:Array Value}(h:rowAt w b arr):fM w b i (.tuple #[]):=by obtain⟨e,h⟩:=h;exact⟨arr,e,_,h,fun _=>rfl,fun h=>absurd rfl h⟩
theorem I5{x:Value}(h:cellV x=true):x≠.tuple #[]:=fun e=>by rw[e]at h;cases h
theorem fM.cell{w:World}{b i:Nat}{x:Value}(h:fM w b i x)(hv:cellV x=true):w.cell? ⟨b,i,none⟩=some x:=by obtain⟨arr,e,mk,h,_,hx⟩:=h;simp[World.cell?,h,hx (I5 hv)]
theorem fM.row{w:World}{b i j:Nat}{x:Value}(h:fM w b i x)(hv:cellV x=true)(hf:fM w b j (.tuple #[])):∃arr,rowAt w b arr∧arr[i]?=some x:=by obtain⟨arr,e,mk,h1,_,hx⟩:=h;obtain⟨arr',e',mk',h2,h3,_⟩:=hf;rw[h1]at h2;cases h2;rw[h3 rfl]at h1;exact⟨arr,⟨e,h1⟩,hx (I5 hv)⟩
theorem fM.lt{w:World}{b i:Nat}{x:Value}(h:fM w b i x):b<w.heap.size:=by obtain⟨arr,e,mk,h,_⟩:=h;exact(Array.getElem?_eq_some_iff.1 h).1
theorem fM.of_same{w w':World}{b i:Nat}{x:Value}(h:fM w b i x)(hs:w'.heap[b]?=w.heap[b]?):fM w' b i x:=by obtain⟨arr,e,mk,h,hx⟩:=h;exact⟨arr,e,mk,hs.trans h,hx⟩
def O.key:O→Nat
 | .vec _ es _ _=>es.length|_=>0
def O.owned:O→Bool
 | .cells _ ro=>!ro| .dead=>false|_=>true
def dG(E:Env)(w:World)(l:Loc):O→Prop
 | .cells cs _=>∃b c arr,E.k l 0=some (b,c)∧rowAt w b arr∧dS E cs arr.toList∧(∀v∈cs,v.isCell=true)∧∀i,E.G b i=none| .vec sz es fr gr=>∃ b c arr,E.k l es.length=some (b,c)∧rowAt w b arr∧arr.size=c * sz∧es.length≤c∧(gr=false→c=es.length) ∧
   (∀e∈es,e.cells.length=sz)∧(∀d∈flat es,d.isCell=true)∧(∀(q:Nat) (d:D) (x:Value),(flat es)[q]?=some d→arr[q]?=some x→RD E.G d x)∧
   (fr=true→∀q,q<(flat es).length→E.G b q=arr[q]?)∧(∀q,fr=false∨(flat es).length≤q→E.G b q=none)
 | .map es=>∃ (b c:Nat) (ents:Array MapEntry),E.k l 0=some (b,c)∧w.heap[b]?=some (.map ents ents.size)∧ents.size=es.length ∧
   (∀(i:Nat) (k:D) (v:V) (e:MapEntry),es[i]?=some (k,v)→ents[i]?=some e→RD E.G k e.key∧RV E v e.val∧e.born=i)∧∀i,E.G b i=none
 | .sit s pos=>∃b c,E.k l 0=some (b,c)∧w.heap[b]?=some (.stringIter s pos)∧∀i,E.G b i=none| .dead=>True| .loop ..=>False
def qj(E:Env)(tm:List (Nat×V))(tmps:Array Value):Prop:=∀t v,look t tm=some v→t<tmps.size∧RV E v (tmps.getD t undef)
theorem qj.mono{E E':Env}(hE:E.Le E'){tm:List (Nat×V)}{tmps:Array Value}(h:qj E tm tmps):qj E' tm tmps:=
 fun t v hv=>⟨(h t v hv).1,(h t v hv).2.mono hE⟩
def nC(C:aY)(E:Env)(w:World)(i:Nat):O→Prop
 | .loop st pending f tm ob ps a bd=>∃ b c r,E.k (.heap i) 0=some (b,c)∧w.heap[b]?=some (.loop r)∧(∀ q,E.G b q=none) ∧
   r.state=st∧r.pending=pending∧r.fn=f∧r.params=ps.toArray∧r.assign=a∧r.body=bd∧qj (E.round i) tm r.tmps∧
   (∀t g o,look t ob=some (g,o)→(o=.dead∨∃cs,o=.cells cs true)∧dG (E.round i) w (.slot t g) o)∧(∀t g n,dY t ob≤g→E.kl i t g n=none)∧sO C f ps a bd r.tmps.size
 |o=>dG E.bare w (.heap i) o
def O.isLoop:O→Bool
 | .loop ..=>true|_=>false
theorem nC.base{C:aY}{E:Env}{w:World}{i:Nat}{o:O}(h:nC C E w i o)(hl:o.isLoop=false):dG E.bare w (.heap i) o:=by cases o<;>first|exact h|simp[O.isLoop]at hl
theorem dG.toH{C:aY}{E:Env}{w:World}{i:Nat}{o:O}(h:dG E.bare w (.heap i) o):nC C E w i o:=by cases o<;>first|exact h|exact h.elim
def own(E:Env)(l:Loc)(o:O)(b:Nat):Prop:=o.owned=true∧∃c,E.k l o.key=some (b,c)
def Own(E:Env)(m:Mem)(b:Nat):Prop:=∃l o,m.get l=some o∧own E l o b
def heldBy(E:Env)(l:Loc)(o:O)(b:Nat):Prop:=match o with
 | .cells _ true=>∃c,E.k l 0=some (b,c)| .loop _ _ _ _ ob _ _ _=>∃i t g cs c,l=.heap i∧look t ob=some (g,.cells cs true)∧E.kl i t g 0=some (b,c)|_=>False
def Held(E:Env)(m:Mem)(b:Nat):Prop:=∃l o,m.get l=some o∧heldBy E l o b
structure Inv(C:aY)(E:Env)(m:Mem)(w:World):Prop where
 prot:∀b i x,E.G b i=some x→fM w b i x
 slots:∀t g o,m.get (.slot t g)=some o→dG E w (.slot t g) o
 heap:∀i o,m.get (.heap i)=some o→nC C E w i o
 dist:∀l o l' o' b,m.get l=some o→m.get l'=some o'→own E l o b→own E l' o' b→l=l'
 held:∀b,Held E m b→¬Own E m b
 freshH:∀i n,m.hp.length≤i→E.k (.heap i) n=none
 freshS:∀t g n,dY t m.ob≤g→E.k (.slot t g) n=none
 top:∀l sz es fr gr,m.get l=some (.vec sz es fr gr)→∀n,es.length<n→E.k l n=none
 glob:∀g cs,C.gl g=some cs→∃xs:Nat→Value,(∀q c,cs[q]?=some c→E.G g q=some (xs q))∧(∀q c,cs[q]?=some c→RD E.G c (xs q))∧∀c∈cs,c.isCell=true
def nS(w w':World):Prop:=w'.os=w.os∧w'.output=w.output
theorem nS.refl(w:World):nS w w:=⟨rfl,rfl⟩
theorem nS.trans{w1 w2 w3:World}(h:nS w1 w2)(h':nS w2 w3):nS w1 w3:=⟨h'.1.trans h.1,h'.2.trans h.2⟩
structure Moved(E:Env)(m:Mem)(w:World)(E':Env)(m':Mem)(w':World):Prop where
 G:∀b i x,E.G b i=some x→E'.G b i=some x
 kh:∀i n p,E.k (.heap i) n=some p→E'.k (.heap i) n=some p
 kl:∀l t g n,l<m.hp.length→E'.kl l t g n=E.kl l t g n
 size:w.heap.size≤w'.heap.size
 len:m.hp.length≤m'.hp.length
 kept:∀r,r<w.heap.size→¬Own E m r→w'.heap[r]?=w.heap[r]?
 owns:∀r,Own E' m' r→Own E m r∨w.heap.size≤r
 holds:∀r l o,m'.get l=some o→heldBy E' l o r→(∃o1,m.get l=some o1∧heldBy E l o1 r)∨Own E m r∨w.heap.size≤r
 newG:∀b i x,E'.G b i=some x→E.G b i=some x∨Own E m b∨w.heap.size≤b
 wos:nS w w'
theorem Moved.refl(E:Env)(m:Mem)(w:World):Moved E m w E m w:=
 ⟨fun _ _ _ h=>h,fun _ _ _ h=>h,fun _ _ _ _ _=>rfl,Nat.le_refl _,Nat.le_refl _,fun _ _ _=>rfl,fun _ h=>.inl h,fun _ _ o h h'=>.inl ⟨o,h,h'⟩,fun _ _ _ h=>.inl h,.refl w⟩
theorem Moved.trans{E1 E2 E3:Env}{m1 m2 m3:Mem}{w1 w2 w3:World}(h:Moved E1 m1 w1 E2 m2 w2)(h':Moved E2 m2 w2 E3 m3 w3):Moved E1 m1 w1 E3 m3 w3 where
 G:=fun b i x hx=>h'.G _ _ _ (h.G _ _ _ hx)
 kh:=fun i n p hp=>h'.kh _ _ _ (h.kh _ _ _ hp)
 kl:=fun l t g n hl=>(h'.kl l t g n (Nat.lt_of_lt_of_le hl h.len)).trans (h.kl l t g n hl)
 size:=Nat.le_trans h.size h'.size
 len:=Nat.le_trans h.len h'.len
 kept:=fun r hr ho=>by
  have hno:¬Own E2 m2 r:=fun h2=>by
   rcases h.owns r h2 with h1|h1
   ·exact ho h1
   ·omega
  rw[h'.kept r (Nat.lt_of_lt_of_le hr h.size) hno,h.kept r hr ho]
 owns:=fun r hr=>by
  rcases h'.owns r hr with h2|h2
  ·exact h.owns r h2
  ·exact .inr (Nat.le_trans h.size h2)
 holds:=fun r l o g1 g2=>by
  rcases h'.holds r l o g1 g2 with ⟨o1,a1,a2⟩|h2|h2
  ·exact h.holds r l o1 a1 a2
  ·rcases h.owns r h2 with h1|h1
   ·exact .inr (.inl h1)
   ·exact .inr (.inr h1)
  ·exact .inr (.inr (Nat.le_trans h.size h2))
 newG:=fun b i x hx=>by
  rcases h'.newG b i x hx with h2|h2|h2
  ·exact h.newG b i x h2
  ·rcases h.owns b h2 with h1|h1
   ·exact .inr (.inl h1)
   ·exact .inr (.inr h1)
  ·exact .inr (.inr (Nat.le_trans h.size h2))
 wos:=h.wos.trans h'.wos
structure Step(C:aY)(E:Env)(m:Mem)(w:World)(E':Env)(m':Mem)(w':World):Prop where
 inv:Inv C E' m' w'
 mov:Moved E m w E' m' w'
 le:E.Le E'
theorem Step.trans{C:aY}{E1 E2 E3:Env}{m1 m2 m3:Mem}{w1 w2 w3:World}(h:Step C E1 m1 w1 E2 m2 w2)(h':Step C E2 m2 w2 E3 m3 w3):Step C E1 m1 w1 E3 m3 w3:=
 ⟨h'.inv,h.mov.trans h'.mov,h.le.trans h'.le⟩
theorem Step.refl{C:aY}{E:Env}{m:Mem}{w:World}(h:Inv C E m w):Step C E m w E m w:=⟨h,.refl _ _ _,.refl _⟩
theorem dG.mono{E E':Env}{w w':World}{l:Loc}{o:O}(hE:E.Le E')(hb:∀b c,E.k l o.key=some (b,c)→w'.heap[b]?=w.heap[b]?∧∀q,E.G b q=none→E'.G b q=none)
  (h:dG E w l o):dG E' w' l o:=by
 cases o with
 |cells cs ro=>obtain⟨b,c,arr,h1,h2,h3,h4,h5⟩:=h;obtain⟨hw,hG⟩:=hb b c h1;exact⟨b,c,arr,hE.k _ _ _ h1,h2.of_same hw,h3.mono hE,h4,fun i=>hG i (h5 i)⟩
 | vec sz es fr gr =>
  obtain⟨b,c,arr,h1,h2,h3,h4,h5,h6,h7,h8,h9,h10⟩:=h;obtain⟨hw,hG⟩:=hb b c h1;refine⟨b,c,arr,hE.k _ _ _ h1,h2.of_same hw,h3,h4,h5,h6,h7,fun q d x hd hx=>(h8 q d x hd hx).mono hE.G,fun hf q hq=>?_,fun q hq=>hG q (h10 q hq)⟩;have hh:=h9 hf q hq;have hlen:(flat es).length=es.length*sz:=by
   have:∀(es:List D),(∀e∈es,e.cells.length=sz)→(flat es).length=es.length*sz:=by
    intro es;induction es with
    |nil=>intro _;simp[flat]|cons e es ih=>
     intro h;have:flat (e::es)=e.cells++flat es:=by simp[flat]
     rw[this,List.length_append,ih fun x hx=>h x (.tail _ hx),h e (.head _),List.length_cons,Nat.succ_mul,Nat.add_comm]
   exact this es h6
  have hlt:q<arr.size:=by rw[h3];have:es.length*sz≤c*sz:=Nat.mul_le_mul_right _ h4;omega
  rw[Array.getElem?_eq_getElem hlt]at hh ⊢;exact hE.G _ _ _ hh
 |map es=>obtain⟨b,c,ents,h1,h2,h3,h4,h5⟩:=h;obtain⟨hw,hG⟩:=hb b c h1;exact⟨b,c,ents,hE.k _ _ _ h1,hw.trans h2,h3,fun i k v e h h'=>let⟨x,y,z⟩:=h4 i k v e h h';⟨x.mono hE.G,y.mono hE,z⟩,fun i=>hG i (h5 i)⟩
 |sit s pos=>obtain⟨b,c,h1,h2,h3⟩:=h;obtain⟨hw,hG⟩:=hb b c h1;exact⟨b,c,hE.k _ _ _ h1,hw.trans h2,fun i=>hG i (h3 i)⟩
 |dead=>trivial|loop=>exact h.elim
theorem dG.lt{E:Env}{w:World}{l:Loc}{o:O}(h:dG E w l o){b c:Nat}(hk:E.k l o.key=some (b,c))(hd:o≠.dead):b<w.heap.size:=by
 cases o with
 |cells cs ro=>obtain⟨b',c',arr,h1,h2,_⟩:=h;simp only[O.key]at hk;rw[h1]at hk;cases hk;exact h2.lt
 |vec sz es fr gr=>obtain⟨b',c',arr,h1,h2,_⟩:=h;simp only[O.key]at hk;rw[h1]at hk;cases hk;exact h2.lt
 |map es=>obtain⟨b',c',ents,h1,h2,_⟩:=h;simp only[O.key]at hk;rw[h1]at hk;cases hk;exact(Array.getElem?_eq_some_iff.1 h2).1
 |sit s pos=>obtain⟨b',c',h1,h2,_⟩:=h;simp only[O.key]at hk;rw[h1]at hk;cases hk;exact(Array.getElem?_eq_some_iff.1 h2).1
 |dead=>exact absurd rfl hd|loop=>exact h.elim
theorem Env.Le.round{E E':Env}{i:Nat}(hE:E.Le E')(hkl:∀t g n,E'.kl i t g n=E.kl i t g n):(E.round i).Le (E'.round i):=
 ⟨hE.G,fun l n p hp=>by cases l<;>simp only[Env.round]at hp ⊢<;>first|exact hE.k _ _ _ hp|(rw[hkl];exact hp)⟩
theorem nC.mono{C:aY}{E E':Env}{w w':World}{i:Nat}{o:O}(hE:E.bare.Le E'.bare)(hkl:∀t g n,E'.kl i t g n=E.kl i t g n)
  (hb:∀b c,E.k (.heap i) o.key=some (b,c)→w'.heap[b]?=w.heap[b]?∧∀q,E.G b q=none→E'.G b q=none)
  (hh:∀b,heldBy E (.heap i) o b→w'.heap[b]?=w.heap[b]?∧∀q,E.G b q=none→E'.G b q=none)(h:nC C E w i o):nC C E' w' i o:=by
 have base:∀o,(∀b c,E.k (.heap i) o.key=some (b,c)→w'.heap[b]?=w.heap[b]?∧∀q,E.G b q=none→E'.G b q=none)→dG E.bare w (.heap i) o→dG E'.bare w' (.heap i) o:=
  fun o hb h=>h.mono hE hb
 cases o with
 | loop st pending f tm ob ps a bd =>
  obtain⟨b,c,r,h1,h2,h3,h4,h5,h6,h7,h8,h9,h10,h11,h12,h13⟩:=h;obtain⟨hw,hG⟩:=hb b c h1
  have hr:(E.round i).Le (E'.round i):=⟨hE.G,fun l n p hp=>by
   cases l with
   |slot t g=>simp only[Env.round]at hp ⊢;rw[hkl];exact hp|heap j=>exact hE.k (.heap j) n p hp⟩
  refine⟨b,c,r,hE.k (.heap i) _ _ h1,hw.trans h2,fun q=>hG q (h3 q),h4,h5,h6,h7,h8,h9,h10.mono hr,fun t g o ho=>?_,fun t g n hg=>by rw[hkl];exact h12 t g n hg,h13⟩;obtain⟨ho',hrel⟩:=h11 t g o ho;refine⟨ho',?_⟩;rcases ho' with rfl|⟨cs,rfl⟩
  ·trivial
  ·exact hrel.mono hr fun b c hk=>hh b ⟨i,t,g,cs,c,rfl,ho,hk⟩
 |cells cs ro=>exact base _ hb h|vec=>exact base _ hb h|map=>exact base _ hb h|sit=>exact base _ hb h|dead=>trivial
section
variable{C:aY}{E:Env}{m:Mem}{w:World}
theorem Inv.lt_own(hI:Inv C E m w){l:Loc}{o:O}(h:m.get l=some o){b:Nat}(ho:own E l o b):b<w.heap.size:=by
 obtain⟨h1,c,h2⟩:=ho;have hd:o≠.dead:=fun e=>by subst e;simp[O.owned]at h1
 cases l with
 |slot t g=>exact(hI.slots t g o h).lt h2 hd| heap i =>
  have hr:=hI.heap i o h;cases o with
  |loop st pending f tm ob ps a bd=>obtain⟨b',c',r,k1,k2,_⟩:=hr;simp only[O.key]at h2;rw[k1]at h2;cases h2;exact(Array.getElem?_eq_some_iff.1 k2).1
  |cells cs ro=>exact(hr.base rfl).lt (b:=b) (c:=c) h2 hd|vec=>exact(hr.base rfl).lt (b:=b) (c:=c) h2 hd|map=>exact(hr.base rfl).lt (b:=b) (c:=c) h2 hd|sit=>exact(hr.base rfl).lt (b:=b) (c:=c) h2 hd|dead=>exact absurd rfl hd
theorem Inv.lt_held(hI:Inv C E m w){l:Loc}{o:O}(h:m.get l=some o){b:Nat}(ho:heldBy E l o b):b<w.heap.size:=by
 cases o with
 | cells cs ro =>
  cases ro with
  |false=>exact ho.elim|true=>
   obtain⟨c,hc⟩:=ho;cases l with
   |slot t g=>exact(hI.slots t g _ h).lt hc (by simp)|heap i=>exact((hI.heap i _ h).base rfl).lt (b:=b) (c:=c) hc (by simp)
 |loop st pending f tm ob ps a bd=>obtain⟨i,t,g,cs,c,rfl,h1,h2⟩:=ho;obtain⟨_,_,_,_,_,_,_,_,_,_,_,_,_,h11,_⟩:=hI.heap i _ h;exact(h11 t g _ h1).2.lt h2 (by simp)
 |_=>exact ho.elim
theorem nK{E E':Env}{l:Loc}{o:O}{b:Nat}(hk:E'.k l 0=E.k l 0)(hkl:∀i t g n,l=.heap i→E'.kl i t g n=E.kl i t g n)(h:heldBy E' l o b):heldBy E l o b:=by
 cases o with
 |cells cs ro=>
  cases ro with
  |false=>exact h|true=>obtain⟨c,hc⟩:=h;exact⟨c,hk▸hc⟩
 |loop st pending f tm ob ps a bd=>obtain⟨i,t,g,cs,c,rfl,h1,h2⟩:=h;exact⟨i,t,g,cs,c,rfl,h1,by rw[←hkl i t g 0 rfl];exact h2⟩
 |_=>exact h
theorem yV{m:Mem}{i:Nat}{o:O}(h:m.get (.heap i)=some o):i<m.hp.length:=(List.getElem?_eq_some_iff.1 h).1
theorem Inv.glob_mono{E E':Env}(hI:Inv C E m w)(hE:E.Le E')(g:Nat)(cs:List D)(h:C.gl g=some cs) :
  ∃xs:Nat→Value,(∀q c,cs[q]?=some c→E'.G g q=some (xs q))∧(∀q c,cs[q]?=some c→RD E'.G c (xs q))∧∀c∈cs,c.isCell=true:=
 let⟨xs,h1,h2,h3⟩:=hI.glob g cs h
 ⟨xs,fun q c hc=>hE.G _ _ _ (h1 q c hc),fun q c hc=>(h2 q c hc).mono hE.G,h3⟩
def UC(E:Env)(m:Mem)(l:Loc)(b:Nat):Prop:=∃o,m.get l=some o∧own E l o b
theorem Inv.put{E':Env}{m':Mem}{w':World}{l:Loc}{o':O}(hI:Inv C E m w)(hE:E.Le E')(hkl:E'.kl=E.kl)(hko:∀l' n,l'≠l→E'.k l' n=E.k l' n)
  (hsz:w.heap.size≤w'.heap.size)(hos:nS w w')(hw:∀r,r<w.heap.size→¬UC E m l r→w'.heap[r]?=w.heap[r]?)
  (hnew:∀b i x,E'.G b i=some x→E.G b i=some x∨UC E m l b∨w.heap.size≤b)
  (hprot:∀b i x,E'.G b i=some x→UC E m l b∨w.heap.size≤b→fM w' b i x)
  (hown:∀b,own E' l o' b→UC E m l b∨w.heap.size≤b)
  (hget:m'.get l=some o')(hother:∀l' o,l'≠l→m'.get l'=some o→m.get l'=some o)
  (hrel:(∀i,l=.heap i→nC C E' w' i o')∧∀t g,l=.slot t g→dG E' w' l o')
  (hheld:∀b,heldBy E' l o' b→∃o,m.get l=some o∧heldBy E l o b)
  (hlen:m.hp.length≤m'.hp.length)(hgen:∀t,dY t m.ob≤dY t m'.ob)(hli:∀i,l=.heap i→i<m'.hp.length)(hlg:∀t g,l=.slot t g→g<dY t m'.ob)
  (htop:∀sz es fr gr,o'=.vec sz es fr gr→∀n,es.length<n→E'.k l n=none):Step C E m w E' m' w':=by
 have was_own:∀b,UC E m l b→Own E m b:=fun b ⟨o,h1,h2⟩=>⟨l,o,h1,h2⟩
 have own_back:∀l' o b,l'≠l→own E' l' o b→own E l' o b:=fun l' o b hl ⟨h1,c,h2⟩=>⟨h1,c,by rw[hko l' _ hl]at h2;exact h2⟩
 have abide:∀b,b<w.heap.size→¬UC E m l b→w'.heap[b]?=w.heap[b]?∧∀q,E.G b q=none→E'.G b q=none:=fun b hb hn=>
  ⟨hw b hb hn,fun q hq=>by
   cases hx:E'.G b q with
   |none=>rfl|some x=>
    rcases hnew b q x hx with h|h|h
    ·rw[hq]at h;cases h
    ·exact absurd h hn
    ·omega⟩
 have other_own:∀l' o b,l'≠l→m.get l'=some o→own E l' o b→¬UC E m l b:=fun l' o b hl hg ho ⟨o1,h1,h2⟩=>hl (hI.dist l' o l o1 b hg h1 ho h2);have other_held:∀l' o b,m.get l'=some o→heldBy E l' o b→¬UC E m l b:=fun l' o b hg ho hw=>hI.held b ⟨l',o,hg,ho⟩ (was_own b hw);have keyed:∀l' o b c,l'≠l→m.get l'=some o→o≠.dead→E.k l' o.key=some (b,c)→¬UC E m l b:=by
  intro l' o b c hl hg hd hk;cases ho:o.owned with
  |true=>exact other_own l' o b hl hg ⟨ho,c,hk⟩| false =>
   cases o with
   |cells cs ro=>
    cases ro with
    |true=>exact other_held l' _ b hg ⟨c,hk⟩|false=>simp[O.owned]at ho
   |dead=>exact absurd rfl hd|_=>simp[O.owned]at ho
 have hbare:=hE.bare;refine⟨⟨?_,?_,?_,?_,?_,?_,?_,?_,fun g cs h=>hI.glob_mono hE g cs h⟩,⟨hE.G,fun i n p hp=>hE.k _ _ _ hp,fun i t g n _=>by rw[hkl],hsz,hlen,?_,?_,?_,?_,hos⟩,hE⟩
 ·intro b i x hx;by_cases hc:UC E m l b∨w.heap.size≤b
  ·exact hprot b i x hx hc
  ·have hc1:¬UC E m l b:=fun h=>hc (.inl h);have hc2:b<w.heap.size:=Nat.lt_of_not_le fun h=>hc (.inr h);rcases hnew b i x hx with h|h|h
   ·exact(hI.prot b i x h).of_same (hw b hc2 hc1)
   ·exact absurd h hc1
   ·omega
 ·intro t g o ho;by_cases hl:Loc.slot t g=l
  ·rw[hl,hget]at ho;cases ho;rw[hl];exact hrel.2 t g hl.symm
  ·have hm:=hother _ _ hl ho;by_cases hd:o=.dead
   ·subst hd;trivial
   ·exact(hI.slots t g o hm).mono hE fun b c hk=>abide b ((hI.slots t g o hm).lt hk hd) (keyed _ o b c hl hm hd hk)
 ·intro i o ho;by_cases hl:Loc.heap i=l
  ·rw[hl,hget]at ho;cases ho;exact hrel.1 i hl.symm
  ·have hm:=hother _ _ hl ho;by_cases hd:o=.dead
   ·subst hd;trivial
   ·refine(hI.heap i o hm).mono hbare (fun t g n=>by rw[hkl]) (fun b c hk=>abide b ?_ (keyed _ o b c hl hm hd hk)) (fun b hb=>abide b (hI.lt_held hm hb) (other_held _ _ b hm hb));cases hoo:o.owned with
    |true=>exact hI.lt_own hm ⟨hoo,c,hk⟩| false =>
     cases o with
     |cells cs ro=>
      cases ro with
      |true=>exact hI.lt_held hm ⟨c,hk⟩|false=>simp[O.owned]at hoo
     |dead=>exact absurd rfl hd|_=>simp[O.owned]at hoo
 ·intro l1 o1 l2 o2 b h1 h2 k1 k2;by_cases e1:l1=l<;>by_cases e2:l2=l
  ·rw[e1,e2]
  ·subst e1;rw[hget]at h1;cases h1;have hm:=hother _ _ e2 h2;have ho:=own_back _ _ _ e2 k2;rcases hown b k1 with h|h
   ·exact absurd h (other_own _ _ _ e2 hm ho)
   ·have:=hI.lt_own hm ho;omega
  ·subst e2;rw[hget]at h2;cases h2;have hm:=hother _ _ e1 h1;have ho:=own_back _ _ _ e1 k1;rcases hown b k2 with h|h
   ·exact absurd h (other_own _ _ _ e1 hm ho)
   ·have:=hI.lt_own hm ho;omega
  ·exact hI.dist _ _ _ _ b (hother _ _ e1 h1) (hother _ _ e2 h2) (own_back _ _ _ e1 k1) (own_back _ _ _ e2 k2)
 ·rintro b ⟨l1,o1,h1,k1⟩ ⟨l2,o2,h2,k2⟩;have hh:Held E m b:=by
   by_cases e1:l1=l
   ·subst e1;rw[hget]at h1;cases h1;obtain⟨o,a1,a2⟩:=hheld b k1;exact⟨_,o,a1,a2⟩
   ·exact⟨l1,o1,hother _ _ e1 h1,nK (hko _ _ e1) (fun i t g n _=>by rw[hkl]) k1⟩
  have hlt:b<w.heap.size:=let⟨_,_,a1,a2⟩:=hh;hI.lt_held a1 a2;refine hI.held b hh ?_;by_cases e2:l2=l
  ·subst e2;rw[hget]at h2;cases h2;rcases hown b k2 with h|h
   ·exact was_own b h
   ·omega
  ·exact⟨l2,o2,hother _ _ e2 h2,own_back _ _ _ e2 k2⟩
 ·intro i n hi;have hne:Loc.heap i≠l:=fun e=>by have:=hli i e.symm;omega
  rw[hko _ _ hne];exact hI.freshH i n (Nat.le_trans hlen hi)
 ·intro t g n hg;have hne:Loc.slot t g≠l:=fun e=>by have:=hlg t g e.symm;omega
  rw[hko _ _ hne];exact hI.freshS t g n (Nat.le_trans (hgen t) hg)
 ·intro l1 sz es fr gr h1 n hn;by_cases e1:l1=l
  ·subst e1;rw[hget]at h1;cases h1;exact htop sz es fr gr rfl n hn
  ·rw[hko _ _ e1];exact hI.top l1 sz es fr gr (hother _ _ e1 h1) n hn
 ·exact fun r hr hn=>hw r hr fun h=>hn (was_own r h)
 ·rintro r ⟨l1,o1,h1,k1⟩;by_cases e1:l1=l
  ·subst e1;rw[hget]at h1;cases h1;exact(hown r k1).imp (was_own r) id
  ·exact .inl ⟨l1,o1,hother _ _ e1 h1,own_back _ _ _ e1 k1⟩
 ·intro r l1 o1 h1 k1;by_cases e1:l1=l
  ·subst e1;rw[hget]at h1;cases h1;exact .inl (hheld r k1)
  ·exact .inl ⟨o1,hother _ _ e1 h1,nK (hko _ _ e1) (fun i t g n _=>by rw[hkl]) k1⟩
 ·intro b i x hx;rcases hnew b i x hx with h|h|h
  ·exact .inl h
  ·exact .inr (.inl (was_own b h))
  ·exact .inr (.inr h)
end
section
variable{C:aY}{E:Env}{m:Mem}{w:World}
theorem Inv.grow{E':Env}{w':World}(hI:Inv C E m w)(hG:∀b i x,E.G b i=some x→E'.G b i=some x)(hk:E'.k=E.k)(hkl:E'.kl=E.kl)
  (hsz:w.heap.size≤w'.heap.size)(hos:nS w w')(hw:∀r,r<w.heap.size→w'.heap[r]?=w.heap[r]?)
  (hnew:∀b i x,E'.G b i=some x→E.G b i=some x∨(w.heap.size≤b∧fM w' b i x)):Step C E m w E' m w':=by
 have hE:E.Le E':=⟨hG,fun l n p h=>by rw[hk];exact h⟩
 have ownE:∀l o b,own E' l o b→own E l o b:=fun l o b ⟨h1,c,h2⟩=>⟨h1,c,by rw[hk]at h2;exact h2⟩
 have heldE:∀l o b,heldBy E' l o b→heldBy E l o b:=fun l o b h=>nK (by rw[hk]) (fun i t g n _=>by rw[hkl]) h;have abide:∀b,b<w.heap.size→w'.heap[b]?=w.heap[b]?∧∀q,E.G b q=none→E'.G b q=none:=fun b hb=>
  ⟨hw b hb,fun q hq=>by
   cases hx:E'.G b q with
   |none=>rfl|some x=>
    rcases hnew b q x hx with h|⟨h,_⟩
    ·rw[hq]at h;cases h
    ·omega⟩
 refine⟨⟨?_,?_,?_,?_,?_,?_,?_,?_,fun g cs h=>hI.glob_mono hE g cs h⟩,⟨hG,fun i n p hp=>hE.k _ _ _ hp,fun i t g n _=>by rw[hkl],hsz,Nat.le_refl _,fun r hr _=>hw r hr,?_,?_,?_,hos⟩,hE⟩
 ·intro b i x hx;rcases hnew b i x hx with h|⟨_,h⟩
  ·have hc:=hI.prot b i x h;exact hc.of_same (hw b hc.lt)
  ·exact h
 ·intro t g o ho;by_cases hd:o=.dead
  ·subst hd;trivial
  ·exact(hI.slots t g o ho).mono hE fun b c hk'=>abide b ((hI.slots t g o ho).lt hk' hd)
 ·intro i o ho;by_cases hd:o=.dead
  ·subst hd;trivial
  ·refine(hI.heap i o ho).mono hE.bare (fun t g n=>by rw[hkl]) (fun b c hk'=>abide b ?_) (fun b hb=>abide b (hI.lt_held ho hb));cases o with
   |cells cs ro=>
    cases ro with
    |true=>exact hI.lt_held ho ⟨c,hk'⟩|false=>exact hI.lt_own ho ⟨rfl,c,hk'⟩
   |dead=>exact absurd rfl hd|vec=>exact hI.lt_own ho ⟨rfl,c,hk'⟩|map=>exact hI.lt_own ho ⟨rfl,c,hk'⟩|sit=>exact hI.lt_own ho ⟨rfl,c,hk'⟩|loop=>exact hI.lt_own ho ⟨rfl,c,hk'⟩
 ·exact fun l1 o1 l2 o2 b h1 h2 k1 k2=>hI.dist l1 o1 l2 o2 b h1 h2 (ownE _ _ _ k1) (ownE _ _ _ k2)
 ·rintro b ⟨l1,o1,h1,k1⟩ ⟨l2,o2,h2,k2⟩;exact hI.held b ⟨l1,o1,h1,heldE _ _ _ k1⟩ ⟨l2,o2,h2,ownE _ _ _ k2⟩
 ·intro i n hi;rw[hk];exact hI.freshH i n hi
 ·intro t g n hg;rw[hk];exact hI.freshS t g n hg
 ·intro l sz es fr gr h n hn;rw[hk];exact hI.top l sz es fr gr h n hn
 ·rintro r ⟨l,o,h1,h2⟩;exact .inl ⟨l,o,h1,ownE _ _ _ h2⟩
 ·intro r l o h1 h2;exact .inl ⟨o,h1,heldE _ _ _ h2⟩
 ·intro b i x hx;rcases hnew b i x hx with h|⟨h,_⟩
  ·exact .inl h
  ·exact .inr (.inr h)
def Env.place(E:Env)(l:Loc)(key:Nat)(p:Nat×Nat):Env where
 G:=E.G
 k:=fun l' n=>if l'=l then(if n=key then some p else none)else E.k l' n
 kl:=E.kl
theorem Env.place_at(E:Env)(l:Loc)(key:Nat)(p:Nat×Nat):(E.place l key p).k l key=some p:=by simp[Env.place]
def Mem.isNew(m:Mem):Loc→Prop
 | .heap i=>i=m.hp.length| .slot t g=>g=dY t m.ob
def Mem.add(m:Mem):Loc→O→Mem
 | .heap _,o=>{m with hp:=m.hp++[o] }| .slot t g,o=>{m with ob:=ins t (g,o) m.ob}
theorem iP{α:Type}(t:Nat)(v:α)(s:Nat):∀l:List (Nat×α),look s (ins t v l)=if s=t then some v else look s l:=by
 intro l;induction l with
 | nil =>
  by_cases h:s=t
  ·subst h;simp[ins,look]
  ·have:(t==s)=false:=by simpa using fun e=>h e.symm
   simp[ins,look,this,h]
 | cons p l ih =>
  obtain⟨u,x⟩:=p;simp only[ins];by_cases h:u=t
  ·subst h;simp only[beq_self_eq_true,cond_true,look];by_cases h2:s=u
   ·subst h2;simp
   ·have:(u==s)=false:=by simpa using fun e=>h2 e.symm
    simp[this,h2]
  ·have h':(u==t)=false:=by simpa using h
   simp only[h',cond_false];cases hle:Nat.ble u t with
   | true =>
    simp only[cond_true,look,ih];by_cases h2:u=s
    ·subst h2;simp[h]
    ·have:(u==s)=false:=by simpa using h2
     simp[this]
   | false =>
    simp only[cond_false,look];by_cases h2:s=t
    ·subst h2;simp
    ·have:(t==s)=false:=by simpa using fun e=>h2 e.symm
     simp[this,h2]
theorem Mem.get_add_same{l:Loc}(o:O)(h:m.isNew l):(m.add l o).get l=some o:=by
 cases l with
 |heap i=>simp only[Mem.isNew]at h;subst h;simp[Mem.add,Mem.get]|slot t g=>simp[Mem.add,Mem.get,iP]
theorem Mem.get_add_other{l l':Loc}{o o':O}(h:m.isNew l)(hne:l'≠l)(hg:(m.add l o).get l'=some o'):m.get l'=some o':=by
 cases l with
 | heap i =>
  simp only[Mem.isNew]at h;subst h;cases l' with
  | heap j =>
   simp only[Mem.add,Mem.get,List.getElem?_append]at hg ⊢;split at hg
   ·exact hg
   ·rename_i hj;have:j≠m.hp.length:=fun e=>hne (by rw[e]);rw[List.getElem?_eq_none (by simp;omega)]at hg;cases hg
  |slot t g=>exact hg
 | slot t g =>
  cases l' with
  |heap j=>exact hg| slot t' g' =>
   simp only[Mem.add,Mem.get,iP]at hg ⊢;by_cases ht:t'=t
   ·subst ht;simp only[if_true]at hg;by_cases hgg:g=g'
    ·exact absurd (by rw[hgg]) hne
    ·have:(g==g')=false:=by simpa using hgg
     simp[this]at hg
   ·simpa[ht]using hg
theorem Mem.no_get_new{l:Loc}(h:m.isNew l):m.get l=none:=by
 cases l with
 |heap i=>simp only[Mem.isNew]at h;subst h;simp[Mem.get]| slot t g =>
  simp only[Mem.isNew]at h;subst h;simp only[Mem.get,dY];cases hl:look t m.ob with
  |none=>rfl|some p=>
   obtain⟨g,o⟩:=p;have:(g==g+1)=false:=by simp
   simp[this]
theorem Env.le_place{l:Loc}{key:Nat}{p:Nat×Nat}(hI:Inv C E m w)(h:m.isNew l):E.Le (E.place l key p):=by
 refine⟨fun _ _ _ h=>h,fun l' n q hq=>?_⟩;simp only[Env.place];split
 ·rename_i e;subst e;cases l' with
  |heap i=>rw[hI.freshH i n (by simp only[Mem.isNew]at h;omega)]at hq;cases hq|slot t g=>rw[hI.freshS t g n (by simp only[Mem.isNew]at h;omega)]at hq;cases hq
 ·exact hq
theorem tq(t:Nat)(g:Nat)(o:O)(ob:List (Nat×Nat×O))(s:Nat):dY s (ins t (g,o) ob)=if s=t then g+1 else dY s ob:=by by_cases h:s=t<;>simp[dY,iP,h]
theorem Inv.new{l:Loc}{o':O}{c:Nat}{w':World}(hI:Inv C E m w)(hn:m.isNew l)(hpl:o'.isLoop=false)(hro:∀cs,o'≠.cells cs true)
  (hsz:w.heap.size≤w'.heap.size)(hos:nS w w')(hw:∀r,r<w.heap.size→w'.heap[r]?=w.heap[r]?){b:Nat}(hb:w.heap.size≤b)
  (hrel:(∀i,l=.heap i→nC C (E.place l o'.key (b,c)) w' i o')∧∀t g,l=.slot t g→dG (E.place l o'.key (b,c)) w' l o') :
  Step C E m w (E.place l o'.key (b,c)) (m.add l o') w':=by
 have nowas:∀r,¬UC E m l r:=fun r ⟨o,h,_⟩=>by rw[Mem.no_get_new hn]at h;cases h
 refine hI.put (l:=l) (o':=o') (Env.le_place hI hn) rfl (fun l' n hne=>by simp[Env.place,hne]) hsz hos (fun r hr _=>hw r hr) (fun b i x h=>.inl h) (fun b' i x h hh=>?_) (fun b' ⟨_,c',h⟩=>?_)
  (Mem.get_add_same o' hn) (fun l' o hne h=>Mem.get_add_other hn hne h) hrel (fun b' h=>?_) ?_ ?_ ?_ ?_ (fun sz es fr gr ho n hlt=>?_)
 ·rcases hh with hh|hh
  ·exact absurd hh (nowas _)
  ·have:=(hI.prot b' i x h).lt;omega
 ·rw[Env.place_at]at h;cases h;exact .inr hb
 ·cases o' with
  |cells cs ro=>cases ro with
   |true=>exact absurd rfl (hro cs)|false=>exact h.elim
  |loop=>simp[O.isLoop]at hpl|_=>exact h.elim
 ·cases l<;>simp[Mem.add]
 ·intro t;cases l with
  |heap i=>exact Nat.le_refl _|slot t' g=>
   simp only[Mem.add,tq];split
   ·rename_i e;subst e;simp only[Mem.isNew]at hn;omega
   ·exact Nat.le_refl _
 ·intro i hi;subst hi;simp only[Mem.isNew]at hn;simp[Mem.add,hn]
 ·intro t g hl;subst hl;simp[Mem.add,tq]
 ·subst ho;have hne:¬n=O.key (.vec sz es fr gr):=fun e=>by simp only[O.key]at e;omega
  show(if l=l then(if n=O.key (.vec sz es fr gr)then some (b,c)else none)else E.k l n)=none;rw[if_pos rfl,if_neg hne]
theorem Mem.get_set_same{l:Loc}{o:O}(o':O)(h:m.get l=some o):(m.set l o').get l=some o':=by
 cases l with
 |heap i=>have:=yV h;simp[Mem.set,Mem.get,this]
 |slot t g=>simp[Mem.set,Mem.get,iP]
theorem Mem.get_set_other{l l':Loc}{o o' o'':O}(h:m.get l=some o)(hne:l'≠l)(hg:(m.set l o').get l'=some o''):m.get l'=some o'':=by
 cases l with
 | heap i =>
  cases l' with
  |heap j=>have:i≠j:=fun e=>hne (by rw[e]);simpa[Mem.set,Mem.get,List.getElem?_set,this]using hg
  |slot t g=>exact hg
 | slot t g =>
  cases l' with
  |heap j=>exact hg| slot t' g' =>
   simp only[Mem.set,Mem.get,iP]at hg ⊢;by_cases ht:t'=t
   ·subst ht;simp only[if_true]at hg;by_cases hgg:g=g'
    ·exact absurd (by rw[hgg]) hne
    ·have:(g==g')=false:=by simpa using hgg
     simp[this]at hg
   ·simpa[ht]using hg
theorem Inv.set{E':Env}{w':World}{l:Loc}{o o':O}(hI:Inv C E m w)(hold:m.get l=some o)(hE:E.Le E')(hkl:E'.kl=E.kl)(hko:∀l' n,l'≠l→E'.k l' n=E.k l' n)
  (hsz:w.heap.size≤w'.heap.size)(hos:nS w w')(hw:∀r,r<w.heap.size→¬own E l o r→w'.heap[r]?=w.heap[r]?)
  (hnew:∀b i x,E'.G b i=some x→E.G b i=some x∨own E l o b∨w.heap.size≤b)
  (hprot:∀b i x,E'.G b i=some x→own E l o b∨w.heap.size≤b→fM w' b i x)
  (hown:∀b,own E' l o' b→own E l o b∨w.heap.size≤b)
  (hrel:(∀i,l=.heap i→nC C E' w' i o')∧∀t g,l=.slot t g→dG E' w' l o')
  (hheld:∀b,heldBy E' l o' b→heldBy E l o b)
  (htop:∀sz es fr gr,o'=.vec sz es fr gr→∀n,es.length<n→E'.k l n=none):Step C E m w E' (m.set l o') w':=by
 have was:∀b,UC E m l b↔own E l o b:=fun b=>⟨fun⟨o1,h1,h2⟩=>by rw[hold]at h1;cases h1;exact h2,fun h=>⟨o,hold,h⟩⟩
 refine hI.put (l:=l) (o':=o') hE hkl hko hsz hos (fun r hr h=>hw r hr fun h'=>h ((was r).2 h')) (fun b i x h=>(hnew b i x h).imp id (Or.imp (was b).2 id)) (fun b i x h h'=>hprot b i x h (h'.imp (was b).1 id))
  (fun b h=>(hown b h).imp (was b).2 id) (Mem.get_set_same o' hold) (fun l' o hne h=>Mem.get_set_other hold hne h) hrel (fun b h=>⟨o,hold,hheld b h⟩) ?_ ?_ ?_ ?_ htop
 ·cases l<;>simp[Mem.set]
 ·intro t;cases l with
  |heap i=>exact Nat.le_refl _| slot t' g =>
   simp only[Mem.set,tq];split
   ·rename_i e;subst e;simp only[Mem.get]at hold;simp only[dY];cases hl:look t m.ob with
    |none=>simp[hl]at hold| some p =>
     obtain⟨g',o1⟩:=p;simp only[hl]at hold;cases hgg:(g'==g)with
     |false=>simp[hgg]at hold|true=>
      have:g'=g:=by simpa using hgg
      simp[this]
   ·exact Nat.le_refl _
 ·intro i hi;subst hi;have:=yV hold;simpa[Mem.set]using this
 ·intro t g hl;subst hl;simp[Mem.set,tq]
end
end Mw
