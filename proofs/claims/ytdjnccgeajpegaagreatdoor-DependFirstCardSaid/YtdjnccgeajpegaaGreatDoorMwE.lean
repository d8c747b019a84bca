/- DependFirst's tied card holds; no condition beyond the card's own. -/
import Derived.Test.YtdjnccgeajpegaaGreatDoorMwB
import Derived.Test.YtdjnccgeajpegaaGreatDoorMwD
set_option linter.unusedVariables false
set_option linter.unusedSimpArgs false
namespace Mw
open Go
theorem fJ(as bs:List D):flat (as++bs)=flat as++flat bs:=by simp[flat]
theorem mg{sz:Nat}{es:List D}(h:∀e∈es,e.cells.length=sz)(n:Nat):flat (es.take n)=(flat es).take (n*sz):=by
 rcases Nat.lt_or_ge n es.length with hn|hn
 ·have h1:flat es=flat (es.take n)++flat (es.drop n):=by rw[←fJ,List.take_append_drop]
  have h2:(flat (es.take n)).length=n*sz:=by rw[flat_length fun e he=>h e (List.mem_of_mem_take he)];rw[List.length_take,Nat.min_eq_left (Nat.le_of_lt hn)]
  rw[h1,←h2,List.take_left]
 ·rw[List.take_of_length_le hn,List.take_of_length_le];rw[flat_length h];exact Nat.mul_le_mul_right _ hn
theorem tu{sz:Nat}{es:List D}(h:∀e∈es,e.cells.length=sz)(n:Nat):flat (es.drop n)=(flat es).drop (n*sz):=by
 rcases Nat.lt_or_ge n es.length with hn|hn
 ·have h1:flat es=flat (es.take n)++flat (es.drop n):=by rw[←fJ,List.take_append_drop]
  have h2:(flat (es.take n)).length=n*sz:=by rw[flat_length fun e he=>h e (List.mem_of_mem_take he)];rw[List.length_take,Nat.min_eq_left (Nat.le_of_lt hn)]
  rw[h1,←h2,List.drop_left]
 ·rw[List.drop_of_length_le hn,List.drop_of_length_le]
  ·rfl
  ·rw[flat_length h];exact Nat.mul_le_mul_right _ hn
theorem qx{es:List D}{off n:Nat}{d:D}(h:d∈flat ((es.drop off).take n)):d∈flat es:=by simp only[flat,List.mem_flatMap]at h ⊢;obtain⟨e,he,hd⟩:=h;exact⟨e,List.mem_of_mem_drop (List.mem_of_mem_take he),hd⟩
section
variable{C:aY}{E:Env}{m:Mem}{w:World}
theorem Inv.vec(hI:Inv C E m w){l:Loc}{sz:Nat}{es:List D}{fr gr:Bool}(h:m.get l=some (.vec sz es fr gr)) :
  ∃b c arr,E.k l es.length=some (b,c)∧rowAt w b arr∧arr.size=c*sz∧es.length≤c∧(gr=false→c=es.length)∧
   (∀e∈es,e.cells.length=sz)∧(∀d∈flat es,d.isCell=true)∧(∀(q:Nat) (d:D) (x:Value),(flat es)[q]?=some d→arr[q]?=some x→RD E.G d x)∧
   (fr=true→∀q,q<(flat es).length→E.G b q=arr[q]?)∧(∀q,fr=false∨(flat es).length≤q→E.G b q=none):=by
 cases l with
 |slot t g=>exact hI.slots t g _ h|heap i=>obtain⟨b,c,arr,h1,h2,h3,h4,h5,h6,h7,h8,h9,h10⟩:=(hI.heap i _ h).base rfl;exact⟨b,c,arr,h1,h2,h3,h4,h5,h6,h7,h8,h9,h10⟩
theorem lX{sz:Nat}{es:List D}(h:∀e∈es,e.cells.length=sz)(off n:Nat){q:Nat}{c:D}(hq:(flat ((es.drop off).take n))[q]?=some c):(flat es)[off*sz+q]?=some c:=by
 rw[mg (sz:=sz) (fun e he=>h e (List.mem_of_mem_drop he)),tu h]at hq;have hlt:q<n*sz:=by
  rcases Nat.lt_or_ge q (n*sz)with h|h
  ·exact h
  ·rw[List.getElem?_take_eq_none (by omega)]at hq;cases hq
 rw[List.getElem?_take,if_pos hlt,List.getElem?_drop]at hq;exact hq
theorem Inv.list_of_frozen(hI:Inv C E m w){l:Loc}{sz:Nat}{es:List D}{gr:Bool}(h:m.get l=some (.vec sz es true gr)){off n:Nat}{x:Value}(hn:off+n≤es.length)
  (hx:RV E (.sl l sz es.length off n) x):RD E.G (.list sz ((es.drop off).take n)) x:=by
 obtain⟨b,c,arr,h1,h2,h3,h4,h5,h6,h7,h8,h9,h10⟩:=hI.vec h;obtain⟨b',c',a,cap,k1,k2,k3,k4,rfl⟩:=hx.sl_inv;rw[h1]at k1;cases k1;have hl:((es.drop off).take n).length=n:=by simp;omega
 have hlen:=flat_length h6;have hsub:∀q c,(flat ((es.drop off).take n))[q]?=some c→(flat es)[off*sz+q]?=some c∧a=off*sz:=by
  intro q c hq;refine⟨lX h6 off n hq,?_⟩;rcases k2 with k2|k2
  ·subst k2;simp[flat]at hq
  ·exact k2
 have hin:∀q c,(flat es)[q]?=some c→∃y,arr[q]?=some y:=fun q c' hq=>by
  have h1:=(List.getElem?_eq_some_iff.1 hq).1;have:es.length*sz≤c*sz:=Nat.mul_le_mul_right _ h4;have hlt:q<arr.size:=by omega
  exact⟨arr[q],Array.getElem?_eq_getElem hlt⟩
 have key:RD E.G (.list sz ((es.drop off).take n)) (.slice (some ⟨b,a,none⟩) ((es.drop off).take n).length cap):=by
  refine .list sz _ b a cap (fun q=>(arr[off*sz+q]?).getD undef) (by omega) (fun e he=>h6 e (List.mem_of_mem_drop (List.mem_of_mem_take he))) (fun q c hq=>?_) (fun q c hq=>?_)
   (fun c hc=>h7 c (qx hc))
  ·obtain⟨e1,e2⟩:=hsub q c hq;obtain⟨y,hy⟩:=hin _ _ e1;rw[e2,h9 rfl _ (List.getElem?_eq_some_iff.1 e1).1,hy];rfl
  ·obtain⟨e1,e2⟩:=hsub q c hq;obtain⟨y,hy⟩:=hin _ _ e1;rw[hy];exact h8 _ _ _ e1 hy
 rwa[hl]at key
theorem Inv.freeze(hI:Inv C E m w){l:Loc}{sz:Nat}{es:List D}{gr:Bool}(h:m.get l=some (.vec sz es false gr)) :
  ∃E',Step C E m w E' (m.set l (.vec sz es true gr)) w:=by
 obtain⟨b,c,arr,h1,h2,h3,h4,h5,h6,h7,h8,h9,h10⟩:=hI.vec h;have hlen:=flat_length h6;have hsz:es.length*sz≤c*sz:=Nat.mul_le_mul_right _ h4;let E':Env:={G:=fun b' q=>if b'=b∧q<(flat es).length then arr[q]? else E.G b' q,k:=E.k,kl:=E.kl}
 have hGle:∀b' i x,E.G b' i=some x→E'.G b' i=some x:=fun b' i x hx=>by
  show(if b'=b∧i<(flat es).length then arr[i]? else E.G b' i)=some x;split
  ·rename_i hc;rw[hc.1,h10 i (.inl rfl)]at hx;cases hx
  ·exact hx
 have hE:E.Le E':=⟨hGle,fun _ _ _ h=>h⟩
 have hG0:∀q,true=false∨(flat es).length≤q→E'.G b q=none:=fun q hq=>by
  show(if b=b∧q<(flat es).length then arr[q]? else E.G b q)=none;rcases hq with hq|hq
  ·cases hq
  ·rw[if_neg (by omega)];exact h10 q (.inl rfl)
 have hrel:dG E' w l (.vec sz es true gr):=⟨b,c,arr,h1,h2,h3,h4,h5,h6,h7,fun q d x hd hx=>(h8 q d x hd hx).mono hGle,fun _ q hq=>by
  show(if b=b∧q<(flat es).length then arr[q]? else E.G b q)=arr[q]?
  rw[if_pos ⟨rfl,hq⟩],hG0⟩
 refine⟨E',hI.set h hE rfl (fun _ _ _=>rfl) (Nat.le_refl _) (.refl w) (fun _ _ _=>rfl) (fun b' i x hx=>?_) (fun b' i x hx _=>?_) (fun b' hb=>.inl hb) ⟨fun i hi=>?_,fun t g hi=>hrel⟩ (fun b hb=>hb.elim) ?_⟩
 ·by_cases hc:b'=b∧i<(flat es).length
  ·exact .inr (.inl ⟨rfl,c,by rw[hc.1];exact h1⟩)
  ·have:E'.G b' i=E.G b' i:=if_neg hc;rw[this]at hx;exact .inl hx
 ·by_cases hc:b'=b∧i<(flat es).length
  ·have:E'.G b' i=arr[i]?:=if_pos hc;rw[this]at hx;rw[hc.1];exact h2.gcell hx
  ·have:E'.G b' i=E.G b' i:=if_neg hc;rw[this]at hx;exact hI.prot b' i x hx
 ·subst hi;obtain⟨b,c,arr,rest⟩:=hrel;exact dG.toH ⟨b,c,arr,rest⟩
 ·intro sz' es' fr' gr' he n hn;cases he;exact hI.top l _ _ _ _ h n hn
def Up(g:Rd)(m:Mem):Prop:=∀l o,g l=some o→m.get l=some o∨∃sz es gr,o=.vec sz es false gr∧m.get l=some (.vec sz es true gr)
theorem Up.refl(m:Mem):Up m.get m:=fun _ _ h=>.inl h
theorem Up.only(ls:List Loc)(m:Mem):Up (iT ls m) m:=fun l o h=>by
 unfold iT at h;cases hc:ls.any (Loc.eq l)with
 |true=>simp only[hc,cond_true]at h;exact .inl h|false=>simp only[hc,cond_false,reduceCtorEq]at h
theorem Up.set {g:Rd} (hu:Up g m) {l:Loc} {sz:Nat} {es:List D} {gr:Bool} (h:m.get l=some (.vec sz es false gr)):Up g (m.set l (.vec sz es true gr)):=by
 intro l' o ho;by_cases e:l'=l
 ·subst e;rcases hu l' o ho with h'|⟨sz',es',gr',rfl,h'⟩
  ·rw[h]at h';cases h';exact .inr ⟨_,_,_,rfl,Mem.get_set_same _ h⟩
  ·rw[h]at h';cases h'
 ·have back:∀ o1,m.get l'=some o1→(m.set l (.vec sz es true gr)).get l'=some o1:=by
   intro o1 h1;cases l with
   | heap i =>
    cases l' with
    |heap j=>have:i≠j:=fun e'=>e (by rw[e']);simpa[Mem.set,Mem.get,List.getElem?_set,this]using h1
    |slot t g=>exact h1
   | slot t g =>
    cases l' with
    |heap j=>exact h1| slot t' g' =>
     simp only[Mem.set,Mem.get,iP]at h h1 ⊢;by_cases ht:t'=t
     ·subst ht;cases hl:look t' m.ob with
      |none=>simp[hl]at h| some p =>
       obtain⟨gg,oo⟩:=p;simp only[hl]at h h1;cases hg1:(gg==g)with
       |false=>simp[hg1]at h| true =>
        cases hg2:(gg==g')with
        |false=>simp[hg2]at h1|true=>
         have a1:gg=g:=by simpa using hg1
         have a2:gg=g':=by simpa using hg2
         exact absurd (by rw[←a1,←a2]) e
     ·simpa[ht]using h1
  rcases hu l' o ho with h'|⟨sz',es',gr',rfl,h'⟩
  ·exact .inl (back _ h')
  ·exact .inr ⟨_,_,_,rfl,back _ h'⟩
end
section
variable{C:aY}
def ah5(C:aY)(g:Rd)(E:Env)(m:Mem)(w:World)(v:V)(x:Value)(ss:List (Loc×O)):Prop:=
 ∃E',Step C E m w E' (m.sets ss) w∧RV E'.bare v x∧Up g (m.sets ss)
def abI(C:aY)(g:Rd)(E:Env)(m:Mem)(w:World)(vs:List V)(xs:List Value)(ss:List (Loc×O)):Prop:=
 ∃E',Step C E m w E' (m.sets ss) w∧dS E'.bare vs xs∧Up g (m.sets ss)
theorem Mem.sets_append(m:Mem)(a b:List (Loc×O)):m.sets (a++b)=(m.sets a).sets b:=by
 induction a generalizing m with
 |nil=>rfl|cons p a ih=>obtain⟨l,o⟩:=p;exact ih _
theorem Tz{mode:Nat}{g:Rd}:∀{v v':V} {ss:List (Loc×O)},bH mode g v=some (v',ss)→v.isCell=true→v'.isCell=true:=by
 intro v v' ss h hc;cases v with
 |d x=>simp[bH]at h;obtain⟨rfl,rfl⟩:=h;exact hc
 |undef=>simp[V.isCell]at hc|ptr l off=>simp only[bH]at h;cases hl:l.isHeap<;>simp[hl]at h;obtain⟨rfl,rfl⟩:=h;rfl
 |ept l sz len i off=>simp only[bH]at h;cases hl:l.isHeap<;>simp[hl]at h;obtain⟨rfl,rfl⟩:=h;rfl
 |map l=>simp only[bH]at h;cases hl:l.isHeap<;>simp[hl]at h;obtain⟨rfl,rfl⟩:=h;rfl
 |dptr cs off=>simp[bH]at h;obtain⟨rfl,rfl⟩:=h;rfl
 |vptr=>simp[bH]at h|asl=>simp[bH]at h|ex sz es=>simp only[bH]at h;cases hm:(mode==0)<;>simp[hm]at h<;>obtain⟨rfl,rfl⟩:=h<;>rfl
 | sl l sz len off n =>
  simp only[bH]at h;cases hb:(l.isHeap&&mode !=1)with
  |true=>simp only[hb,cond_true,oI,pI]at h;obtain⟨rfl,rfl⟩:=h;rfl
  | false =>
   simp only[hb,cond_false]at h;split at h
   ·rename_i sz' es fr gr hg;cases hb:((sz'==sz)&&(es.length==len)&&Nat.ble (off+n) len)with
    |false=>simp only[hb,cond_false,reduceCtorEq]at h|true=>simp only[hb,cond_true,oI,pI]at h;obtain⟨rfl,rfl⟩:=h;rfl
   ·cases h
 |agg cs=>simp[V.isCell]at hc|tuple cs=>simp[V.isCell]at hc|vl cs=>
  simp only[bH]at h;split at h
  ·simp only[oI,pI]at h;obtain⟨rfl,rfl⟩:=h;rfl
  ·cases h
 |fn f a b=>
  simp only[bH]at h;split at h
  ·simp only[oI,pI]at h;obtain⟨rfl,rfl⟩:=h;rfl
  ·cases h
 |iface t v=>
  simp only[bH]at h;split at h
  ·simp only[oI,pI]at h;obtain⟨rfl,rfl⟩:=h;rfl
  ·simp only[oI,pI]at h;obtain⟨rfl,rfl⟩:=h;rfl
  ·cases h
theorem mW{mode:Nat}{g:Rd}:∀{vs vs':List V} {ss:List (Loc×O)},bH.goL mode g vs=some (vs',ss)→(∀v∈vs,v.isCell=true)→∀v∈vs',v.isCell=true:=by
 intro vs;induction vs with
 |nil=>intro vs' ss h _;simp[bH.goL]at h;obtain⟨rfl,rfl⟩:=h;simp
 | cons v vs ih =>
  intro vs' ss h hc;simp only[bH.goL]at h;split at h
  ·rename_i v1 ss1 vs1 ts1 h1 h2;simp only[oI,pI]at h;obtain⟨rfl,rfl⟩:=h;intro u hu;cases hu with
   |head=>exact Tz h1 (hc _ (.head _))|tail _ hu=>exact ih h2 (fun u hu=>hc u (.tail _ hu)) u hu
  ·cases h
theorem lW{E:Env}{l:Loc}{n:Nat}{p:Nat×Nat}(hl:l.isHeap=true)(h:E.k l n=some p):E.bare.k l n=some p:=by
 cases l with
 |heap i=>exact h|slot t g=>simp[Loc.isHeap]at hl
theorem dS.toArray{E:Env}{vs:List V}{xs:Array Value}(h:dS E vs xs.toList):xs.size=vs.length∧∀(i:Nat) (v:V) (x:Value),vs[i]?=some v→xs[i]?=some x→RV E v x:=
 ⟨by simpa using h.1,fun i v x hv hx=>h.2 i v x hv (by simpa using hx)⟩
 mutual
theorem fZ (mode:Nat) (g:Rd):∀ (v:V) (v':V) (ss:List (Loc × O)) (E:Env) (m:Mem) (w:World) (x:Value),bH mode g v=some (v',ss)→Inv C E m w→Up g m→RV E v x→ah5 C g E m w v' x ss
 | .d y,v',ss,E,m,w,x,h,hI,hu,hr=>by simp[bH]at h;obtain⟨rfl,rfl⟩:=h;exact⟨E,.refl hI,.d y x hr.of_d,hu⟩
 | .undef,v',ss,E,m,w,x,h,hI,hu,hr=>by simp[bH]at h;obtain⟨rfl,rfl⟩:=h;exact⟨E,.refl hI,.undef x,hu⟩
 | .ptr l off,v',ss,E,m,w,x,h,hI,hu,hr=>by simp only[bH]at h;cases hl:l.isHeap<;>simp[hl]at h;obtain⟨rfl,rfl⟩:=h;obtain⟨b,c,hk,rfl⟩:=hr.ptr_inv;exact⟨E,.refl hI,.ptr l off b c (lW hl hk),hu⟩
 | .ept l sz len i off,v',ss,E,m,w,x,h,hI,hu,hr=>by simp only[bH]at h;cases hl:l.isHeap<;>simp[hl]at h;obtain⟨rfl,rfl⟩:=h;obtain⟨b,c,hk,rfl⟩:=hr.ept_inv;exact⟨E,.refl hI,.ept l sz len i off b c (lW hl hk),hu⟩
 | .map l,v',ss,E,m,w,x,h,hI,hu,hr=>by simp only[bH]at h;cases hl:l.isHeap<;>simp[hl]at h;obtain⟨rfl,rfl⟩:=h;obtain⟨b,c,hk,rfl⟩:=hr.map_inv;exact⟨E,.refl hI,.map l b c (lW hl hk),hu⟩
 | .dptr cs off,v',ss,E,m,w,x,h,hI,hu,hr=>by simp[bH]at h;obtain⟨rfl,rfl⟩:=h;obtain⟨b,o,xs,rfl,h1,h2,h3⟩:=hr.dptr_inv;exact⟨E,.refl hI,.dptr cs off b o xs h1 h2 h3,hu⟩
 | .vptr cs off,v',ss,E,m,w,x,h,hI,hu,hr=>by simp[bH]at h| .asl l off n,v',ss,E,m,w,x,h,hI,hu,hr=>by simp[bH]at h| .ex sz es,v',ss,E,m,w,x,h,hI,hu,hr=>by
  simp only[bH]at h;cases hm:(mode==0)with
  |true=>simp[hm]at h;obtain⟨rfl,rfl⟩:=h;cases hr with|ex _ _ a hr=>exact⟨E,.refl hI,.ex sz es a hr,hu⟩
  |false=>simp[hm]at h;obtain⟨rfl,rfl⟩:=h;cases hr with|ex _ _ a hr=>exact⟨E,.refl hI,.d _ _ hr,hu⟩
 | .sl l sz len off n,v',ss,E,m,w,x,h,hI,hu,hr=>by
  simp only[bH]at h;cases hb:(l.isHeap&&mode !=1)with
  |true=>simp only[hb,cond_true,oI,pI]at h;obtain⟨rfl,rfl⟩:=h;obtain⟨b,c,a,cap,hk,h2,h3,h4,rfl⟩:=hr.sl_inv;exact⟨E,.refl hI,.sl l sz len off n b c a cap (lW (by simp at hb;exact hb.1) hk) h2 h3 h4,hu⟩
  | false =>
   simp only[hb,cond_false]at h;split at h
   ·rename_i sz' es fr gr hg;cases hc:((sz'==sz)&&(es.length==len)&&Nat.ble (off+n) len)with
    |false=>simp only[hc,cond_false,reduceCtorEq]at h| true =>
     simp only[hc,cond_true,oI,pI]at h;obtain⟨rfl,rfl⟩:=h;simp only[Bool.and_eq_true,beq_iff_eq,Nat.ble_eq]at hc;obtain⟨⟨rfl,rfl⟩,hle⟩:=hc;have hcase:fr=true∧m.get l=some (.vec sz' es true gr)∨fr=false∧∃fr',m.get l=some (.vec sz' es fr' gr):=by
      rcases hu l _ hg with h'|⟨sz1,es1,gr1,he,h'⟩
      ·cases fr
       ·exact .inr ⟨rfl,_,h'⟩
       ·exact .inl ⟨rfl,h'⟩
      ·cases he;exact .inr ⟨rfl,_,h'⟩
     rcases hcase with ⟨rfl,h'⟩|⟨rfl,fr',h'⟩
     ·exact⟨E,.refl hI,.d _ _ (hI.list_of_frozen h' hle hr),hu⟩
     ·cases fr' with
      |false=>obtain⟨E',hs⟩:=hI.freeze h';exact⟨E',hs,.d _ _ (hs.inv.list_of_frozen (Mem.get_set_same _ h') hle (hr.mono hs.le)),hu.set h'⟩
      | true =>
       have hE:Step C E m w E (m.set l (.vec sz' es true gr)) w:=by
        obtain⟨b,c,arr,hv⟩:=hI.vec h';refine hI.set h' (.refl E) rfl (fun _ _ _=>rfl) (Nat.le_refl _) (.refl w) (fun _ _ _=>rfl) (fun b i x h=>.inl h) (fun b i x h _=>hI.prot b i x h) (fun b hb=>.inl hb) ⟨fun i hi=>?_,fun t g hi=>?_⟩ (fun b hb=>hb.elim) ?_
        ·subst hi;exact hI.heap i _ h'
        ·subst hi;exact hI.slots t g _ h'
        ·intro sz2 es2 fr2 gr2 he n hn;cases he;exact hI.top l _ _ _ _ h' n hn
       refine⟨E,hE,.d _ _ (hI.list_of_frozen h' hle hr),fun l' o ho=>?_⟩;by_cases e:l'=l
       ·subst e;rw[hg]at ho;cases ho;exact .inr ⟨_,_,_,rfl,Mem.get_set_same _ h'⟩
       ·have back:∀ o1,m.get l'=some o1→(m.set l (.vec sz' es true gr)).get l'=some o1:=by
         intro o1 h1;cases l with
         | heap i =>
          cases l' with
          |heap j=>have:i≠j:=fun e'=>e (by rw[e']);simpa[Mem.set,Mem.get,List.getElem?_set,this]using h1
          |slot t g=>exact h1
         | slot t g =>
          cases l' with
          |heap j=>exact h1| slot t' g' =>
           simp only[Mem.set,Mem.get,iP]at h' h1 ⊢;by_cases ht:t'=t
           ·subst ht;cases hl:look t' m.ob with
            |none=>simp[hl]at h'| some p =>
             obtain⟨gg,oo⟩:=p;simp only[hl]at h' h1;cases hg1:(gg==g)with
             |false=>simp[hg1]at h'| true =>
              cases hg2:(gg==g')with
              |false=>simp[hg2]at h1|true=>
               have a1:gg=g:=by simpa using hg1
               have a2:gg=g':=by simpa using hg2
               exact absurd (by rw[←a1,←a2]) e
           ·simpa[ht]using h1
        rcases hu l' o ho with h2|⟨_,_,_,rfl,h2⟩
        ·exact .inl (back _ h2)
        ·exact .inr ⟨_,_,_,rfl,back _ h2⟩
   ·cases h
 | .agg cs,v',ss,E,m,w,x,h,hI,hu,hr=>by
  simp only[bH]at h;split at h
  ·rename_i cs' ss' hl;simp only[oI,pI]at h;obtain⟨rfl,rfl⟩:=h;obtain⟨xs,rfl,hrs,hc⟩:=hr.agg_inv;obtain⟨E',h1,h2,h3⟩:=bT mode g cs cs' ss' E m w xs.toList hl hI hu hrs;refine⟨E',h1,?_,h3⟩;rcases RV.ofCells h2 (mW hl hc) (ag:=true) (v:=rW cs') rfl with ⟨_,h⟩|⟨h,_⟩
   ·simpa using h
   ·cases h
  ·cases h
 | .tuple cs,v',ss,E,m,w,x,h,hI,hu,hr=>by
  simp only[bH]at h;split at h
  ·rename_i cs' ss' hl;simp only[oI,pI]at h;obtain⟨rfl,rfl⟩:=h;obtain⟨xs,rfl,hrs⟩:=hr.tuple_inv;obtain⟨E',h1,h2,h3⟩:=bT mode g cs cs' ss' E m w xs.toList hl hI hu hrs;exact⟨E',h1,.tuple cs' xs h2.toArray.1 h2.toArray.2,h3⟩
  ·cases h
 | .vl cs,v',ss,E,m,w,x,h,hI,hu,hr=>by
  simp only[bH]at h;split at h
  ·rename_i cs' ss' hl;simp only[oI,pI]at h;obtain⟨rfl,rfl⟩:=h;obtain⟨b,o,cap,xs,rfl,hc,hG,hR,hcell,fi,hF⟩:=hr.vl_inv'
   have hrs:dS E cs ((List.range cs.length).map xs):=⟨by simp,fun i v y hv hy=>by
    have hi:=(List.getElem?_eq_some_iff.1 hv).1;simp[List.getElem?_map,List.getElem?_range hi]at hy;subst hy
    exact hR i v hv⟩
   obtain⟨E',h1,h2,h3⟩:=bT mode g cs cs' ss' E m w _ hl hI hu hrs;have hlen:cs'.length=cs.length:=by have:=h2.1;simp at this;omega
   have key:RV E'.bare (.vl cs') (.slice (some ⟨b,o,none⟩) cs'.length cap):=by
    refine .vl cs' b o cap xs (by omega) (fun q c hq=>?_) (fun q c hq=>?_) (mW hl hcell) ⟨fi,h1.le.G _ _ _ hF⟩
    ·have hq':=(List.getElem?_eq_some_iff.1 hq).1;exact h1.le.G _ _ _ (hG q (cs[q]'(by omega)) (List.getElem?_eq_getElem (by omega)))
    ·have hq':=(List.getElem?_eq_some_iff.1 hq).1;exact h2.2 q c (xs q) hq (by simp[List.getElem?_map,List.getElem?_range (show q<cs.length by omega)])
   rw[hlen]at key;exact⟨E',h1,key,h3⟩
  ·cases h
 | .fn f a b,v',ss,E,m,w,x,h,hI,hu,hr=>by
  simp only[bH]at h;split at h
  ·rename_i a' sa b' sb ha hb;simp only[oI,pI]at h;obtain⟨rfl,rfl⟩:=h;have mk:∀xa xb,dS E a xa→dS E b xb→∃E',Step C E m w E' (m.sets (sa++sb)) w∧dS E'.bare a' xa∧dS E'.bare b' xb∧Up g (m.sets (sa++sb)):=by intro xa xb hA hB;obtain⟨E1,h1,h2,h3⟩:=bT mode g a a' sa E m w xa ha hI hu hA;obtain⟨E2,k1,k2,k3⟩:=bT mode g b b' sb E1 (m.sets sa) w xb hb h1.inv h3 (hB.mono h1.le);rw[Mem.sets_append];exact⟨E2,h1.trans k1,h2.mono k1.le.bare,k2,k3⟩
   cases hr with
   |fn _ _ _ xa xb hf la lb hA hB=>obtain⟨E',h1,h2,h3,h4⟩:=mk xa.toList xb.toList ⟨by simpa using la,fun i v x hv hx=>hA i v x hv (by simpa using hx)⟩ ⟨by simpa using lb,fun i v x hv hx=>hB i v x hv (by simpa using hx)⟩;exact⟨E',h1,.fn f a' b' xa xb hf h2.toArray.1 h3.toArray.1 h2.toArray.2 h3.toArray.2,h4⟩
   |yield l b0 c hk=>simp[bH.goL]at ha hb;obtain⟨rfl,rfl⟩:=ha;obtain⟨rfl,rfl⟩:=hb;exact⟨E,.refl hI,.yield l b0 c hk,hu⟩
  ·cases h
 | .iface t v,v',ss,E,m,w,x,h,hI,hu,hr=>by
  obtain⟨y,rfl,hy⟩:=hr.iface_inv;simp only[bH]at h;split at h
  ·rename_i z sz hz;simp only[oI,pI]at h;obtain⟨rfl,rfl⟩:=h;obtain⟨E',h1,h2,h3⟩:=fZ mode g v _ _ E m w y hz hI hu hy;exact⟨E',h1,.d _ _ (.iface t _ _ h2.of_d),h3⟩
  ·rename_i z sz _ hz;simp only[oI,pI]at h;obtain⟨rfl,rfl⟩:=h;obtain⟨E',h1,h2,h3⟩:=fZ mode g v _ _ E m w y hz hI hu hy;exact⟨E',h1,.iface t _ _ h2,h3⟩
  ·cases h
theorem bT(mode:Nat)(g:Rd):∀(vs:List V) (vs':List V) (ss:List (Loc×O)) (E:Env) (m:Mem) (w:World) (xs:List Value),bH.goL mode g vs=some (vs',ss)→Inv C E m w→Up g m→dS E vs xs→abI C g E m w vs' xs ss
 |[],vs',ss,E,m,w,xs,h,hI,hu,hr=>by
  simp[bH.goL]at h;obtain⟨rfl,rfl⟩:=h;have:xs=[]:=by have:=hr.1;simpa using this
  subst this;exact⟨E,.refl hI,⟨rfl,fun i v x hv=>by simp at hv⟩,hu⟩
 | v :: vs,vs',ss,E,m,w,xs,h,hI,hu,hr=>by
  simp only[bH.goL]at h;split at h
  ·rename_i v1 sa vs1 sb h1 h2;simp only[oI,pI]at h;obtain⟨rfl,rfl⟩:=h
   match xs,hr with
   |[],hr=>have:=hr.1;simp at this
   |x::xs,hr=>
    obtain⟨E1,a1,a2,a3⟩:=fZ mode g v v1 sa E m w x h1 hI hu (hr.2 0 v x rfl rfl);have hr':dS E vs xs:=⟨by have:=hr.1;simpa using this,fun i v x hv hx=>hr.2 (i+1) v x (by simpa using hv) (by simpa using hx)⟩
    obtain⟨E2,b1,b2,b3⟩:=bT mode g vs vs1 sb E1 (m.sets sa) w xs h2 a1.inv a3 (hr'.mono a1.le);refine⟨E2,by rw[Mem.sets_append];exact a1.trans b1,⟨by simp[b2.1],fun i u y hu' hy=>?_⟩,by rw[Mem.sets_append];exact b3⟩;cases i with
    |zero=>simp at hu' hy;subst hu';subst hy;exact a2.mono b1.le.bare|succ i=>exact b2.2 i u y (by simpa using hu') (by simpa using hy)
  ·cases h
end
end
end Mw
namespace Mw
open Go
theorem oq{x:Value}(h:cellV x=true):x.oneCell'=true:=by cases x<;>first|rfl|simp[cellV]at h
section world
variable{P:Program}{w:World}
theorem fO(w:World)(cells:Array Value)(e:TypeId):rowAt (w.alloc (.cells cells e)) w.heap.size cells:=
 ⟨e,by simp[World.alloc,-World.alloc_eq]⟩
theorem heap_alloc(w:World)(o:Obj)(r:Nat)(h:r<w.heap.size):(w.alloc o).heap[r]?=w.heap[r]?:=by simp only[World.alloc,Array.getElem?_push];rw[if_neg (by omega)]
theorem ql(e:TypeId)(cells:Array Value):(newRow e cells).run P w=.ok ⟨w.heap.size,0,none⟩ (w.alloc (.cells cells e)):=by simp[newRow]
theorem rowAt.setCell{b:Nat}{arr:Array Value}(h:rowAt w b arr)(o:Nat)(v:Value):rowAt (w.setCell ⟨b,o,none⟩ v) b (arr.setIfInBounds o v):=by obtain⟨e,h⟩:=h;refine⟨e,?_⟩;simp[World.setCell,Array.getElem?_modify,h]
theorem heap_setCell_other(w:World)(b o:Nat)(v:Value)(r:Nat)(h:r≠b):(w.setCell ⟨b,o,none⟩ v).heap[r]?=w.heap[r]?:=by have:¬b=r:=fun e=>h e.symm;simp[World.setCell,Array.getElem?_modify,this]
theorem eY(b o:Nat):∀(vs:List Value) (i:Nat) (arr:Array Value) (w:World),rowAt w b arr→o+i+vs.length≤arr.size→(∀v∈vs,v.oneCell'=true)→
  ∃w',(storeCells ⟨b,o,none⟩ vs i).run P w=.ok () w'∧nS w w'∧w'.heap.size=w.heap.size∧(∀r,r≠b→w'.heap[r]?=w.heap[r]?)∧rowAt w' b (splice arr.toList (o+i) vs).toArray:=by
 intro vs;induction vs with
 |nil=>intro i arr w h _ _;exact⟨w,by simp[storeCells],.refl w,rfl,fun _ _=>rfl,by simpa[kL]using h⟩| cons v vs ih =>
  intro i arr w h hl hc;simp only[List.length_cons]at hl;have hlt:o+i<arr.size:=by omega
  have hst:(store ((⟨b,o,none⟩:Addr).add i) v).run P w=.ok () (w.setCell ⟨b,o+i,none⟩ v):=by rw[je,run_store P w _ v _ (hc v (.head _)),h.cell,Array.getElem?_eq_getElem hlt];simp[h.free _ hlt]
  obtain⟨w',h1,h0,h2,h3,h4⟩:=ih (i+1) _ _ (h.setCell (o+i) v) (by simp;omega) (fun u hu=>hc u (.tail _ hu));refine⟨w',by simp only[storeCells,Sem.run_bind,hst,Result.andThen_ok,h1],⟨h0.1,h0.2⟩,by rw[h2];simp,fun r hr=>by rw[h3 r hr,heap_setCell_other _ _ _ _ _ hr],?_⟩;have:=qi arr.toList (o+i) v vs (by simp;omega);rw[←this];simpa[Nat.add_assoc]using h4
theorem Gi{C:aY}(hP:C.P=P){t:TypeId}{d:TypeDesc}(hd:P.underlying t=some d){b off:Nat}{xs:List Value}(hl:xs.length=P.cellsOf t)
  (h:∀j v,xs[j]?=some v→w.cell? ⟨b,off+j,none⟩=some v) :
  (cu C t=true→(loadVar t ⟨b,off,none⟩).run P w=.ok (.agg xs.toArray) w)∧(cu C t=false→∀x,xs=[x]→(loadVar t ⟨b,off,none⟩).run P w=.ok x w):=by
 subst hP;constructor
 ·intro ha;have:=run_loadCells_list (P:=C.P) w ⟨b,off,none⟩ xs (fun j v hj=>by rw[je];exact h j v hj);rw[hl]at this;simp[loadVar,pJ hd,ha,dh hd,this]
 ·intro ha x hx;subst hx;have h0:=h 0 x rfl;simp only[Nat.add_zero]at h0;simp[loadVar,pJ hd,ha,h0]
end world
section
variable{C:aY}{E:Env}{m:Mem}{w:World}
theorem EJ{ag:Bool}{ds:List D}{d:D}(h:D.ofCells ag ds=some d):V.ofCells ag (ds.map V.d)=some (.d d):=by
 cases ag with
 | true =>
  simp[D.ofCells]at h;subst h;have:qY (ds.map V.d)=some ds:=by
   induction ds with
   |nil=>rfl|cons x ds ih=>simp[qY,ih]
  simp[V.ofCells,rW,this]
 |false=>
  simp only[D.ofCells,cond_false]at h;split at h
  ·simp at h;subst h;rfl
  ·cases h
theorem vX{t:TypeId}{d:TypeDesc}(hd:C.P.underlying t=some d){b off:Nat}{vs:List V}{xs:List Value}(hr:dS E vs xs)(hc:∀v∈vs,v.isCell=true)(hl:vs.length=C.P.cellsOf t)
  (h:∀j v,xs[j]?=some v→w.cell? ⟨b,off+j,none⟩=some v){v:V}(hv:V.ofCells (cu C t) vs=some v) :
  ∃y,(Instr.loadAt t (.pointer (some ⟨b,off,none⟩))).run C.P w=.ok y w∧RV E v y:=by
 obtain⟨h1,h2⟩:=Gi (w:=w) (C:=C) rfl hd (xs:=xs) (by rw[hr.1,hl]) h;rcases RV.ofCells hr hc hv with ⟨ha,hrel⟩|⟨ha,x,hx,hrel⟩
 ·exact⟨_,by simp[Instr.loadAt,Instr.sureAddr,h1 ha],hrel⟩
 ·exact⟨x,by simp[Instr.loadAt,Instr.sureAddr,h2 ha x hx],hrel⟩
theorem Inv.cells(hI:Inv C E m w){l:Loc}{cs:List V}{ro:Bool}(h:m.get l=some (.cells cs ro)) :
  ∃b c arr,E.k l 0=some (b,c)∧rowAt w b arr∧dS E cs arr.toList∧(∀v∈cs,v.isCell=true)∧∀i,E.G b i=none:=by
 cases l with
 |slot t g=>exact hI.slots t g _ h|heap i=>obtain⟨b,c,arr,h1,h2,h3,h4,h5⟩:=(hI.heap i _ h).base rfl;exact⟨b,c,arr,h1,h2,h3.mono E.bare_le,h4,h5⟩
theorem dS.ofD{ds:List D}{xs:List Value}(h1:xs.length=ds.length)(h:∀(i:Nat) (d:D) (x:Value),ds[i]?=some d→xs[i]?=some x→RD E.G d x):dS E (ds.map V.d) xs:=
 ⟨by simp[h1],fun i v x hv hx=>by
  simp only[List.getElem?_map,Option.map_eq_some_iff]at hv;obtain⟨d,hd,rfl⟩:=hv
  exact .d d x (h i d x hd hx)⟩
theorem iW{ds:List D}(h:∀d∈ds,d.isCell=true):∀v∈ds.map V.d,v.isCell=true:=fun v hv=>by obtain⟨d,hd,rfl⟩:=List.mem_map.1 hv;exact h d hd
theorem uq{es:List D}{sz:Nat}{i:Nat}{e:D}(h:∀e∈es,e.cells.length=sz)(hi:es[i]?=some e):e.cells.length=sz:=h e (mM hi)
theorem yI {t:TypeId} {a v:V} {g:Rd} (hI:Inv C E m w) (hg:∀ l o,g l=some o→m.get l=some o) (h:CX C t a g=some v) {x:Value} (hx:RV E a x) :
  ∃y,(Instr.loadAt t x).run C.P w=.ok y w∧RV E v y:=by
 unfold CX at h;split at h
 ·cases h
 ·rename_i n ag hsz;obtain⟨⟨d,hd⟩,rfl,rfl⟩:=VT hsz;split at h
  ·rename_i l off;obtain⟨b,c,hk,rfl⟩:=hx.ptr_inv;split at h
   ·rename_i cs ro hgl;cases hb:Nat.ble (off+C.P.cellsOf t) cs.length with
    |false=>simp only[hb,cond_false,reduceCtorEq]at h| true =>
     simp only[hb,cond_true]at h;simp only[Nat.ble_eq]at hb;obtain⟨b',c',arr,h1,h2,h3,h4,h5⟩:=hI.cells (hg _ _ hgl);rw[hk]at h1;cases h1;refine vX hd ((h3.drop off).take _) (fun v hv=>h4 v (List.mem_of_mem_drop (List.mem_of_mem_take hv))) (by simp;omega) (fun j v hj=>?_) h;rw[h2.cell];have hlt:j<C.P.cellsOf t:=by
      rcases Nat.lt_or_ge j (C.P.cellsOf t)with h|h
      ·exact h
      ·rw[List.getElem?_take_eq_none h]at hj;cases hj
     rw[List.getElem?_take,if_pos hlt,List.getElem?_drop]at hj;simpa using hj
   ·cases h
  ·rename_i l sz len i off;obtain⟨b,c,hk,rfl⟩:=hx.ept_inv;split at h
   ·rename_i sz' es fr gr hgl;cases hb:((sz'==sz)&&(es.length==len))with
    |false=>simp only[hb,cond_false,reduceCtorEq]at h| true =>
     simp only[hb,cond_true]at h;simp only[Bool.and_eq_true,beq_iff_eq]at hb;obtain⟨rfl,rfl⟩:=hb;split at h
     ·rename_i e he;cases hb:Nat.ble (off+C.P.cellsOf t) e.cells.length with
      |false=>simp only[hb,cond_false,reduceCtorEq]at h| true =>
       simp only[hb,cond_true]at h;simp only[Nat.ble_eq]at hb;split at h
       ·rename_i dd hdd;simp at h;subst h;obtain⟨b',c',arr,h1,h2,h3,h4,h5,h6,h7,h8,h9,h10⟩:=hI.vec (hg _ _ hgl);rw[hk]at h1;cases h1;have hel:=uq h6 he;have hi:=(List.getElem?_eq_some_iff.1 he).1;have hfl:=flat_length h6;have hcs:es.length*sz'≤c*sz':=Nat.mul_le_mul_right _ h4;have hii:(i+1)*sz'≤es.length*sz':=Nat.mul_le_mul_right _ hi;rw[Nat.succ_mul]at hii;have hv:=EJ hdd;refine vX (xs:=(arr.toList.drop (i*sz'+off)).take (C.P.cellsOf t)) hd (dS.ofD (by simp;omega) fun j dj xj hdj hxj=>?_) (iW fun d hd'=>?_) (by simp;omega) (fun j v hj=>?_) hv
        ·have hlt:j<C.P.cellsOf t:=by
          rcases Nat.lt_or_ge j (C.P.cellsOf t)with h|h
          ·exact h
          ·rw[List.getElem?_take_eq_none h]at hdj;cases hdj
         rw[List.getElem?_take,if_pos hlt,List.getElem?_drop]at hdj hxj;refine h8 (i*sz'+(off+j)) dj xj (kT h6 he hdj) ?_;rw[←hxj];simp[Nat.add_assoc]
        ·obtain⟨q,hq,hcc⟩:=List.mem_iff_getElem.1 (List.mem_of_mem_drop (List.mem_of_mem_take hd'));exact h7 d (mM (kT h6 he (by rw[List.getElem?_eq_getElem hq,hcc])))
        ·rw[h2.cell];have hlt:j<C.P.cellsOf t:=by
          rcases Nat.lt_or_ge j (C.P.cellsOf t)with h|h
          ·exact h
          ·rw[List.getElem?_take_eq_none h]at hj;cases hj
         rw[List.getElem?_take,if_pos hlt,List.getElem?_drop]at hj;simpa using hj
       ·cases h
     ·cases h
   ·cases h
  ·rename_i cs off;obtain⟨b,o,xs,rfl,h1,h2,h3⟩:=hx.dptr_inv;cases hb:Nat.ble (off+C.P.cellsOf t) cs.length with
   |false=>simp only[hb,cond_false,reduceCtorEq]at h| true =>
    simp only[hb,cond_true]at h;simp only[Nat.ble_eq]at hb;split at h
    ·rename_i dd hdd;simp at h;subst h;have hv:=EJ hdd;refine vX (xs:=(List.range (C.P.cellsOf t)).map fun j=>xs (off+j)) hd (dS.ofD (by simp;omega) fun j dj xj hdj hxj=>?_) (iW fun d hd'=>h3 d (List.mem_of_mem_drop (List.mem_of_mem_take hd'))) (by simp;omega) (fun j v hj=>?_) hv
     ·have hlt:j<C.P.cellsOf t:=by
       rcases Nat.lt_or_ge j (C.P.cellsOf t)with h|h
       ·exact h
       ·rw[List.getElem?_take_eq_none h]at hdj;cases hdj
      rw[List.getElem?_take,if_pos hlt,List.getElem?_drop]at hdj;simp[List.getElem?_map,List.getElem?_range hlt]at hxj;subst hxj;exact h2 _ _ hdj
     ·have hlt:j<C.P.cellsOf t:=by have:=(List.getElem?_eq_some_iff.1 hj).1;simpa using this
      simp[List.getElem?_map,List.getElem?_range hlt]at hj;subst hj;rw[Nat.add_assoc];exact(hI.prot _ _ _ (h1 (off+j) (cs[off+j]'(by omega)) (List.getElem?_eq_getElem (by omega)))).cell ((h2 (off+j) (cs[off+j]'(by omega)) (List.getElem?_eq_getElem (by omega))).cell (h3 _ (List.getElem_mem _)))
    ·cases h
  ·rename_i cs off;obtain⟨b,o,xs,rfl,h1,h2,h3⟩:=hx.vptr_inv;cases hb:Nat.ble (off+C.P.cellsOf t) cs.length with
   |false=>simp only[hb,cond_false,reduceCtorEq]at h| true =>
    simp only[hb,cond_true]at h;simp only[Nat.ble_eq]at hb;refine vX (xs:=(List.range (C.P.cellsOf t)).map fun j=>xs (off+j)) hd ⟨by simp;omega,fun j dj xj hdj hxj=>?_⟩ (fun d hd'=>h3 d (List.mem_of_mem_drop (List.mem_of_mem_take hd'))) (by simp;omega) (fun j v hj=>?_) h
    ·have hlt:j<C.P.cellsOf t:=by
      rcases Nat.lt_or_ge j (C.P.cellsOf t)with h|h
      ·exact h
      ·rw[List.getElem?_take_eq_none h]at hdj;cases hdj
     rw[List.getElem?_take,if_pos hlt,List.getElem?_drop]at hdj;simp[List.getElem?_map,List.getElem?_range hlt]at hxj;subst hxj;exact h2 _ _ hdj
    ·have hlt:j<C.P.cellsOf t:=by have:=(List.getElem?_eq_some_iff.1 hj).1;simpa using this
     simp[List.getElem?_map,List.getElem?_range hlt]at hj;subst hj;rw[Nat.add_assoc];exact(hI.prot _ _ _ (h1 (off+j) (cs[off+j]'(by omega)) (List.getElem?_eq_getElem (by omega)))).cell ((h2 (off+j) (cs[off+j]'(by omega)) (List.getElem?_eq_getElem (by omega))).cell (h3 _ (List.getElem_mem _)))
  ·cases h
end
end Mw
