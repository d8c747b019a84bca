/- DependFirst's tied card holds; no condition beyond the card's own. -/
import Derived.Test.YtdjnccgeajpegaaGreatDoorMwE
import Derived.Laws.MakeOwn
set_option linter.unusedVariables false
set_option linter.unusedSimpArgs false
namespace Mw
open Go
def Env.of(E:Env):Loc→Env
 | .heap _=>E.bare| .slot _ _=>E
theorem Env.of_le(E:Env)(l:Loc):(E.of l).Le E:=by cases l<;>first|exact E.bare_le|exact .refl E
section
variable{C:aY}{E:Env}{m:Mem}{w:World}
theorem Inv.cells'(hI:Inv C E m w){l:Loc}{cs:List V}{ro:Bool}(h:m.get l=some (.cells cs ro)) :
  ∃b c arr,E.k l 0=some (b,c)∧rowAt w b arr∧dS (E.of l) cs arr.toList∧(∀v∈cs,v.isCell=true)∧∀i,E.G b i=none:=by
 cases l with
 |slot t g=>exact hI.slots t g _ h|heap i=>obtain⟨b,c,arr,h1,h2,h3,h4,h5⟩:=(hI.heap i _ h).base rfl;exact⟨b,c,arr,h1,h2,h3,h4,h5⟩
theorem Inv.setCells(hI:Inv C E m w){l:Loc}{cs cs':List V}(h:m.get l=some (.cells cs false)){b c:Nat}(hk:E.k l 0=some (b,c)){w':World}(hos:nS w w')(hsz:w'.heap.size=w.heap.size)
  (ho:∀r,r≠b→w'.heap[r]?=w.heap[r]?){arr':Array Value}(hrow:rowAt w' b arr')(hrel:dS (E.of l) cs' arr'.toList)(hc:∀v∈cs',v.isCell=true) :
  Step C E m w E (m.set l (.cells cs' false)) w':=by
 obtain⟨b',c',arr,h1,h2,h3,h4,h5⟩:=hI.cells' h;rw[hk]at h1;cases h1;have hown:own E l (.cells cs false) b:=⟨rfl,c,hk⟩
 refine hI.set h (.refl E) rfl (fun _ _ _=>rfl) (by omega) hos (fun r hr hn=>ho r fun e=>hn (e▸hown)) (fun b i x h=>.inl h) (fun b' i x hx hh=>?_) (fun b' hb=>.inl hb) ⟨fun i hi=>?_,fun t g hi=>?_⟩ (fun b hb=>hb.elim) (fun _ _ _ _ he=>by cases he)
 ·have hp:=hI.prot b' i x hx;exact hp.of_same (ho b' fun e=>by subst e;rw[h5 i]at hx;cases hx)
 ·subst hi;exact⟨b,c,arr',hk,hrow,hrel,hc,h5⟩
 ·subst hi;exact⟨b,c,arr',hk,hrow,hrel,hc,h5⟩
theorem Inv.setVec(hI:Inv C E m w){l:Loc}{sz:Nat}{es es':List D}{gr:Bool}(h:m.get l=some (.vec sz es false gr)){b c:Nat}{arr:Array Value}(hk:E.k l es.length=some (b,c))
  (hrow0:rowAt w b arr)(hes:es'.length=es.length){w':World}(hos:nS w w')(hsz:w'.heap.size=w.heap.size)(ho:∀r,r≠b→w'.heap[r]?=w.heap[r]?){arr':Array Value}(hrow:rowAt w' b arr')
  (ha:arr'.size=arr.size)(hu:∀e∈es',e.cells.length=sz)(hc:∀d∈flat es',d.isCell=true)
  (hrel:∀(q:Nat) (d:D) (x:Value),(flat es')[q]?=some d→arr'[q]?=some x→RD E.G d x):Step C E m w E (m.set l (.vec sz es' false gr)) w':=by
 obtain⟨b',c',arr0,h1,h2,h3,h4,h5,h6,h7,h8,h9,h10⟩:=hI.vec h;rw[hk]at h1;cases h1;have harr:arr0=arr:=by obtain⟨_,a1⟩:=h2;obtain⟨_,a2⟩:=hrow0;rw[a1]at a2;cases a2;rfl
 subst harr;have hown:own E l (.vec sz es false gr) b:=⟨rfl,c,hk⟩
 have hr:dG E w' l (.vec sz es' false gr):=⟨b,c,arr',by rw[hes];exact hk,hrow,by omega,by omega,fun hg=>by rw[hes];exact h5 hg,hu,hc,hrel,fun hf=>by simp at hf,fun q _=>h10 q (.inl rfl)⟩
 refine hI.set h (.refl E) rfl (fun _ _ _=>rfl) (by omega) hos (fun r hr hn=>ho r fun e=>hn (e▸hown)) (fun b i x h=>.inl h) (fun b' i x hx hh=>?_) (fun b' hb=>.inl ?_) ⟨fun i hi=>?_,fun t g hi=>hr⟩ (fun b hb=>hb.elim) (fun sz1 es1 fr1 gr1 he n hn=>?_)
 ·have hp:=hI.prot b' i x hx;exact hp.of_same (ho b' fun e=>by subst e;rw[h10 i (.inl rfl)]at hx;cases hx)
 ·obtain⟨_,c1,hb⟩:=hb;simp only[O.key,hes]at hb;exact⟨rfl,c1,hb⟩
 ·subst hi;obtain⟨b,c,arr,rest⟩:=hr;exact dG.toH ⟨b,c,arr,rest⟩
 ·cases he;exact hI.top l _ _ _ _ h n (by omega)
theorem zA{P:Program}{t:TypeId}(h:(P.info? t).isSome=true):(Go.sizeOf t).run P w=.ok (P.cellsOf t) w:=by obtain⟨i,hi⟩:=Option.isSome_iff_exists.1 h;simp[Go.sizeOf,iq hi,Program.cellsOf,hi]
theorem DK{ag:Bool}{cs:List D}{d:D}(h:D.ofCells ag cs=some d)(hc:∀c∈cs,c.isCell=true):d.cells=cs:=by
 cases ag with
 |true=>simp[D.ofCells]at h;subst h;rfl| false =>
  simp only[D.ofCells,cond_false]at h;split at h
  ·rename_i c0;simp at h;subst h;have:=hc c0 (.head _);cases c0<;>first|rfl|simp[D.isCell]at this
  ·cases h
theorem IL{sz:Nat}{e':D}{ds:List D}{off:Nat}:∀{es:List D} {e:D} {i:Nat},(∀e∈es,e.cells.length=sz)→es[i]?=some e→e'.cells=splice e.cells off ds→off+ds.length≤e.cells.length→
  flat (es.set i e')=splice (flat es) (i*sz+off) ds:=by
 intro es;induction es with
 |nil=>intro e i _ h;simp at h| cons a es ih =>
  intro e i hu hi he' hle;have hu':∀e∈es,e.cells.length=sz:=fun x hx=>hu x (.tail _ hx);have hal:=hu a (.head _);cases i with
  |zero=>simp at hi;subst hi;rw[List.set_cons_zero,iw,iw,he',Nat.zero_mul,Nat.zero_add];simp only[splice];rw[List.take_append_of_le_length (by omega),List.drop_append_of_le_length (by omega)];simp|succ i=>
   rw[List.set_cons_succ,iw,iw,ih hu' (by simpa using hi) he' hle];simp only[splice];have e1:(i+1)*sz+off=a.cells.length+(i*sz+off):=by rw[Nat.succ_mul];omega
   rw[e1,List.take_length_add_append,show a.cells.length+(i*sz+off)+ds.length=a.cells.length+(i*sz+off+ds.length)from by omega,List.drop_length_add_append];simp
theorem yO{t:TypeId}(hi:(C.P.info? t).isSome=true){b off:Nat}{arr:Array Value}(hrow:rowAt w b arr){x:Value}(hl:x.cells.size=C.P.cellsOf t)(ho:off+x.cells.size≤arr.size)
  (hc:∀v∈x.cells.toList,v.oneCell'=true) :
  ∃w',(Instr.storeAt t (.pointer (some ⟨b,off,none⟩)) x).run C.P w=.ok () w'∧nS w w'∧w'.heap.size=w.heap.size∧(∀r,r≠b→w'.heap[r]?=w.heap[r]?)∧rowAt w' b (splice arr.toList off x.cells.toList).toArray:=by
 obtain⟨w',h1,h0,h2,h3,h4⟩:=eY (P:=C.P) b off x.cells.toList 0 arr w hrow (by simp;omega) hc;refine⟨w',?_,h0,h2,h3,by simpa using h4⟩;simp[Instr.storeAt,Instr.sureAddr,storeVar,zA hi,hl,h1]
theorem dS.oneCell{E:Env}{vs:List V}{xs:List Value}(h:dS E vs xs)(hc:∀v∈vs,v.isCell=true):∀x∈xs,x.oneCell'=true:=fun x hx=>by
 obtain⟨i,hi,rfl⟩:=List.mem_iff_getElem.1 hx;have hi':i<vs.length:=by have:=h.1;omega
 exact oq ((h.2 i vs[i] xs[i] (List.getElem?_eq_getElem hi') (List.getElem?_eq_getElem hi)).cell (hc _ (List.getElem_mem hi')))
theorem FZ{l:Loc}{vs vs':List V}{g:Rd}{ss:List (Loc×O)}(h:Fa l vs g=some (vs',ss))(hI:Inv C E m w)(hu:Up g m){xs:List Value}(hr:dS E vs xs)(hc:∀v∈vs,v.isCell=true) :
  ∃E',Step C E m w E' (m.sets ss) w∧dS (E'.of l) vs' xs∧Up g (m.sets ss)∧∀v∈vs',v.isCell=true:=by
 unfold Fa at h;cases l with
 |heap i=>simp only[Loc.isHeap,cond_true]at h;obtain⟨E',h1,h2,h3⟩:=bT 0 g _ _ _ E m w xs h hI hu hr;exact⟨E',h1,h2,h3,mW h hc⟩
 |slot t g=>simp only[Loc.isHeap,cond_false,oI,pI]at h;obtain⟨rfl,rfl⟩:=h;exact⟨E,.refl hI,hr,hu,hc⟩
theorem Up.cells{g:Rd}(hu:Up g m){l:Loc}{cs:List V}{ro:Bool}(h:g l=some (.cells cs ro)):m.get l=some (.cells cs ro):=by
 rcases hu l _ h with h|⟨_,_,_,h,_⟩
 ·exact h
 ·cases h
theorem Up.map{g:Rd}(hu:Up g m){l:Loc}{es:List (D×V)}(h:g l=some (.map es)):m.get l=some (.map es):=by
 rcases hu l _ h with h|⟨_,_,_,h,_⟩
 ·exact h
 ·cases h
theorem Fb {t:TypeId} {a v:V} {g:Rd} {ss:List (Loc × O)} (hI:Inv C E m w) (hu:Up g m) (hg:∀ l o,g l=some o→m.get l=some o) (h:AL C t a v g=some ss)
  {x y:Value} (hx:RV E a x) (hy:RV E v y):
  ∃w' E',(Instr.storeAt t x y).run C.P w=.ok () w'∧Step C E m w E' (m.sets ss) w':=by
 unfold AL at h;cases hb:((v.cells.length==aA C t)&&v.cells.all V.isCell&&(C.P.info? t).isSome)with
 |false=>simp only[hb,cond_false,reduceCtorEq]at h| true =>
  simp only[hb,cond_true]at h;simp only[Bool.and_eq_true,beq_iff_eq]at hb;obtain⟨⟨hlen,hall⟩,hinfo⟩:=hb;have hcell:∀u∈v.cells,u.isCell=true:=List.all_eq_true.1 hall;have hys:=hy.cells hall;have hyl:y.cells.size=C.P.cellsOf t:=by have:=hys.1;simp at this;rw[this,hlen];rfl
  have hyc:=hys.oneCell hcell;split at h
  ·rename_i l off;obtain⟨b,c,hk,rfl⟩:=hx.ptr_inv;split at h
   ·rename_i cs hgl;cases hb:Nat.ble (off+v.cells.length) cs.length with
    |false=>simp only[hb,cond_false,reduceCtorEq]at h| true =>
     simp only[hb,cond_true]at h;simp only[Nat.ble_eq]at hb;split at h
     ·rename_i vs ss' he;simp only[oI]at h;subst h;obtain⟨E1,s1,r1,u1,c1⟩:=FZ he hI hu hys hcell;have hm1:=u1.cells hgl;obtain⟨b1,c1',arr,h1,h2,h3,h4,h5⟩:=s1.inv.cells' hm1;have hk1:=s1.le.k _ _ _ hk;rw[hk1]at h1;cases h1;have harr:arr.size=cs.length:=by simpa using h3.1
      have hvl:vs.length=v.cells.length:=by have:=r1.1;have:=hys.1;simp at *;omega
      obtain⟨w',run,hos,hsz,ho,hrow⟩:=yO hinfo h2 (x:=y) hyl (off:=off) (by rw[hyl];have:aA C t=C.P.cellsOf t:=rfl;omega) hyc;refine⟨w',E1,run,?_⟩;rw[Mem.sets_append];refine s1.trans (s1.inv.setCells hm1 hk1 hos hsz ho hrow ?_ fun u hu=>?_)
      ·simpa using h3.splice r1 off (by omega)
      ·rcases dX hu with hu|hu
       ·exact h4 u hu
       ·exact c1 u hu
     ·cases h
   ·cases h
  ·rename_i l sz len i off;obtain⟨b,c,hk,rfl⟩:=hx.ept_inv;split at h
   ·rename_i sz' es gr vs hgl he;split at h
    ·rename_i ds e hds hel;cases hb:((sz'==sz)&&(es.length==len)&&Nat.ble (off+v.cells.length) e.cells.length)with
     |false=>simp only[hb,cond_false,reduceCtorEq]at h| true =>
      simp only[hb,cond_true]at h;simp only[Bool.and_eq_true,beq_iff_eq,Nat.ble_eq]at hb;obtain⟨⟨rfl,rfl⟩,hle⟩:=hb;split at h
      ·rename_i e' he';simp only[oI]at h;subst h;obtain⟨E1,s1,r1,u1⟩:=bT 1 g _ _ _ E m w y.cells.toList he hI hu hys;have c1:=mW he hcell;have hvs:=GK _ _ hds;subst hvs;have hgm:m.get l=some (.vec sz' es false gr):=hg _ _ hgl;have hI1:Inv C E1 m w:=s1.inv;obtain⟨b1,c1',arr,h1,h2,h3,h4,h5,h6,h7,h8,h9,h10⟩:=hI1.vec hgm;have hk1:=s1.le.k _ _ _ hk;rw[hk1]at h1;cases h1;have hel':=uq h6 hel;have hi:=(List.getElem?_eq_some_iff.1 hel).1;have hfl:=flat_length h6;have hcs:es.length*sz'≤c*sz':=Nat.mul_le_mul_right _ h4;have hii:(i+1)*sz'≤es.length*sz':=Nat.mul_le_mul_right _ hi;rw[Nat.succ_mul]at hii;have hdl:ds.length=v.cells.length:=by have:=r1.1;have:=hys.1;simp at *;omega
       have hyl':y.cells.size=v.cells.length:=by have:=hys.1;simpa using this
       obtain⟨w',run,hos,hsz,ho,hrow⟩:=yO hinfo h2 (x:=y) hyl (off:=i*sz'+off) (by omega) hyc;have hcells':e'.cells=splice e.cells off ds:=by
        have hall':∀c0∈splice e.cells off ds,c0.isCell=true:=fun c0 hm=>by
         rcases dX hm with hm|hm
         ·obtain⟨q,hq,hcc⟩:=List.mem_iff_getElem.1 hm;exact h7 c0 (mM (kT h6 hel (by rw[List.getElem?_eq_getElem hq,hcc])))
         ·exact c1 (.d c0) (List.mem_map.2 ⟨c0,hm,rfl⟩)
        exact DK he' hall'
       have hflat:flat (es.set i e')=splice (flat es) (i*sz'+off) ds:=by exact IL h6 hel hcells' (by omega)
       have hrel:dS E1 ((flat es).map V.d) (arr.toList.take (flat es).length):=by refine dS.ofD (by simp;omega) fun q d x hd hx=>?_;have hlt:=(List.getElem?_eq_some_iff.1 hd).1;rw[List.getElem?_take,if_pos hlt]at hx;exact h8 q d x hd (by simpa using hx)
       have r1':dS E1 (ds.map V.d) y.cells.toList:=r1.mono E1.bare_le;refine⟨w',E1,run,s1.trans (hI1.setVec hgm hk1 h2 (by simp) hos hsz ho hrow (by rw[List.size_toArray,aI _ _ _ (by simp;omega),Array.length_toList]) (fun u hu=>?_) (fun d hd=>?_) (fun q d x hd hx=>?_))⟩
       ·rcases List.mem_or_eq_of_mem_set hu with hu|rfl
        ·exact h6 u hu
        ·rw[hcells',aI _ _ _ (by omega),hel']
       ·rw[hflat]at hd;rcases dX hd with hd|hd
        ·exact h7 d hd
        ·exact c1 (.d d) (List.mem_map.2 ⟨d,hd,rfl⟩)
       ·rw[hflat,aB _ _ _ (by omega)]at hd;rw[List.getElem?_toArray,aB _ _ _ (by simp;omega)]at hx;have hl2:y.cells.toList.length=ds.length:=by simp;omega
        rw[hl2]at hx;split at hd
        ·rename_i hc;rw[if_pos hc]at hx;exact(r1'.2 _ (.d d) x (by simp[hd]) hx).of_d
        ·rename_i hc;rw[if_neg hc]at hx;exact h8 q d x hd (by simpa using hx)
      ·cases h
    ·cases h
   ·cases h
  ·cases h
end
section
variable{C:aY}{E:Env}{m:Mem}{w:World}
def WN(C:aY)(esc:Bool)(E:Env)(m:Mem)(w:World)(ob:O)(mk:Loc→V)(ss:List (Loc×O))(y:Value)(w':World):Prop:=
 ∃E1 b c,Step C E m w E1 (m.sets ss) w∧ob.isLoop=false∧(∀cs,ob≠.cells cs true)∧(w.heap.size≤w'.heap.size∧nS w w')∧(∀r,r<w.heap.size→w'.heap[r]?=w.heap[r]?)∧w.heap.size≤b∧
  ∀l E2,(l.isHeap=true→esc=true)→E1.Le E2→E2.G=E1.G→E2.k l ob.key=some (b,c)→dG (E2.of l) w' l ob∧RV E2 (mk l) y
def YU(E:Env)(d:DR)(d':Deferred):Prop:=∃captured:Array Value,d'.target=.fn d.f captured∧(∀l,d.f≠.yield l)∧dS E d.args (d'.args++captured).toList
def fF(C:aY)(f:Nat)(o:Oper)(E:Env)(m:Mem)(w:World)(σ:Operand→Value):Eff→Prop
 | .val v ss=>∃y w' E',(execOp σ o).run C.P w=.ok (.value y) w'∧Step C E m w E' (m.sets ss) w'∧RV E' v y| .skip ss=>∃w' E',(execOp σ o).run C.P w=.ok .skip w'∧Step C E m w E' (m.sets ss) w'| .new ob mk ss=>∃y w',(execOp σ o).run C.P w=.ok (.value y) w'∧WN C (match o.dst with|some t=>C.esc f t|none=>false) E m w ob mk ss y w'| .dfr d=>∃d' E',(execOp σ o).run C.P w=.ok (.defer d') w∧Step C E m w E' m w∧YU E'.bare d d'| .pan v=>∃y E',(execOp σ o).run C.P w=.halt (.panic y) w∧Step C E m w E' m w∧RV E'.bare v y| .recov=>(execOp σ o).run C.P w=.ok .recover w
theorem Inv.G_new(hI:Inv C E m w){b:Nat}(hb:w.heap.size≤b)(i:Nat):E.G b i=none:=by
 cases h:E.G b i with
 |none=>rfl|some x=>have:=(hI.prot b i x h).lt;omega
theorem Inv.freshRow(hI:Inv C E m w){w':World}{b:Nat}{arr:Array Value}(hsz:w.heap.size≤w'.heap.size∧nS w w')(hw:∀r,r<w.heap.size→w'.heap[r]?=w.heap[r]?)(hb:w.heap.size≤b)(hrow:rowAt w' b arr) :
  ∃E',Step C E m w E' m w'∧∀q,E'.G b q=arr[q]?:=by
 refine⟨{G:=fun b' q=>if b'=b then arr[q]? else E.G b' q,k:=E.k,kl:=E.kl},hI.grow (fun b' i x h=>?_) rfl rfl hsz.1 hsz.2 hw (fun b' i x h=>?_),fun q=>by simp⟩
 ·show(if b'=b then arr[i]? else E.G b' i)=some x;rw[if_neg fun e=>by subst e;rw[hI.G_new hb]at h;cases h];exact h
 ·have h':(if b'=b then arr[i]? else E.G b' i)=some x:=h;by_cases e:b'=b
  ·subst e;rw[if_pos rfl]at h';exact .inr ⟨hb,hrow.gcell h'⟩
  ·rw[if_neg e]at h';exact .inl h'
theorem Inv.freshRow'(hI:Inv C E m w){w':World}{b:Nat}{arr:Array Value}(hsz:w.heap.size≤w'.heap.size∧nS w w')(hw:∀r,r<w.heap.size→w'.heap[r]?=w.heap[r]?)(hb:w.heap.size≤b)(hrow:rowAt w' b arr) :
  ∃E',Step C E m w E' m w'∧(∀q,q<arr.size→E'.G b q=arr[q]?)∧E'.G b arr.size=some (.tuple #[]):=by
 refine⟨{G:=fun b' q=>if b'=b then(if q=arr.size then some (.tuple #[])else arr[q]?)else E.G b' q,k:=E.k,kl:=E.kl},hI.grow (fun b' i x h=>?_) rfl rfl hsz.1 hsz.2 hw (fun b' i x h=>?_),fun q hq=>?_,?_⟩
 ·show(if b'=b then _ else E.G b' i)=some x;rw[if_neg fun e=>by subst e;rw[hI.G_new hb]at h;cases h];exact h
 ·have h':(if b'=b then(if i=arr.size then some (.tuple #[])else arr[i]?)else E.G b' i)=some x:=h;by_cases e:b'=b
  ·subst e;rw[if_pos rfl]at h';by_cases e2:i=arr.size
   ·rw[if_pos e2]at h';cases h';exact .inr ⟨hb,hrow.gflag⟩
   ·rw[if_neg e2]at h';exact .inr ⟨hb,hrow.gcell h'⟩
  ·rw[if_neg e]at h';exact .inl h'
 ·show(if b=b then(if q=arr.size then some (.tuple #[])else arr[q]?)else E.G b q)=arr[q]?;rw[if_pos rfl,if_neg (by omega)]
 ·show(if b=b then(if arr.size=arr.size then some (.tuple #[])else arr[arr.size]?)else E.G b arr.size)=_;rw[if_pos rfl,if_pos rfl]
theorem PX(E:Env)(l:Loc)(n:Nat):(E.of l).k l n=E.k l n:=by cases l<;>rfl
theorem yC(E:Env)(l:Loc):(E.of l).G=E.G:=by cases l<;>rfl
theorem abw{E E':Env}(h:E.Le E')(l:Loc):(E.of l).Le (E'.of l):=by cases l<;>first|exact h.bare|exact h
variable{f:Nat}{o:Oper}{σ:Operand→Value}{ρ:Operand→V}{g:Rd}
theorem rZ{esc:Bool}{ss:List (Loc×O)}{E1:Env}{cs:List V}{arr:Array Value}{e:TypeId}(h1:Step C E m w E1 (m.sets ss) w)(hc:∀v∈cs,v.isCell=true)
  (hr:∀l,(l.isHeap=true→esc=true)→dS (E1.of l) cs arr.toList) :
  WN C esc E m w (.cells cs false) (fun l=>.ptr l 0) ss (.pointer (some ⟨w.heap.size,0,none⟩)) (w.alloc (.cells arr e)):=by
 refine⟨E1,w.heap.size,0,h1,rfl,(fun cs'=>by simp),⟨by simp,rfl,rfl⟩,fun r hr=>heap_alloc w _ r hr,Nat.le_refl _,fun l E2 hl hle hG hk=>⟨⟨w.heap.size,0,arr,by rw[PX];exact hk,fO w arr e,(hr l hl).mono (abw hle l),hc,fun i=>?_⟩,?_⟩⟩
 ·rw[yC,hG];exact h1.inv.G_new (Nat.le_refl _) i
 ·exact .ptr l 0 w.heap.size 0 hk
theorem Uw{t:TypeId}{eff:Eff}(ho:o.op=.alloc t)(hI:Inv C E m w)(h:jT C f o ρ g=some eff):fF C f o E m w σ eff:=by
 unfold jT at h;simp only[ho]at h;split at h
 ·rename_i z hz;simp only[oI]at h;subst h;obtain⟨v,hv,_⟩:=iO (w:=w) E.G hz;have hr:∀G,RD G z v:=by unfold aU at hz;intro G;obtain⟨v',hv',hr'⟩:=iO (C:=C) (w:=w) (z:=z) (t:=t) G (by unfold aU;exact hz);rw[hv]at hv';cases hv';exact hr'
  refine⟨.pointer (some ⟨w.heap.size,0,none⟩),w.alloc (.cells v.cells t),by simp[execOp,ho,Instr.alloc,hv,newVar,ql],?_⟩;refine rZ (.refl hI) (iW (hr E.G).cells_isCell) fun l _=>?_;have:=(hr (E.of l).G).cells;exact dS.ofD (by simp[this.1]) fun i d x hd hx=>this.2 i d x hd (by simpa using hx)
 ·cases h
theorem abd{t:TypeId}{x:Operand}{eff:Eff}(ho:o.op=.box t x)(hI:Inv C E m w)(hu:Up g m)(hρ:∀x,RV E (ρ x) (σ x))(h:jT C f o ρ g=some eff):fF C f o E m w σ eff:=by
 unfold jT at h;simp only[ho]at h;cases hc:(ρ x).cells.all V.isCell with
 |false=>simp[hc]at h| true =>
  simp only[hc,Bool.not_true,cond_false]at h;have hcell:∀v∈(ρ x).cells,v.isCell=true:=List.all_eq_true.1 hc;have hys:=(hρ x).cells hc;have run:(execOp σ o).run C.P w=.ok (.value (.pointer (some ⟨w.heap.size,0,none⟩))) (w.alloc (.cells (σ x).cells t)):=by simp[execOp,ho,Instr.box,newVar,ql]
  split at h
  ·rename_i d hd;split at h
   ·rename_i vs ss hss;simp only[oI]at h;subst h;refine⟨_,_,run,?_⟩;rw[hd];dsimp only;cases hesc:C.esc f d with
    |true=>
     simp only[hesc,cond_true]at hss;obtain⟨E1,h1,h2,h3⟩:=bT 0 g _ _ _ E m w _ hss hI hu hys;refine rZ h1 (mW hss hcell) fun l _=>h2.mono ?_;cases l with
     |heap i=>exact .refl _|slot t g=>exact E1.bare_le
    |false=>
     simp only[hesc,cond_false,oI,pI]at hss;obtain⟨rfl,rfl⟩:=hss;refine rZ (.refl hI) hcell fun l hl=>?_;cases l with
     |heap i=>simp[Loc.isHeap]at hl|slot t g=>exact hys
   ·cases h
  ·cases h
theorem X0{t:TypeId}{x:Operand}{eff:Eff}(ho:o.op=.load t x)(hI:Inv C E m w)(hg:∀l o,g l=some o→m.get l=some o)(hρ:∀x,RV E (ρ x) (σ x))(h:jT C f o ρ g=some eff):fF C f o E m w σ eff:=by
 unfold jT at h;simp only[ho,zB]at h;split at h
 ·rename_i v hv;simp only[oI]at h;subst h;obtain⟨y,h1,h2⟩:=yI hI hg hv (hρ x);exact⟨y,w,E,by simp[execOp,ho,h1],.refl hI,h2⟩
 ·cases h
theorem TY{t:TypeId}{a x:Operand}{eff:Eff}(ho:o.op=.store t a x)(hI:Inv C E m w)(hu:Up g m)(hg:∀l o,g l=some o→m.get l=some o)(hρ:∀x,RV E (ρ x) (σ x))(h:jT C f o ρ g=some eff):fF C f o E m w σ eff:=by
 unfold jT at h;simp only[ho]at h;split at h
 ·rename_i ss hss;simp only[oI]at h;subst h;obtain⟨w',E',h1,h2⟩:=Fb hI hu hg hss (hρ a) (hρ x);exact⟨w',E',by simp[execOp,ho,h1],h2⟩
 ·cases h
theorem Fp{fn:Fn}{first caps:Array Operand}{eff:Eff}(ho:o.op=.makeFunc fn first caps)(hI:Inv C E m w)(hu:Up g m)(hρ:∀x,RV E (ρ x) (σ x))(h:jT C f o ρ g=some eff):fF C f o E m w σ eff:=by
 have hf:∀l,fn≠.yield l:=fun l e=>by subst e;unfold jT at h;simp only[ho,reduceCtorEq]at h
 unfold jT at h
 have h:(match bH.goL 4 g (first.toList.map ρ),bH.goL 4 g (caps.toList.map ρ)with
  |some (a,ss),some (b,ts)=>some (Eff.val (.fn fn a b) (ss++ts))|_,_=>none)=some eff:=by
  rw[ho]at h;cases fn<;>first|exact h|exact absurd rfl (hf _)
 split at h
 ·rename_i a ss b ts ha hb;simp only[oI]at h;subst h;obtain⟨E1,h1,h2,h3⟩:=bT 4 g _ _ _ E m w _ ha hI hu (dS.ofOps hρ first.toList);obtain⟨E2,k1,k2,k3⟩:=bT 4 g _ _ _ E1 (m.sets ss) w _ hb h1.inv h3 ((dS.ofOps hρ caps.toList).mono h1.le);have hA:dS E2 a (first.map σ).toList:=by simpa using(h2.mono k1.le.bare).mono E2.bare_le
  have hB:dS E2 b (caps.map σ).toList:=by simpa using k2.mono E2.bare_le
  refine⟨.func fn (first.map σ) (caps.map σ),w,E2,by simp[execOp,ho,Instr.makeFunc],by rw[Mem.sets_append];exact h1.trans k1,?_⟩;exact .fn fn a b _ _ hf hA.toArray.1 hB.toArray.1 hA.toArray.2 hB.toArray.2
 ·cases h
theorem I4{t:TypeId}{eff:Eff}(ho:o.op=.makeMap t none)(hI:Inv C E m w)(h:jT C f o ρ g=some eff):fF C f o E m w σ eff:=by
 unfold jT at h;simp only[ho,oI]at h;subst h
 refine⟨.map (some w.heap.size),w.alloc (.map #[] 0),by simp[execOp,ho,Instr.makeMap],E,w.heap.size,0,.refl hI,rfl,fun _ h=>(by cases h),⟨by simp,rfl,rfl⟩,fun r hr=>heap_alloc w _ r hr,Nat.le_refl _,
  fun l E2 _ _ hG hk=>⟨⟨w.heap.size,0,#[],by rw[PX];exact hk,by simp[World.alloc,-World.alloc_eq],rfl,fun i k v e h=>by simp at h,fun i=>by rw[yC,hG];exact hI.G_new (Nat.le_refl _) i⟩,.map l _ 0 hk⟩⟩
theorem UJ{t:TypeId}{x:Operand}{eff:Eff}(ho:o.op=.range t x)(hI:Inv C E m w)(hρ:∀x,RV E (ρ x) (σ x))(h:jT C f o ρ g=some eff):fF C f o E m w σ eff:=by
 unfold jT at h;simp only[ho]at h;split at h
 ·rename_i s hty hs;simp only[oI]at h;subst h;have hx:=hρ x;rw[hs]at hx;have hσ:=hx.str_inv
  refine⟨.pointer (some ⟨w.heap.size,0,none⟩),w.alloc (.stringIter s 0),by simp[execOp,ho,Instr.range,ak hty,hσ],E,w.heap.size,0,.refl hI,rfl,fun _ h=>(by cases h),⟨by simp,rfl,rfl⟩,fun r hr=>heap_alloc w _ r hr,Nat.le_refl _,
   fun l E2 _ _ hG hk=>⟨⟨w.heap.size,0,by rw[PX];exact hk,by simp[World.alloc,-World.alloc_eq],fun i=>by rw[yC,hG];exact hI.G_new (Nat.le_refl _) i⟩,.ptr l 0 _ 0 hk⟩⟩
 ·cases h
theorem TM{x:Operand}{eff:Eff}(ho:o.op=.panic x)(hI:Inv C E m w)(hu:Up g m)(hρ:∀x,RV E (ρ x) (σ x))(h:jT C f o ρ g=some eff):fF C f o E m w σ eff:=by
 unfold jT at h;simp only[ho]at h;split at h
 ·rename_i t d hv;simp only[oI]at h;subst h;obtain⟨E1,h1,h2,h3⟩:=fZ 1 g _ _ _ E m w _ hv hI hu (hρ x);obtain⟨y,hy,_⟩:=h2.diface_inv;refine⟨σ x,E1,by simp[execOp,ho,hy,Instr.panic],h1,h2⟩
 ·cases h
end
section
variable{C:aY}{E:Env}{m:Mem}{w:World}{f:Nat}{o:Oper}{σ:Operand→Value}{ρ:Operand→V}{g:Rd}
theorem Ej{place place':Nat→Option (Nat×Nat)}(hp:∀i p,place i=some p→place' i=some p) :
  ∀(is:List Nat) (vs:List V) (xs:List Value) (cs cs':List V) (arr:Array Value),dS E vs xs→is.length=vs.length→kY place cs (is.zip vs)=some cs'→dS E cs arr.toList→(∀v∈cs,v.isCell=true)→
   ∃arr':Array Value,Instr.fill place' arr (is.zip xs)=some arr'∧dS E cs' arr'.toList∧(∀v∈cs',v.isCell=true)∧cs'.length=cs.length:=by
 intro is;induction is with
 |nil=>intro vs xs cs cs' arr hv hl h hr hc;simp[kY]at h;subst h;exact⟨arr,rfl,hr,hc,rfl⟩| cons i is ih =>
  intro vs xs cs cs' arr hv hl h hr hc
  match vs,xs,hv,hl with
  |[],_,_,hl=>simp at hl|v::vs,[],hv,_=>have:=hv.1;simp at this
  | v :: vs,x :: xs,hv,hl =>
   have hvx:RV E v x:=hv.2 0 v x rfl rfl;have hv':dS E vs xs:=⟨by have:=hv.1;simpa using this,fun i v x hv' hx=>hv.2 (i+1) v x (by simpa using hv') (by simpa using hx)⟩
   simp only[List.zip_cons_cons,kY]at h;split at h
   ·rename_i off sz hpl;cases hb:((v.cells.length==sz)&&Nat.ble (off+sz) cs.length&&v.cells.all V.isCell)with
    |false=>simp only[hb,cond_false,reduceCtorEq]at h| true =>
     simp only[hb,cond_true]at h;simp only[Bool.and_eq_true,beq_iff_eq,Nat.ble_eq]at hb;obtain⟨⟨h1,h2⟩,h3⟩:=hb;have hcs:=hvx.cells h3;have hl1:x.cells.size=sz:=by have:=hcs.1;simp at this;omega
     have harr:arr.size=cs.length:=by simpa using hr.1
     have hsp:dS E (Mw.splice cs off v.cells) (Mw.splice arr.toList off x.cells.toList):=hr.splice hcs off (by omega);have hfold:=foldl_set off x.cells.toList 0 arr (by simp;omega)
     obtain⟨arr',ha,hr',hc',hl'⟩:=ih vs xs _ _ (x.cells.zipIdx.foldl (fun cs (c,j)=>cs.setIfInBounds (off+j) c) arr) hv' (by simpa using hl) h (by
      rw[←Array.foldl_toList];have:x.cells.zipIdx.toList=x.cells.toList.zipIdx 0:=by simp
      rw[this,hfold]
      exact hsp) (fun u hu=>by
      rcases dX hu with hu|hu
      ·exact hc u hu
      ·exact List.all_eq_true.1 h3 u hu)
     refine⟨arr',?_,hr',hc',by rw[hl',aI _ _ _ (by omega)]⟩;simp only[List.zip_cons_cons,Instr.fill,hp _ _ hpl];rw[if_neg (by simp;omega)];exact ha
   ·cases h
theorem Iy{sz:Nat}{place:Nat→Option (Nat×Nat)}(hpl:∀i,place i=some (i*sz,sz)):∀(is:List Nat) (ds es:List D),is.length=ds.length→(∀d∈ds,d.cells.length=sz)→(∀d∈ds,∀c∈d.cells,c.isCell=true)→(∀e∈es,e.cells.length=sz)→
  (∀i∈is,i<es.length)→kY place ((flat es).map V.d) (is.zip (ds.map V.d))=some ((flat (lC es is ds)).map V.d)∧(∀e∈lC es is ds,e.cells.length=sz)∧(lC es is ds).length=es.length:=by
 intro is;induction is with
 |nil=>intro ds es hl _ _ he _;cases ds<;>simp[kY,lC]at hl ⊢;exact he| cons i is ih =>
  intro ds es hl hd hdc he hi;cases ds with
  |nil=>simp at hl| cons d ds =>
   have hi0:=hi i (.head _);have hd0:=hd d (.head _);have hes:es[i]?=some es[i]:=List.getElem?_eq_getElem hi0;have hle:(i+1)*sz≤es.length*sz:=Nat.mul_le_mul_right _ hi0;rw[Nat.succ_mul]at hle;have hfl:=flat_length he;have hel:=he es[i] (List.getElem_mem hi0);have hfs:flat (es.set i d)=splice (flat es) (i*sz+0) d.cells:=IL he hes (by simp[splice,hel,hd0]) (by omega);have hus:∀e∈es.set i d,e.cells.length=sz:=fun e hm=>by
    rcases List.mem_or_eq_of_mem_set hm with hm|rfl
    ·exact he e hm
    ·exact hd0
   obtain⟨h1,h2,h3⟩:=ih ds (es.set i d) (by simpa using hl) (fun x hx=>hd x (.tail _ hx)) (fun x hx=>hdc x (.tail _ hx)) hus (fun j hj=>by simpa using hi j (.tail _ hj));refine⟨?_,h2,by simpa[lC]using h3⟩;simp only[List.map_cons,List.zip_cons_cons,kY,hpl];have hb:(((V.d d).cells.length==sz)&&Nat.ble (i*sz+sz) ((flat es).map V.d).length&&(V.d d).cells.all V.isCell)=true:=by simp only[V.cells,List.length_map,hd0,beq_self_eq_true,Bool.true_and,Bool.and_eq_true,Nat.ble_eq,List.all_eq_true];exact⟨by omega,fun v hv=>iW (hdc d (.head _)) v hv⟩
   rw[hb,cond_true];have:splice ((flat es).map V.d) (i*sz) (V.d d).cells=(flat (es.set i d)).map V.d:=by rw[hfs];simp[splice,V.cells,List.map_take,List.map_drop]
   rw[this];exact h1
theorem cells_of_cell{v:V}(h:v.isCell=true):v.cells=[v]:=by
 cases v with
 |d x=>cases x<;>first|rfl|simp[V.isCell,D.isCell]at h
 |agg=>simp[V.isCell]at h|_=>rfl
theorem IZ{place:Nat→Option (Nat×Nat)}(hpl:∀i,place i=some (i*1,1)):∀(vs:List V) (k:Nat) (cs:List V),(∀v∈vs,v.isCell=true)→k+vs.length≤cs.length→
  kY place cs ((List.range' k vs.length).zip vs)=some (splice cs k vs):=by
 intro vs;induction vs with
 |nil=>intro k cs _ _;simp[kY,kL]| cons v vs ih =>
  intro k cs hc hl;simp only[List.length_cons]at hl;have hv:=cells_of_cell (hc v (.head _));simp only[List.length_cons,List.range'_succ,List.zip_cons_cons,kY,hpl,hv];have hb:((([]:List V).length+1==1)&&Nat.ble (k*1+1) cs.length&&[v].all V.isCell)=true:=by simp[hc v (.head _)];omega
  rw[hb,cond_true,ih (k+1) _ (fun u hu=>hc u (.tail _ hu)) (by rw[aI _ _ _ (by simp;omega)];omega)];have h1:splice cs (k*1) [v]=cs.set k v:=by
   apply List.ext_getElem?;intro i;rw[aB _ _ _ (by simp;omega),List.getElem?_set];by_cases h:k=i
   ·subst h;rw[if_pos (by simp),if_pos rfl,if_pos (by omega)];simp
   ·rw[if_neg (by simp;omega),if_neg h]
  rw[h1,qi _ _ _ _ (by omega)]
theorem vz{z:D}{v:Value}{sz:Nat}(hz:z.cells.length=sz)(hr:∀G,RD G z v)(n:Nat) :
  dS E ((flat (List.replicate n z)).map V.d) ((Array.range (n*sz)).map (v.cells[· % v.cells.size]!)).toList∧(∀G (q:Nat) (d:D) (x:Value),(flat (List.replicate n z))[q]?=some d→((Array.range (n*sz)).map (v.cells[· % v.cells.size]!))[q]?=some x→RD G d x):=by
 have hc:=(hr E.G).cells;have hsz:v.cells.size=sz:=by rw[hc.1,hz]
 have hu:∀e∈List.replicate n z,e.cells.length=sz:=fun e he=>by rw[(List.mem_replicate.1 he).2,hz]
 have hl:=flat_length hu;simp only[List.length_replicate]at hl;have key:∀G (q:Nat) (d:D) (x:Value),(flat (List.replicate n z))[q]?=some d→((Array.range (n*sz)).map (v.cells[· % v.cells.size]!))[q]?=some x→RD G d x:=by
  intro G q d x hd hx;have hq:q<n*sz:=by have:=(List.getElem?_eq_some_iff.1 hd).1;omega
  have h0:0<sz:=by
   rcases Nat.eq_zero_or_pos sz with h|h
   ·subst h;simp at hq
   ·exact h
  have hqd:q/sz<n:=by rw[Nat.div_lt_iff_lt_mul h0];exact hq
  have hqm:q%sz<sz:=Nat.mod_lt _ h0;have e1:(flat (List.replicate n z))[q/sz*sz+q%sz]?=z.cells[q%sz]?:=flat_get hu (q/sz) z (by simp[hqd]) (q%sz) hqm;rw[Nat.mul_comm,Nat.div_add_mod]at e1;rw[e1]at hd;have hx':v.cells[q%sz]?=some x:=by
   simp only[Array.getElem?_map,Array.getElem?_range,if_pos hq,Option.map_some,oI,hsz]at hx;have hlt:q%sz<v.cells.size:=by omega
   rw[getElem!_pos v.cells (q%sz) hlt]at hx;rw[Array.getElem?_eq_getElem hlt,hx]
  exact(hr G).cells.2 _ d x hd hx'
 exact⟨dS.ofD (by simp[hl]) fun i d x hd hx=>key E.G i d x hd (by rw[←hx,Array.getElem?_toList]),key⟩
theorem sQ{t:TypeId}{z:D}(h:aU C t=some z):∃i v,C.P.info? t=some i∧i.zero=some v∧∀G,RD G z v:=by
 unfold aU at h;split at h
 ·rename_i i hi;split at h
  ·rename_i v hv;exact⟨i,v,hi,hv,fun G=>jC G v z h⟩
  ·cases h
 ·cases h
theorem aad(parts:List (Nat×Operand)):(parts.map fun p=>(p.1,σ p.2))=(parts.map (·.1)).zip (parts.map fun p=>σ p.2):=by
 induction parts with
 |nil=>rfl|cons p ps ih=>simp[ih]
theorem BM {t:TypeId} {len:Nat} {parts:Array (Nat × Operand)} {eff:Eff} (ho:o.op=.buildSlice t len parts) (hI:Inv C E m w) (hu:Up g m) (hρ:∀ x,RV E (ρ x) (σ x)) (h:jT C f o ρ g=some eff) :
  fF C f o E m w σ eff:=by
 unfold jT at h;simp only[ho]at h;split at h
 ·rename_i e he;obtain⟨hty,de,hde⟩:=jm he;split at h
  ·rename_i z vs ss hz hss;cases hb:(Nat.ble (len*aA C e) 16777216&&(z.cells.length==aA C e)&&(parts.toList.all fun p=>Nat.ble (p.1+1) len))with
   |false=>simp only[hb,cond_false,reduceCtorEq]at h| true =>
    simp only[hb,cond_true]at h;simp only[Bool.and_eq_true,beq_iff_eq,Nat.ble_eq,List.all_eq_true]at hb;obtain⟨⟨hlim,hzl⟩,hidx⟩:=hb;have hsT:aA C e=C.P.cellsOf e:=rfl;obtain⟨ie,zv,hie,hzv,hzr⟩:=sQ hz
    obtain⟨E1,s1,r1,u1⟩:=bT 1 g _ _ _ E m w _ hss hI hu (by
     have:=dS.ofOps hρ (parts.toList.map (·.2));simp only[List.map_map]at this
     exact this)
    have r1':dS E1 vs (parts.toList.map fun p=>σ p.2):=by have:=r1.mono E1.bare_le;rw[show(σ ∘ fun x:Nat×Operand=>x.snd)=fun p=>σ p.2 from rfl]at this;exact this
    have zr:=vz (E:=E1) hzl hzr len;have hzu:∀e'∈List.replicate len z,e'.cells.length=aA C e:=fun e' he'=>by rw[(List.mem_replicate.1 he').2,hzl]
    have hzc:∀v∈(flat (List.replicate len z)).map V.d,v.isCell=true:=iW fun d hd=>by simp only[flat,List.mem_flatMap]at hd;obtain⟨e',he',hd⟩:=hd;rw[(List.mem_replicate.1 he').2]at hd;exact(hzr E1.G).cells_isCell d hd
    have hvl:(parts.toList.map (·.1)).length=vs.length:=by have:=r1'.1;simp at this;simpa using this
    have mach:∀arr',Instr.fill (fun i=>some (i*C.P.cellsOf e,C.P.cellsOf e)) ((Array.range (len*aA C e)).map (zv.cells[· % zv.cells.size]!)) ((parts.toList.map (·.1)).zip (parts.toList.map fun p=>σ p.2))=some arr'→
      (execOp σ o).run C.P w=.ok (.value (.slice (some ⟨w.heap.size,0,none⟩) len len)) (w.alloc (.cells arr' e)):=by
     intro arr' hfill;rw[←aad (σ:=σ)]at hfill;have hfill':Instr.fill (fun i=>some (i*C.P.cellsOf e,C.P.cellsOf e)) ((Array.range (len*C.P.cellsOf e)).map (zv.cells[· % zv.cells.size]!)) (parts.map fun(i,x)=>(i,σ x)).toList=some arr':=by simpa[hsT]using hfill
     have hlim':¬(len*C.P.cellsOf e > 2 ^ 24):=by rw[hsT]at hlim;omega
     have hzz:(zeroValue e).run C.P w=.ok zv w:=by simp[zeroValue,iq hie,hzv]
     by_cases h0:len*C.P.cellsOf e=0
     ·have hsame:((Array.range (len*C.P.cellsOf e)).map (zv.cells[· % zv.cells.size]!))=((Array.range (len*C.P.cellsOf e)).map ((#[]:Array Value)[· % (#[]:Array Value).size]!)):=by rw[h0];simp
      rw[hsame]at hfill';simp only[execOp,ho,Instr.buildSlice,Sem.run_bind,ak hty,Result.andThen_ok,dh hde,Sem.run_ite,if_neg hlim',if_pos h0,Sem.run_pure,hfill',ql]
     ·simp only[execOp,ho,Instr.buildSlice,Sem.run_bind,ak hty,Result.andThen_ok,dh hde,Sem.run_ite,if_neg hlim',if_neg h0,Sem.run_pure,hzz,hfill',ql]
    have hgrow:∀(arr':Array Value),w.heap.size≤(w.alloc (.cells arr' e)).heap.size:=fun _=>by simp
    split at h
    ·rename_i ds hds;have hvs:=GK _ _ hds;subst hvs;cases hb2:(ds.all fun d=>d.cells.length==aA C e)with
     |false=>simp only[hb2,cond_false,reduceCtorEq]at h| true =>
      simp only[hb2,cond_true,oI]at h;subst h;simp only[List.all_eq_true,beq_iff_eq]at hb2;have hdc:∀d∈ds,∀c∈d.cells,c.isCell=true:=fun d hd=>by
       obtain⟨i,hi,rfl⟩:=List.mem_iff_getElem.1 hd;have hi2:i<(parts.toList.map fun p=>σ p.2).length:=by have:=r1'.1;simp at this;simpa[this]using hi
       exact(r1'.2 i (.d ds[i]) _ (by simp[hi]) (List.getElem?_eq_getElem hi2)).of_d.cells_isCell
      obtain⟨hf,hu2,hl2⟩:=Iy (place:=fun i=>some (i*aA C e,aA C e)) (fun _=>rfl) (parts.toList.map (·.1)) ds (List.replicate len z) (by simpa using hvl) hb2 hdc hzu
       (fun i hi=>by
        obtain⟨p,hp,rfl⟩:=List.mem_map.1 hi;have:=hidx p hp
        simp;omega)
      obtain⟨arr',ha,hr',hc',hl'⟩:=Ej (E:=E1) (place':=fun i=>some (i*C.P.cellsOf e,C.P.cellsOf e)) (fun i p hp=>hp) _ _ _ _ _ _ r1' hvl hf zr.1 hzc;have hlen:(lC (List.replicate len z) (parts.toList.map (·.1)) ds).length=len:=by simpa using hl2
      have harr:arr'.size=(flat (lC (List.replicate len z) (parts.toList.map (·.1)) ds)).length:=by have:=hr'.1;simpa using this
      have old:fF C f o E m w σ (.val (.ex (aA C e) (lC (List.replicate len z) (parts.toList.map (·.1)) ds)) ss):=by
       obtain⟨E2,s2,hG⟩:=s1.inv.freshRow ⟨hgrow arr',rfl,rfl⟩ (fun r hr=>heap_alloc w _ r hr) (Nat.le_refl _) (fO w arr' e);refine⟨_,_,E2,mach arr' ha,s1.trans s2,?_⟩;have key:RV E2 (.ex (aA C e) (lC (List.replicate len z) (parts.toList.map (·.1)) ds)) (.slice (some ⟨w.heap.size,0,none⟩) (lC (List.replicate len z) (parts.toList.map (·.1)) ds).length (lC (List.replicate len z) (parts.toList.map (·.1)) ds).length):=by
        refine .ex _ _ _ (.list _ _ _ _ _ (fun q=>arr'.getD q undef) (Nat.le_refl _) hu2 (fun q c hq=>?_) (fun q c hq=>?_) (fun c hc=>?_))
        ·have hlt:=(List.getElem?_eq_some_iff.1 hq).1;rw[Nat.zero_add,hG,Array.getElem?_eq_getElem (by omega)];simp[Array.getD,show q<arr'.size by omega]
        ·have hlt:=(List.getElem?_eq_some_iff.1 hq).1;have hlt':q<arr'.size:=by omega
         have:=(hr'.2 q (.d c) arr'[q] (by simp[hq]) (by simp[hlt'])).of_d;simpa[Array.getD,hlt']using this.mono s2.le.G
        ·exact hc' (.d c) (List.mem_map.2 ⟨c,hc,rfl⟩)
       rw[hlen]at key;exact key
      unfold FB;split
      ·rename_i t' hdst;cases C.imm f t' with
       |false=>simp only[Bool.false_and];exact old| true =>
        simp only[Bool.true_and];cases hz1:((aA C e==1)&&(lC (List.replicate len z) (parts.toList.map (·.1)) ds).all D.isCell)with
        |false=>exact old| true =>
         simp only[cond_true];simp only[Bool.and_eq_true,beq_iff_eq,List.all_eq_true]at hz1;obtain⟨E2,s2,hG,hF⟩:=s1.inv.freshRow' ⟨hgrow arr',rfl,rfl⟩ (fun r hr=>heap_alloc w _ r hr) (Nat.le_refl _) (fO w arr' e);refine⟨_,_,E2,mach arr' ha,s1.trans s2,?_⟩;have hone:∀(l:List D),(∀d∈l,d.isCell=true)→flat l=l:=fun l=>by
          induction l with
          |nil=>intro _;rfl|cons d r ih=>
           intro h1;have hd:=h1 d (.head _);have hfl:flat (d::r)=d.cells++flat r:=by simp[flat]
           rw[hfl,ih (fun x hx=>h1 x (.tail _ hx))];cases d<;>first|rfl|cases hd
         have hfl:=hone _ hz1.2;generalize lC (List.replicate len z) (parts.toList.map (·.1)) ds=es at *;have key:RV E2 (.vl (es.map V.d)) (.slice (some ⟨w.heap.size,0,none⟩) (es.map V.d).length len):=by
          refine .vl _ _ _ _ (fun q=>arr'.getD q undef) (by simp;omega) (fun q c hq=>?_) (fun q c hq=>?_) (fun c hc=>?_) ⟨_,hF⟩
          ·have hlt:=(List.getElem?_eq_some_iff.1 hq).1;simp at hlt;rw[hfl]at harr;rw[Nat.zero_add,hG q (by omega),Array.getElem?_eq_getElem (by omega)];simp[Array.getD,show q<arr'.size by omega]
          ·have hlt:=(List.getElem?_eq_some_iff.1 hq).1;simp at hlt;rw[hfl]at harr hr';have hlt':q<arr'.size:=by omega
           have:=hr'.2 q c arr'[q] hq (by simp[hlt']);simpa[Array.getD,hlt']using this.mono s2.le
          ·obtain⟨d,hd,rfl⟩:=List.mem_map.1 hc;exact hz1.2 d hd
         rw[List.length_map,hlen]at key;exact key
      ·exact old
    ·cases hb2:(aA C e==1&&(parts.toList.map (·.1)==List.range len)&&vs.all V.isCell)with
     |false=>simp only[hb2,cond_false,reduceCtorEq]at h| true =>
      simp only[hb2,cond_true,oI]at h;subst h;simp only[Bool.and_eq_true,beq_iff_eq]at hb2;obtain⟨⟨h1,hix⟩,hac⟩:=hb2;have hvc:∀v∈vs,v.isCell=true:=List.all_eq_true.1 hac;have hlv:vs.length=len:=by rw[←hvl,hix];simp
      have hflz:(flat (List.replicate len z)).length=len:=by rw[flat_length hzu];simp[h1]
      have hf:=IZ (place:=fun i=>some (i*1,1)) (fun _=>rfl) vs 0 ((flat (List.replicate len z)).map V.d) hvc (by simp[hflz,hlv]);have hrange:parts.toList.map (·.1)=List.range' 0 vs.length:=by rw[hix,hlv,List.range_eq_range']
      rw[←hrange]at hf;have hsp:splice ((flat (List.replicate len z)).map V.d) 0 vs=vs:=by simp[splice,hflz,hlv]
      rw[hsp]at hf;obtain⟨arr',ha,hr',hc',hl'⟩:=Ej (E:=E1) (place':=fun i=>some (i*C.P.cellsOf e,C.P.cellsOf e)) (fun i p hp=>by rw[←hsT,h1];exact hp) _ _ _ _ _ _ r1' hvl hf zr.1 hzc;obtain⟨E2,s2,hG,hF⟩:=s1.inv.freshRow' ⟨hgrow arr',rfl,rfl⟩ (fun r hr=>heap_alloc w _ r hr) (Nat.le_refl _) (fO w arr' e);refine⟨_,_,E2,mach arr' ha,s1.trans s2,?_⟩;have harr:arr'.size=vs.length:=by have:=hr'.1;simpa using this
      have key:RV E2 (.vl vs) (.slice (some ⟨w.heap.size,0,none⟩) vs.length len):=by
       refine .vl vs _ _ _ (fun q=>arr'.getD q undef) (by omega) (fun q c hq=>?_) (fun q c hq=>?_) hvc ⟨_,hF⟩
       ·have hlt:=(List.getElem?_eq_some_iff.1 hq).1;rw[Nat.zero_add,hG q (by omega),Array.getElem?_eq_getElem (by omega)];simp[Array.getD,show q<arr'.size by omega]
       ·have hlt:=(List.getElem?_eq_some_iff.1 hq).1;have hlt':q<arr'.size:=by omega
        have:=hr'.2 q c arr'[q] hq (by simp[hlt']);simpa[Array.getD,hlt']using this.mono s2.le
      rw[hlv]at key;exact key
  ·cases h
 ·cases h
end
end Mw
