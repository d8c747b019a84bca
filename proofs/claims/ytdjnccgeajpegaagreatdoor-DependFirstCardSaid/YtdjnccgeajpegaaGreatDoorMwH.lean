/- DependFirst's tied card holds; no condition beyond the card's own. -/
import Derived.Test.YtdjnccgeajpegaaGreatDoorMwG
set_option linter.unusedVariables false
set_option linter.unusedSimpArgs false
namespace Mw
open Go
section
variable{C:aY}{E:Env}{m:Mem}{w:World}{f:Nat}{o:Oper}{σ:Operand→Value}{ρ:Operand→V}{g:Rd}
theorem Inv.growVec(hI:Inv C E m w){l:Loc}{sz:Nat}{es ys:List D}{fr:Bool}(h:m.get l=some (.vec sz es fr true)){b c:Nat}{arr:Array Value}(hk:E.k l es.length=some (b,c))(hrow0:rowAt w b arr)
  (hy:ys≠[]){w':World}{b' c':Nat}{arr':Array Value}(hsz:w.heap.size≤w'.heap.size∧nS w w')(ho:∀r,r<w.heap.size→r≠b→w'.heap[r]?=w.heap[r]?)
  (hb:b'=b∨(w.heap.size≤b'∧w'.heap[b]?=w.heap[b]?))(hrow:rowAt w' b' arr')(ha:arr'.size=c'*sz)(hle:(es++ys).length≤c')(hu:∀e∈es++ys,e.cells.length=sz)(hc:∀d∈flat (es++ys),d.isCell=true)
  (hrel:∀(q:Nat) (d:D) (x:Value),(flat (es++ys))[q]?=some d→arr'[q]?=some x→RD E.G d x)(hkeep:b'=b→∀q,q<(flat es).length→arr'[q]?=arr[q]?) :
  ∃E',Step C E m w E' (m.set l (.vec sz (es++ys) fr true)) w'∧E'.k l (es++ys).length=some (b',c'):=by
 obtain⟨b1,c1,arr1,h1,h2,h3,h4,h5,h6,h7,h8,h9,h10⟩:=hI.vec h;rw[hk]at h1;cases h1;have harr:arr1=arr:=by obtain⟨_,a1⟩:=h2;obtain⟨_,a2⟩:=hrow0;rw[a1]at a2;cases a2;rfl
 subst harr;have hlen:es.length<(es++ys).length:=by have:0<ys.length:=List.length_pos_iff.2 hy;simp;omega
 have hfl:=flat_length h6;have hfl':=flat_length hu;have hflm:(flat es).length≤(flat (es++ys)).length:=by rw[fJ];simp
 have hcs:(es++ys).length*sz≤c'*sz:=Nat.mul_le_mul_right _ hle;have hcs0:es.length*sz≤c*sz:=Nat.mul_le_mul_right _ h4;have hblt:=h2.lt;let E':Env:={G:=fun r q=>if r=b'∧fr=true∧q<(flat (es++ys)).length then arr'[q]? else E.G r q,k:=fun l' n=>if l'=l∧n=(es++ys).length then some (b',c')else E.k l' n,kl:=E.kl}
 have hGle:∀r i x,E.G r i=some x→E'.G r i=some x:=fun r i x hx=>by
  show(if r=b'∧fr=true∧i<(flat (es++ys)).length then arr'[i]? else E.G r i)=some x;split
  ·rename_i hcnd;obtain⟨hr,hf,hi⟩:=hcnd;subst hr;rcases hb with hb|⟨hb,_⟩
   ·subst hb;rcases Nat.lt_or_ge i (flat es).length with hlt|hge
    ·rw[hkeep rfl i hlt,←h9 hf i hlt,hx]
    ·rw[h10 i (.inr hge)]at hx;cases hx
   ·rw[hI.G_new hb]at hx;cases hx
  ·exact hx
 have hE:E.Le E':=⟨hGle,fun l' n p hp=>by
  show(if l'=l∧n=(es++ys).length then some (b',c')else E.k l' n)=some p;split
  ·rename_i hcnd;obtain⟨rfl,rfl⟩:=hcnd;rw[hI.top l' _ _ _ _ h _ hlen]at hp;cases hp
  ·exact hp⟩
 have hk':E'.k l (es++ys).length=some (b',c'):=if_pos ⟨rfl,rfl⟩;have hown:own E l (.vec sz es fr true) b:=⟨rfl,c,hk⟩
 have hown':∀r,own E l (.vec sz es fr true) r→r=b:=fun r ⟨_,c2,hr⟩=>by simp only[O.key]at hr;rw[hk]at hr;cases hr;rfl
 have hr:dG E' w' l (.vec sz (es++ys) fr true):=by
  refine⟨b',c',arr',hk',hrow,ha,hle,fun hg=>by simp at hg,hu,hc,fun q d x hd hx=>(hrel q d x hd hx).mono hGle,fun hf q hq=>if_pos ⟨rfl,hf,hq⟩,fun q hq=>?_⟩;show(if b'=b'∧fr=true∧q<(flat (es++ys)).length then arr'[q]? else E.G b' q)=none
  rw[if_neg (fun hcnd=>by
   rcases hq with hq|hq
   ·rw[hq]at hcnd;simp at hcnd
   ·omega)]
  rcases hb with hb|⟨hb,_⟩
  ·subst hb;refine h10 q ?_;rcases hq with hq|hq
   ·exact .inl hq
   ·right;omega
  ·exact hI.G_new hb q
 refine⟨E',hI.set h hE rfl (fun l' n hne=>if_neg fun hcnd=>hne hcnd.1) hsz.1 hsz.2 (fun r hr hn=>ho r hr fun e=>hn (e▸hown)) (fun r i x hx=>?_) (fun r i x hx hh=>?_) (fun r hr=>?_) ⟨fun i hi=>?_,fun t g hi=>hr⟩ (fun b hb=>hb.elim) (fun sz1 es1 fr1 gr1 he n hn=>?_),hk'⟩
 ·have hx':(if r=b'∧fr=true∧i<(flat (es++ys)).length then arr'[i]? else E.G r i)=some x:=hx;split at hx'
  ·rename_i hcnd;rcases hb with hb|⟨hb,_⟩
   ·exact .inr (.inl (by rw[hcnd.1,hb];exact hown))
   ·exact .inr (.inr (by rw[hcnd.1];exact hb))
  ·exact .inl hx'
 ·have hx':(if r=b'∧fr=true∧i<(flat (es++ys)).length then arr'[i]? else E.G r i)=some x:=hx;split at hx'
  ·rename_i hcnd;rw[hcnd.1];exact hrow.gcell hx'
  ·rename_i hcnd;have hp:=hI.prot r i x hx';rcases hh with hh|hh
   ·have hrb:=hown' r hh;subst hrb;rcases hb with hb|⟨hb,hsame⟩
    ·subst hb;exfalso;apply hcnd;refine⟨rfl,?_,?_⟩
     ·cases fr with
      |true=>rfl|false=>rw[h10 i (.inl rfl)]at hx';cases hx'
     ·rcases Nat.lt_or_ge i (flat es).length with hlt|hge
      ·omega
      ·rw[h10 i (.inr hge)]at hx';cases hx'
    ·exact hp.of_same hsame
   ·rw[hI.G_new hh]at hx';cases hx'
 ·obtain⟨_,c2,h2'⟩:=hr;simp only[O.key]at h2';rw[hk']at h2';cases h2';rcases hb with hb|⟨hb,_⟩
  ·left;rw[hb];exact hown
  ·exact .inr hb
 ·subst hi;obtain⟨b,c,arr,rest⟩:=hr;exact dG.toH ⟨b,c,arr,rest⟩
 ·cases he;show(if l=l∧n=(es++ys).length then some (b',c')else E.k l n)=none;rw[if_neg (fun hcnd=>by omega)];exact hI.top l _ _ _ _ h n (by omega)
theorem Dj{G:Nat→Nat→Option Value}{es ys:List D}{olds news:List Value}(h1:olds.length=(flat es).length)(ho:∀(q:Nat) (c:D) (y:Value),(flat es)[q]?=some c→olds[q]?=some y→RD G c y)
  (hn:∀(q:Nat) (c:D) (y:Value),(flat ys)[q]?=some c→news[q]?=some y→RD G c y)(h2:news.length=(flat ys).length)(rest:List Value) :
  ∀(q:Nat) (d:D) (x:Value),(flat (es++ys))[q]?=some d→(olds++(news++rest))[q]?=some x→RD G d x:=by
 intro q d x hd hx;rw[fJ]at hd;rcases Nat.lt_or_ge q (flat es).length with hlt|hge
 ·rw[List.getElem?_append_left hlt]at hd;rw[List.getElem?_append_left (by omega)]at hx;exact ho q d x hd hx
 ·rw[List.getElem?_append_right hge]at hd;rw[List.getElem?_append_right (by omega),h1]at hx;have hlt2:=(List.getElem?_eq_some_iff.1 hd).1;rw[List.getElem?_append_left (by omega)]at hx;exact hn _ d x hd hx
end
section
variable{C:aY}{E:Env}{m:Mem}{w:World}{f:Nat}{o:Oper}{σ:Operand→Value}{ρ:Operand→V}{g:Rd}
theorem xX(w:World)(cells:Array Value)(e:TypeId):rowAt (w.drew.alloc (.cells cells e)) w.heap.size cells:=fO w.drew cells e
theorem zx(w:World)(o:Obj)(r:Nat)(h:r<w.heap.size):(w.drew.alloc o).heap[r]?=w.heap[r]?:=heap_alloc w.drew o r h
theorem ug {t u:TypeId} {du:TypeDesc} {s x:V} {eff:Eff} {y z:Value} (hI:Inv C E m w) (hg:∀ l o,g l=some o→m.get l=some o) (h:qm C f o.dst t s x g=some eff) (hu:C.P.underlying u=some du) (hdu:Iu du=true)
  (hs:RV E s y) (hx:RV E x z) (hrun:∀v w',(Builtin.append_ #[t,u] o.type #[y,z]).run C.P w=.ok v w'→(execOp σ o).run C.P w=.ok (.value v) w'):fF C f o E m w σ eff:=by
 unfold qm at h;split at h
 ·rename_i e sz' ys he hel;obtain⟨hty,de,hde⟩:=jm he;obtain⟨ie,hie⟩:=info_of_underlying hde;have src:=wz hI hg hel hx;have hsz:ie.size=aA C e:=by simp[aA,Program.cellsOf,hie]
  cases hemp:ys.isEmpty with
  | true =>
   simp only[hemp,cond_true]at h;have hys:ys=[]:=by simpa using hemp
   subst hys;cases hl:isList s with
   |false=>simp[hl]at h|true=>simp only[hl,cond_true,oI]at h;subst h;obtain⟨a,n,cap,rfl,hle⟩:=Ig hl hs;exact⟨_,w,E,hrun _ _ (zu hty hde hu hdu (by simpa using src.len) hle o.type),.refl hI,hs⟩
  | false =>
   have hys:ys≠[]:=fun e=>by subst e;simp at hemp
   simp only[hemp,cond_false]at h;cases hss:(sz'==aA C e)with
   |false=>simp only[hss,cond_false,reduceCtorEq]at h| true =>
    simp only[hss,cond_true]at h;have hsz':sz'=ie.size:=by rw[hsz];simpa using hss
    have hsT:aA C e=sz':=by simpa using(by simpa using hss:sz'=aA C e).symm
    have hby:C.P.bytesOf e=ie.bytes:=by simp[Program.bytesOf,hie]
    obtain⟨news,hnl,hnr,hnf⟩:=src.cells;have hnf0:∀w',(∀a,w'.cell? a=w.cell? a)→(Builtin.firstCells ie.size ys.length z).run C.P w'=.ok news.toArray w':=fun w' hw=>by have:=hnf ys.length (Nat.le_refl _) w' hw;rw[←hnl,List.take_length]at this;rwa[hsz']at this
    have hyl:(flat ys).length=ys.length*sz':=flat_length src.uni;have room:∀n,gI C e n=true→n≤4294967296∧n*ie.bytes≤4294967296∧∃zv,ie.zero=some zv∧zv.cells.size=ie.size:=fun n hn=>by
     simp only[gI,gY,Bool.and_eq_true,Nat.ble_eq,hby]at hn;obtain⟨⟨h1,h2⟩,h3⟩:=hn;refine⟨h1,h2,?_⟩;split at h3
     ·rename_i zz hzz;obtain⟨i',v,hi',hv,hr⟩:=sQ hzz;rw[hie]at hi';cases hi';exact⟨v,hv,by rw[(hr E.G).cells.1];simpa[hsz]using h3⟩
     ·cases h3
    have grown:∀{base:Option Addr} {es:List D} {cap0:Nat} {olds:List Value},y=.slice base es.length cap0→cap0<es.length+ys.length→gI C e (es.length+ys.length)=true→(∀e∈es,e.cells.length=sz')→(∀c∈flat es,c.isCell=true)→
      olds.length=es.length*sz'→(∀(q:Nat) (c:D) (v:Value),(flat es)[q]?=some c→olds[q]?=some v→RD E.G c v)→
      (∀w',(∀a,w'.cell? a=w.cell? a)→(Builtin.firstCells ie.size es.length (.slice base es.length cap0)).run C.P w'=.ok olds.toArray w')→
      ∃cap arr w',(execOp σ o).run C.P w=.ok (.value (.slice (some ⟨w.heap.size,0,none⟩) (es++ys).length cap)) w'∧(w.heap.size≤w'.heap.size∧nS w w')∧(∀r,r<w.heap.size→w'.heap[r]?=w.heap[r]?)∧rowAt w' w.heap.size arr∧
       arr.size=cap*sz'∧(es++ys).length≤cap∧(∀e∈es++ys,e.cells.length=sz')∧(∀c∈flat (es++ys),c.isCell=true)∧∀(q:Nat) (d:D) (x:Value),(flat (es++ys))[q]?=some d→arr[q]?=some x→RD E.G d x:=by
     intro base es cap0 olds hy hlt hroom hu0 hc0 hol hor hof;obtain⟨r1,r2,zv,hzv,hzs⟩:=room _ hroom;obtain⟨cap,hcap,hap⟩:=run_append_grow' (w:=w) hty hu hdu hie hzv (base:=base) (sLen:=es.length) (sCap:=cap0) (n:=ys.length) (x:=z) src.len hof hnf0 hlt r1 r2 o.type;have hl0:(flat es).length=es.length*sz':=flat_length hu0;refine⟨cap,olds.toArray++news.toArray++Builtin.zeroCells zv.cells (cap-(es.length+ys.length)),_,?_,⟨by simp,by exact⟨rfl,rfl⟩⟩,fun r hr=>zx w _ r hr,xX w _ e,?_,by simpa using hcap,fun e he=>?_,fun c hc=>?_,fun q d x hd hx=>?_⟩
     ·rw[List.length_append];exact hrun _ _ (by rw[hy];exact hap)
     ·simp only[Array.size_append,List.size_toArray,size_zeroCells,hzs,hol,hnl,←hsz',←Nat.add_mul];congr 1;omega
     ·rcases List.mem_append.1 he with he|he
      ·exact hu0 e he
      ·exact src.uni e he
     ·rw[fJ]at hc;rcases List.mem_append.1 hc with hc|hc
      ·exact hc0 c hc
      ·exact src.cell c hc
     ·refine Dj (by omega) hor hnr (by omega) (Builtin.zeroCells zv.cells (cap-(es.length+ys.length))).toList q d x hd ?_;rw[←hx,←Array.getElem?_toList];simp
    split at h
    ·cases hro:gI C e ys.length with
     |false=>simp only[hro,cond_false,reduceCtorEq]at h| true =>
      simp only[hro,cond_true]at h;have hy:=hs.nils_inv
      obtain⟨cap,arr,w',k1,k2,k3,k4,k5,k6,k7,k8,k9⟩:=grown (base:=none) (es:=[]) (cap0:=0) (olds:=[]) hy (by
       have:0<ys.length:=List.length_pos_iff.2 hys
       simpa using this) (by simpa using hro) (by simp) (by simp[flat]) (by simp) (by simp[flat]) (fun w' _=>by simp[Builtin.firstCells])
      rw[List.nil_append]at *;exact xU hI (hsT▸h) k1 k2 k3 k4 k5 k6 k7 k8 k9
    ·rename_i sz0 es;cases hro:((sz0==aA C e)&&gI C e (es.length+ys.length))with
     |false=>simp only[hro,cond_false,reduceCtorEq]at h| true =>
      simp only[hro,cond_true]at h;simp only[Bool.and_eq_true,beq_iff_eq]at hro;obtain⟨h0,hro⟩:=hro;have h0':sz0=sz':=by rw[h0,hsT]
      subst h0';obtain⟨so,a,cap0,hy⟩:=rM hI hg (v:=.ex sz0 es) (sz:=sz0) (es:=es) rfl hs;have hcap:∃a',y=.slice a' es.length es.length:=by obtain⟨b,o',xs,e',_⟩:=hs.ex_inv;exact⟨_,e'⟩
      obtain⟨a',hy'⟩:=hcap;obtain⟨olds,hol,hor,hof⟩:=so.cells;have hpos:0<ys.length:=List.length_pos_iff.2 hys
      obtain⟨cap,arr,w',k1,k2,k3,k4,k5,k6,k7,k8,k9⟩:=grown hy' (by omega) hro so.uni so.cell hol hor (fun w' hw=>by
       have:=hof es.length (Nat.le_refl _) w' hw;rw[←hol,List.take_length,hy',hsz']at this
       exact this)
      exact xU hI (hsT▸h) k1 k2 k3 k4 k5 k6 k7 k8 k9
    ·rename_i l sz0 len off n;split at h
     ·rename_i sz1 es fr gr hgl;cases hro:((sz0==aA C e)&&(sz1==aA C e)&&(es.length==len)&&gI C e (n+ys.length)&&(off==0))with
      |false=>simp only[hro,cond_false,reduceCtorEq]at h| true =>
       simp only[hro,cond_true]at h;simp only[Bool.and_eq_true,beq_iff_eq]at hro;obtain⟨⟨⟨⟨h0,h1⟩,rfl⟩,hro⟩,rfl⟩:=hro;have h0':sz0=sz':=by rw[h0,hsT]
       have h1':sz1=sz':=by rw[h1,hsT]
       subst h0';subst h1';have hgm:=hg _ _ hgl;obtain⟨b,c,arr0,v1,v2,v3,v4,v5,v6,v7,v8,v9,v10⟩:=hI.vec hgm;obtain⟨b',c',a,cap0,k1,k2,k3,k4,hy⟩:=hs.sl_inv;rw[v1]at k1;cases k1;obtain⟨ha,hcap0⟩:=k3 rfl;subst ha;subst hcap0;have hcs:es.length*sz1≤cap0*sz1:=Nat.mul_le_mul_right _ v4;have hfl:=flat_length v6;have hpos:0<ys.length:=List.length_pos_iff.2 hys;have hone:∀v∈news,v.oneCell'=true:=by have:dS E ((flat ys).map V.d) news:=dS.ofD (by omega) fun q d x hd hx=>hnr q d x hd hx;exact this.oneCell (iW src.cell)
       have inplace:∀k,n=k→k+ys.length≤cap0→∃w',(execOp σ o).run C.P w=.ok (.value (.slice (some ⟨b,0,none⟩) (k+ys.length) cap0)) w'∧(w'.heap.size=w.heap.size∧nS w w')∧(∀r,r≠b→w'.heap[r]?=w.heap[r]?)∧
         rowAt w' b (splice arr0.toList (k*sz1) news).toArray:=by
        intro k hk hle;subst hk;have hle2:(n+ys.length)*sz1≤cap0*sz1:=Nat.mul_le_mul_right _ hle;rw[Nat.add_mul]at hle2;obtain⟨w',s1,s0,s2,s3,s4⟩:=eY (P:=C.P) b (n*sz1) news 0 arr0 w v2 (by omega) hone;refine⟨w',hrun _ _ ?_,⟨s2,s0⟩,s3,by simpa using s4⟩;rw[hy];exact run_append_room' hty hu hdu hie src.len (hnf0 w fun _=>rfl) hle (by rw[Nat.zero_add,←hsz'];exact s1) o.type
       have olds0:∀w',(∀a,w'.cell? a=w.cell? a)→(Builtin.firstCells ie.size es.length (.slice (some ⟨b,0,none⟩) es.length cap0)).run C.P w'=.ok (arr0.toList.take (es.length*sz1)).toArray w':=by
        intro w' hw;rw[←hsz'];refine run_firstCells_some (P:=C.P) w' sz1 es.length ⟨b,0,none⟩ es.length cap0 _ (by simp;omega) fun j v hj=>?_;rw[je,hw,v2.cell];have hlt:j<es.length*sz1:=by
         rcases Nat.lt_or_ge j (es.length*sz1)with h|h
         ·exact h
         ·rw[List.getElem?_take_eq_none h]at hj;cases hj
        rw[List.getElem?_take,if_pos hlt]at hj;simpa using hj
       have oldsR:∀(q:Nat) (c:D) (v:Value),(flat es)[q]?=some c→(arr0.toList.take (es.length*sz1))[q]?=some v→RD E.G c v:=by intro q c v hq hv;have hlt:=(List.getElem?_eq_some_iff.1 hq).1;rw[List.getElem?_take,if_pos (by omega)]at hv;exact v8 q c v hq (by simpa using hv)
       cases hn:(n==es.length)with
       | true =>
        simp only[hn,cond_true]at h;have hn':n=es.length:=by simpa using hn
        subst hn';cases gr with
        | true =>
         simp only[cond_true,oI]at h;subst h;by_cases hroom:es.length+ys.length≤cap0
         ·obtain⟨w',s1,s2,s3,s4⟩:=inplace es.length rfl hroom;have hle2:(es.length+ys.length)*sz1≤cap0*sz1:=Nat.mul_le_mul_right _ hroom;rw[Nat.add_mul]at hle2;have hspl:splice arr0.toList (es.length*sz1) news=arr0.toList.take (es.length*sz1)++(news++arr0.toList.drop (es.length*sz1+news.length)):=by simp[splice]
          obtain⟨E',st,hk'⟩:=hI.growVec hgm v1 v2 hys (b':=b) (c':=cap0) ⟨by omega,s2.2⟩ (fun r _ hr=>s3 r hr) (.inl rfl) s4 (by
           rw[List.size_toArray,aI _ _ _ (by simp;omega),Array.length_toList,v3]) (by simpa using hroom) (fun e he=>by
            rcases List.mem_append.1 he with he|he
            ·exact v6 e he
            ·exact src.uni e he) (fun c hc=>by
            rw[fJ]at hc;rcases List.mem_append.1 hc with hc|hc
            ·exact v7 c hc
            ·exact src.cell c hc) (fun q d x hd hx=>by
            rw[hspl]at hx
            exact Dj (by simp;omega) oldsR hnr (by omega) _ q d x hd (by simpa using hx)) (fun _ q hq=>by
            rw[List.getElem?_toArray,aB _ _ _ (by simp;omega),if_neg (by omega),Array.getElem?_toList])
          refine⟨_,w',E',s1,st,?_⟩;have:=RV.sl (E:=E') l sz1 (es++ys).length 0 (es++ys).length b cap0 0 cap0 hk' (.inr (by simp)) (fun _=>⟨rfl,rfl⟩) (by simpa using hroom);simpa using this
         ·obtain⟨cap,arr,w',k1,k2,k3,k4,k5,k6,k7,k8,k9⟩:=grown hy (by omega) hro v6 v7 (by simp;omega) oldsR olds0;obtain⟨E',st,hk'⟩:=hI.growVec hgm v1 v2 hys (b':=w.heap.size) (c':=cap) k2 (fun r hr _=>k3 r hr) (.inr ⟨Nat.le_refl _,k3 b v2.lt⟩) k4 k5 k6 k7 k8 k9 (fun e=>by have:=v2.lt;omega);refine⟨_,w',E',k1,st,?_⟩;have:=RV.sl (E:=E') l sz1 (es++ys).length 0 (es++ys).length w.heap.size cap 0 cap hk' (.inr (by simp)) (fun _=>⟨rfl,rfl⟩) k6;simpa using this
        | false =>
         simp only[cond_false]at h;cases fr with
         |true=>simp at h|false=>simp only[cond_false]at h;have hc:=v5 rfl;obtain⟨cap,arr,w',k1,k2,k3,k4,k5,k6,k7,k8,k9⟩:=grown hy (by omega) hro v6 v7 (by simp;omega) oldsR olds0;exact xU hI h k1 k2 k3 k4 k5 k6 k7 k8 k9
       | false =>
        simp only[hn,cond_false]at h;cases hfit:(Nat.ble (n+ys.length) es.length&&!fr)with
        |false=>simp only[hfit,cond_false,reduceCtorEq]at h| true =>
         simp only[hfit,cond_true,oI]at h;subst h;simp only[Bool.and_eq_true,Nat.ble_eq,Bool.not_eq_true']at hfit;obtain⟨hfit,rfl⟩:=hfit;obtain⟨w',s1,s2,s3,s4⟩:=inplace n rfl (by omega);have hle2:(n+ys.length)*sz1≤es.length*sz1:=Nat.mul_le_mul_right _ hfit;rw[Nat.add_mul]at hle2;have hfs:flat (splice es n ys)=splice (flat es) (n*sz1) (flat ys):=by simp only[splice,fJ];rw[mg v6,tu v6,Nat.add_mul,hyl]
         refine⟨_,w',E,s1,hI.setVec hgm v1 v2 (aI _ _ _ hfit) s2.2 s2.1 s3 s4 (by rw[List.size_toArray,aI _ _ _ (by simp;omega),Array.length_toList]) (fun e he=>?_) (fun d hd=>?_) (fun q d x hd hx=>?_),?_⟩
         ·rcases dX he with he|he
          ·exact v6 e he
          ·exact src.uni e he
         ·rw[hfs]at hd;rcases dX hd with hd|hd
          ·exact v7 d hd
          ·exact src.cell d hd
         ·rw[hfs,aB _ _ _ (by omega)]at hd;rw[List.getElem?_toArray,aB _ _ _ (by simp;omega)]at hx;have hll:news.length=(flat ys).length:=by omega
          rw[hll]at hx;split at hd
          ·rename_i hc;rw[if_pos hc]at hx;exact hnr _ _ _ hd hx
          ·rename_i hc;rw[if_neg hc]at hx;exact v8 q d x hd (by simpa using hx)
         ·exact .sl l sz1 es.length 0 (n+ys.length) b cap0 0 cap0 v1 (.inr (by simp)) (fun _=>⟨rfl,rfl⟩) (by omega)
     ·cases h
    ·cases h
 ·cases h
theorem Kq{args:Array Operand}{ts:Array TypeId}{eff:Eff}(ho:o.op=.call {callee:=.builtin .append,args:=args,argTypes:=ts})(hI:Inv C E m w)(hg:∀l o,g l=some o→m.get l=some o)(hρ:∀x,RV E (ρ x) (σ x))(h:jT C f o ρ g=some eff) :
  fF C f o E m w σ eff:=by
 unfold jT at h;simp only[ho]at h;obtain⟨cs,hex⟩:=jJ (C:=C) (w:=w) (σ:=σ) ho;split at h
 ·rename_i s x hxs;obtain⟨s0,x0,rfl,hs0,hx0⟩:=H9 hxs;split at h
  ·rename_i t u hts;have hts':ts=#[t,u]:=by obtain⟨l⟩:=ts;simp at hts;subst hts;rfl
   subst hts';have hs:=hρ s0;have hx:=hρ x0;rw[hs0]at hs;rw[hx0]at hx;have hrun:∀v w',(Builtin.append_ #[t,u] o.type #[σ s0,σ x0]).run C.P w=.ok v w'→(execOp σ o).run C.P w=.ok (.value v) w':=fun v w' hv=>by
    rw[hex];have hv':(Builtin.append_ #[t,u] o.type (Array.map σ #[s0,x0])).run C.P w=.ok v w':=by simpa using hv
    simp only[builtin,Sem.run_bind,hv',Result.andThen_ok,Sem.run_pure]
   split at h
   ·rename_i e' hu;exact ug hI hg h hu rfl hs hx hrun
   ·rename_i hu;exact ug hI hg h hu rfl hs hx hrun
   ·cases h
  ·cases h
 ·cases h
end
section
variable{C:aY}{E:Env}{m:Mem}{w:World}{f:Nat}{o:Oper}{σ:Operand→Value}{ρ:Operand→V}{g:Rd}
theorem JB{P:Program}{t e:TypeId}{rest:List TypeId}{de:TypeDesc}(hty:P.underlying t=some (.slice e))(hde:P.underlying e=some de){b a n cap k:Nat}{z:Value}{news:List Value}(hlen:∀w',(Builtin.lenOf z).run P w'=.ok k w')
  (hf:(Builtin.firstCells (P.cellsOf e) (min k n) z).run P w=.ok news.toArray w){w':World}(hst:(storeCells ⟨b,a,none⟩ news).run P w=.ok () w')(ty:TypeId) :
  (Builtin.copy_ (t::rest).toArray ty #[.slice (some ⟨b,a,none⟩) n cap,z]).run P w=.ok (.int .i64 ((min k n:Nat):Int)) w':=by
 have h0:((t::rest).toArray)[0]?=some t:=by simp
 have hf':(Builtin.firstCells (P.cellsOf e) (Nat.min k n) z).run P w=.ok news.toArray w:=hf;have e1:(#[Value.slice (some ⟨b,a,none⟩) n cap,z]:Array Value)[0]?=some (.slice (some ⟨b,a,none⟩) n cap):=rfl;have e2:(#[Value.slice (some ⟨b,a,none⟩) n cap,z]:Array Value)[1]?=some z:=rfl;unfold Builtin.copy_;simp only[h0,e1,e2,Sem.run_bind,ak hty,Result.andThen_ok,hlen,dh hde,hf',hst,Sem.run_pure,goInt]
theorem run_copy_none{P:Program}{t e:TypeId}{rest:List TypeId}{de:TypeDesc}(hty:P.underlying t=some (.slice e))(hde:P.underlying e=some de){a:Option Addr}{cap k:Nat}{z:Value}(hlen:∀w',(Builtin.lenOf z).run P w'=.ok k w')
  (hf:(Builtin.firstCells (P.cellsOf e) 0 z).run P w=.ok #[] w)(ty:TypeId) :
  (Builtin.copy_ (t::rest).toArray ty #[.slice a 0 cap,z]).run P w=.ok (.int .i64 0) w:=by
 have h0:((t::rest).toArray)[0]?=some t:=by simp
 have hm:Nat.min k 0=0:=Nat.min_zero k;have e1:(#[Value.slice a 0 cap,z]:Array Value)[0]?=some (.slice a 0 cap):=rfl;have e2:(#[Value.slice a 0 cap,z]:Array Value)[1]?=some z:=rfl;unfold Builtin.copy_;simp only[h0,e1,e2,Sem.run_bind,ak hty,Result.andThen_ok,hlen,dh hde,hm,hf,Sem.run_pure,goInt];cases a<;>simp[storeCells]
theorem rF{P:Program}{x:Value}{k:Nat}(hlen:∀w',(Builtin.lenOf x).run P w'=.ok k w')(size:Nat)(w:World):(Builtin.firstCells size 0 x).run P w=.ok #[] w:=by
 have h:=hlen w;cases x<;>simp[Builtin.lenOf]at h
 ·simp[Builtin.firstCells,ByteArray.data_extract]
 ·rename_i a n c;cases a with
  |none=>simp[Builtin.firstCells]|some a=>simp[Builtin.firstCells,loadCells,loadCellsFrom]
theorem toArray_cons{ts:Array TypeId}{t:TypeId}{r:List TypeId}(h:ts.toList=t::r):ts=(t::r).toArray:=by obtain⟨l⟩:=ts;simp at h;subst h;rfl
theorem Yc {args:Array Operand} {ts:Array TypeId} {eff:Eff} (ho:o.op=.call { callee:=.builtin .copy,args:=args,argTypes:=ts }) (hI:Inv C E m w) (hg:∀ l o,g l=some o→m.get l=some o) (hρ:∀ x,RV E (ρ x) (σ x)) (h:jT C f o ρ g=some eff) :
  fF C f o E m w σ eff:=by
 unfold jT at h;simp only[ho]at h;obtain⟨cs,hex⟩:=jJ (C:=C) (w:=w) (σ:=σ) ho;split at h
 ·rename_i d s t r hxs hts;obtain⟨d0,s0,rfl,hd0,hs0⟩:=H9 hxs;have hts':=toArray_cons hts;subst hts';have hd:=hρ d0;have hs:=hρ s0;rw[hd0]at hd;rw[hs0]at hs;have hrun:∀v w',(Builtin.copy_ (t::r).toArray o.type #[σ d0,σ s0]).run C.P w=.ok v w'→(execOp σ o).run C.P w=.ok (.value v) w':=fun v w' hv=>by
   rw[hex];have hv':(Builtin.copy_ (t::r).toArray o.type (Array.map σ #[d0,s0])).run C.P w=.ok v w':=by simpa using hv
   simp only[builtin,Sem.run_bind,hv',Result.andThen_ok,Sem.run_pure]
  split at h
  ·rename_i e he;obtain⟨hty,de,hde⟩:=jm he;have hsT:aA C e=C.P.cellsOf e:=rfl;unfold copyV at h;split at h
   ·rename_i sz' ys hel;have src:=wz hI hg hel hs;obtain⟨news,hnl,hnr,hnf⟩:=src.cells;have hyl:(flat ys).length=ys.length*sz':=flat_length src.uni;have read:∀n,(sz'=C.P.cellsOf e∨ys=[])→∃cs:List Value,(Builtin.firstCells (C.P.cellsOf e) (min ys.length n) (σ s0)).run C.P w=.ok cs.toArray w∧cs.length=min ys.length n*C.P.cellsOf e∧
      (flat (ys.take (min ys.length n))).length=cs.length∧∀(q:Nat) (c:D) (y:Value),(flat (ys.take (min ys.length n)))[q]?=some c→cs[q]?=some y→RD E.G c y:=by
     intro n hc;rcases hc with hc|hc
     ·subst hc;have hle:min ys.length n*C.P.cellsOf e≤ys.length*C.P.cellsOf e:=Nat.mul_le_mul_right _ (Nat.min_le_left _ _);refine⟨news.take (min ys.length n*C.P.cellsOf e),hnf _ (Nat.min_le_left _ _) w fun _=>rfl,by rw[List.length_take];omega,by rw[mg src.uni,List.length_take,List.length_take];omega,fun q c y hq hy=>?_⟩;rw[mg src.uni]at hq;have hlt:q<min ys.length n*C.P.cellsOf e:=by
       rcases Nat.lt_or_ge q (min ys.length n*C.P.cellsOf e)with h|h
       ·exact h
       ·rw[List.getElem?_take_eq_none h]at hq;cases hq
      rw[List.getElem?_take,if_pos hlt]at hq hy;exact hnr q c y hq hy
     ·subst hc;refine⟨[],?_,by simp,by simp[flat],by simp[flat]⟩;have:=qM (P:=C.P) (x:=σ s0) (by simpa using src.len) (C.P.cellsOf e) w;simpa using this
    have hone:∀(k:Nat) (cs:List Value),(flat (ys.take k)).length=cs.length→(∀(q:Nat) (c:D) (y:Value),(flat (ys.take k))[q]?=some c→cs[q]?=some y→RD E.G c y)→dS E ((flat (ys.take k)).map V.d) cs∧(∀v∈cs,v.oneCell'=true)∧∀c∈flat (ys.take k),c.isCell=true:=by
     intro k cs hl hr
     have hc:∀c∈flat (ys.take k),c.isCell=true:=fun c hc=>src.cell c (by
      simp only[flat,List.mem_flatMap]at hc ⊢;obtain⟨e,he,hc⟩:=hc
      exact⟨e,List.mem_of_mem_take he,hc⟩)
     have h1:dS E ((flat (ys.take k)).map V.d) cs:=dS.ofD (by omega) hr;exact⟨h1,h1.oneCell (iW hc),hc⟩
    split at h
    ·rename_i l sz len off n;split at h
     ·rename_i sz1 es gr hgl;cases hb:((sz1==sz)&&(es.length==len)&&(Nat.ble (off+n) len)&&((sz'==sz) || ys.isEmpty)&&(sz==aA C e))with
      |false=>simp only[hb,cond_false,reduceCtorEq]at h| true =>
       simp only[hb,cond_true,oI]at h;subst h;simp only[Bool.and_eq_true,Bool.or_eq_true,beq_iff_eq,Nat.ble_eq,List.isEmpty_iff]at hb;obtain⟨⟨⟨⟨rfl,rfl⟩,hle⟩,hsz⟩,hse⟩:=hb;rw[hsT]at hse;subst hse;obtain⟨cs,c1,c2,c3,c4⟩:=read n hsz;obtain⟨r1,r2,r3⟩:=hone _ cs c3 c4;have hgm:=hg _ _ hgl;obtain⟨b,c,arr0,v1,v2,v3,v4,v5,v6,v7,v8,v9,v10⟩:=hI.vec hgm;obtain⟨b',c',a,cap0,k1,k2,k3,k4,hy⟩:=hd.sl_inv;rw[v1]at k1;cases k1;have hfl:=flat_length v6;have hcs:es.length*C.P.cellsOf e≤c*C.P.cellsOf e:=Nat.mul_le_mul_right _ v4;have hmn:min ys.length n≤n:=Nat.min_le_right _ _;have hle2:(off+min ys.length n)*C.P.cellsOf e≤es.length*C.P.cellsOf e:=Nat.mul_le_mul_right _ (by omega);rw[Nat.add_mul]at hle2;have hus:∀e'∈ys.take (min ys.length n),e'.cells.length=C.P.cellsOf e:=fun e' he'=>by
        rcases hsz with hsz|hsz
        ·rw[←hsz];exact src.uni e' (List.mem_of_mem_take he')
        ·subst hsz;simp at he'
       have htl:(ys.take (min ys.length n)).length=min ys.length n:=by rw[List.length_take];omega
       have hfs:flat (splice es off (ys.take (min ys.length n)))=splice (flat es) (off*C.P.cellsOf e) (flat (ys.take (min ys.length n))):=by simp only[splice,fJ];rw[mg v6,tu v6,Nat.add_mul,htl,c3,c2]
       by_cases hn0:n=0
       ·subst hn0;simp only[Nat.min_zero,List.take_zero]at *;have hcs0:cs=[]:=List.eq_nil_of_length_eq_zero (by omega);subst hcs0;refine⟨.int .i64 0,w,E,hrun _ _ (by rw[hy];exact run_copy_none hty hde src.len c1 o.type),?_,.d _ _ (.int _ _)⟩;rw[kL];exact hI.setVec hgm v1 v2 rfl (.refl w) rfl (fun _ _=>rfl) v2 rfl v6 v7 v8
       ·have ha:a=off*C.P.cellsOf e:=by rcases k2 with h|h<;>omega
        obtain⟨w',s1,s0,s2,s3,s4⟩:=eY (P:=C.P) b (off*C.P.cellsOf e) cs 0 arr0 w v2 (by omega) r2;refine⟨_,w',E,hrun _ _ (by rw[hy,ha];exact JB hty hde src.len c1 s1 o.type),?_,.d _ _ (.int _ _)⟩;refine hI.setVec hgm v1 v2 (aI _ _ _ (by omega)) s0 s2 s3 s4 (by rw[List.size_toArray,aI _ _ _ (by simp;omega),Array.length_toList]) (fun e' he'=>?_) (fun d hd=>?_) (fun q d x hd hx=>?_)
        ·rcases dX he' with he'|he'
         ·exact v6 e' he'
         ·exact hus e' he'
        ·rw[hfs]at hd;rcases dX hd with hd|hd
         ·exact v7 d hd
         ·exact r3 d hd
        ·rw[hfs,aB _ _ _ (by omega)]at hd;rw[List.getElem?_toArray,aB _ _ _ (by simp;omega),Nat.add_zero,←c3]at hx;split at hd
         ·rename_i hc;rw[if_pos hc]at hx;exact c4 _ _ _ hd hx
         ·rename_i hc;rw[if_neg hc]at hx;exact v8 q d x hd (by simpa using hx)
     ·cases h
    ·rename_i l off n;split at h
     ·rename_i cs0 hgl;cases hb:(Nat.ble (off+n) cs0.length&&((sz'==1) || ys.isEmpty)&&(aA C e==1))with
      |false=>simp only[hb,cond_false,reduceCtorEq]at h| true =>
       simp only[hb,cond_true,oI]at h;subst h;simp only[Bool.and_eq_true,Bool.or_eq_true,beq_iff_eq,Nat.ble_eq,List.isEmpty_iff]at hb;obtain⟨⟨hle,hsz⟩,hse⟩:=hb;rw[hsT]at hse;obtain⟨cs,c1,c2,c3,c4⟩:=read n (hsz.imp (fun h=>by rw[h,hse]) id);obtain⟨r1,r2,r3⟩:=hone _ cs c3 c4;have hgm:=hg _ _ hgl;obtain⟨b,c,arr0,v1,v2,v3,v4,v5⟩:=hI.cells' hgm;obtain⟨b',c',cap0,k1,k2,hy⟩:=hd.asl_inv;rw[v1]at k1;cases k1;have harr:arr0.size=cs0.length:=by simpa using v3.1
       have hmn:min ys.length n≤n:=Nat.min_le_right _ _;rw[hse,Nat.mul_one]at c2;obtain⟨w',s1,s0,s2,s3,s4⟩:=eY (P:=C.P) b off cs 0 arr0 w v2 (by omega) r2;refine⟨_,w',E,hrun _ _ (by rw[hy];exact JB hty hde src.len c1 s1 o.type),?_,.d _ _ (.int _ _)⟩;refine hI.setCells hgm v1 s0 s2 s3 s4 ?_ fun v hv=>?_
       ·have hr':dS (E.of l) ((flat (ys.take (min ys.length n))).map V.d) cs:=dS.ofD (by omega) fun q d x hd hx=>by rw[yC];exact c4 q d x hd hx
        have:=v3.splice hr' off (by simp;omega);simpa[flat]using this
       ·rcases dX hv with hv|hv
        ·exact v4 v hv
        ·exact iW r3 v hv
     ·cases h
    ·simp only[oI]at h;subst h;have hy:=hd.nils_inv;exact⟨_,w,E,hrun _ _ (by rw[hy];exact run_copy_none hty hde src.len (rF src.len _ _) o.type),.refl hI,.d _ _ (.int _ _)⟩
    ·simp only[oI]at h;subst h;obtain⟨b,o',cap,xs,hy,_⟩:=hd.list_inv;exact⟨_,w,E,hrun _ _ (by rw[hy];exact run_copy_none hty hde src.len (rF src.len _ _) o.type),.refl hI,.d _ _ (.int _ _)⟩
    ·cases h
   ·cases h
  ·cases h
 ·cases h
end
section
variable{C:aY}{E:Env}{m:Mem}{w:World}{f:Nat}{o:Oper}{σ:Operand→Value}{ρ:Operand→V}{g:Rd}
theorem UQ {args:Array Operand} {ts:Array TypeId} {eff:Eff} (ho:o.op=.call { callee:=.builtin .clear,args:=args,argTypes:=ts }) (hI:Inv C E m w) (hg:∀ l o,g l=some o→m.get l=some o) (hρ:∀ x,RV E (ρ x) (σ x)) (h:jT C f o ρ g=some eff) :
  fF C f o E m w σ eff:=by
 unfold jT at h;simp only[ho]at h;obtain⟨cs,hex⟩:=jJ (C:=C) (w:=w) (σ:=σ) ho;split at h
 ·rename_i l sz len off n t r hxs hts;obtain⟨d0,rfl,hd0⟩:=IQ hxs;have hts':=toArray_cons hts;subst hts';have hd:=hρ d0;rw[hd0]at hd;have hrun:∀v w',(Builtin.clear_ (t::r).toArray o.type #[σ d0]).run C.P w=.ok v w'→(execOp σ o).run C.P w=.ok (.value v) w':=fun v w' hv=>by
   rw[hex];have hv':(Builtin.clear_ (t::r).toArray o.type (Array.map σ #[d0])).run C.P w=.ok v w':=by simpa using hv
   simp only[builtin,Sem.run_bind,hv',Result.andThen_ok,Sem.run_pure]
  split at h
  ·rename_i e sz1 es gr he hgl;obtain⟨hty,de,hde⟩:=jm he;split at h
   ·rename_i z hz;cases hb:((es.length==len)&&(sz1==sz)&&(z.cells.length==sz)&&Nat.ble (off+n) len)with
    |false=>simp only[hb,cond_false,reduceCtorEq]at h| true =>
     simp only[hb,cond_true,oI]at h;subst h;simp only[Bool.and_eq_true,beq_iff_eq,Nat.ble_eq]at hb;obtain⟨⟨⟨rfl,rfl⟩,hzl⟩,hle⟩:=hb;obtain⟨ie,zv,hie,hzv,hzr⟩:=sQ hz;have hgm:=hg _ _ hgl;obtain⟨b,c,arr0,v1,v2,v3,v4,v5,v6,v7,v8,v9,v10⟩:=hI.vec hgm;obtain⟨b',c',a,cap0,k1,k2,k3,k4,hy⟩:=hd.sl_inv;rw[v1]at k1;cases k1;have zr:=(vz (E:=E) hzl hzr n)
     have hzu:∀e'∈List.replicate n z,e'.cells.length=sz1:=fun e' he'=>by rw[(List.mem_replicate.1 he').2,hzl]
     have hzf:(flat (List.replicate n z)).length=n*sz1:=by rw[flat_length hzu];simp
     have hzc:∀c∈flat (List.replicate n z),c.isCell=true:=fun c hc=>by simp only[flat,List.mem_flatMap]at hc;obtain⟨e',he',hc⟩:=hc;rw[(List.mem_replicate.1 he').2]at hc;exact(hzr E.G).cells_isCell c hc
     have hzs:zv.cells.size=sz1:=by rw[(hzr E.G).cells.1,hzl]
     have hzz:(zeroValue e).run C.P w=.ok zv w:=by simp[zeroValue,iq hie,hzv]
     have hzeq:Builtin.zeroCells zv.cells n=(Array.range (n*sz1)).map (zv.cells[· % zv.cells.size]!):=by simp[Builtin.zeroCells,hzs]
     have hone:=zr.1.oneCell (iW hzc);have hfl:=flat_length v6;have hcs:es.length*sz1≤c*sz1:=Nat.mul_le_mul_right _ v4;have hle2:(off+n)*sz1≤es.length*sz1:=Nat.mul_le_mul_right _ hle;rw[Nat.add_mul]at hle2;have e0:((t::r).toArray)[0]?=some t:=by simp
     have e1:∀v:Value,(#[v]:Array Value)[0]?=some v:=fun _=>rfl;have hfs:flat (splice es off (List.replicate n z))=splice (flat es) (off*sz1) (flat (List.replicate n z)):=by simp only[splice,fJ];rw[mg v6,tu v6,Nat.add_mul,hzf,List.length_replicate]
     by_cases hn0:n=0
     ·subst hn0;refine⟨.tuple #[],w,E,hrun _ _ ?_,?_,.tuple _ _ rfl fun i v x hv hx=>by simp at hv⟩
      ·rw[hy];unfold Builtin.clear_;simp only[e0,e1,Sem.run_bind,ak hty,Result.andThen_ok];simp
      ·simp only[List.replicate_zero,kL];exact hI.setVec hgm v1 v2 rfl (.refl w) rfl (fun _ _=>rfl) v2 rfl v6 v7 v8
     ·have ha:a=off*sz1:=by rcases k2 with h|h<;>omega
      obtain⟨w',s1,s0,s2,s3,s4⟩:=eY (P:=C.P) b (off*sz1) (Builtin.zeroCells zv.cells n).toList 0 arr0 w v2 (by rw[Array.length_toList,size_zeroCells,hzs];omega) (by rw[hzeq];exact hone)
      refine⟨.tuple #[],w',E,hrun _ _ ?_,hI.setVec hgm v1 v2 (aI _ _ _ (by simpa using hle)) s0 s2 s3 s4 (by rw[List.size_toArray,aI _ _ _ (by rw[Array.length_toList,size_zeroCells,hzs,Array.length_toList];omega),Array.length_toList])
       (fun e' he'=>?_) (fun d hd=>?_) (fun q d x hd hx=>?_),.tuple _ _ rfl fun i v x hv hx=>by simp at hv⟩
      ·obtain⟨n',rfl⟩:∃n',n=n'+1:=⟨n-1,by omega⟩
       rw[hy,ha];unfold Builtin.clear_;simp only[e0,e1,Sem.run_bind,ak hty,Result.andThen_ok];simp only[hzz,Result.andThen_ok,s1,Sem.run_pure]
      ·rcases dX he' with he'|he'
       ·exact v6 e' he'
       ·exact hzu e' he'
      ·rw[hfs]at hd;rcases dX hd with hd|hd
       ·exact v7 d hd
       ·exact hzc d hd
      ·have hzl2:(Builtin.zeroCells zv.cells n).toList.length=(flat (List.replicate n z)).length:=by rw[Array.length_toList,size_zeroCells,hzs,hzf]
       rw[hfs,aB _ _ _ (by omega)]at hd;have hbd:off*sz1+0+(Builtin.zeroCells zv.cells n).toList.length≤arr0.toList.length:=by rw[hzl2,hzf,Array.length_toList];omega
       rw[List.getElem?_toArray,aB _ _ _ hbd,Nat.add_zero,hzl2]at hx;split at hd
       ·rename_i hc;rw[if_pos hc,hzeq]at hx;rw[Array.getElem?_toList]at hx;exact zr.2 E.G _ _ _ hd hx
       ·rename_i hc;rw[if_neg hc]at hx;exact v8 q d x hd (by simpa using hx)
   ·cases h
  ·cases h
 ·cases h
theorem FU(n:Int)(h0:0≤n)(h1:n<128):Utf8.encode n=⟨#[UInt8.ofNat n.toNat]⟩:=by
 have hv:Utf8.valid n=true:=by simp[Utf8.valid];omega
 simp only[Utf8.encode,hv,if_true];rw[if_pos (by omega)]
theorem FO:∀(es:List D) (bs:List UInt8),ofBytes es=some bs→∃ns:List Int,es=ns.map (D.int .u8)∧bs=ns.map fun n=>UInt8.ofNat n.toNat:=by
 intro es;induction es with
 |nil=>intro bs h;simp[ofBytes]at h;subst h;exact⟨[],rfl,rfl⟩| cons d es ih =>
  intro bs h;unfold ofBytes at h;split at h
  ·rename_i hh;cases hh
  ·rename_i n r hh;cases hh;cases hr:ofBytes es with
   |none=>simp[hr]at h|some bs'=>simp[hr]at h;subst h;obtain⟨ns,rfl,rfl⟩:=ih bs' hr;exact⟨n::ns,rfl,rfl⟩
  ·cases h
theorem foldl_push(ns:List Int):∀(s:ByteArray),ns.foldl (fun r n=>r.push (UInt8.ofNat n.toNat)) s=⟨s.data++(ns.map fun n=>UInt8.ofNat n.toNat).toArray⟩:=by
 induction ns with
 |nil=>intro s;simp|cons n ns ih=>intro s;rw[List.foldl_cons,ih];simp[ByteArray.push]
end
end Mw
