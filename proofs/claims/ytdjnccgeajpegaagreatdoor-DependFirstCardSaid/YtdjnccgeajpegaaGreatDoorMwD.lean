/- DependFirst's tied card holds; no condition beyond the card's own. -/
import Derived.Test.YtdjnccgeajpegaaGreatDoorMwC
import Derived.Laws.Tables
set_option linter.unusedVariables false
set_option linter.unusedSimpArgs false
namespace Mw
open Go
theorem kL{α:Type}(l:List α)(n:Nat):splice l n []=l:=by simp[splice]
theorem aI{α:Type}(l:List α)(n:Nat)(r:List α)(h:n+r.length≤l.length):(splice l n r).length=l.length:=by simp[splice];omega
theorem aB{α:Type}(l:List α)(n:Nat)(r:List α)(h:n+r.length≤l.length)(i:Nat) :
  (splice l n r)[i]?=if n≤i∧i<n+r.length then r[i-n]? else l[i]?:=by
 unfold splice;by_cases h1:i<n
 ·rw[if_neg (by omega),List.append_assoc,List.getElem?_append_left (by simp;omega),List.getElem?_take,if_pos h1]
 ·by_cases h2:i<n+r.length
  ·rw[if_pos ⟨by omega,h2⟩,List.append_assoc,List.getElem?_append_right (by simp;omega),List.getElem?_append_left (by simp;omega)];congr 1;simp;omega
  ·rw[if_neg (by omega),List.getElem?_append_right (by simp;omega),List.getElem?_drop];congr 1;simp;omega
theorem qi{α:Type}(l:List α)(n:Nat)(c:α)(r:List α)(h:n+(r.length+1)≤l.length):splice (l.set n c) (n+1) r=splice l n (c::r):=by
 apply List.ext_getElem?;intro i;rw[aB _ _ _ (by simp;omega),aB _ _ _ (by simpa using h),List.getElem?_set];by_cases h1:i=n
 ·subst h1;rw[if_neg (by omega),if_pos rfl,if_pos (by omega),if_pos (by simp)];simp
 ·by_cases h2:n<i∧i<n+1+r.length
  ·rw[if_pos (by omega),if_pos (by simp;omega)];have:i-n=(i-(n+1))+1:=by omega
   rw[this];rfl
  ·rw[if_neg (by omega),if_neg (by omega),if_neg (by simp;omega)]
theorem dS.splice{E:Env}{vs us:List V}{xs ys:List Value}(h:dS E vs xs)(h':dS E us ys)(n:Nat)(hn:n+us.length≤vs.length):dS E (splice vs n us) (splice xs n ys):=by
 have l1:=h.1;have l2:=h'.1;refine⟨by rw[aI _ _ _ hn,aI _ _ _ (by omega),h.1],fun i v x hv hx=>?_⟩;rw[aB _ _ _ hn]at hv;rw[aB _ _ _ (by omega),l2]at hx;split at hv
 ·rename_i hc;rw[if_pos hc]at hx;exact h'.2 _ _ _ hv hx
 ·rename_i hc;rw[if_neg hc]at hx;exact h.2 _ _ _ hv hx
theorem dX{α:Type}{l r:List α}{n:Nat}{a:α}(h:a∈splice l n r):a∈l∨a∈r:=by
 simp only[splice,List.mem_append]at h;rcases h with (h|h)|h
 ·exact .inl (List.mem_of_mem_take h)
 ·exact .inr h
 ·exact .inl (List.mem_of_mem_drop h)
theorem foldl_set(off:Nat):∀(l:List Value) (k:Nat) (arr:Array Value),off+k+l.length≤arr.size→
  ((l.zipIdx k).foldl (fun(a:Array Value) (p:Value×Nat)=>a.setIfInBounds (off+p.2) p.1) arr).toList=splice arr.toList (off+k) l:=by
 intro l;induction l with
 |nil=>intro k arr _;simp[kL]|cons c l ih=>intro k arr h;simp only[List.length_cons]at h;simp only[List.zipIdx_cons,List.foldl_cons];rw[ih (k+1) _ (by simp;omega)];have:=qi arr.toList (off+k) c l (by simp;omega);rw[←this];simp[Nat.add_assoc]
section
variable{C:aY}{E:Env}{w:World}
theorem Np{place place':Nat→Option (Nat×Nat)}(hp:∀i p,place i=some p→place' i=some p){ρ:Operand→V}{σ:Operand→Value}(hρ:∀x,RV E (ρ x) (σ x)) :
  ∀(parts:List (Nat×Operand)) (cs cs':List V) (arr:Array Value),kY place cs (parts.map fun p=>(p.1,ρ p.2))=some cs'→dS E cs arr.toList→(∀v∈cs,v.isCell=true)→
   ∃arr':Array Value,Instr.fill place' arr (parts.map fun p=>(p.1,σ p.2))=some arr'∧dS E cs' arr'.toList∧(∀v∈cs',v.isCell=true)∧cs'.length=cs.length:=by
 intro parts;induction parts with
 |nil=>intro cs cs' arr h hr hc;simp[kY]at h;subst h;exact⟨arr,rfl,hr,hc,rfl⟩| cons p parts ih =>
  intro cs cs' arr h hr hc;simp only[List.map_cons,kY]at h;split at h
  ·rename_i off sz hpl;cases hb:(((ρ p.2).cells.length==sz)&&Nat.ble (off+sz) cs.length&&(ρ p.2).cells.all V.isCell)with
   |false=>simp only[hb,cond_false,reduceCtorEq]at h| true =>
    simp only[hb,cond_true]at h;simp only[Bool.and_eq_true,beq_iff_eq,Nat.ble_eq]at hb;obtain⟨⟨h1,h2⟩,h3⟩:=hb;have hcs:=(hρ p.2).cells h3;have hl:(σ p.2).cells.size=sz:=by have:=hcs.1;simp at this;omega
    have harr:arr.size=cs.length:=by simpa using hr.1
    have hsp:dS E (Mw.splice cs off (ρ p.2).cells) (Mw.splice arr.toList off (σ p.2).cells.toList):=hr.splice hcs off (by omega);have hfold:=foldl_set off (σ p.2).cells.toList 0 arr (by simp;omega)
    obtain⟨arr',ha,hr',hc',hl'⟩:=ih _ _ ((σ p.2).cells.zipIdx.foldl (fun cs (c,j)=>cs.setIfInBounds (off+j) c) arr) h (by
     rw[←Array.foldl_toList];have:(σ p.2).cells.zipIdx.toList=(σ p.2).cells.toList.zipIdx 0:=by simp
     rw[this,hfold]
     exact hsp) (fun v hv=>by
     rcases dX hv with hv|hv
     ·exact hc v hv
     ·exact List.all_eq_true.1 h3 v hv)
    refine⟨arr',?_,hr',hc',by rw[hl',aI _ _ _ (by omega)]⟩;simp only[List.map_cons,Instr.fill,hp _ _ hpl];rw[if_neg (by simp;omega)];exact ha
  ·cases h
theorem Io{P:Program}:∀(fs:List Field),(fs.all fun f=>(P.info? f.type).isSome)=true→
  fs.mapM (fun f=>(P.info? f.type).map fun i=>(f.offset,i.size))=some (fs.map fun f=>(f.offset,P.cellsOf f.type)):=by
 intro fs;induction fs with
 |nil=>intro _;rfl|cons f fs ih=>intro h;simp only[List.all_cons,Bool.and_eq_true]at h;obtain⟨i,hi⟩:=Option.isSome_iff_exists.1 h.1;simp[List.mapM_cons,hi,ih h.2,Program.cellsOf]
theorem FM {t:TypeId} {parts:Array (Nat × Operand)} {ρ:Operand→V} {σ:Operand→Value} (hρ:∀ x,RV E (ρ x) (σ x)) {v:V}
  (h:dO C t (parts.toList.map fun p=>(p.1,ρ p.2))=some v):∃y,(Instr.build t (parts.map fun(i,x)=>(i,σ x))).run C.P w=.ok y w∧RV E v y:=by
 unfold dO at h;split at h
 ·rename_i z place hz hpl;split at h
  ·rename_i cs hf;simp at h;subst h;unfold aU at hz;split at hz
   ·rename_i i hi;split at hz
    ·rename_i zv hzv;have hzr:=jC E.G zv z hz;obtain⟨c1,c2⟩:=hzr.cells
     have hzc:dS E (z.cells.map V.d) zv.cells.toList:=⟨by simp[c1],fun i v x hv hx=>by
      simp only[List.getElem?_map,Option.map_eq_some_iff]at hv;obtain⟨d,hd,rfl⟩:=hv
      exact .d d x (c2 i d x hd (by simpa using hx))⟩
     have hcc:∀v∈z.cells.map V.d,v.isCell=true:=fun v hv=>by obtain⟨d,hd,rfl⟩:=List.mem_map.1 hv;exact hzr.cells_isCell d hd
     have main:∀place',(∀i p,place i=some p→place' i=some p)→(∀arr,Instr.fill place' zv.cells (parts.map fun(i,x)=>(i,σ x)).toList=some arr→C.P.built t (parts.map fun(i,x)=>(i,σ x)).toList=some arr)→
       ∃y,(Instr.build t (parts.map fun(i,x)=>(i,σ x))).run C.P w=.ok y w∧RV E (rW cs) y:=by
      intro place' hp' hb;obtain⟨arr',ha,hr',hc',hl'⟩:=Np hp' hρ parts.toList _ _ zv.cells hf hzc hcc;refine⟨_,run_build w t _ arr' (hb arr' (by simpa using ha)),?_⟩;rcases RV.ofCells hr' hc' (ag:=true) (v:=rW cs) rfl with ⟨_,h⟩|⟨h,_⟩
      ·simpa using h
      ·cases h
     unfold F7 at hpl;split at hpl
     ·rename_i fs hu;cases hall:(fs.toList.all fun f=>(C.P.info? f.type).isSome)with
      |false=>simp only[hall,cond_false,reduceCtorEq]at hpl| true =>
       simp only[hall,cond_true,oI]at hpl;subst hpl;refine main (((fs.toList.map fun f=>(f.offset,C.P.cellsOf f.type)).toArray[·]?)) (fun i p h=>?_) (fun arr ha=>?_)
       ·dsimp only at h;split at h
        ·rename_i fl hfl;simp at h;subst h;simp[hfl,aA]
        ·cases h
       ·simp only[Program.built,hi,hu,hzv,Io _ hall,ha]
     ·rename_i n e hu;cases hie:C.P.info? e with
      |none=>simp[hie]at hpl|some ie=>
       simp only[hie,Option.isSome_some,cond_true,oI]at hpl;subst hpl;refine main (fun i=>some (i*ie.size,ie.size)) (fun i p h=>?_) (fun arr ha=>?_)
       ·simpa[aA,Program.cellsOf,hie]using h
       ·simp only[Program.built,hi,hu,hzv,hie,ha]
     ·cases hpl
    ·cases hz
   ·cases hz
  ·cases h
 ·cases h
theorem TN:∀(vs:List V) (xs:List Value) (k:IntKind) (n:Int) (d:D),kQ true (.int k n) vs=some d→dS E vs xs→
  ∃y,(xs.foldlM Builtin.max2 (Value.int k n)).run C.P w=.ok y w∧RV E (.d d) y:=by
 intro vs;induction vs with
 |nil=>
  intro xs k n d h hr;simp[kQ]at h;subst h;have:xs=[]:=by have:=hr.1;simpa using this
  subst this;exact⟨_,by simp,.d _ _ (.int _ _)⟩
 | cons v vs ih =>
  intro xs k n d h hr;unfold kQ at h;split at h
  ·rename_i hh;simp at hh
  ·rename_i k' x j y r h1 h2;simp at h1 h2;obtain⟨rfl,rfl⟩:=h1;obtain⟨rfl,rfl⟩:=h2
   match xs,hr with
   |[],hr=>have:=hr.1;simp at this
   |u::us,hr=>
    have hu:=(hr.2 0 _ u rfl rfl).int_inv;subst hu;have hr':dS E vs us:=⟨by have:=hr.1;simpa using this,fun i v x hv hx=>hr.2 (i+1) v x (by simpa using hv) (by simpa using hx)⟩
    simp only[cond_true]at h;obtain⟨z,hz,hz'⟩:=ih us k _ d h hr';exact⟨z,by simp only[List.foldlM_cons,Builtin.max2,Sem.run_bind,Sem.run_pure,Result.andThen_ok];exact hz,hz'⟩
  ·cases h
theorem Ub:∀(vs:List V) (xs:List Value) (k:IntKind) (n:Int) (d:D),kQ false (.int k n) vs=some d→dS E vs xs→
  ∃y,(xs.foldlM Builtin.min2 (Value.int k n)).run C.P w=.ok y w∧RV E (.d d) y:=by
 intro vs;induction vs with
 |nil=>
  intro xs k n d h hr;simp[kQ]at h;subst h;have:xs=[]:=by have:=hr.1;simpa using this
  subst this;exact⟨_,by simp,.d _ _ (.int _ _)⟩
 | cons v vs ih =>
  intro xs k n d h hr;unfold kQ at h;split at h
  ·rename_i hh;simp at hh
  ·rename_i k' x j y r h1 h2;simp at h1 h2;obtain⟨rfl,rfl⟩:=h1;obtain⟨rfl,rfl⟩:=h2
   match xs,hr with
   |[],hr=>have:=hr.1;simp at this
   |u::us,hr=>
    have hu:=(hr.2 0 _ u rfl rfl).int_inv;subst hu;have hr':dS E vs us:=⟨by have:=hr.1;simpa using this,fun i v x hv hx=>hr.2 (i+1) v x (by simpa using hv) (by simpa using hx)⟩
    simp only[cond_false]at h;obtain⟨z,hz,hz'⟩:=ih us k _ d h hr';exact⟨z,by simp only[List.foldlM_cons,Builtin.min2,Sem.run_bind,Sem.run_pure,Result.andThen_ok];exact hz,hz'⟩
  ·cases h
end
theorem iw(e:D)(es:List D):flat (e::es)=e.cells++flat es:=by simp[flat]
theorem flat_length{sz:Nat}:∀{es:List D},(∀e∈es,e.cells.length=sz)→(flat es).length=es.length*sz:=by
 intro es;induction es with
 |nil=>intro _;simp[flat]|cons e es ih=>intro h;rw[iw,List.length_append,ih fun x hx=>h x (.tail _ hx),h e (.head _),List.length_cons,Nat.succ_mul,Nat.add_comm]
theorem flat_get{sz:Nat}:∀{es:List D},(∀e∈es,e.cells.length=sz)→∀(i:Nat) (e:D),es[i]?=some e→∀q,q<sz→(flat es)[i*sz+q]?=e.cells[q]?:=by
 intro es;induction es with
 |nil=>intro _ i e h;simp at h| cons x es ih =>
  intro h i e hi q hq;have hx:=h x (.head _);rw[iw];cases i with
  |zero=>simp at hi;subst hi;rw[Nat.zero_mul,Nat.zero_add,List.getElem?_append_left (by omega)]|succ i=>
   rw[List.getElem?_append_right (by rw[hx,Nat.succ_mul];omega),hx];have:(i+1)*sz+q-sz=i*sz+q:=by rw[Nat.succ_mul];omega
   rw[this];exact ih (fun y hy=>h y (.tail _ hy)) i e (by simpa using hi) q hq
theorem kT{sz:Nat}{es:List D}(h:∀e∈es,e.cells.length=sz){i:Nat}{e:D}(hi:es[i]?=some e){q:Nat}{c:D}(hq:e.cells[q]?=some c):(flat es)[i*sz+q]?=some c:=by
 have hlt:q<sz:=by have:=(List.getElem?_eq_some_iff.1 hq).1;rw[h e (mM hi)]at this;exact this
 rw[flat_get h i e hi q hlt,hq]
theorem Dt(s:ByteArray)(i:Nat):s[i]?=s.data[i]?:=by
 by_cases h:i<s.size
 ·rw[ByteArray.getElem?_lt' s i h];have h':i<s.data.size:=h;rw[Array.getElem?_eq_getElem h'];rfl
 ·rw[ByteArray.getElem?_ge' s i h];have h':¬i<s.data.size:=h;rw[Array.getElem?_eq_none (by omega)]
section
variable{C:aY}{E:Env}{w:World}{o:Oper}{ρ:Operand→V}{σ:Operand→Value}
theorem RV.elemPtr{sz:Nat}{es:List D}{b o:Nat}{xs:Nat→Value}(h1:∀e∈es,e.cells.length=sz)(h2:∀q c,(flat es)[q]?=some c→E.G b (o+q)=some (xs q))
  (h3:∀q c,(flat es)[q]?=some c→RD E.G c (xs q))(h4:∀c∈flat es,c.isCell=true){i:Nat}{d:D}(hi:es[i]?=some d) :
  RV E (.dptr d.cells 0) (.pointer (some ⟨b,o+i*sz,none⟩)):=by
 have hq:∀q c,d.cells[q]?=some c→(flat es)[i*sz+q]?=some c:=fun q c h=>kT h1 hi h;refine .dptr d.cells 0 b (o+i*sz) (fun q=>xs (i*sz+q)) (fun q c h=>?_) (fun q c h=>h3 _ _ (hq q c h)) (fun c hc=>?_)
 ·have:=h2 _ _ (hq q c h);rw[←this];congr 1;omega
 ·obtain⟨q,hq',hc⟩:=List.mem_iff_getElem.1 hc;exact h4 c (mM (hq q c (by rw[List.getElem?_eq_getElem hq',hc])))
theorem iK{t e:TypeId}{d:TypeDesc}(hu:C.P.underlying t=some (.slice e))(hd:C.P.underlying e=some d){k:IntKind}{i:Nat}{b a n cap:Nat}(hi:i<n) :
  (Instr.indexAt t (.slice (some ⟨b,a,none⟩) n cap) (.int k (i:Int))).run C.P w=.ok (.pointer (some ⟨b,a+i*C.P.cellsOf e,none⟩)) w:=by
 have h0:(0:Int)≤(i:Int)∧(i:Int)<(n:Int):=by omega
 simp[Instr.indexAt,asIntOf,ak hu,h0,dh hd,je,hi]
theorem mX{t e:TypeId}{m:Nat}{d:TypeDesc}(hu:C.P.underlying t=some (.array m e))(hd:C.P.underlying e=some d){k:IntKind}{i:Nat}{b a:Nat}(hi:i<m) :
  (Instr.indexAt t (.pointer (some ⟨b,a,none⟩)) (.int k (i:Int))).run C.P w=.ok (.pointer (some ⟨b,a+i*C.P.cellsOf e,none⟩)) w:=by
 have h0:(0:Int)≤(i:Int)∧(i:Int)<(m:Int):=by omega
 simp[Instr.indexAt,asIntOf,ak hu,h0,dh hd,je,Instr.sureAddr];omega
theorem Dz{t:TypeId}{x i:Operand}{v:V}(ho:o.op=.indexAddr t x i)(hρ:∀x,RV E (ρ x) (σ x))(h:J7 C o ρ=some v):pF C E w o σ v:=by
 unfold J7 at h;simp only[ho]at h;have run:∀y,(Instr.indexAt t (σ x) (σ i)).run C.P w=.ok y w→(execOp σ o).run C.P w=.ok (.value y) w:=fun y hy=>by simp[execOp,ho,hy]
 split at h
 ·cases h
 ·rename_i n hn;obtain⟨k,hk⟩:=jo hn (hρ i);split at h
  ·rename_i e he;obtain⟨hu,d,hd⟩:=jm he;split at h
   ·rename_i sz es hx;have hxx:=hρ x;rw[hx]at hxx;obtain⟨b,o',cap,xs,hσ,h0,h1,h2,h3,h4⟩:=hxx.list_inv;split at h
    ·rename_i el hel;cases hs:(sz==aA C e)with
     |false=>simp[hs]at h|true=>
      simp[hs]at h;subst h;have hsz:sz=C.P.cellsOf e:=by simpa[aA]using hs
      refine⟨_,run _ (by rw[hσ,hk];exact iK hu hd (List.getElem?_eq_some_iff.1 hel).1),?_⟩;rw[←hsz];exact RV.elemPtr h1 h2 h3 h4 hel
    ·cases h
   ·rename_i sz es hx;have hxx:=hρ x;rw[hx]at hxx;obtain⟨b,o',xs,hσ,h1,h2,h3,h4⟩:=hxx.ex_inv;split at h
    ·rename_i el hel;cases hs:(sz==aA C e)with
     |false=>simp[hs]at h|true=>
      simp[hs]at h;subst h;have hsz:sz=C.P.cellsOf e:=by simpa[aA]using hs
      refine⟨_,run _ (by rw[hσ,hk];exact iK hu hd (List.getElem?_eq_some_iff.1 hel).1),?_⟩;rw[←hsz];exact RV.elemPtr h1 h2 h3 h4 hel
    ·cases h
   ·rename_i es hx;have hxx:=hρ x;rw[hx]at hxx;obtain⟨b,o',cap,xs,hσ,h0,h1,h2,h3⟩:=hxx.vl_inv;cases hb:(Nat.ble (n+1) es.length&&(aA C e==1))with
    |false=>simp only[hb,cond_false,reduceCtorEq]at h|true=>simp only[hb,cond_true,oI]at h;subst h;simp only[Bool.and_eq_true,Nat.ble_eq,beq_iff_eq]at hb;have hsz:C.P.cellsOf e=1:=hb.2;refine⟨_,run _ (by rw[hσ,hk];exact iK hu hd (by omega)),?_⟩;rw[hsz,Nat.mul_one];exact .vptr es n b o' xs h1 h2 h3
   ·rename_i l sz len off m hx;have hxx:=hρ x;rw[hx]at hxx;obtain⟨b,c,a,cap,h1,h2,h3,h4,hσ⟩:=hxx.sl_inv;cases hb:(Nat.ble (n+1) m&&(sz==aA C e))with
    |false=>simp only[hb,cond_false,reduceCtorEq]at h|true=>
     simp only[hb,cond_true,oI]at h;subst h;simp only[Bool.and_eq_true,Nat.ble_eq,beq_iff_eq]at hb;have hsz:sz=C.P.cellsOf e:=hb.2;refine⟨_,run _ (by rw[hσ,hk];exact iK hu hd (by omega)),?_⟩;have ha:a=off*sz:=by rcases h2 with h|h<;>omega
     have:=RV.ept (E:=E) l sz len (off+n) 0 b c h1;rw[←hsz,ha];rwa[Nat.add_mul,Nat.add_zero]at this
   ·rename_i l off m hx;have hxx:=hρ x;rw[hx]at hxx;obtain⟨b,c,cap,h1,h2,hσ⟩:=hxx.asl_inv;cases hb:(Nat.ble (n+1) m&&(aA C e==1))with
    |false=>simp only[hb,cond_false,reduceCtorEq]at h|true=>simp only[hb,cond_true,oI]at h;subst h;simp only[Bool.and_eq_true,Nat.ble_eq,beq_iff_eq]at hb;have hsz:C.P.cellsOf e=1:=hb.2;refine⟨_,run _ (by rw[hσ,hk];exact iK hu hd (by omega)),?_⟩;rw[hsz,Nat.mul_one];exact .ptr l (off+n) b c h1
   ·cases h
  ·split at h
   ·rename_i m e he;obtain⟨hu,d,hd⟩:=tK he;cases hb:Nat.ble (n+1) m with
    |false=>simp only[hb,cond_false,reduceCtorEq]at h| true =>
     simp only[hb,cond_true]at h;simp only[Nat.ble_eq]at hb;split at h
     ·rename_i l off hx;simp at h;subst h;have hxx:=hρ x;rw[hx]at hxx;obtain⟨b,c,h1,hσ⟩:=hxx.ptr_inv;exact⟨_,run _ (by rw[hσ,hk];exact mX hu hd (by omega)),.ptr l _ b c h1⟩
     ·rename_i cs off hx;simp at h;subst h;have hxx:=hρ x;rw[hx]at hxx;obtain⟨b,o',xs,hσ,h1,h2,h3⟩:=hxx.dptr_inv;refine⟨_,run _ (by rw[hσ,hk];exact mX hu hd (by omega)),?_⟩;rw[Nat.add_assoc];exact .dptr cs _ b o' xs h1 h2 h3
     ·rename_i l sz len j off hx;simp at h;subst h;have hxx:=hρ x;rw[hx]at hxx;obtain⟨b,c,h1,hσ⟩:=hxx.ept_inv;refine⟨_,run _ (by rw[hσ,hk];exact mX hu hd (by omega)),?_⟩;rw[Nat.add_assoc];exact .ept l sz len j _ b c h1
     ·cases h
   ·cases h
theorem TR{t:TypeId}{x i:Operand}{v:V}(ho:o.op=.index t x i)(hρ:∀x,RV E (ρ x) (σ x))(h:J7 C o ρ=some v):pF C E w o σ v:=by
 unfold J7 at h;simp only[ho]at h;have run:∀y,(Instr.index t (σ x) (σ i)).run C.P w=.ok y w→(execOp σ o).run C.P w=.ok (.value y) w:=fun y hy=>by simp[execOp,ho,hy]
 have arr:∀{m n:Nat} {e:TypeId} {k:IntKind} {vs:List V} {xs:Array Value} {v:V},wH C t=some (m,e)→σ i=.int k (n:Int)→σ x=.agg xs→dS E vs xs.toList→(∀u∈vs,u.isCell=true)→
   (bif Nat.ble (n+1) m&&Nat.ble (n*aA C e+aA C e) vs.length then V.ofCells (cu C e) ((vs.drop (n*aA C e)).take (aA C e))else none)=some v→pF C E w o σ v:=by
  intro m n e k vs xs v he hk hσ hr hc h;obtain⟨hu,d,hd⟩:=tK he;cases hb:(Nat.ble (n+1) m&&Nat.ble (n*aA C e+aA C e) vs.length)with
  |false=>simp only[hb,cond_false,reduceCtorEq]at h|true=>
   simp only[hb,cond_true]at h;simp only[Bool.and_eq_true,Nat.ble_eq]at hb;obtain⟨y,h1,h2⟩:=Jc (w:=w) hd hr hc hb.2 h;have h0:(0:Int)≤(n:Int)∧(n:Int)<(m:Int):=by omega
   refine⟨y,run y ?_,h2⟩;rw[hσ,hk];simp only[Instr.index,asIntOf,Sem.run_bind,Sem.run_pure,Result.andThen_ok,ak hu,if_pos h0,dh hd];exact h1
 split at h
 ·cases h
 ·rename_i n hn;obtain⟨k,hk⟩:=jo hn (hρ i);split at h
  ·rename_i s hx;have hxx:=hρ x;rw[hx]at hxx;have hσ:=hxx.str_inv;split at h
   ·rename_i b hu hb;simp at h;subst h;refine⟨_,run _ ?_,.d _ _ (.int _ _)⟩;rw[hσ,hk];have hb':s[n]?=some b:=by rw[Dt,hb]
    simp[Instr.index,asIntOf,ak hu,hb']
   ·cases h
  ·rename_i cs hx;have hxx:=hρ x;rw[hx]at hxx;obtain⟨xs,hσ,hr,hc⟩:=hxx.dagg_inv;split at h
   ·rename_i m e he;exact arr he hk hσ hr (fun u hu=>by obtain⟨d,hd,rfl⟩:=List.mem_map.1 hu;exact hc d hd) (by simpa using h)
   ·cases h
  ·rename_i cs hx;have hxx:=hρ x;rw[hx]at hxx;obtain⟨xs,hσ,hr,hc⟩:=hxx.agg_inv;split at h
   ·rename_i m e he;exact arr he hk hσ hr hc h
   ·cases h
  ·cases h
theorem UZ{t:TypeId}{x:Operand}{i:Nat}{v:V}(ho:o.op=.field t x i)(hρ:∀x,RV E (ρ x) (σ x))(h:J7 C o ρ=some v):pF C E w o σ v:=by
 unfold J7 at h;simp only[ho]at h;have fld:∀{fl:Field} {vs:List V} {xs:Array Value},aQ C t i=some fl→σ x=.agg xs→dS E vs xs.toList→(∀u∈vs,u.isCell=true)→
   (bif Nat.ble (fl.offset+aA C fl.type) vs.length then V.ofCells (cu C fl.type) ((vs.drop fl.offset).take (aA C fl.type))else none)=some v→pF C E w o σ v:=by
  intro fl vs xs hf hσ hr hc h;obtain⟨⟨fs,hu,hfs⟩,d,hd⟩:=xq hf;cases hb:(Nat.ble (fl.offset+aA C fl.type) vs.length)with
  |false=>simp only[hb,cond_false,reduceCtorEq]at h|true=>simp only[hb,cond_true]at h;simp only[Nat.ble_eq]at hb;obtain⟨y,h1,h2⟩:=Jc (w:=w) hd hr hc hb h;refine⟨y,?_,h2⟩;simp[execOp,ho,Instr.field,ak hu,hfs,hσ,asAgg,h1]
 split at h
 ·rename_i fl hf;split at h
  ·rename_i cs hx;have hxx:=hρ x;rw[hx]at hxx;obtain⟨xs,hσ,hr,hc⟩:=hxx.dagg_inv;exact fld hf hσ hr (fun u hu=>by obtain⟨d,hd,rfl⟩:=List.mem_map.1 hu;exact hc d hd) (by simpa using h)
  ·rename_i cs hx;have hxx:=hρ x;rw[hx]at hxx;obtain⟨xs,hσ,hr,hc⟩:=hxx.agg_inv;exact fld hf hσ hr hc h
  ·cases h
 ·cases h
theorem DI{t:TypeId}{x:Operand}{i:Nat}{v:V}(ho:o.op=.fieldAddr t x i)(hρ:∀x,RV E (ρ x) (σ x))(h:J7 C o ρ=some v):pF C E w o σ v:=by
 unfold J7 at h;simp only[ho]at h;have hxx:=hρ x;split at h
 ·rename_i fl hf;cases hz:(aA C fl.type==0)with
  |true=>simp only[hz,cond_true,reduceCtorEq]at h| false =>
   simp only[hz,cond_false]at h;have hz':C.P.cellsOf fl.type≠0:=by simpa[aA]using hz
   split at h
   ·rename_i l off hx;simp at h;subst h;rw[hx]at hxx;obtain⟨b,c,h1,hσ⟩:=hxx.ptr_inv;exact⟨_,jP ho hf hz' hσ,.ptr l _ b c h1⟩
   ·rename_i l sz len j off hx;simp at h;subst h;rw[hx]at hxx;obtain⟨b,c,h1,hσ⟩:=hxx.ept_inv;refine⟨_,jP ho hf hz' hσ,?_⟩;rw[Nat.add_assoc];exact .ept l sz len j _ b c h1
   ·rename_i cs off hx;simp at h;subst h;rw[hx]at hxx;obtain⟨b,o',xs,hσ,h1,h2,h3⟩:=hxx.dptr_inv;refine⟨_,jP ho hf hz' hσ,?_⟩;rw[Nat.add_assoc];exact .dptr cs _ b o' xs h1 h2 h3
   ·rename_i cs off hx;simp at h;subst h;rw[hx]at hxx;obtain⟨b,o',xs,hσ,h1,h2,h3⟩:=hxx.vptr_inv;refine⟨_,jP ho hf hz' hσ,?_⟩;rw[Nat.add_assoc];exact .vptr cs _ b o' xs h1 h2 h3
   ·cases h
 ·cases h
theorem dS.ofOps(hρ:∀x,RV E (ρ x) (σ x))(xs:List Operand):dS E (xs.map ρ) (xs.map σ):=
 ⟨by simp,fun i v x hv hx=>by
  simp only[List.getElem?_map,Option.map_eq_some_iff]at hv hx;obtain⟨a,ha,rfl⟩:=hv;obtain⟨b,hb,rfl⟩:=hx;rw[ha]at hb;cases hb
  exact hρ a⟩
theorem CS(b:Builtin)(mx:Bool){args:Array Operand}{ts:Array TypeId}(ho:o.op=.call {callee:=.builtin b,args:=args,argTypes:=ts})(hb:b=if mx then .max else .min)
  (hρ:∀x,RV E (ρ x) (σ x)){j:IntKind}{n:Int}{vs:List V}{d:D}(ha:args.toList.map ρ=.d (.int j n)::vs)(h:kQ mx (.int j n) vs=some d):pF C E w o σ (.d d):=by
 have hr:=dS.ofOps hρ args.toList;rw[ha]at hr
 match hσ:args.toList.map σ,hr with
 |[],hr=>have:=hr.1;simp at this
 | x :: xs,hr =>
  have hx:=(hr.2 0 _ x rfl rfl).int_inv;subst hx;have hr':dS E vs xs:=⟨by have:=hr.1;simpa using this,fun i v x hv hx=>hr.2 (i+1) v x (by simpa using hv) (by simpa using hx)⟩
  cases mx with
  |true=>simp at hb;subst hb;obtain⟨y,h1,h2⟩:=TN (C:=C) (w:=w) vs xs j n d h hr';refine⟨y,?_,h2⟩;simp[execOp,ho,resolve,invoke,builtin,Builtin.max_,hσ,h1]
  |false=>simp at hb;subst hb;obtain⟨y,h1,h2⟩:=Ub (C:=C) (w:=w) vs xs j n d h hr';refine⟨y,?_,h2⟩;simp[execOp,ho,resolve,invoke,builtin,Builtin.min_,hσ,h1]
theorem II{op:UnOp}{a z:D}(h:H8 op a=some z){x:Value}(hx:RD E.G a x):∃y,(Op.unary op x).run C.P w=.ok y w∧RV E (.d z) y:=by
 unfold H8 at h;split at h
 ·cases hx;split at h
  ·simp at h;subst h;exact⟨_,by simp[Op.unary],.d _ _ (.bool _)⟩
  ·cases h
 ·cases hx;split at h
  ·simp at h;subst h;exact⟨_,by simp[Op.unary,Op.intArith];rfl,.d _ _ (by simpa using .int _ _)⟩
  ·simp only[oI]at h;subst h;refine⟨_,?_,.d _ _ (.int _ _)⟩;simp only[Op.unary,Op.intBits,Sem.run_pure]
  ·cases h
 ·cases h
theorem TA{v:V}(hρ:∀x,RV E (ρ x) (σ x))(h:J7 C o ρ=some v):pF C E w o σ v:=by
 have h':=h;unfold J7 at h;split at h
 ·rename_i x ho;simp at h;subst h;exact⟨σ x,by simp[execOp,ho],hρ x⟩
 ·rename_i x ho;simp at h;subst h;exact⟨σ x,by simp[execOp,ho],hρ x⟩
 ·rename_i c a b ho;split at h
  ·rename_i t hc;simp only[oI]at h;subst h;exact UD ho (hρ c) hc (hρ a) (hρ b)
  ·cases h
 ·rename_i t parts ho;obtain⟨y,h1,h2⟩:=FM (w:=w) hρ h;exact⟨y,by simp only[execOp,ho,Sem.run_bind,h1,Result.andThen_ok,Sem.run_pure],h2⟩
 ·rename_i x ho;have hx:=hρ x;split at h
  ·rename_i hh;simp at h;subst h;rw[hh]at hx;obtain⟨b,c,h1,hσ⟩:=hx.ptr_inv;exact⟨_,by simp only[execOp,ho,hσ];rfl,.ptr _ _ b c h1⟩
  ·rename_i hh;simp at h;subst h;rw[hh]at hx;have hx':=hx;obtain⟨b,o',xs,hσ,-⟩:=hx.dptr_inv;exact⟨_,by simp only[execOp,ho,hσ];rfl,hσ▸hx'⟩
  ·rename_i hh;simp at h;subst h;rw[hh]at hx;obtain⟨b,c,h1,hσ⟩:=hx.ept_inv;exact⟨_,by simp only[execOp,ho,hσ];rfl,.ept _ _ _ _ _ b c h1⟩
  ·rename_i f a b hh;simp at h;subst h;rw[hh]at hx;generalize hσ:σ x=z at hx;cases hx with
   |fn _ _ _ a' b' hf ha hb hA hB=>exact⟨_,by simp only[execOp,ho,hσ];rfl,.fn _ _ _ a' b' hf ha hb hA hB⟩
  ·rename_i f a b hh;simp at h;subst h;rw[hh]at hx;generalize hσ:σ x=z at hx;cases hx with
   |fn _ _ _ a' b' hf ha hb hA hB=>exact absurd rfl (hf _)|yield l b c hk=>exact⟨_,by simp only[execOp,ho,hσ];rfl,.yield _ b c hk⟩
  ·cases h
 ·rename_i op t x y _ ho;obtain⟨z,h1,h2⟩:=FD (w:=w) h (hρ x) (hρ y) x y (fun hc=>Bool.or_eq_true_iff.1 hc);refine⟨z,?_,h2⟩;simp only[execOp,ho];rw[Sem.run_bind,h1];rfl
 ·rename_i op t x ho;have hx:=hρ x;split at h
  ·rename_i a ha;rw[ha]at hx;split at h
   ·rename_i z hz;simp at h;subst h;obtain⟨y,h1,h2⟩:=II (C:=C) (w:=w) hz hx.of_d;exact⟨y,by simp[execOp,ho,h1],h2⟩
   ·cases h
  ·cases h
 ·rename_i t x ho;split at h
  ·cases h
  ·cases h
  ·rename_i d hni hu;have run:(execOp σ o).run C.P w=.ok (.value (.iface t (σ x))) w:=by simp only[execOp,ho,Instr.makeInterface,Sem.run_bind,ak hu,Result.andThen_ok];cases d<;>first|rfl|exact absurd hu (hni _)
   have hx:=hρ x;split at h
   ·rename_i a ha;simp at h;subst h;rw[ha]at hx;exact⟨_,run,.d _ _ (.iface t a _ hx.of_d)⟩
   ·rename_i hnd;simp at h;subst h;exact⟨_,run,.iface t _ _ hx⟩
 ·rename_i t x i ho;exact DI ho hρ h'
 ·rename_i t x i ho;exact UZ ho hρ h'
 ·rename_i t x i ho;exact Dz ho hρ h'
 ·rename_i t x i ho;exact TR ho hρ h'
 ·rename_i x xt asserted ok ho;have hx:=hρ x;split at h
  ·rename_i hn;rw[hn]at hx;have hσ:=hx.nili_inv;cases ok with
   |false=>simp at h| true =>
    simp only[cond_true]at h;split at h
    ·rename_i d z hu hz;simp at h;subst h;obtain⟨v,hv,hr⟩:=iO (w:=w) E.G hz;refine⟨.tuple #[v,.bool false],?_,.tuple _ _ rfl (fun i u x hu hx=>?_)⟩
     ·simp only[execOp,ho,hσ,Instr.typeAssert,Sem.run_bind,ak hu,Result.andThen_ok];cases d<;>simp[hv]
     ·rcases i with _|_|i
      ·simp at hu hx;subst hu;subst hx;exact .d _ _ hr
      ·simp at hu hx;subst hu;subst hx;exact .d _ _ (.bool _)
      ·simp at hu
    ·cases h
  ·cases h
 ·rename_i t i ho;have hx:=hρ t;split at h
  ·rename_i vs hv;rw[hv]at hx;obtain⟨xs,hσ,hr⟩:=hx.tuple_inv;have hlt:i<xs.size:=by have:=(List.getElem?_eq_some_iff.1 h).1;have:=hr.1;simp at this;omega
   refine⟨xs[i],?_,hr.2 i v _ h (by simp[hlt])⟩;simp[execOp,ho,hσ,Instr.extract,hlt]
  ·cases h
 ·rename_i args ts ho;split at h
  ·rename_i j n vs ha;split at h
   ·rename_i d hd;simp at h;subst h;exact CS .max true ho rfl hρ ha hd
   ·cases h
  ·cases h
 ·rename_i args ts ho;split at h
  ·rename_i j n vs ha;split at h
   ·rename_i d hd;simp at h;subst h;exact CS .min false ho rfl hρ ha hd
   ·cases h
  ·cases h
 ·cases h
end
end Mw
