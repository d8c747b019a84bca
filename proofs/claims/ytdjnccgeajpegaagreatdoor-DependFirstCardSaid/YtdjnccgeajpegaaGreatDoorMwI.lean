/- DependFirst's tied card holds; no condition beyond the card's own. -/
import Derived.Test.YtdjnccgeajpegaaGreatDoorMwH
set_option linter.unusedVariables false
set_option linter.unusedSimpArgs false
namespace Mw
open Go
section
variable{C:aY}{E:Env}{m:Mem}{w:World}{f:Nat}{o:Oper}{σ:Operand→Value}{ρ:Operand→V}{g:Rd}
theorem Ik {srcT dst:TypeId} {x:Operand} {eff:Eff} (ho:o.op=.convert srcT dst x) (hI:Inv C E m w) (hg:∀ l o,g l=some o→m.get l=some o) (hρ:∀ x,RV E (ρ x) (σ x)) (h:jT C f o ρ g=some eff) :
  fF C f o E m w σ eff:=by
 unfold jT at h;simp only[ho]at h;have hx:=hρ x;have hrun:∀v w',(convert srcT dst (σ x)).run C.P w=.ok v w'→(execOp σ o).run C.P w=.ok (.value v) w':=fun v w' hv=>by simp[execOp,ho,hv]
 split at h
 ·rename_i us ud hs hd;split at h
  ·rename_i k k' n hv;simp only[oI]at h;subst h;rw[hv]at hx;have hσ:=hx.int_inv;refine⟨.int k (k.wrap n),w,E,hrun _ _ ?_,.refl hI,.d _ _ (.int _ _)⟩;rw[hσ];simp[convert,ak hs,ak hd,Conv.intToInt]
  ·rename_i k' n hv;cases hb:(decide (0≤n)&&decide (n<128))with
   |false=>simp only[hb,cond_false,reduceCtorEq]at h|true=>simp only[hb,cond_true,oI]at h;subst h;simp only[Bool.and_eq_true,decide_eq_true_eq]at hb;rw[hv]at hx;have hσ:=hx.int_inv;refine⟨.string ⟨#[UInt8.ofNat n.toNat]⟩,w,E,hrun _ _ ?_,.refl hI,.d _ _ (.str _)⟩;rw[hσ];simp[convert,ak hs,ak hd,Conv.intToString,FU n hb.1 hb.2]
  ·rename_i s hv;simp only[oI]at h;subst h;rw[hv]at hx;have hσ:=hx.str_inv;refine⟨.string s,w,E,hrun _ _ ?_,.refl hI,.d _ _ (.str _)⟩;rw[hσ];simp[convert,ak hs,ak hd]
  ·rename_i e v _;split at h
   ·rename_i sz es he hel;cases hone:(sz==1)with
    |false=>simp only[hone,cond_false,reduceCtorEq]at h| true =>
     simp only[hone,cond_true]at h;have hsz1:sz=1:=by simpa using hone
     subst hsz1;split at h
     ·rename_i bs hbs;simp only[oI]at h;subst h;obtain⟨ns,rfl,rfl⟩:=FO _ _ hbs;obtain⟨src,a,cap,hσ⟩:=rM hI hg hel hx;obtain⟨ys,hyl,hyr,hyf⟩:=src.cells;have hys:ys=ns.map (Value.int .u8):=by
       apply List.ext_getElem?;intro i;rcases Nat.lt_or_ge i ns.length with hi|hi
       ·have hfl:(flat (ns.map (D.int .u8)))[i]?=some (.int .u8 ns[i]):=by
         have:∀ns:List Int,flat (ns.map (D.int .u8))=ns.map (D.int .u8):=by
          intro ns;induction ns with
          |nil=>rfl|cons n ns ih=>rw[List.map_cons,iw,ih];rfl
         rw[this];simp[hi]
        have hlt:i<ys.length:=by simp at hyl;omega
        have:=hyr i _ ys[i] hfl (List.getElem?_eq_getElem hlt);generalize hyi:ys[i]=yi at this;cases this;rw[List.getElem?_eq_getElem hlt,hyi];simp[hi]
       ·rw[List.getElem?_eq_none (by simp at hyl;omega),List.getElem?_eq_none (by simpa using hi)]
      have hout:(⟨(ns.map fun n=>UInt8.ofNat n.toNat).toArray⟩:ByteArray)=ns.foldl (fun r n=>r.push (UInt8.ofNat n.toNat)) ByteArray.empty:=by rw[foldl_push];congr 1;show _=#[]++_;simp
      have conv:(convert srcT dst (σ x)).run C.P w=(Conv.bytesToString (σ x)).run C.P w:=by rw[hσ];cases a<;>simp[convert,ak hs,ak hd,ak he]
      refine⟨.string ⟨(ns.map fun n=>UInt8.ofNat n.toNat).toArray⟩,w,E,hrun _ _ ?_,.refl hI,.d _ _ (.str _)⟩;rw[conv,hσ];cases a with
      | none =>
       have hf:=hyf _ (Nat.le_refl _) w fun _=>rfl;rw[hσ]at hf;simp only[Builtin.firstCells,Sem.run_pure,Result.ok.injEq,and_true]at hf;have h0:ns=[]:=by have hl:=congrArg Array.size hf;simp[hyl]at hl;exact List.eq_nil_of_length_eq_zero hl.symm
       subst h0;simp[Conv.bytesToString];rfl
      |some a=>have hf:=hyf _ (Nat.le_refl _) w fun _=>rfl;rw[hσ,←hyl,List.take_length,hys]at hf;simp only[Builtin.firstCells,Nat.mul_one]at hf;rw[run_bytesToString w a _ cap ns hf,hout]
     ·cases h
   ·cases h
  ·cases h
 ·cases h
end
section
variable{C:aY}{G:Nat→Nat→Option Value}{w:World}
theorem xM{t kt e:TypeId}(h:CJ C t=some (kt,e)):C.P.underlying t=some (.map kt e)∧∃d,C.P.underlying kt=some d:=by
 unfold CJ at h;split at h
 ·rename_i k e' hu;split at h
  ·rename_i d hd;simp at h;obtain⟨rfl,rfl⟩:=h;exact⟨hu,d,hd⟩
  ·cases h
 ·cases h
theorem bytes_eq{p q:ByteArray}(h:(p==q)=true):p=q:=by cases p;cases q;have h':ByteArray.beq _ _=true:=h;simpa[ByteArray.beq]using h'
theorem uN{t:TypeId}{a b:D}{r:Bool}(h:fA C t a b=some r){x y:Value}(hx:RD G a x)(hy:RD G b y) :
  (∃p q,C.P.underlying t=some .bool∧x=.bool p∧y=.bool q∧r=(p==q))∨(∃k' k p q,C.P.underlying t=some (.int k')∧x=.int k p∧y=.int k q∧r=(p==q))∨
   ∃p q,C.P.underlying t=some .string∧x=.string p∧y=.string q∧r=(p==q):=by
 unfold fA at h;split at h
 ·rename_i hu;split at h
  ·cases hx;cases hy;simp at h;exact .inl ⟨_,_,hu,rfl,rfl,h.symm⟩
  ·cases h
 ·rename_i k' hu;split at h
  ·rename_i k a j b;cases hx;cases hy;cases hkj:(k==j)with
   |false=>simp[hkj]at h|true=>
    have:k=j:=by simpa using hkj
    subst this;simp at h;exact .inr (.inl ⟨k',k,a,b,hu,rfl,rfl,h.symm⟩)
  ·cases h
 ·rename_i hu;split at h
  ·rename_i a b;cases hx;cases hy;simp only[oI]at h;exact .inr (.inr ⟨a,b,hu,rfl,rfl,by rw[beq_toListBytes];exact h.symm⟩)
  ·cases h
 ·cases h
theorem nT{t:TypeId}{a b:D}{r:Bool}(h:fA C t a b=some r){x:Value}(hx:RD G a x){y:Value}(hy:RD G b y)(em:Bool)(n:Nat):(Instr.checkKey em (n+1) t x).run C.P w=.ok () w:=by rcases uN h hx hy with ⟨p,q,hu,rfl,rfl,_⟩|⟨k',k,p,q,hu,rfl,rfl,_⟩|⟨p,q,hu,rfl,rfl,_⟩<;>simp[Instr.checkKey,ak hu]
theorem nX{t:TypeId}{a b:D}(h:fA C t a b=some true){x y:Value}(hx:RD G a x)(hy:RD G b y)(n:Nat):Instr.sameBits n x y=true∧Instr.sameBits n y x=true:=by
 rcases uN h hx hy with ⟨p,q,hu,rfl,rfl,hr⟩|⟨k',k,p,q,hu,rfl,rfl,hr⟩|⟨p,q,hu,rfl,rfl,hr⟩
 ·have hpq:p=q:=by simpa using hr.symm
  subst hpq;simp[Instr.sameBits]
 ·have hpq:p=q:=by simpa using hr.symm
  subst hpq;simp[Instr.sameBits]
 ·have hpq:p=q:=bytes_eq hr.symm;subst hpq;simp[Instr.sameBits,hr.symm]
theorem F6 (xs ys:Array Value):∀ (fs:List Field) (i:Nat) (as bs:List D),eqFields C fs i as bs=some true →
  (∀(j:Nat) (a:D) (x:Value),as[j]?=some a→xs[i+j]?=some x→RD G a x)→(∀(j:Nat) (b:D) (y:Value),bs[j]?=some b→ys[i+j]?=some y→RD G b y)→i+as.length=xs.size→i+bs.length=ys.size→
  (∀em n,(forIn fs PUnit.unit fun f (_:PUnit)=>if f.name≠ "_" then(do
    let v ←part f.type xs f.offset
    Instr.checkKey em (n+1) f.type v
    pure (ForInStep.yield PUnit.unit):Sem (ForInStep PUnit))else pure (ForInStep.yield PUnit.unit)).run C.P w=.ok PUnit.unit w)∧
   as.length=bs.length∧∀(n j:Nat) (x y:Value),i≤j→xs[j]?=some x→ys[j]?=some y→(Instr.sameBits n x y=true∧Instr.sameBits n y x=true):=by
 intro fs;induction fs with
 |nil=>intro i as bs h _ _ hlx _;cases as<;>cases bs<;>simp[eqFields]at h;refine⟨fun em n=>by simp,rfl,fun n j x y hj hx _=>?_⟩;simp at hlx;have:=(Array.getElem?_eq_some_iff.1 hx).1;omega
 | cons f fs ih =>
  intro i as bs h hx hy hlx hly;cases as with
  |nil=>simp[eqFields]at h| cons a as =>
   cases bs with
   |nil=>simp[eqFields]at h| cons b bs =>
    simp only[eqFields]at h;cases hc:(f.name != "_"&&f.offset==i&&aA C f.type==1)with
    |false=>simp[hc]at h| true =>
     simp only[hc,cond_true]at h;simp at hc;obtain⟨⟨hn,ho⟩,hs⟩:=hc;simp only[List.length_cons]at hlx hly;have hx0:xs[i]?=some (xs[i]'(by omega)):=Array.getElem?_eq_getElem (by omega);have hy0:ys[i]?=some (ys[i]'(by omega)):=Array.getElem?_eq_getElem (by omega);cases he:fA C f.type a b with
     |none=>simp[he]at h| some q =>
      cases q with
      |false=>simp[he]at h| true =>
       simp only[he]at h;have rx:=hx 0 a _ rfl hx0;have ry:=hy 0 b _ rfl hy0;obtain⟨h1,h2,h3⟩:=ih (i+1) as bs h (fun j a' x ha hx'=>hx (j+1) a' x (by simpa using ha) (by rw[←hx'];congr 1;omega)) (fun j b' y hb hy'=>hy (j+1) b' y (by simpa using hb) (by rw[←hy'];congr 1;omega)) (by omega) (by omega);refine⟨fun em n=>?_,by simp[h2],fun n j x y hj hxj hyj=>?_⟩
       ·rw[List.forIn_cons];have p1:=fH (w:=w) he hx0;have c1:=nT (w:=w) he rx ry em n;simp only[ne_eq,hn,not_false_eq_true,if_true,Sem.run_bind,ho,p1,Result.andThen_ok,c1,Sem.run_pure];exact h1 em n
       ·rcases Nat.lt_or_ge i j with hlt|hge
        ·exact h3 n j x y hlt hxj hyj
        ·have:j=i:=by omega
         subst this;rw[hx0]at hxj;cases hxj;rw[hy0]at hyj;cases hyj;exact nX he rx ry n
theorem HY (xs ys:Array Value) {e:TypeId} (hs:C.P.cellsOf e=1):∀ (n i:Nat) (as bs:List D),eqItems C e as bs=some true→as.length=n→bs.length=n →
  (∀(j:Nat) (a:D) (x:Value),as[j]?=some a→xs[i+j]?=some x→RD G a x)→(∀(j:Nat) (b:D) (y:Value),bs[j]?=some b→ys[i+j]?=some y→RD G b y)→i+n=xs.size→i+n=ys.size→
  (∀em k,(forIn (List.range' i n) PUnit.unit fun j (_:PUnit)=>(do
    let z ←Go.sizeOf e;let v ←part e xs (j*z)
    Instr.checkKey em (k+1) e v
    pure (ForInStep.yield PUnit.unit):Sem (ForInStep PUnit))).run C.P w=.ok PUnit.unit w)∧
   ∀(k j:Nat) (x y:Value),i≤j→xs[j]?=some x→ys[j]?=some y→(Instr.sameBits k x y=true∧Instr.sameBits k y x=true):=by
 intro n;induction n with
 |zero=>intro i as bs h ha hb _ _ hlx hly;refine⟨fun em k=>by simp,fun k j x y hj hx _=>?_⟩;have:=(Array.getElem?_eq_some_iff.1 hx).1;omega
 | succ n ih =>
  intro i as bs h ha hb hx hy hlx hly;cases as with
  |nil=>simp at ha| cons a as =>
   cases bs with
   |nil=>simp at hb| cons b bs =>
    simp only[eqItems]at h;simp only[List.length_cons]at ha hb;have hx0:xs[i]?=some (xs[i]'(by omega)):=Array.getElem?_eq_getElem (by omega);have hy0:ys[i]?=some (ys[i]'(by omega)):=Array.getElem?_eq_getElem (by omega);cases he:fA C e a b with
    |none=>simp[he]at h| some q =>
     cases q with
     |false=>simp[he]at h| true =>
      simp only[he]at h;have rx:=hx 0 a _ rfl hx0;have ry:=hy 0 b _ rfl hy0;obtain⟨h1,h2⟩:=ih (i+1) as bs h (by omega) (by omega) (fun j a' x ha hx'=>hx (j+1) a' x (by simpa using ha) (by rw[←hx'];congr 1;omega)) (fun j b' y hb hy'=>hy (j+1) b' y (by simpa using hb) (by rw[←hy'];congr 1;omega)) (by omega) (by omega);refine⟨fun em k=>?_,fun k j x y hj hxj hyj=>?_⟩
      ·rw[List.range'_succ,List.forIn_cons];have p1:=fH (w:=w) he hx0;have c1:=nT (w:=w) he rx ry em k;obtain⟨d,hd⟩:=(uo he).2;simp only[Sem.run_bind,dh hd,hs,Nat.mul_one,p1,Result.andThen_ok,c1,Sem.run_pure];exact h1 em k
      ·rcases Nat.lt_or_ge i j with hlt|hge
       ·exact h2 k j x y hlt hxj hyj
       ·have:j=i:=by omega
        subst this;rw[hx0]at hxj;cases hxj;rw[hy0]at hyj;cases hyj;exact nX he rx ry k
theorem oG{t:TypeId}{a b:D}(h:zn C t a b=some true){x y:Value}(hx:RD G a x)(hy:RD G b y) :
  (∀em n,(Instr.checkKey em (n+2) t x).run C.P w=.ok () w)∧∀n,Instr.sameBits (n+1) x y=true∧Instr.sameBits (n+1) y x=true:=by
 unfold zn at h;split at h
 ·rename_i as bs;cases hx with
  |agg _ xs hlx hRx hCx=>
  cases hy with
  |agg _ ys hly hRy hCy=>
  split at h
  ·rename_i fs hu;cases hst:(C.P.stoodInHeld t || C.P.eqGuardType C.P.depth t)with
   |true=>simp[hst]at h| false =>
    simp only[hst,cond_false]at h;obtain⟨h1,h2,h3⟩:=F6 (w:=w) xs ys fs.toList 0 as bs h (fun j a x ha hx=>hRx j a x ha (by simpa using hx)) (fun j b y hb hy=>hRy j b y hb (by simpa using hy)) (by omega) (by omega);refine⟨fun em n=>?_,fun n=>?_⟩
    ·have:=h1 em n;unfold Instr.checkKey;simp only[Sem.run_bind,ak hu,Result.andThen_ok];rw[←Array.forIn_toList,this];rfl
    ·simp only[Instr.sameBits,Bool.and_eq_true,beq_iff_eq,List.all_eq_true];have both:∀j (h1:j<xs.size) (h2:j<ys.size),Instr.sameBits n xs[j] ys[j]=true∧Instr.sameBits n ys[j] xs[j]=true:=fun j h1 h2=>h3 n j _ _ (Nat.zero_le _) (by simp) (by simp);refine⟨⟨by omega,fun p hp=>?_⟩,by omega,fun p hp=>?_⟩
     ·obtain⟨j,hj,rfl⟩:=List.mem_iff_getElem.1 hp;simp only[List.length_zip,Array.length_toList]at hj;simp only[List.getElem_zip,Array.getElem_toList];exact(both j (by omega) (by omega)).1
     ·obtain⟨j,hj,rfl⟩:=List.mem_iff_getElem.1 hp;simp only[List.length_zip,Array.length_toList]at hj;simp only[List.getElem_zip,Array.getElem_toList];exact(both j (by omega) (by omega)).2
  ·rename_i n e hu;cases hc:(!(C.P.eqGuardType C.P.depth t)&&(aA C e==1)&&(as.length==n)&&(bs.length==n))with
   |false=>simp[hc]at h| true =>
    simp only[hc,cond_true]at h;simp at hc;obtain⟨⟨⟨_,hs⟩,h1⟩,h2⟩:=hc;obtain⟨k1,k2⟩:=HY (w:=w) xs ys hs n 0 as bs h h1 h2 (fun j a x ha hx=>hRx j a x ha (by simpa using hx)) (fun j b y hb hy=>hRy j b y hb (by simpa using hy)) (by omega) (by omega);refine⟨fun em m=>?_,fun m=>?_⟩
    ·have:=k1 em m;unfold Instr.checkKey;simp only[Sem.run_bind,ak hu,Result.andThen_ok];rw[Std.Legacy.Range.forIn_eq_forIn_range'];simp only[Std.Legacy.Range.size,Nat.sub_zero,Nat.add_sub_cancel,Nat.div_one];rw[this];rfl
    ·simp only[Instr.sameBits,Bool.and_eq_true,beq_iff_eq,List.all_eq_true];have both:∀j (h1:j<xs.size) (h2:j<ys.size),Instr.sameBits m xs[j] ys[j]=true∧Instr.sameBits m ys[j] xs[j]=true:=fun j h1 h2=>k2 m j _ _ (Nat.zero_le _) (by simp) (by simp);refine⟨⟨by omega,fun p hp=>?_⟩,by omega,fun p hp=>?_⟩
     ·obtain⟨j,hj,rfl⟩:=List.mem_iff_getElem.1 hp;simp only[List.length_zip,Array.length_toList]at hj;simp only[List.getElem_zip,Array.getElem_toList];exact(both j (by omega) (by omega)).1
     ·obtain⟨j,hj,rfl⟩:=List.mem_iff_getElem.1 hp;simp only[List.length_zip,Array.length_toList]at hj;simp only[List.getElem_zip,Array.getElem_toList];exact(both j (by omega) (by omega)).2
  ·cases h
 ·exact⟨fun em n=>nT h hx hy em (n+1),fun n=>nX h hx hy (n+1)⟩
end
section
variable{C:aY}{E:Env}{m:Mem}{w:World}
def xI(E:Env)(es:List (D×V))(ents:List MapEntry):Prop:=ents.length=es.length∧∀(i:Nat) (k:D) (v:V) (e:MapEntry),es[i]?=some (k,v)→ents[i]?=some e→RD E.G k e.key∧RV E v e.val∧e.born=i
theorem A8{t:TypeId}{d:TypeDesc}(hd:C.P.underlying t=some d){a b:D}{r r':Bool}{G:Nat→Nat→Option Value}(h:zn C t a b=some r){x y:Value}(hx:RD G a x)(hy:RD G b y)(h':Instr.sameNow d x y=some r'):r'=r:=by
 have cell:fA C t a b=some r→r'=r:=fun h=>by rcases uN h hx hy with ⟨p,q,hu,rfl,rfl,rfl⟩|⟨k',k,p,q,hu,rfl,rfl,rfl⟩|⟨p,q,hu,rfl,rfl,rfl⟩<;>rw[hd]at hu<;>cases hu<;>simp[Instr.sameNow]at h'<;>exact h'.symm
 unfold zn at h;split at h
 ·cases hx;cases hy;cases d<;>simp[Instr.sameNow]at h'
 ·exact cell h
theorem D6 {t:TypeId} {G:Nat→Nat→Option Value} {k:D} {x:Value} (hx:RD G k x):∀ (es:List (D × V)) (ents:List MapEntry) (i:Nat) (r:Option (Nat × V)),findKey C t k es=some r→ents.length=es.length →
  (∀(j:Nat) (k':D) (v:V) (e:MapEntry),es[j]?=some (k',v)→ents[j]?=some e→RD G k' e.key)→
  (∃q,(Instr.findAsking t x ents i).run C.P w=.ok q w∧(∀d,C.P.underlying t=some d→∀q',Instr.findNow d x ents i=some q'→q'=q)∧match r with
   |none=>q=none|some (j,v)=>∃k' e,es[j]?=some (k',v)∧ents[j]?=some e∧q=some (i+j,e.val)∧zn C t k k'=some true):=by
 intro es;induction es with
 |nil=>intro ents i r h hl _;simp[findKey]at h;subst h;have:ents=[]:=List.eq_nil_of_length_eq_zero (by simpa using hl);subst this;exact⟨none,by simp[Instr.findAsking],fun d _ q' hq=>by simpa[Instr.findNow]using hq.symm,rfl⟩
 | cons p es ih =>
  obtain⟨k',v⟩:=p;intro ents i r h hl hr;cases ents with
  |nil=>simp at hl| cons e ents =>
   have hy:=hr 0 k' v e rfl rfl;simp only[findKey]at h;cases he:zn C t k k' with
   |none=>simp[he]at h| some b =>
    have heq:=xP (w:=w) he hx hy (C.P.depth);have heq':(Op.equal t x e.key).run C.P w=.ok b w:=xP he hx hy (Op.maxDepth-2);cases b with
    | true =>
     simp[he]at h;subst h;refine⟨some (i,e.val),by simp[Instr.findAsking,heq'],fun d hd q' hq=>?_,k',e,rfl,rfl,rfl,he⟩;simp only[Instr.findNow]at hq;cases hn:Instr.sameNow d x e.key with
     |none=>simp[hn]at hq|some b'=>have:=A8 hd he hx hy hn;subst this;simp[hn]at hq;exact hq.symm
    | false =>
     simp only[he]at h;cases hf:findKey C t k es with
     |none=>simp[hf]at h| some r' =>
      obtain⟨q,h1,h2,h3⟩:=ih ents (i+1) r' hf (by simpa using hl) (fun j k1 v1 e1 a b=>hr (j+1) k1 v1 e1 (by simpa using a) (by simpa using b));refine⟨q,by simp[Instr.findAsking,heq',h1],fun d hd q' hq=>?_,?_⟩
      ·simp only[Instr.findNow]at hq;cases hn:Instr.sameNow d x e.key with
       |none=>simp[hn]at hq|some b'=>have:=A8 hd he hx hy hn;subst this;simp[hn]at hq;exact h2 d hd q' hq
      ·cases r' with
       |none=>simp[hf]at h;subst h;exact h3|some jv=>obtain⟨j,v'⟩:=jv;simp[hf]at h;subst h;obtain⟨k1,e1,a1,a2,a3,a4⟩:=h3;exact⟨k1,e1,by simpa using a1,by simpa using a2,by rw[a3];congr 2;omega,a4⟩
theorem run_findKey{t:TypeId}{d:TypeDesc}(hd:C.P.underlying t=some d){k:D}{x:Value}(hx:RD E.G k x){es:List (D×V)}{ents:List MapEntry}{r:Option (Nat×V)}(h:findKey C t k es=some r)(he:xI E es ents) :
  ∃q,(Instr.findKey t x ents).run C.P w=.ok q w∧match r with
   |none=>q=none|some (j,v)=>∃k' e,es[j]?=some (k',v)∧ents[j]?=some e∧q=some (j,e.val)∧zn C t k k'=some true:=by
 obtain⟨q,h1,h2,h3⟩:=D6 (w:=w) hx es ents 0 r h he.1 (fun j k' v e a b=>(he.2 j k' v e a b).1);refine⟨q,?_,?_⟩
 ·simp only[Instr.findKey,Sem.run_bind,ak hd,Result.andThen_ok];cases hn:Instr.findNow d x ents 0 with
  |none=>exact h1|some q'=>rw[h2 d hd q' hn];rfl
 ·cases r with
  |none=>exact h3|some jv=>obtain⟨j,v⟩:=jv;obtain⟨k',e,a1,a2,a3,a4⟩:=h3;exact⟨k',e,a1,a2,by rw[a3];simp,a4⟩
theorem Inv.ents(hI:Inv C E m w){l:Loc}{es:List (D×V)}(h:m.get l=some (.map es)):∃(b c:Nat) (ents:Array MapEntry),E.k l 0=some (b,c)∧w.heap[b]?=some (.map ents ents.size)∧xI (E.of l) es ents.toList∧∀i,E.G b i=none:=by obtain⟨b,c,ents,h1,h2,h3,h4,h5⟩:=hI.map h;exact⟨b,c,ents,h1,h2,⟨by simpa using h3,fun i k v e a b'=>by rw[yC];exact h4 i k v e a (by simpa using b')⟩,h5⟩
theorem xI.mono{E E':Env}(hE:E.Le E'){es:List (D×V)}{ents:List MapEntry}(h:xI E es ents):xI E' es ents:=
 ⟨h.1,fun i k v e a b=>let⟨x,y,z⟩:=h.2 i k v e a b;⟨x.mono hE.G,y.mono hE,z⟩⟩
theorem zU{v u:V}{x y:Value}(h:RV E v x)(h':RV E u y):RV E (.tuple [v,u]) (.tuple #[x,y]):=
 .tuple _ _ rfl fun q z t hz ht=>by
  match q with
  |0=>simp at hz ht;subst hz;subst ht;exact h|1=>simp at hz ht;subst hz;subst ht;exact h'|q+2=>simp at hz
theorem Inv.setMap(hI:Inv C E m w){l:Loc}{es es':List (D×V)}(h:m.get l=some (.map es)){b c:Nat}(hk:E.k l 0=some (b,c)){ents':Array MapEntry}(he:xI (E.of l) es' ents'.toList) :
  Step C E m w E (m.set l (.map es')) {w with heap:=w.heap.setIfInBounds b (.map ents' ents'.size)}:=by
 obtain⟨b',c',ents,h1,h2,h3,h4⟩:=hI.ents h;rw[hk]at h1;cases h1;have hlt:=(Array.getElem?_eq_some_iff.1 h2).1;have hown:own E l (.map es) b:=⟨rfl,c,hk⟩
 have hoth:∀r,r≠b→(w.heap.setIfInBounds b (.map ents' ents'.size))[r]?=w.heap[r]?:=fun r hr=>Array.getElem?_setIfInBounds_ne (Ne.symm hr);have hrel:dG (E.of l) {w with heap:=w.heap.setIfInBounds b (.map ents' ents'.size)} l (.map es'):=
  ⟨b,c,ents',by rw[PX];exact hk,by simp[hlt],by simpa using he.1,fun i k v e a b'=>he.2 i k v e a (by simpa using b'),fun i=>by rw[yC];exact h4 i⟩
 refine hI.set h (.refl E) rfl (fun _ _ _=>rfl) (by simp) ⟨rfl,rfl⟩ (fun r hr hn=>hoth r fun e=>hn (e▸hown)) (fun b i x h=>.inl h) (fun b' i x hx _=>?_) (fun b' hb=>.inl hb) ⟨fun i hi=>?_,fun t g hi=>?_⟩ (fun b hb=>hb.elim) (fun _ _ _ _ he=>by cases he)
 ·have hp:=hI.prot b' i x hx;exact hp.of_same (hoth b' fun e=>by subst e;rw[h4 i]at hx;cases hx)
 ·subst hi;exact dG.toH hrel
 ·subst hi;exact hrel
theorem xI.set{es:List (D×V)}{ents:Array MapEntry}(h:xI E es ents.toList){j:Nat}{k:D}{v:V}{x y:Value}(hx:RD E.G k x)(hy:RV E v y):xI E (es.set j (k,v)) (ents.modify j fun e=>{e with key:=x,val:=y}).toList:=by
 refine⟨by simpa using h.1,fun i k' v' e a b=>?_⟩;simp only[Array.getElem?_toList,Array.getElem?_modify,List.getElem?_set]at a b;by_cases hij:j=i
 ·subst hij;simp only[if_true]at a b;cases hb:ents[j]? with
  |none=>simp[hb]at b|some e0=>
   have hlt:j<es.length:=by have:=(Array.getElem?_eq_some_iff.1 hb).1;have:=h.1;simp at this;omega
   simp only[hlt,if_true,oI,pI]at a;obtain⟨rfl,rfl⟩:=a;simp only[hb,Option.map_some,oI]at b;subst b;exact⟨hx,hy,(h.2 j _ _ e0 (List.getElem?_eq_getElem hlt) (by simpa using hb)).2.2⟩
 ·simp only[if_neg hij]at a b;exact h.2 i k' v' e a (by simpa using b)
theorem xI.push{es:List (D×V)}{ents:Array MapEntry}(h:xI E es ents.toList){k:D}{v:V}{x y:Value}(hx:RD E.G k x)(hy:RV E v y):xI E (es++[(k,v)]) (ents.push {key:=x,val:=y,born:=ents.size}).toList:=by
 have hl:ents.size=es.length:=by simpa using h.1
 refine⟨by simp[hl],fun i k' v' e a b=>?_⟩;simp only[Array.getElem?_toList,Array.getElem?_push]at b;rw[List.getElem?_append]at a;by_cases hi:i=ents.size
 ·subst hi;simp only[hl,Nat.lt_irrefl,if_false,Nat.sub_self]at a;simp at a b;obtain⟨rfl,rfl⟩:=a;subst b;exact⟨hx,hy,rfl⟩
 ·rw[if_neg hi]at b;have hlt:=(Array.getElem?_eq_some_iff.1 b).1;rw[if_pos (by omega)]at a;exact h.2 i k' v' e a (by simpa using b)
variable{f:Nat}{o:Oper}{σ:Operand→Value}{ρ:Operand→V}{g:Rd}
theorem La{t:TypeId}{x i:Operand}{ok:Bool}{eff:Eff}(ho:o.op=.lookup t x i ok)(hI:Inv C E m w)(hg:∀l o,g l=some o→m.get l=some o)(hρ:∀x,RV E (ρ x) (σ x))(h:jT C f o ρ g=some eff):fF C f o E m w σ eff:=by
 unfold jT at h;simp only[ho]at h;split at h
 ·rename_i kt e k hkt hi;obtain⟨hu,dk,hdk⟩:=xM hkt;split at h
  ·rename_i z es hz hes heq;have hk:RD E.G k (σ i):=by have:=hρ i;rw[hi]at this;exact this.of_d
   obtain⟨zv,hzv,hzr⟩:=iO (w:=w) E.G hz;have hents:∃ents:Array MapEntry,xI E es ents.toList∧(σ x=.map none∧ents=#[]∨∃b,σ x=.map (some b)∧w.heap[b]?=some (.map ents ents.size)):=by
    split at hes
    ·rename_i hx;have:=hρ x;rw[hx]at this;simp at hes;subst hes;exact⟨#[],⟨rfl,fun i k v e h=>by simp at h⟩,.inl ⟨this.nilm_inv,rfl⟩⟩
    ·rename_i l hx;have:=hρ x;rw[hx]at this;obtain⟨b,c,hkl,hσ⟩:=this.map_inv;split at hes
     ·rename_i es' hgl;simp at hes;subst hes;obtain⟨b',c',ents,h1,h2,h3,h4⟩:=hI.ents (hg _ _ hgl);rw[hkl]at h1;cases h1;exact⟨ents,h3.mono (E.of_le l),.inr ⟨b,hσ,h2⟩⟩
     ·cases hes
    ·cases hes
   obtain⟨ents,he,hσx⟩:=hents;obtain⟨kc,_⟩:=oG (w:=w) heq hk hk
   have run0:∀q y,(Instr.findKey kt (σ i) ents.toList).run C.P w=.ok q w→y=(match q with
     |some (_,v)=>(if ok then .tuple #[v,.bool true]else v)|none=>(if ok then .tuple #[zv,.bool false]else zv))→(execOp σ o).run C.P w=.ok (.value y) w:=fun q y hq hy=>by
    have kc':=kc ents.isEmpty 9998;rcases hσx with ⟨h1,rfl⟩|⟨b,h1,h2⟩
    ·simp only[Array.toList_empty]at hq;simp only[execOp,ho,Instr.lookup,Sem.run_bind,ak hu,Result.andThen_ok,h1,Sem.run_pure,kc',hq];cases q with
     |none=>simp[hzv,hy]|some p=>obtain⟨_,v⟩:=p;simp[hy]
    ·simp only[execOp,ho,Instr.lookup,Sem.run_bind,ak hu,Result.andThen_ok,h1,dD h2 (by simp),Sem.run_pure,kc',hq];cases q with
     |none=>simp[hzv,hy]|some p=>obtain⟨_,v⟩:=p;simp[hy]
   split at h
   ·rename_i j v hf;obtain⟨q,h1,k',e',h2,h3,h4,h5⟩:=run_findKey (w:=w) hdk hk hf he;subst h4;simp only[oI]at h;subst h;have hv:=(he.2 j k' v e' h2 h3).2.1;refine⟨_,w,E,run0 _ _ h1 rfl,.refl hI,?_⟩;cases ok with
    |false=>exact hv|true=>exact zU (hv) (.d _ _ (.bool _))
   ·rename_i hf;obtain⟨q,h1,h2⟩:=run_findKey (w:=w) hdk hk hf he;subst h2;simp only[oI]at h;subst h;refine⟨_,w,E,run0 _ _ h1 rfl,.refl hI,?_⟩;cases ok with
    |false=>exact .d _ _ hzr|true=>exact zU (.d _ _ hzr) (.d _ _ (.bool _))
   ·cases h
  ·cases h
 ·cases h
theorem DT{t:TypeId}{mp k x:Operand}{eff:Eff}(ho:o.op=.mapUpdate t mp k x)(hI:Inv C E m w)(hu:Up g m)(hρ:∀x,RV E (ρ x) (σ x))(h:jT C f o ρ g=some eff):fF C f o E m w σ eff:=by
 unfold jT at h;simp only[ho]at h;split at h
 ·rename_i kt e l kd v ss hkt hmp hk hx;obtain⟨hty,dk,hdk⟩:=xM hkt;have hkr:RD E.G kd (σ k):=by have:=hρ k;rw[hk]at this;exact this.of_d
  have hmr:=hρ mp;rw[hmp]at hmr;obtain⟨b,c,hkl,hσ⟩:=hmr.map_inv;obtain⟨E1,s1,r1,u1⟩:=fZ 0 g _ _ _ E m w _ hx hI hu (hρ x);split at h
  ·rename_i es hgl heq;have hm1:=u1.map hgl;obtain⟨b',c',ents,h1,h2,h3,h4⟩:=s1.inv.ents hm1;have hkl1:=s1.le.k _ _ _ hkl;rw[hkl1]at h1;cases h1;have hkr1:RD (E1.of l).G kd (σ k):=by rw[yC];exact hkr.mono s1.le.G
   have hvr1:RV (E1.of l) v (σ x):=r1.mono (by cases l with|heap i=>exact .refl _|slot t g=>exact E1.bare_le);obtain⟨kc,_⟩:=oG (w:=w) heq hkr hkr;have hset:∀o',(setObj b o').run C.P w=.ok () {w with heap:=w.heap.setIfInBounds b o'}:=fun o'=>gQ o' h2 (by simp);split at h
   ·rename_i j v0 hf;simp only[oI]at h;subst h;obtain⟨q,g1,k',e',g2,g3,g4,g5⟩:=run_findKey (w:=w) hdk hkr1 hf h3;subst g4;have hkr':=(h3.2 j k' v0 e' g2 g3).1;have hsb:Instr.sameBits 10000 e'.key (σ k)=true:=((oG (w:=w) g5 hkr1 hkr').2 9999).2;refine⟨{w with heap:=w.heap.setIfInBounds b (.map (ents.modify j fun e=>{e with key:=σ k,val:=σ x}) ents.size)},E1,?_,?_⟩
    ·have hj:ents[j]?=some e':=by simpa using g3
     simp[execOp,ho,Instr.mapUpdate,ak hty,hσ,dD h2,kc,g1,hj,Instr.keyThatStays,hsb,hset]
    ·rw[Mem.sets_append];have:=s1.inv.setMap hm1 hkl1 (h3.set (j:=j) hkr1 hvr1);simp only[Array.size_modify]at this;exact s1.trans this
   ·rename_i hf;simp only[oI]at h;subst h;obtain⟨q,g1,g2⟩:=run_findKey (w:=w) hdk hkr1 hf h3;subst g2;refine⟨{w with heap:=w.heap.setIfInBounds b (.map (ents.push {key:=σ k,val:=σ x,born:=ents.size}) (ents.size+1))},E1,?_,?_⟩
    ·simp[execOp,ho,Instr.mapUpdate,ak hty,hσ,dD h2,kc,g1,hset]
    ·rw[Mem.sets_append];have:=s1.inv.setMap hm1 hkl1 (h3.push hkr1 hvr1);simp only[Array.size_push]at this;exact s1.trans this
   ·cases h
  ·cases h
 ·cases h
theorem Ff{t:TypeId}{mp k:Operand}{eff:Eff}(ho:o.op=.mapEntry t mp k)(hI:Inv C E m w)(hg:∀l o,g l=some o→m.get l=some o)(hρ:∀x,RV E (ρ x) (σ x))(h:jT C f o ρ g=some eff):fF C f o E m w σ eff:=by
 unfold jT at h;simp only[ho]at h;split at h
 ·rename_i kt e l kd hkt hmp hk;obtain⟨hty,dk,hdk⟩:=xM hkt;have hkr:RD E.G kd (σ k):=by have:=hρ k;rw[hk]at this;exact this.of_d
  have hmr:=hρ mp;rw[hmp]at hmr;obtain⟨b,c,hkl,hσ⟩:=hmr.map_inv;split at h
  ·rename_i es z hgl hz heq;have hm1:=hg _ _ hgl;obtain⟨b',c',ents,h1,h2,h3,h4⟩:=hI.ents hm1;rw[hkl]at h1;cases h1;have hkr1:RD (E.of l).G kd (σ k):=by rw[yC];exact hkr
   obtain⟨zv,hzv,hzr⟩:=iO (w:=w) E.G hz;obtain⟨kc,_⟩:=oG (w:=w) heq hkr hkr;have hset:∀o',(setObj b o').run C.P w=.ok () {w with heap:=w.heap.setIfInBounds b o'}:=fun o'=>gQ o' h2 (by simp);split at h
   ·rename_i j v0 hf;simp only[oI]at h;subst h;obtain⟨q,g1,k',e',g2,g3,g4,g5⟩:=run_findKey (w:=w) hdk hkr1 hf h3;subst g4;obtain⟨hkr',hvr',hb'⟩:=h3.2 j k' v0 e' g2 g3;have hsb:Instr.sameBits 10000 e'.key (σ k)=true:=((oG (w:=w) g5 hkr1 hkr').2 9999).2;have hj:ents[j]?=some e':=by simpa using g3
    refine⟨.tuple #[e'.val,.int .i64 (j:Int)],{w with heap:=w.heap.setIfInBounds b (.map (ents.modify j fun e=>{e with key:=σ k}) ents.size)},E,?_,?_,?_⟩
    ·simp[execOp,ho,Instr.mapEntry,ak hty,hσ,dD h2,kc,g1,hj,Instr.keyThatStays,hsb,hset,goInt,hb']
    ·have heq2:(ents.modify j fun e=>{e with key:=σ k})=ents.modify j fun e=>{e with key:=σ k,val:=e'.val}:=by
      apply Array.ext_getElem?;intro i;simp only[Array.getElem?_modify];split
      ·rename_i hji;subst hji;rw[hj];rfl
      ·rfl
     have:=hI.setMap hm1 hkl (h3.set (j:=j) hkr1 hvr');rw[heq2];simp only[Array.size_modify]at this;exact this
    ·exact zU (hvr'.mono (E.of_le l)) (.d _ _ (.int _ _))
   ·rename_i hf;simp only[oI]at h;subst h;obtain⟨q,g1,g2⟩:=run_findKey (w:=w) hdk hkr1 hf h3;subst g2;have hl:ents.size=es.length:=by simpa using h3.1
    refine⟨.tuple #[zv,.int .i64 (es.length:Int)],{w with heap:=w.heap.setIfInBounds b (.map (ents.push {key:=σ k,val:=zv,born:=ents.size}) (ents.size+1))},E,?_,?_,?_⟩
    ·simp[execOp,ho,Instr.mapEntry,ak hty,hσ,dD h2,kc,g1,hset,hzv,goInt,hl]
    ·have:=hI.setMap hm1 hkl (h3.push hkr1 (.d _ _ (by rw[yC];exact hzr)));simp only[Array.size_push]at this;exact this
    ·exact zU (.d _ _ hzr) (.d _ _ (.int _ _))
   ·cases h
  ·cases h
 ·cases h
theorem Cc{t:TypeId}{mp st x:Operand}{eff:Eff}(ho:o.op=.entryStore t mp st x)(hI:Inv C E m w)(hu:Up g m)(hρ:∀x,RV E (ρ x) (σ x))(h:jT C f o ρ g=some eff):fF C f o E m w σ eff:=by
 unfold jT at h;simp only[ho]at h;split at h
 ·rename_i l i v ss hmp hst hx;have hmr:=hρ mp;rw[hmp]at hmr;obtain⟨b,c,hkl,hσ⟩:=hmr.map_inv;obtain⟨ks,hks⟩:=jo hst (hρ st);obtain⟨E1,s1,r1,u1⟩:=fZ 0 g _ _ _ E m w _ hx hI hu (hρ x);split at h
  ·rename_i es hgl;split at h
   ·rename_i kd v0 hes;simp only[oI]at h;subst h;have hm1:=u1.map hgl;obtain⟨b',c',ents,h1,h2,h3,h4⟩:=s1.inv.ents hm1;have hkl1:=s1.le.k _ _ _ hkl;rw[hkl1]at h1;cases h1;have hvr1:RV (E1.of l) v (σ x):=r1.mono (by cases l with|heap i=>exact .refl _|slot t g=>exact E1.bare_le);have hset:∀o',(setObj b o').run C.P w=.ok () {w with heap:=w.heap.setIfInBounds b o'}:=fun o'=>gQ o' h2 (by simp);have hl:ents.size=es.length:=by simpa using h3.1
    have hi:i<es.length:=(List.getElem?_eq_some_iff.1 hes).1;have hborn:∀j (hj:j<ents.size),(ents[j]'hj).born=j:=fun j hj=>by
     have hj':j<es.length:=by omega
     exact(h3.2 j es[j].1 es[j].2 ents[j] (by simp[hj']) (by simp[hj])).2.2
    have hfind:ents.findIdx? (fun e=>(e.born:Int)==(i:Int))=some i:=by rw[Array.findIdx?_eq_some_iff_getElem];refine⟨by omega,by simp[hborn i (by omega)],fun j hj=>?_⟩;rw[hborn j (by omega)];simp;omega
    have hkr:=(h3.2 i kd v0 _ hes (by rw[Array.getElem?_toList];exact Array.getElem?_eq_getElem (by omega))).1;refine⟨{w with heap:=w.heap.setIfInBounds b (.map (ents.modify i fun e=>{e with val:=σ x}) ents.size)},E1,?_,?_⟩
    ·simp[execOp,ho,Instr.entryStore,hσ,dD h2,hks,asInt,asIntOf,hfind,hset]
    ·have heq2:(ents.modify i fun e=>{e with val:=σ x})=ents.modify i fun e=>{e with key:=(ents[i]'(by omega)).key,val:=σ x}:=by
      apply Array.ext_getElem?;intro j;simp only[Array.getElem?_modify];split
      ·rename_i hji;subst hji;rw[Array.getElem?_eq_getElem (by omega)];rfl
      ·rfl
     rw[Mem.sets_append];have:=s1.inv.setMap hm1 hkl1 (h3.set (j:=i) hkr hvr1);rw[heq2];simp only[Array.size_modify]at this;exact s1.trans this
   ·cases h
  ·cases h
 ·cases h
end
end Mw
