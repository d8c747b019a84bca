/- DependFirst's tied card holds; no condition beyond the card's own. -/
import Derived.Test.YtdjnccgeajpegaaGreatDoorMwA
import Derived.Laws.StructEq
import Derived.ChangeKeysEq
set_option linter.unusedVariables false
set_option linter.unusedSimpArgs false
namespace Mw
open Go
section inv
variable{E:Env}{x:Value}
theorem RV.bool_inv{b:Bool}(h:RV E (.d (.bool b)) x):x=.bool b:=by cases h with|d _ _ hd=>cases hd;rfl
theorem RV.int_inv{k:IntKind}{n:Int}(h:RV E (.d (.int k n)) x):x=.int k n:=by cases h with|d _ _ hd=>cases hd;rfl
theorem RV.str_inv{s:ByteArray}(h:RV E (.d (.str s)) x):x=.string s:=by cases h with|d _ _ hd=>cases hd;rfl
theorem RV.nilp_inv(h:RV E (.d .nilp) x):x=.pointer none:=by cases h with|d _ _ hd=>cases hd;rfl
theorem RV.nili_inv(h:RV E (.d .nili) x):x=.nilIface:=by cases h with|d _ _ hd=>cases hd;rfl
theorem RV.nilf_inv(h:RV E (.d .nilf) x):x=.nilFunc:=by cases h with|d _ _ hd=>cases hd;rfl
theorem RV.nilm_inv(h:RV E (.d .nilm) x):x=.map none:=by cases h with|d _ _ hd=>cases hd;rfl
theorem RV.nils_inv(h:RV E (.d .nils) x):x=.slice none 0 0:=by cases h with|d _ _ hd=>cases hd;rfl
theorem RD.list_inv{G:Nat→Nat→Option Value}{sz:Nat}{es:List D}(h:RD G (.list sz es) x):∃b o cap,∃xs:Nat→Value,x=.slice (some ⟨b,o,none⟩) es.length cap∧es.length≤cap∧
  (∀e∈es,e.cells.length=sz)∧(∀q c,(flat es)[q]?=some c→G b (o+q)=some (xs q))∧(∀q c,(flat es)[q]?=some c→RD G c (xs q))∧∀c∈flat es,c.isCell=true:=by
 cases h with|list _ _ b o cap xs h1 h2 h3 h4 h5=>exact⟨b,o,cap,xs,rfl,h1,h2,h3,h4,h5⟩
theorem RV.list_inv{sz:Nat}{es:List D}(h:RV E (.d (.list sz es)) x):∃b o cap,∃xs:Nat→Value,x=.slice (some ⟨b,o,none⟩) es.length cap∧es.length≤cap∧
  (∀e∈es,e.cells.length=sz)∧(∀q c,(flat es)[q]?=some c→E.G b (o+q)=some (xs q))∧(∀q c,(flat es)[q]?=some c→RD E.G c (xs q))∧∀c∈flat es,c.isCell=true:=h.of_d.list_inv
theorem RV.dagg_inv{ds:List D}(h:RV E (.d (.agg ds)) x):∃xs:Array Value,x=.agg xs∧dS E (ds.map V.d) xs.toList∧∀d∈ds,d.isCell=true:=by
 cases h with
 | d _ _ hd =>
  cases hd with
  |agg _ xs hl hR hC=>refine⟨xs,rfl,⟨by simp[hl],fun i v y hv hy=>?_⟩,hC⟩;simp only[List.getElem?_map,Option.map_eq_some_iff]at hv;obtain⟨d,hd,rfl⟩:=hv;exact .d d y (hR i d y hd (by simpa using hy))
theorem RV.diface_inv{t:TypeId}{d:D}(h:RV E (.d (.iface t d)) x):∃y,x=.iface t y∧RV E (.d d) y:=by cases h with|d _ _ hd=>cases hd with|iface _ _ y h=>exact⟨y,rfl,.d d y h⟩
theorem RV.ptr_inv{l:Loc}{off:Nat}(h:RV E (.ptr l off) x):∃b c,E.k l 0=some (b,c)∧x=.pointer (some ⟨b,off,none⟩):=by cases h with|ptr _ _ b c hk=>exact⟨b,c,hk,rfl⟩
theorem RV.ept_inv{l:Loc}{sz len i off:Nat}(h:RV E (.ept l sz len i off) x):∃b c,E.k l len=some (b,c)∧x=.pointer (some ⟨b,i*sz+off,none⟩):=by cases h with|ept _ _ _ _ _ b c hk=>exact⟨b,c,hk,rfl⟩
theorem RV.dptr_inv{cs:List D}{off:Nat}(h:RV E (.dptr cs off) x):∃b o,∃xs:Nat→Value,x=.pointer (some ⟨b,o+off,none⟩)∧
  (∀q c,cs[q]?=some c→E.G b (o+q)=some (xs q))∧(∀q c,cs[q]?=some c→RD E.G c (xs q))∧∀c∈cs,c.isCell=true:=by
 cases h with|dptr _ _ b o xs h1 h2 h3=>exact⟨b,o,xs,rfl,h1,h2,h3⟩
theorem RV.vptr_inv{cs:List V}{off:Nat}(h:RV E (.vptr cs off) x):∃b o,∃xs:Nat→Value,x=.pointer (some ⟨b,o+off,none⟩)∧
  (∀q c,cs[q]?=some c→E.G b (o+q)=some (xs q))∧(∀q c,cs[q]?=some c→RV E c (xs q))∧∀c∈cs,c.isCell=true:=by
 cases h with|vptr _ _ b o xs h1 h2 h3=>exact⟨b,o,xs,rfl,h1,h2,h3⟩
theorem RV.sl_inv{l:Loc}{sz len off n:Nat}(h:RV E (.sl l sz len off n) x):∃b c a cap,E.k l len=some (b,c)∧(n=0∨a=off*sz)∧(off=0→a=0∧cap=c)∧n≤cap∧
  x=.slice (some ⟨b,a,none⟩) n cap:=by
 cases h with|sl _ _ _ _ _ b c a cap h1 h2 h3 h4=>exact⟨b,c,a,cap,h1,h2,h3,h4,rfl⟩
theorem RV.asl_inv{l:Loc}{off n:Nat}(h:RV E (.asl l off n) x):∃b c cap,E.k l 0=some (b,c)∧n≤cap∧x=.slice (some ⟨b,off,none⟩) n cap:=by cases h with|asl _ _ _ b c cap h1 h2=>exact⟨b,c,cap,h1,h2,rfl⟩
theorem RV.ex_inv{sz:Nat}{es:List D}(h:RV E (.ex sz es) x):∃b o,∃xs:Nat→Value,x=.slice (some ⟨b,o,none⟩) es.length es.length∧
  (∀e∈es,e.cells.length=sz)∧(∀q c,(flat es)[q]?=some c→E.G b (o+q)=some (xs q))∧(∀q c,(flat es)[q]?=some c→RD E.G c (xs q))∧∀c∈flat es,c.isCell=true:=by
 cases h with
 |ex _ _ a h=>obtain⟨b,o,cap,xs,hx,h1,h2,h3,h4,h5⟩:=h.list_inv;simp at hx;obtain⟨rfl,rfl⟩:=hx;exact⟨b,o,xs,rfl,h2,h3,h4,h5⟩
theorem RV.vl_inv{es:List V}(h:RV E (.vl es) x):∃b o cap,∃xs:Nat→Value,x=.slice (some ⟨b,o,none⟩) es.length cap∧es.length≤cap∧
  (∀q c,es[q]?=some c→E.G b (o+q)=some (xs q))∧(∀q c,es[q]?=some c→RV E c (xs q))∧∀c∈es,c.isCell=true:=by
 cases h with|vl _ b o cap xs h1 h2 h3 h4=>exact⟨b,o,cap,xs,rfl,h1,h2,h3,h4⟩
theorem RV.vl_inv'{es:List V}(h:RV E (.vl es) x):∃b o cap,∃xs:Nat→Value,x=.slice (some ⟨b,o,none⟩) es.length cap∧es.length≤cap∧
  (∀q c,es[q]?=some c→E.G b (o+q)=some (xs q))∧(∀q c,es[q]?=some c→RV E c (xs q))∧(∀c∈es,c.isCell=true)∧∃i,E.G b i=some (.tuple #[]):=by
 cases h with|vl _ b o cap xs h1 h2 h3 h4 hF=>exact⟨b,o,cap,xs,rfl,h1,h2,h3,h4,hF⟩
theorem RV.map_inv{l:Loc}(h:RV E (.map l) x):∃b c,E.k l 0=some (b,c)∧x=.map (some b):=by cases h with|map _ b c hk=>exact⟨b,c,hk,rfl⟩
theorem RV.agg_inv{vs:List V}(h:RV E (.agg vs) x):∃xs:Array Value,x=.agg xs∧dS E vs xs.toList∧∀v∈vs,v.isCell=true:=by cases h with|agg _ xs hl hR hC=>exact⟨xs,rfl,⟨by simp[hl],fun i v y hv hy=>hR i v y hv (by simpa using hy)⟩,hC⟩
theorem RV.tuple_inv{vs:List V}(h:RV E (.tuple vs) x):∃xs:Array Value,x=.tuple xs∧dS E vs xs.toList:=by cases h with|tuple _ xs hl hR=>exact⟨xs,rfl,⟨by simp[hl],fun i v y hv hy=>hR i v y hv (by simpa using hy)⟩⟩
theorem RV.iface_inv{t:TypeId}{v:V}(h:RV E (.iface t v) x):∃y,x=.iface t y∧RV E v y:=by cases h with|iface _ _ y h=>exact⟨y,rfl,h⟩
end inv
theorem je(b o n:Nat):(⟨b,o,none⟩:Addr).add n=⟨b,o+n,none⟩:=by
 unfold Addr.add;split
 ·rename_i h;subst h;rfl
 ·rfl
section
variable{C:aY}{E:Env}{w:World}{o:Oper}{ρ:Operand→V}{σ:Operand→Value}
def pF(C:aY)(E:Env)(w:World)(o:Oper)(σ:Operand→Value)(v:V):Prop:=
 ∃y,(execOp σ o).run C.P w=.ok (.value y) w∧RV E v y
theorem UD{c a b:Operand}{t:Bool}(ho:o.op=.pick c a b)(hc:RV E (ρ c) (σ c))(hct:ρ c=.d (.bool t))(ha:RV E (ρ a) (σ a))(hb:RV E (ρ b) (σ b)) :
  pF C E w o σ (bif t then ρ a else ρ b):=by
 rw[hct]at hc;have hσ:=hc.bool_inv;refine⟨if t then σ a else σ b,?_,?_⟩
 ·simp only[execOp,ho,hσ];cases t<;>simp[asBool]
 ·cases t<;>simpa
theorem Dp{P:Program}{fl:Field}{d:TypeDesc}(hd:P.underlying fl.type=some d)(hn:P.cellsOf fl.type≠0)(a:Addr) :
  (fieldPlace a fl).run P w=.ok (a.add fl.offset) w:=by
 simp[fieldPlace,dh hd,hn]
theorem jP{s:TypeId}{x:Operand}{i:Nat}{fl:Field}{b off:Nat}(ho:o.op=.fieldAddr s x i)(hf:aQ C s i=some fl)(hn:C.P.cellsOf fl.type≠0)
  (hσ:σ x=.pointer (some ⟨b,off,none⟩)):(execOp σ o).run C.P w=.ok (.value (.pointer (some ⟨b,off+fl.offset,none⟩))) w:=by
 obtain⟨⟨fs,hu,hfs⟩,d,hd⟩:=xq hf;simp[execOp,ho,Instr.fieldAt,ak hu,hfs,hσ,Instr.sureAddr,Dp hd hn,je]
theorem IW{P:Program}{C:aY}(hP:C.P=P){t:TypeId}{d:TypeDesc}(hd:P.underlying t=some d)(xs:Array Value)(off:Nat)(hn:off+P.cellsOf t≤xs.size)
  (h1:cu C t=false→P.cellsOf t=1) :
  (part t xs off).run P w=.ok (if cu C t then .agg (xs.extract off (off+P.cellsOf t))else xs.getD off undef) w:=by
 subst hP;simp only[part,Sem.run_bind,pJ hd,Result.andThen_ok];cases ha:cu C t with
 |true=>simp[dh hd]|false=>
  have:=h1 ha;have hlt:off<xs.size:=by omega
  simp[hlt]
theorem Jc{t:TypeId}{d:TypeDesc}(hd:C.P.underlying t=some d){vs:List V}{xs:Array Value}(h:dS E vs xs.toList)(hc:∀u∈vs,u.isCell=true){off:Nat}
  (hn:off+C.P.cellsOf t≤vs.length){v:V}(hv:V.ofCells (cu C t) ((vs.drop off).take (C.P.cellsOf t))=some v) :
  ∃y,(part t xs off).run C.P w=.ok y w∧RV E v y:=by
 have hl:xs.size=vs.length:=by simpa using h.1
 have hsub:dS E ((vs.drop off).take (C.P.cellsOf t)) ((xs.toList.drop off).take (C.P.cellsOf t)):=(h.drop off).take _;have hcs:∀u∈(vs.drop off).take (C.P.cellsOf t),u.isCell=true:=fun u hu=>hc u (List.mem_of_mem_drop (List.mem_of_mem_take hu));rcases RV.ofCells hsub hcs hv with ⟨hag,hr⟩|⟨hag,y,hy,hr⟩
 ·refine⟨_,IW rfl hd xs off (by omega) (by simp[hag]),?_⟩;simp only[hag,if_true];have:xs.extract off (off+C.P.cellsOf t)=((xs.toList.drop off).take (C.P.cellsOf t)).toArray:=by apply Array.ext';simp[List.extract_eq_take_drop]
  rw[this];exact hr
 ·have hlen:((xs.toList.drop off).take (C.P.cellsOf t)).length=1:=by rw[hy];rfl
  have h1:C.P.cellsOf t=1:=by
   simp at hlen;have:C.P.cellsOf t≤xs.size-off:=by omega
   omega
  refine⟨_,IW rfl hd xs off (by omega) (fun _=>h1),?_⟩;simp only[hag];have hget:xs[off]?=some y:=by have:=congrArg (fun l=>l[0]?) hy;simpa[h1]using this
  simpa[Array.getD,Array.getElem?_eq_some_iff.1 hget |>.1,(Array.getElem?_eq_some_iff.1 hget).2,Array.getElem?_eq_some_iff]using hr
end
section
variable{C:aY}{E:Env}{w:World}{P:Program}
theorem UF{op:BinOp}{k:IntKind}{a b:Int}{d:D}(h:dN op k a b=some d)(xt:TypeId) :
  ∃y,(binOp op xt (.int k a) (.int k b)).run P w=.ok y w∧∀G,RD G d y:=by
 cases op
 case quo=>
  cases hb:(b==0)with
  |true=>simp only[dN,hb,cond_true,reduceCtorEq]at h|false=>
   simp only[dN,hb,cond_false,oI]at h;subst h;have hb':¬b=0:=by simpa using hb
   exact⟨.int k (k.wrap (a.tdiv b)),by simp[binOp,Op.intDiv,hb'],fun G=>.int _ _⟩
 case rem=>
  cases hb:(b==0)with
  |true=>simp only[dN,hb,cond_true,reduceCtorEq]at h|false=>
   simp only[dN,hb,cond_false,oI]at h;subst h;have hb':¬b=0:=by simpa using hb
   exact⟨.int k (a.tmod b),by simp[binOp,Op.intDiv,hb'],fun G=>.int _ _⟩
 all_goals simp only[dN,oI,reduceCtorEq]at h
 all_goals (subst h;refine⟨_,?_,fun G=>by constructor⟩;simp only[binOp,ne_eq,not_true_eq_false,if_false,Op.intArith,Op.intBits,Op.intCmp,Sem.run_pure])
theorem zf{op:BinOp}{k j:IntKind}{a b:Int}{d:D}(h:lu op k a b=some d)(xt:TypeId) :
  ∃y,(binOp op xt (.int k a) (.int j b)).run P w=.ok y w∧∀G,RD G d y:=by
 unfold lu at h;cases hb:decide (b<0)with
 |true=>simp only[hb,cond_true,reduceCtorEq]at h|false=>
  have hb':¬b<0:=by simpa using hb
  simp only[hb,cond_false]at h;cases op<;>simp only[oI,reduceCtorEq]at h<;>subst h
  ·exact⟨.int k (k.wrap (a*2 ^ min b.toNat k.bits)),by simp[binOp,Op.shift,hb'],fun G=>.int _ _⟩
  ·exact⟨.int k (a.fdiv (2 ^ min b.toNat k.bits)),by simp[binOp,Op.shift,hb'],fun G=>.int _ _⟩
theorem U4{op:BinOp}{a b:ByteArray}{d:D}(h:iF op a b=some d)(xt:TypeId) :
  ∃y,(binOp op xt (.string a) (.string b)).run P w=.ok y w∧∀G,RD G d y:=by
 cases op<;>simp only[iF,oI,reduceCtorEq]at h
 case add=>
  cases hb:decide (a.size+b.size≤9223372036854775807)with
  |false=>simp only[hb,cond_false,reduceCtorEq]at h| true =>
   simp only[hb,cond_true,oI]at h;subst h;have hb':a.size+b.size≤9223372036854775807:=by simpa using hb
   have h':¬(((a.size+b.size:Nat):Int) > IntKind.i64.max):=by have:IntKind.i64.max=9223372036854775807:=rfl;omega
   exact⟨_,by simp only[binOp,Op.stringOp,if_neg h'];rfl,fun G=>.str _⟩
 all_goals (subst h;exact⟨_,by simp only[binOp,Op.stringOp];rfl,fun G=>by constructor⟩)
end
section
variable{C:aY}{G:Nat→Nat→Option Value}{w:World}
theorem qo{t:TypeId}{a b:D}{r:Bool}(h:fA C t a b=some r){x y:Value}(hx:RD G a x)(hy:RD G b y)(d:Nat) :
  (Op.equalIn (d+1) t x y).run C.P w=.ok r w:=by
 unfold fA at h;split at h
 ·rename_i hu;split at h
  ·cases hx;cases hy;simp at h;subst h;exact run_equalIn_bool w d t _ _ hu
  ·cases h
 ·rename_i k' hu;split at h
  ·rename_i k a j b;cases hx;cases hy;cases hkj:(k==j)with
   |false=>simp[hkj]at h|true=>
    have:k=j:=by simpa using hkj
    subst this;simp at h;subst h;exact run_equalIn_int w d t k k' a b hu
  ·cases h
 ·rename_i hu;split at h
  ·cases hx;cases hy;simp at h;subst h;exact run_equalIn_string w d t _ _ hu
  ·cases h
 ·cases h
theorem uo{t:TypeId}{a b:D}{r:Bool}(h:fA C t a b=some r):cu C t=false∧∃d,C.P.underlying t=some d:=by unfold fA at h;unfold cu;split at h<;>simp_all
theorem fH{t:TypeId}{a b:D}{r:Bool}(h:fA C t a b=some r){xs:Array Value}{i:Nat}{x:Value}(hi:xs[i]?=some x) :
  (part t xs i).run C.P w=.ok x w:=by
 obtain⟨h1,d,hd⟩:=uo h;simp[part,pJ hd,h1,hi]
theorem BJ(xs ys:Array Value)(d:Nat):∀(fs:List Field) (i:Nat) (as bs:List D) (r:Bool),eqFields C fs i as bs=some r→
  (∀(j:Nat) (a:D) (x:Value),as[j]?=some a→xs[i+j]?=some x→RD G a x)→(∀(j:Nat) (b:D) (y:Value),bs[j]?=some b→ys[i+j]?=some y→RD G b y)→
  i+as.length≤xs.size→i+bs.length≤ys.size→(Op.eqFields (d+1) xs ys fs).run C.P w=.ok r w:=by
 intro fs;induction fs with
 |nil=>intro i as bs r h _ _ _ _;cases as<;>cases bs<;>simp[eqFields]at h;subst h;simp[Op.eqFields]| cons f fs ih =>
  intro i as bs r h hx hy hlx hly;cases as with
  |nil=>simp[eqFields]at h| cons a as =>
   cases bs with
   |nil=>simp[eqFields]at h| cons b bs =>
    simp only[eqFields]at h;cases hc:(f.name != "_"&&f.offset==i&&aA C f.type==1)with
    |false=>simp[hc]at h| true =>
     simp only[hc,cond_true]at h;simp at hc;obtain⟨⟨hn,ho⟩,hs⟩:=hc;simp only[List.length_cons]at hlx hly;have hx0:xs[i]?=some (xs[i]'(by omega)):=Array.getElem?_eq_getElem (by omega);have hy0:ys[i]?=some (ys[i]'(by omega)):=Array.getElem?_eq_getElem (by omega);cases he:fA C f.type a b with
     |none=>simp[he]at h| some q =>
      have e1:=qo (w:=w) he (hx 0 a _ rfl hx0) (hy 0 b _ rfl hy0) d;have p1:=fH (w:=w) he hx0;have p2:=fH (w:=w) he hy0;simp only[Op.eqFields,ne_eq,hn,not_false_eq_true,if_true,Sem.run_bind,ho,p1,p2,Result.andThen_ok,e1];cases q with
      |false=>simp[he]at h;subst h;simp|true=>simp only[he]at h;simp only[Bool.not_true,Bool.false_eq_true,if_false];refine ih (i+1) as bs r h (fun j a' x ha hx'=>hx (j+1) a' x (by simpa using ha) (by rw[←hx'];congr 1;omega)) (fun j b' y hb hy'=>hy (j+1) b' y (by simpa using hb) (by rw[←hy'];congr 1;omega)) (by omega) (by omega)
theorem DL(xs ys:Array Value)(d:Nat){e:TypeId}(hs:C.P.cellsOf e=1):∀(n i:Nat) (as bs:List D) (r:Bool),eqItems C e as bs=some r→as.length=n→bs.length=n→
  (∀(j:Nat) (a:D) (x:Value),as[j]?=some a→xs[i+j]?=some x→RD G a x)→(∀(j:Nat) (b:D) (y:Value),bs[j]?=some b→ys[i+j]?=some y→RD G b y)→
  i+as.length≤xs.size→i+bs.length≤ys.size→(Op.eqItems (d+1) e (C.P.cellsOf e) xs ys (List.range' i n)).run C.P w=.ok r w:=by
 intro n;induction n with
 |zero=>intro i as bs r h ha hb _ _ _ _;cases as<;>cases bs<;>simp[eqItems]at h ha hb;subst h;simp[Op.eqItems]| succ n ih =>
  intro i as bs r h ha hb hx hy hlx hly;cases as with
  |nil=>simp at ha| cons a as =>
   cases bs with
   |nil=>simp at hb| cons b bs =>
    simp only[eqItems]at h;simp only[List.length_cons]at hlx hly ha hb;have hx0:xs[i]?=some (xs[i]'(by omega)):=Array.getElem?_eq_getElem (by omega);have hy0:ys[i]?=some (ys[i]'(by omega)):=Array.getElem?_eq_getElem (by omega);cases he:fA C e a b with
    |none=>simp[he]at h| some q =>
     have e1:=qo (w:=w) he (hx 0 a _ rfl hx0) (hy 0 b _ rfl hy0) d;have p1:=fH (w:=w) he hx0;have p2:=fH (w:=w) he hy0;rw[List.range'_succ];simp only[Op.eqItems,Sem.run_bind,hs,Nat.mul_one,p1,p2,Result.andThen_ok,e1];cases q with
     |false=>simp[he]at h;subst h;simp|true=>simp only[he]at h;simp only[Bool.not_true,Bool.false_eq_true,if_false];have:=ih (i+1) as bs r h (by omega) (by omega) (fun j a' x ha hx'=>hx (j+1) a' x (by simpa using ha) (by rw[←hx'];congr 1;omega)) (fun j b' y hb hy'=>hy (j+1) b' y (by simpa using hb) (by rw[←hy'];congr 1;omega)) (by omega) (by omega);rw[hs]at this;exact this
theorem xP{t:TypeId}{a b:D}{r:Bool}(h:zn C t a b=some r){x y:Value}(hx:RD G a x)(hy:RD G b y)(d:Nat) :
  (Op.equalIn (d+2) t x y).run C.P w=.ok r w:=by
 unfold zn at h;split at h
 ·rename_i as bs;cases hx with
  |agg _ xs hlx hRx hCx=>
  cases hy with
  |agg _ ys hly hRy hCy=>
  split at h
  ·rename_i fs hu;cases hst:(C.P.stoodInHeld t || C.P.eqGuardType C.P.depth t)with
   |true=>simp[hst]at h|false=>
    simp only[hst,cond_false]at h;rw[Bool.or_eq_false_iff]at hst
    replace hst:=hst.1
    have hf:C.P.fieldsOf t=fs:=by simp[Program.fieldsOf,hu]
    rw[run_equalIn_struct w (d+1) t xs ys (by rw[hf];exact hu) hst,hf];exact BJ xs ys d fs.toList 0 as bs r h (fun j a x ha hx=>hRx j a x ha (by simpa using hx)) (fun j b y hb hy=>hRy j b y hb (by simpa using hy)) (by omega) (by omega)
  ·rename_i n e hu;cases hc:(!(C.P.eqGuardType C.P.depth t)&&(aA C e==1)&&(as.length==n)&&(bs.length==n))with
   |false=>simp[hc]at h| true =>
    simp only[hc,cond_true]at h;simp at hc;obtain⟨⟨⟨_,hs⟩,h1⟩,h2⟩:=hc;by_cases hn:n=0
    ·subst hn;cases as<;>cases bs<;>simp at h1 h2;simp[eqItems]at h;subst h;have hsz:C.P.cellsOf e=1:=hs;have hi:∃i,C.P.info? e=some i:=by
      unfold Program.cellsOf at hsz;cases hi:C.P.info? e with
      |none=>simp[hi]at hsz|some i=>exact⟨i,rfl⟩
     obtain⟨i,hi⟩:=hi;rw[run_equalIn_array w (d+1) xs ys hu hi];simp[Op.eqItems]
    ·have hsz:C.P.cellsOf e=1:=hs;have hi:∃i,C.P.info? e=some i:=by
      unfold Program.cellsOf at hsz;cases hi:C.P.info? e with
      |none=>simp[hi]at hsz|some i=>exact⟨i,rfl⟩
     obtain⟨i,hi⟩:=hi;rw[run_equalIn_array w (d+1) xs ys hu hi,List.range_eq_range'];exact DL xs ys d hsz n 0 as bs r h h1 h2 (fun j a x ha hx=>hRx j a x ha (by simpa using hx)) (fun j b y hb hy=>hRy j b y hb (by simpa using hy)) (by omega) (by omega)
  ·cases h
 ·exact qo h hx hy (d+1)
end
def byType:Value→Bool
 | .int _ _=>false| .float _ _=>false| .complex _ _ _=>false| .string _=>false|_=>true
theorem xJ{t:TypeId}{x:Value}(y:Value)(h:byType x=true):binOp .eql t x y=(do pure (.bool (←Op.equal t x y))):=by cases x<;>first|(simp[byType]at h;done)|(cases y<;>rfl)
theorem yx{t:TypeId}{x:Value}(y:Value)(h:byType x=true):binOp .neq t x y=(do pure (.bool !(←Op.equal t x y))):=by cases x<;>first|(simp[byType]at h;done)|(cases y<;>rfl)
theorem vU{t:TypeId}{x:Value}(y:Value)(h:byType y=true):binOp .eql t x y=(do pure (.bool (←Op.equal t x y))):=by cases y<;>first|(simp[byType]at h;done)|(cases x<;>rfl)
theorem wG{t:TypeId}{x:Value}(y:Value)(h:byType y=true):binOp .neq t x y=(do pure (.bool !(←Op.equal t x y))):=by cases y<;>first|(simp[byType]at h;done)|(cases x<;>rfl)
section eqs
variable{C:aY}(w:World)(d:Nat){t:TypeId}
theorem qK{e:TypeId}(hu:C.P.underlying t=some (.pointer e)):(Op.equalIn (d+1) t (.pointer none) (.pointer none)).run C.P w=.ok true w:=by simp[Op.equalIn,ak hu]
theorem qV{e:TypeId}(hu:C.P.underlying t=some (.pointer e))(a:Addr):(Op.equalIn (d+1) t (.pointer none) (.pointer (some a))).run C.P w=.ok false w:=by simp[Op.equalIn,ak hu]
theorem qL{e:TypeId}(hu:C.P.underlying t=some (.pointer e))(a:Addr):(Op.equalIn (d+1) t (.pointer (some a)) (.pointer none)).run C.P w=.ok false w:=by simp[Op.equalIn,ak hu]
theorem qH{e:TypeId}(hu:C.P.underlying t=some (.slice e))(n m n' m':Nat):(Op.equalIn (d+1) t (.slice none n m) (.slice none n' m')).run C.P w=.ok true w:=by simp[Op.equalIn,ak hu]
theorem qE{e:TypeId}(hu:C.P.underlying t=some (.slice e))(n m:Nat)(a:Addr)(n' m':Nat):(Op.equalIn (d+1) t (.slice none n m) (.slice (some a) n' m')).run C.P w=.ok false w:=by simp[Op.equalIn,ak hu]
theorem qU{e:TypeId}(hu:C.P.underlying t=some (.slice e))(n m:Nat)(a:Addr)(n' m':Nat):(Op.equalIn (d+1) t (.slice (some a) n m) (.slice none n' m')).run C.P w=.ok false w:=by simp[Op.equalIn,ak hu]
theorem qC{k e:TypeId}(hu:C.P.underlying t=some (.map k e)):(Op.equalIn (d+1) t (.map none) (.map none)).run C.P w=.ok true w:=by simp[Op.equalIn,ak hu]
theorem qR{k e:TypeId}(hu:C.P.underlying t=some (.map k e))(a:Nat):(Op.equalIn (d+1) t (.map none) (.map (some a))).run C.P w=.ok false w:=by simp[Op.equalIn,ak hu]
theorem qI{k e:TypeId}(hu:C.P.underlying t=some (.map k e))(a:Nat):(Op.equalIn (d+1) t (.map (some a)) (.map none)).run C.P w=.ok false w:=by simp[Op.equalIn,ak hu]
theorem qQ{k e:Array TypeId}{v:Bool}(hu:C.P.underlying t=some (.func k e v)):(Op.equalIn (d+1) t .nilFunc .nilFunc).run C.P w=.ok true w:=by simp[Op.equalIn,ak hu]
theorem qF{k e:Array TypeId}{v:Bool}(hu:C.P.underlying t=some (.func k e v))(f:Fn)(a b:Array Value):(Op.equalIn (d+1) t .nilFunc (.func f a b)).run C.P w=.ok false w:=by simp[Op.equalIn,ak hu]
theorem qN{k e:Array TypeId}{v:Bool}(hu:C.P.underlying t=some (.func k e v))(f:Fn)(a b:Array Value):(Op.equalIn (d+1) t (.func f a b) .nilFunc).run C.P w=.ok false w:=by simp[Op.equalIn,ak hu]
theorem qW{ms:Array (String×TypeId)}(hu:C.P.underlying t=some (.interface ms)):(Op.equalIn (d+1) t .nilIface .nilIface).run C.P w=.ok true w:=by simp[Op.equalIn,ak hu]
theorem qP{ms:Array (String×TypeId)}(hu:C.P.underlying t=some (.interface ms))(u:TypeId)(v:Value):(Op.equalIn (d+1) t .nilIface (.iface u v)).run C.P w=.ok false w:=by simp[Op.equalIn,ak hu]
theorem qJ{ms:Array (String×TypeId)}(hu:C.P.underlying t=some (.interface ms))(u:TypeId)(v:Value):(Op.equalIn (d+1) t (.iface u v) .nilIface).run C.P w=.ok false w:=by simp[Op.equalIn,ak hu]
end eqs
section
variable{C:aY}{E:Env}{w:World}
structure abl(C:aY)(w:World)(t:TypeId)(ox oy:Operand)(a b:Value)(r:Bool):Prop where
 guard:∀op,(eqGuard op t ox oy a b).run C.P w=.ok () w
 eq:(Op.equal t a b).run C.P w=.ok r w
 ty:byType a=true∨byType b=true
theorem zh{t:TypeId}{cst:Bool}{n:D}{x:V}{r:Bool}(h:I9 C t cst n x=some r){a b:Value}(hn:RD E.G n a)(hx:RV E x b)(ox oy:Operand)
  (hc:cst=true→(ox matches .const _)=true∨(oy matches .const _)=true):abl C w t ox oy a b r∧abl C w t ox oy b a r:=by
 unfold I9 at h;have key:∀(a b:Value) (r:Bool),(∀op,eqGuard op t ox oy a b=pure ())→(Op.equalIn 10000 t a b).run C.P w=.ok r w→(byType a=true∨byType b=true)→abl C w t ox oy a b r:=
  fun a b r h1 h2 h3=>⟨fun op=>by rw[h1];rfl,h2,h3⟩
 have gp:∀(p q:Value) (op:BinOp),(∀t' u v,q≠.agg v∧(p≠.nilIface∨q≠.nilIface)∧p≠.iface t' u)→True:=fun _ _ _ _=>trivial;split at h
 ·rename_i e hu;split at h
  ·cases hn;have:=hx.nilp_inv;subst this;simp at h;subst h;refine⟨key _ _ _ (fun op=>by cases op<;>rfl) ?_ (.inl rfl),key _ _ _ (fun op=>by cases op<;>rfl) ?_ (.inl rfl)⟩<;>first|exact qK w 9999 hu|exact qV w 9999 hu _|exact qL w 9999 hu _|exact qH w 9999 hu _ _ _ _|exact qE w 9999 hu _ _ _ _ _|exact qU w 9999 hu _ _ _ _ _|exact qC w 9999 hu|exact qR w 9999 hu _|exact qI w 9999 hu _|exact qQ w 9999 hu|exact qF w 9999 hu _ _ _|exact qN w 9999 hu _ _ _|exact qW w 9999 hu|exact qP w 9999 hu _ _|exact qJ w 9999 hu _ _
  all_goals first
   |(cases hn;obtain⟨b,c,-,hx⟩:=hx.ptr_inv)
   |(cases hn;obtain⟨b,c,-,hx⟩:=hx.ept_inv)
   |(cases hn;obtain⟨b,c,xs,hx,-⟩:=hx.dptr_inv)
   |(cases hn;obtain⟨b,c,xs,hx,-⟩:=hx.vptr_inv)
   |cases h
  all_goals
   subst hx;simp at h;subst h;refine⟨key _ _ _ (fun op=>by cases op<;>rfl) ?_ (.inl rfl),key _ _ _ (fun op=>by cases op<;>rfl) ?_ (.inl rfl)⟩<;>first|exact qK w 9999 hu|exact qV w 9999 hu _|exact qL w 9999 hu _|exact qH w 9999 hu _ _ _ _|exact qE w 9999 hu _ _ _ _ _|exact qU w 9999 hu _ _ _ _ _|exact qC w 9999 hu|exact qR w 9999 hu _|exact qI w 9999 hu _|exact qQ w 9999 hu|exact qF w 9999 hu _ _ _|exact qN w 9999 hu _ _ _|exact qW w 9999 hu|exact qP w 9999 hu _ _|exact qJ w 9999 hu _ _
 ·rename_i e hu;split at h
  ·cases hn;have:=hx.nils_inv;subst this;simp at h;subst h;refine⟨key _ _ _ (fun op=>by cases op<;>rfl) ?_ (.inl rfl),key _ _ _ (fun op=>by cases op<;>rfl) ?_ (.inl rfl)⟩<;>first|exact qK w 9999 hu|exact qV w 9999 hu _|exact qL w 9999 hu _|exact qH w 9999 hu _ _ _ _|exact qE w 9999 hu _ _ _ _ _|exact qU w 9999 hu _ _ _ _ _|exact qC w 9999 hu|exact qR w 9999 hu _|exact qI w 9999 hu _|exact qQ w 9999 hu|exact qF w 9999 hu _ _ _|exact qN w 9999 hu _ _ _|exact qW w 9999 hu|exact qP w 9999 hu _ _|exact qJ w 9999 hu _ _
  all_goals first
   |(cases hn;obtain⟨b,o,cap,xs,hx,-⟩:=hx.list_inv)
   |(cases hn;obtain⟨b,o,xs,hx,-⟩:=hx.ex_inv)
   |(cases hn;obtain⟨b,c,a,cap,-,-,-,-,hx⟩:=hx.sl_inv)
   |(cases hn;obtain⟨b,o,cap,xs,hx,-⟩:=hx.vl_inv)
   |cases h
  all_goals
   subst hx;simp at h;subst h;refine⟨key _ _ _ (fun op=>by cases op<;>rfl) ?_ (.inl rfl),key _ _ _ (fun op=>by cases op<;>rfl) ?_ (.inl rfl)⟩<;>first|exact qK w 9999 hu|exact qV w 9999 hu _|exact qL w 9999 hu _|exact qH w 9999 hu _ _ _ _|exact qE w 9999 hu _ _ _ _ _|exact qU w 9999 hu _ _ _ _ _|exact qC w 9999 hu|exact qR w 9999 hu _|exact qI w 9999 hu _|exact qQ w 9999 hu|exact qF w 9999 hu _ _ _|exact qN w 9999 hu _ _ _|exact qW w 9999 hu|exact qP w 9999 hu _ _|exact qJ w 9999 hu _ _
 ·rename_i k e hu;split at h
  ·cases hn;have:=hx.nilm_inv;subst this;simp at h;subst h;refine⟨key _ _ _ (fun op=>by cases op<;>rfl) ?_ (.inl rfl),key _ _ _ (fun op=>by cases op<;>rfl) ?_ (.inl rfl)⟩<;>first|exact qK w 9999 hu|exact qV w 9999 hu _|exact qL w 9999 hu _|exact qH w 9999 hu _ _ _ _|exact qE w 9999 hu _ _ _ _ _|exact qU w 9999 hu _ _ _ _ _|exact qC w 9999 hu|exact qR w 9999 hu _|exact qI w 9999 hu _|exact qQ w 9999 hu|exact qF w 9999 hu _ _ _|exact qN w 9999 hu _ _ _|exact qW w 9999 hu|exact qP w 9999 hu _ _|exact qJ w 9999 hu _ _
  all_goals first
   |(cases hn;obtain⟨b,c,-,hx⟩:=hx.map_inv)
   |cases h
  all_goals
   subst hx;simp at h;subst h;refine⟨key _ _ _ (fun op=>by cases op<;>rfl) ?_ (.inl rfl),key _ _ _ (fun op=>by cases op<;>rfl) ?_ (.inl rfl)⟩<;>first|exact qK w 9999 hu|exact qV w 9999 hu _|exact qL w 9999 hu _|exact qH w 9999 hu _ _ _ _|exact qE w 9999 hu _ _ _ _ _|exact qU w 9999 hu _ _ _ _ _|exact qC w 9999 hu|exact qR w 9999 hu _|exact qI w 9999 hu _|exact qQ w 9999 hu|exact qF w 9999 hu _ _ _|exact qN w 9999 hu _ _ _|exact qW w 9999 hu|exact qP w 9999 hu _ _|exact qJ w 9999 hu _ _
 ·rename_i k e v hu;split at h
  ·cases hn;have:=hx.nilf_inv;subst this;simp at h;subst h;refine⟨key _ _ _ (fun op=>by cases op<;>rfl) ?_ (.inl rfl),key _ _ _ (fun op=>by cases op<;>rfl) ?_ (.inl rfl)⟩<;>first|exact qK w 9999 hu|exact qV w 9999 hu _|exact qL w 9999 hu _|exact qH w 9999 hu _ _ _ _|exact qE w 9999 hu _ _ _ _ _|exact qU w 9999 hu _ _ _ _ _|exact qC w 9999 hu|exact qR w 9999 hu _|exact qI w 9999 hu _|exact qQ w 9999 hu|exact qF w 9999 hu _ _ _|exact qN w 9999 hu _ _ _|exact qW w 9999 hu|exact qP w 9999 hu _ _|exact qJ w 9999 hu _ _
  ·cases hn;simp at h;subst h;cases hx with
   |fn _ _ _ a' b'=>refine⟨key _ _ _ (fun op=>by cases op<;>rfl) ?_ (.inl rfl),key _ _ _ (fun op=>by cases op<;>rfl) ?_ (.inl rfl)⟩<;>first|exact qK w 9999 hu|exact qV w 9999 hu _|exact qL w 9999 hu _|exact qH w 9999 hu _ _ _ _|exact qE w 9999 hu _ _ _ _ _|exact qU w 9999 hu _ _ _ _ _|exact qC w 9999 hu|exact qR w 9999 hu _|exact qI w 9999 hu _|exact qQ w 9999 hu|exact qF w 9999 hu _ _ _|exact qN w 9999 hu _ _ _|exact qW w 9999 hu|exact qP w 9999 hu _ _|exact qJ w 9999 hu _ _
   |yield=>refine⟨key _ _ _ (fun op=>by cases op<;>rfl) ?_ (.inl rfl),key _ _ _ (fun op=>by cases op<;>rfl) ?_ (.inl rfl)⟩<;>first|exact qK w 9999 hu|exact qV w 9999 hu _|exact qL w 9999 hu _|exact qH w 9999 hu _ _ _ _|exact qE w 9999 hu _ _ _ _ _|exact qU w 9999 hu _ _ _ _ _|exact qC w 9999 hu|exact qR w 9999 hu _|exact qI w 9999 hu _|exact qQ w 9999 hu|exact qF w 9999 hu _ _ _|exact qN w 9999 hu _ _ _|exact qW w 9999 hu|exact qP w 9999 hu _ _|exact qJ w 9999 hu _ _
  ·cases h
 ·rename_i ms hu;split at h
  ·cases hn;have:=hx.nili_inv;subst this;cases hcs:cst with
   |false=>simp[hcs]at h| true =>
    simp[hcs]at h;subst h;have hg:∀op,eqGuard op t ox oy .nilIface .nilIface=pure ():=by
     intro op;rcases hc hcs with h|h
     ·cases ox<;>simp at h<;>cases op<;>rfl
     ·cases oy<;>simp at h<;>cases op<;>cases ox<;>rfl
    refine⟨key _ _ _ hg ?_ (.inl rfl),key _ _ _ hg ?_ (.inl rfl)⟩<;>first|exact qK w 9999 hu|exact qV w 9999 hu _|exact qL w 9999 hu _|exact qH w 9999 hu _ _ _ _|exact qE w 9999 hu _ _ _ _ _|exact qU w 9999 hu _ _ _ _ _|exact qC w 9999 hu|exact qR w 9999 hu _|exact qI w 9999 hu _|exact qQ w 9999 hu|exact qF w 9999 hu _ _ _|exact qN w 9999 hu _ _ _|exact qW w 9999 hu|exact qP w 9999 hu _ _|exact qJ w 9999 hu _ _
  ·cases hn;obtain⟨y,rfl,-⟩:=hx.diface_inv;simp at h;subst h;refine⟨key _ _ _ (fun op=>by cases op<;>rfl) ?_ (.inl rfl),key _ _ _ (fun op=>by cases op<;>rfl) ?_ (.inl rfl)⟩<;>first|exact qK w 9999 hu|exact qV w 9999 hu _|exact qL w 9999 hu _|exact qH w 9999 hu _ _ _ _|exact qE w 9999 hu _ _ _ _ _|exact qU w 9999 hu _ _ _ _ _|exact qC w 9999 hu|exact qR w 9999 hu _|exact qI w 9999 hu _|exact qQ w 9999 hu|exact qF w 9999 hu _ _ _|exact qN w 9999 hu _ _ _|exact qW w 9999 hu|exact qP w 9999 hu _ _|exact qJ w 9999 hu _ _
  ·cases hn;obtain⟨y,rfl,-⟩:=hx.iface_inv;simp at h;subst h;refine⟨key _ _ _ (fun op=>by cases op<;>rfl) ?_ (.inl rfl),key _ _ _ (fun op=>by cases op<;>rfl) ?_ (.inl rfl)⟩<;>first|exact qK w 9999 hu|exact qV w 9999 hu _|exact qL w 9999 hu _|exact qH w 9999 hu _ _ _ _|exact qE w 9999 hu _ _ _ _ _|exact qU w 9999 hu _ _ _ _ _|exact qC w 9999 hu|exact qR w 9999 hu _|exact qI w 9999 hu _|exact qQ w 9999 hu|exact qF w 9999 hu _ _ _|exact qN w 9999 hu _ _ _|exact qW w 9999 hu|exact qP w 9999 hu _ _|exact qJ w 9999 hu _ _
  ·cases h
 ·cases h
theorem UU{t:TypeId}{a b:D}{r:Bool}(h:zn C t a b=some r){x y:Value}(hx:RD E.G a x)(hy:RD E.G b y)(ox oy:Operand)(op:BinOp) :
  (eqGuard op t ox oy x y).run C.P w=.ok () w:=by
 unfold zn at h;split at h
 ·rename_i as bs;cases hx;cases hy;have hg:C.P.eqGuardType C.P.depth t=false:=by
   split at h
   ·cases hst:(C.P.stoodInHeld t || C.P.eqGuardType C.P.depth t)with
    |true=>simp[hst]at h|false=>rw[Bool.or_eq_false_iff]at hst;exact hst.2
   ·cases hst:C.P.eqGuardType C.P.depth t with
    |true=>simp[hst]at h|false=>rfl
   ·cases h
  exact run_eqGuard_agg w op t ox oy _ _ hg
 ·have hs:(∃c,x=.bool c)∨(∃k n,x=.int k n)∨∃s,x=.string s:=by
   unfold fA at h;split at h
   ·split at h
    ·cases hx;exact .inl ⟨_,rfl⟩
    ·cases h
   ·split at h
    ·cases hx;exact .inr (.inl ⟨_,_,rfl⟩)
    ·cases h
   ·split at h
    ·cases hx;exact .inr (.inr ⟨_,rfl⟩)
    ·cases h
   ·cases h
  rcases hs with ⟨c,rfl⟩|⟨k,n,rfl⟩|⟨s,rfl⟩<;>cases op<;>rfl
theorem yM{v:V}{n:D}(h:isNilD v=some n):v=.d n:=by unfold isNilD at h;split at h<;>simp at h<;>subst h<;>rfl
def Bd:V→V→Bool
 | .d (.int _ _),.d (.int _ _)=>false| .d (.str _),.d (.str _)=>false|_,_=>true
theorem Eo{t:TypeId}{cst:Bool}{u v:V}{r:Bool}(h:eqV C t cst u v=some r){a b:Value}(hu:RV E u a)(hv:RV E v b)(ox oy:Operand)
  (hc:cst=true→(ox matches .const _)=true∨(oy matches .const _)=true)(hnn:Bd u v=true):abl C w t ox oy a b r:=by
 unfold eqV at h;split at h
 ·rename_i n hn;have:=yM hn;subst this;exact(zh h hv.of_d hu ox oy hc).2
 ·split at h
  ·rename_i n hn;have:=yM hn;subst this;exact(zh h hu.of_d hv ox oy hc).1
  ·split at h
   ·rename_i da db _ _;refine⟨UU h hu.of_d hv.of_d ox oy,xP h hu.of_d hv.of_d 9998,?_⟩;unfold zn at h;split at h
    ·obtain⟨xs,rfl,-⟩:=hu.dagg_inv;exact .inl rfl
    ·unfold fA at h;split at h
     ·split at h
      ·have:=hu.bool_inv;subst this;exact .inl rfl
      ·cases h
     ·split at h
      ·simp[Bd]at hnn
      ·cases h
     ·split at h
      ·simp[Bd]at hnn
      ·cases h
     ·cases h
   ·cases h
theorem FD{op:BinOp}{t:TypeId}{cst:Bool}{u v z:V}(h:BN C op t cst u v=some z){a b:Value}(hu:RV E u a)(hv:RV E v b)(ox oy:Operand)
  (hc:cst=true→(ox matches .const _)=true∨(oy matches .const _)=true) :
  ∃y,(do eqGuard op t ox oy a b;binOp op t a b:Sem Value).run C.P w=.ok y w∧RV E z y:=by
 unfold BN at h;split at h
 ·rename_i k x j y;have:=hu.int_inv;subst this;have:=hv.int_inv;subst this;split at h
  ·cases hs:lu .shl k x y with
   |none=>simp[hs]at h|some d=>simp[hs]at h;subst h;obtain⟨z,h1,h2⟩:=zf (P:=C.P) (w:=w) (j:=j) hs t;exact⟨z,by simp[eqGuard,h1],.d _ _ (h2 _)⟩
  ·cases hs:lu .shr k x y with
   |none=>simp[hs]at h|some d=>simp[hs]at h;subst h;obtain⟨z,h1,h2⟩:=zf (P:=C.P) (w:=w) (j:=j) hs t;exact⟨z,by simp[eqGuard,h1],.d _ _ (h2 _)⟩
  ·cases hkj:(k==j)with
   |false=>simp[hkj]at h|true=>
    have:k=j:=by simpa using hkj
    subst this;cases hs:dN op k x y with
    |none=>simp[hs]at h|some d=>simp[hs]at h;subst h;obtain⟨z,h1,h2⟩:=UF (P:=C.P) (w:=w) hs t;exact⟨z,by simp[eqGuard_at_int,h1],.d _ _ (h2 _)⟩
 ·rename_i x y;have:=hu.str_inv;subst this;have:=hv.str_inv;subst this;cases hs:iF op x y with
  |none=>simp[hs]at h|some d=>simp[hs]at h;subst h;obtain⟨z,h1,h2⟩:=U4 (P:=C.P) (w:=w) hs t;exact⟨z,by simp[eqGuard_at_string,h1],.d _ _ (h2 _)⟩
 ·rename_i n1 n2;have hnn:Bd u v=true:=by
   unfold Bd;split
   ·exact absurd rfl (n1 _ _ _ _ rfl)
   ·exact absurd rfl (n2 _ _ rfl)
   ·rfl
  split at h
  ·cases hs:eqV C t cst u v with
   |none=>simp[hs]at h|some r=>
    simp[hs]at h;subst h;have he:=Eo (w:=w) hs hu hv ox oy hc hnn;refine⟨.bool r,?_,.d _ _ (.bool _)⟩;simp only[Sem.run_bind,he.guard,Result.andThen_ok];rcases he.ty with h|h
    ·rw[xJ _ h];simp[he.eq]
    ·rw[vU _ h];simp[he.eq]
  ·cases hs:eqV C t cst u v with
   |none=>simp[hs]at h|some r=>
    simp[hs]at h;subst h;have he:=Eo (w:=w) hs hu hv ox oy hc hnn;refine⟨.bool !r,?_,.d _ _ (.bool _)⟩;simp only[Sem.run_bind,he.guard,Result.andThen_ok];rcases he.ty with h|h
    ·rw[yx _ h];simp[he.eq]
    ·rw[wG _ h];simp[he.eq]
  ·cases h
end
end Mw
