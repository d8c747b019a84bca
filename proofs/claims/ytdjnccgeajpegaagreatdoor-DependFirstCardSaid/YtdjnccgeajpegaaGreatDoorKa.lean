/- DependFirst's tied card holds; no condition beyond the card's own. -/
import Derived.Test.YtdjnccgeajpegaaGreatDoorMwO
import Derived.Shelf.Strconv.Atoi
import Derived.Test.YtdjnccgeajpegaaGreatDoorMwT
import Derived.Test.YtdjnccgeajpegaaGreatDoorMwQ
import Derived.Test.YtdjnccgeajpegaaGreatDoorMwA
set_option linter.unusedVariables false
set_option linter.unusedSimpArgs false
namespace Mw
open Go Go.Proofs Go.Shelf
theorem acd{C:aY}(hOk:C.Ok){ρ:Ren}(L:Lays.n244 C.P ρ){s:ByteArray}{n:Int}(hl:s.size≤18)(h:Lib.atoi s.data.toList=some n)(hp:List O) :
  aC C (ρ.f 244) [.d (.str s)] hp (.ret (.tuple [.d (.int .i64 n),.d .nili])) hp:=by
 intro E w xs hI hv;obtain⟨body,hbody⟩:∃c,(Body.n244 ρ).body=some c:=⟨_,rfl⟩
 refine⟨fun w'=>gV hOk L.f244 hbody xs w',fun cs=>?_⟩;obtain⟨x0,rfl⟩:∃x0,xs=#[x0]:=by
  obtain⟨ls⟩:=xs
  match ls,hv.1 with
  |[a],_=>exact⟨a,rfl⟩
 have e0:=hv.2 0 _ x0 rfl rfl;cases e0 with|d _ _ h0=>
 cases h0 with|str=>
 obtain⟨e,w',fr,⟨rfl,t,rfl⟩,hcm,hfn,hlv⟩:=Any.internal_strconv_Atoi L s n hl h w cs;have hS:Step C E ⟨[],hp,0⟩ w E ⟨[],hp,0⟩ (Lib.bytesWorld w (ρ.t 5) t):=hI.grow (E':=E) (fun _ _ _ h=>h) rfl rfl (by rw[Lib.bytesWorld_size];omega) ⟨rfl,rfl⟩
  (fun r hr=>Lib.bytesWorld_at_old _ _ _ r hr) (fun b i x h=>.inl h)
 exact⟨E,_,fr,_,hS.inv,hS.mov,.ret (.tuple _ _ rfl fun i v x h1 h2=>by
  match i with
  |0=>simp at h1 h2;subst h1;subst h2;exact .d _ _ (.int _ _)|1=>simp at h1 h2;subst h1;subst h2;exact .d _ _ .nili|k+2=>simp at h1),hcm,hfn,hlv⟩
end Mw
namespace Go.Proofs
open Go.Shelf
set_option maxRecDepth 100000
def Tryz.lAt_ren:Ren where
 f:=fun x=>match x with
  |244=>348|247=>366|287=>376|321=>379|322=>380|n=>n
 t:=fun x=>match x with
  |37=>285|46=>195|53=>94|75=>271|80=>426|85=>407|167=>406|175=>416|n=>n
 g:=fun x=>x
theorem Tryz.lAt:Lays.n244 Tryz.prog Tryz.lAt_ren where
 mixed:=by kernel_rfl
 f244:=Tryz.func348
 f247:=Tryz.func366
 f287:=Tryz.func376
 f321:=Tryz.func379
 f322:=Tryz.func380
 t0:=Tryz.underlying0
 a0:=Tryz.isAgg0
 z0:=Tryz.sizeOf0
 v0:=Tryz.zeroValue0
 t2:=Tryz.underlying2
 a2:=Tryz.isAgg2
 z2:=Tryz.sizeOf2
 v2:=Tryz.zeroValue2
 t3:=Tryz.underlying3
 a3:=Tryz.isAgg3
 z3:=Tryz.sizeOf3
 v3:=Tryz.zeroValue3
 t4:=Tryz.underlying4
 a4:=Tryz.isAgg4
 z4:=Tryz.sizeOf4
 v4:=Tryz.zeroValue4
 t5:=Tryz.underlying5
 a5:=Tryz.isAgg5
 z5:=Tryz.sizeOf5
 v5:=Tryz.zeroValue5
 t9:=Tryz.underlying9
 a9:=Tryz.isAgg9
 z9:=Tryz.sizeOf9
 v9:=Tryz.zeroValue9
 t21:=Tryz.underlying21
 a21:=Tryz.isAgg21
 z21:=Tryz.sizeOf21
 v21:=Tryz.zeroValue21
 t37:=Tryz.underlying285
 a37:=Tryz.isAgg285
 z37:=Tryz.sizeOf285
 v37:=Tryz.zeroValue285
 t46:=Tryz.underlying195
 a46:=Tryz.isAgg195
 z46:=Tryz.sizeOf195
 v46:=Tryz.zeroValue195
 t53:=Tryz.underlying94
 a53:=Tryz.isAgg94
 z53:=Tryz.sizeOf94
 v53:=Tryz.zeroValue94
 t75:=Tryz.underlying271
 a75:=Tryz.isAgg271
 z75:=Tryz.sizeOf271
 v75:=Tryz.zeroValue271
 t85:=Tryz.underlying407
 a85:=Tryz.isAgg407
 z85:=Tryz.sizeOf407
 v85:=Tryz.zeroValue407
 t167:=Tryz.underlying406
 a167:=Tryz.isAgg406
 z167:=Tryz.sizeOf406
 v167:=Tryz.zeroValue406
 t175:=Tryz.underlying416
 a175:=Tryz.isAgg416
 z175:=Tryz.sizeOf416
 v175:=Tryz.zeroValue416
end Go.Proofs
namespace Mw
open Go Go.Proofs Go.Shelf
set_option maxRecDepth 100000
theorem kJ{b:UInt8}{n:Int}(h:Lib.atoi [b]=some n):∃hp,aC aG 348 (List.map V.d [.str ⟨#[b]⟩]) [] (.ret (.tuple [.d (.int .i64 n),.d .nili])) hp:=
 ⟨[],acd (ρ:=Tryz.lAt_ren) nY Tryz.lAt (s:=⟨#[b]⟩) (n:=n) (by show(1:Nat)≤18;omega) h []⟩
theorem at0:∃hp,aC aG 348 (List.map V.d [.str ⟨#[48]⟩]) [] (.ret (.tuple [.d (.int .i64 0),.d .nili])) hp:=kJ (by decide)
theorem at1:∃hp,aC aG 348 (List.map V.d [.str ⟨#[49]⟩]) [] (.ret (.tuple [.d (.int .i64 1),.d .nili])) hp:=kJ (by decide)
theorem at2:∃hp,aC aG 348 (List.map V.d [.str ⟨#[50]⟩]) [] (.ret (.tuple [.d (.int .i64 2),.d .nili])) hp:=kJ (by decide)
theorem at3:∃hp,aC aG 348 (List.map V.d [.str ⟨#[51]⟩]) [] (.ret (.tuple [.d (.int .i64 3),.d .nili])) hp:=kJ (by decide)
theorem at4:∃hp,aC aG 348 (List.map V.d [.str ⟨#[52]⟩]) [] (.ret (.tuple [.d (.int .i64 4),.d .nili])) hp:=kJ (by decide)
theorem at5:∃hp,aC aG 348 (List.map V.d [.str ⟨#[53]⟩]) [] (.ret (.tuple [.d (.int .i64 5),.d .nili])) hp:=kJ (by decide)
def eG:List (Nat×Ans):=[(348,[([.str ⟨#[48]⟩],.tuple [.d (.int .i64 0),.d .nili]),([.str ⟨#[49]⟩],.tuple [.d (.int .i64 1),.d .nili]),([.str ⟨#[50]⟩],.tuple [.d (.int .i64 2),.d .nili]),([.str ⟨#[51]⟩],.tuple [.d (.int .i64 3),.d .nili]),([.str ⟨#[52]⟩],.tuple [.d (.int .i64 4),.d .nili]),([.str ⟨#[53]⟩],.tuple [.d (.int .i64 5),.d .nili])])]
theorem bf:mO aG eG:=.cons (.cons at0 rfl (.cons at1 rfl (.cons at2 rfl (.cons at3 rfl (.cons at4 rfl (.cons at5 rfl .nil)))))) .nil
end Mw
namespace Mw
open Go
def iV(a b:bK):Prop:=∀g args rc hp r,a g args rc hp=some r→b g args rc hp=some r
theorem iV.refl(a:bK):iV a a:=fun _ _ _ _ _ h=>h
theorem iV.trans{a b c:bK}(h:iV a b)(h':iV b c):iV a c:=fun g v r hp x e=>h' g v r hp x (h g v r hp x e)
variable{C:aY}{a b:bK}
theorem wF{ss:List (Loc×O)}{r r':Option (CR×Bool×List O×Nat)}(h:∀x,r=some x→r'=some x){x:Out}(e:fP ss r=some x):fP ss r'=some x:=by
 cases hr:r with
 |none=>rw[hr]at e;cases e|some y=>rw[h y hr];rw[hr]at e;exact e
theorem PO(h:iV a b){f:Nat}{o:Oper}{ρ:Operand→V}{g:Rd}{hp:List O}{x:Out}(e:fD C a f o ρ g hp=some x):fD C b f o ρ g hp=some x:=by
 obtain⟨dst,op,ty,pos,after,guard⟩:=o;cases op
 case call c=>
  obtain⟨callee,args,ats⟩:=c;cases callee
  case value fn=>
   simp only[fD,eH,cond_false]at e ⊢;split at e
   ·rename_i h1
    try simp only[h1]
    split at e
    ·rename_i h2
     try simp only[h2]
     exact wF (h _ _ _ _) e
    ·cases e
   ·cases e
  case invoke r n=>
   simp only[fD,eH,cond_false]at e ⊢;split at e
   ·rename_i h1 h2
    try simp only[h1,h2]
    split at e
    ·rename_i h3
     try simp only[h3]
     exact wF (h _ _ _ _) e
    ·cases e
   ·cases e
  case builtin bb=>cases bb<;>exact e
 all_goals exact e
theorem vK(h:iV a b){f:Nat}{o:Oper}{s:St}{x}(e:fE C a f o s=some x):fE C b f o s=some x:=by
 unfold fE at e ⊢;split at e
 ·rename_i h1;rw[PO h h1];exact e
 ·cases e
theorem yN(h:iV a b){f:Nat}{all:List Oper}:∀{l:List Oper} {s:St} {x},bg C a f all l s=some x→bg C b f all l s=some x:=by
 intro l;induction l with
 |nil=>intro s x e;exact e| cons o l ih =>
  intro s x e;unfold bg at e ⊢;split at e
  ·split at e
   ·rename_i h1;rw[vK h h1];split at e
    ·rename_i h2;simp only[ih h2];exact e
    ·cases e
   ·rename_i y s1 fp1 h1 h2;rw[vK h h2];cases e;cases y<;>first|rfl|exact(h1 rfl).elim
   ·cases e
  ·split at e
   ·rename_i h2;simp only[ih h2];exact e
   ·cases e
  ·cases e
theorem dR(h:iV a b):∀{k k':Nat} {f:FuncId} {c:Code} {s:St} {x},k≤k'→exec C a k f c s=some x→exec C b k' f c s=some x:=by
 intro k;induction k with
 |zero=>intro k' f c s x _ e;cases e| succ k ih =>
  intro k' f c s x hk e;obtain⟨j,rfl⟩:∃j,k'=j+1:=⟨k'-1,by omega⟩
  have hk:k≤j:=by omega
  cases c with
  |skip=>exact e|label=>exact e|region id ops dr=>
   simp only[exec]at e ⊢;cases h1:bg C a f ops.toList ops.toList s with
   |none=>simp only[h1]at e;cases e|some r=>rw[yN h h1];simp only[h1]at e;exact e
  | seq p q =>
   simp only[exec]at e ⊢;cases h1:exec C a k f p s with
   |none=>simp only[h1]at e;cases e|some r=>
    obtain⟨y,s1⟩:=r;rw[ih hk h1];simp only[h1]at e;cases y with
    |normal=>exact ih hk e|exit=>exact e|ret=>exact e|pan=>exact e
  | cond t p q =>
   simp only[exec]at e ⊢;split at e
   ·rename_i bb h1
    try simp only[h1]
    cases bb with
    |true=>exact ih hk e|false=>exact ih hk e
   ·cases e
  |block id p=>
   simp only[exec]at e ⊢;cases h1:exec C a k f p s with
   |none=>simp only[h1]at e;cases e|some r=>rw[ih hk h1];simp only[h1]at e;exact e
  | loop p =>
   simp only[exec]at e ⊢;cases h1:exec C a k f p s with
   |none=>simp only[h1]at e;cases e|some r=>
    obtain⟨y,s1⟩:=r;rw[ih hk h1];simp only[h1]at e;cases y with
    |normal=>exact ih hk e|exit=>exact e|ret=>exact e|pan=>exact e
  |scope p=>simp only[exec]at e ⊢;exact ih hk e|exit=>exact e|ret=>exact e| rangeFunc g ps p q =>
   simp only[exec]at e ⊢;cases h0:inLoop s.rnd s.m.hp with
   |false=>simp only[h0]at e;cases e| true =>
    simp only[h0,cond_true]at e ⊢;split at e
    ·rename_i h1
     try simp only[h1]
     split at e
     ·rename_i h2;rw[h _ _ _ _ _ h2];exact e
     ·cases e
    ·cases e
  |goto=>simp only[exec]at e;cases e|refuse=>simp only[exec]at e;cases e
theorem mQ(h:iV a b){fn:Func}{frz:Nat}:∀{ds:List DR} {pv:Option V} {s:St} {x},leave C a fn frz ds pv s=some x→leave C b fn frz ds pv s=some x:=by
 intro ds;induction ds with
 |nil=>intro pv s x e;cases pv<;>exact e| cons d ds ih =>
  intro pv s x e;unfold leave at e ⊢;split at e
  ·rename_i h1;rw[h _ _ _ _ _ h1];exact ih e
  ·cases e
def ng(C:aY)(call:bK)(k:Nat)(g:FuncId)(fn:Func)(c:Code)(vs:List V)(rc:Option (Option V))(hp:List O):Option (CR×St):=
 match exec C call k g c {tm:=lJ vs 0,m:={ob:=[],hp:=hp,wl:=0},df:=[],rc:=rc}with
 |some (.normal,s)=>leave C call fn (C.frz g) s.df none s|some (.ret,s)=>leave C call fn (C.frz g) s.df none s|some (.pan v,s)=>leave C call fn (C.frz g) s.df (some v) s|_=>none
def Td:Option (CR×St)→Option (CR×Bool×List O×Nat)
 |some (r,s)=>some (r,s.rcd,s.m.hp,s.m.wl)|none=>none
theorem uX(h:iV a b){k k':Nat}(hk:k≤k'){g:FuncId}{fn:Func}{c:Code}{vs:List V}{rc:Option (Option V)}{hp:List O}{x}(e:ng C a k g fn c vs rc hp=some x):ng C b k' g fn c vs rc hp=some x:=by
 unfold ng at e ⊢;split at e
 ·rename_i h1;rw[dR h hk h1];exact mQ h e
 ·rename_i h1;rw[dR h hk h1];exact mQ h e
 ·rename_i h1;rw[dR h hk h1];exact mQ h e
 ·cases e
theorem uT{k:Nat}{g:FuncId}{fn:Func}{c:Code}(ho:C.orc g=none)(hf:C.P.funcs[g]?=some fn)(hc:fn.body=some c)(first caps args:List V)(rc:Option (Option V))(hp:List O) :
  bV C (k+1) (.fn (.func g) first caps) args rc hp=Td (ng C (bV C k) k g fn c (first++args++caps) rc hp):=by
 simp only[bV,ho,hf,hc];unfold ng Td;rfl
def oL(l:Nat)(x:X)(s:St):Option (CR×Bool×List O×Nat):=match s.m.hp[l]? with
 |some (.loop .busy none f2 tm2 ob2 ps2 a2 b2)=>
  match x with
  | .normal=>some (.ret (.d (.bool true)),false,s.m.hp.set l (.loop .ready none f2 tm2 ob2 ps2 a2 b2),s.m.wl ||| (1 <<< l))| .ret=>some (.ret (.d (.bool false)),false,s.m.hp.set l (.loop .done (some .ret) f2 tm2 ob2 ps2 a2 b2),s.m.wl ||| (1 <<< l))| .exit id=>some (.ret (.d (.bool false)),false,s.m.hp.set l (.loop .done (some (.exit id)) f2 tm2 ob2 ps2 a2 b2),s.m.wl ||| (1 <<< l))|_=>none
 |_=>none
def nP (C:aY) (call:bK) (k l:Nat) (args:List V) (hp:List O):Option (CR × Bool × List O × Nat):=match hp[l]? with
 | some (.loop .ready none f tm ob ps a b) =>
  bif args.length==ps.length then
   match exec C call k f a {tm:=insL ps args tm,m:={ob:=ob,hp:=hp,wl:=0},df:=[],rnd:=some l}with
   | some (.normal,s) =>
    match s.m.hp[l]? with
    |some (.loop .ready none f1 tm1 ob1 ps1 a1 b1)=>
     match exec C call k f b {s with m:={s.m with hp:=s.m.hp.set l (.loop .busy none f1 tm1 ob1 ps1 a1 b1),wl:=s.m.wl ||| (1 <<< l)} }with
     |some (x,s)=>oL l x s|none=>none
    |_=>none
   |_=>none
  else none
 |_=>none
theorem rC(C:aY)(k l:Nat)(first caps args:List V)(rc:Option (Option V))(hp:List O):bV C (k+1) (.fn (.yield l) first caps) args rc hp=nP C (bV C k) k l args hp:=rfl
theorem sH(h:iV a b){k k' l:Nat}(hk:k≤k'){args:List V}{hp:List O}{x}(e:nP C a k l args hp=some x):nP C b k' l args hp=some x:=by
 unfold nP at e ⊢;split at e
 ·cases hl:args.length==_ with
  |false=>simp only[hl]at e;cases e| true =>
   simp only[hl,cond_true]at e ⊢;split at e
   ·rename_i h1;rw[dR h hk h1];simp only;split at e
    ·split at e
     ·rename_i h3;rw[dR h hk h3];exact e
     ·cases e
    ·cases e
   ·cases e
 ·cases e
theorem QD:∀{k:Nat},iV (bV C k) (bV C (k+1)):=by
 intro k;induction k with
 |zero=>intro g args rc hp r e;cases e| succ k ih =>
  intro g args rc hp r e;cases g
  case fn g first caps =>
   cases g
   case func g=>
    cases ho:C.orc g with
    |some h=>simp only[bV,ho]at e ⊢;exact e| none =>
     cases hf:C.P.funcs[g]? with
     |none=>simp only[bV,ho,hf]at e;cases e| some fn =>
      cases hc:fn.body with
      |none=>simp only[bV,ho,hf,hc]at e;cases e|some c=>
       rw[uT ho hf hc]at e ⊢;cases h1:ng C (bV C k) k g fn c (first++args++caps) rc hp with
       |none=>rw[h1]at e;cases e|some x=>rw[uX ih (Nat.le_succ k) h1];rw[h1]at e;exact e
   case yield l=>rw[rC]at e ⊢;exact sH ih (Nat.le_succ k) e
   all_goals (simp only[bV]at e;cases e)
  all_goals (simp only[bV]at e;cases e)
theorem sG{j k:Nat}(h:j≤k):iV (bV C j) (bV C k):=by
 induction h with
 |refl=>exact .refl _|step _ ih=>exact ih.trans QD
end Mw
