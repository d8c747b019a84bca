/- DependFirst's tied card holds; no condition beyond the card's own. -/
import Derived.Test.YtdjnccgeajpegaaGreatDoorKa
set_option linter.unusedVariables false
set_option linter.unusedSimpArgs false
namespace Mw
open Go
structure Sup(F:Nat→bK)(b:bK):Prop where
 le:∀j k,j≤k→iV (F j) (F k)
 get:∀g args rc hp r,b g args rc hp=some r→∃k,F k g args rc hp=some r
variable{C:aY}{F:Nat→bK}{b:bK}
theorem yP(h:Sup F b){fn:V}{vs:List V}{hp:List O}{ss:List (Loc×O)}{x:Out}(e:fP ss (b fn vs none hp)=some x):∃k,fP ss (F k fn vs none hp)=some x:=by
 cases hb:b fn vs none hp with
 |none=>rw[hb]at e;cases e|some r=>obtain⟨k,hk⟩:=h.get _ _ _ _ _ hb;exact⟨k,by rw[hk];rw[hb]at e;exact e⟩
theorem U0(h:Sup F b){f:Nat}{o:Oper}{ρ:Operand→V}{g:Rd}{hp:List O}{x:Out}(e:fD C b f o ρ g hp=some x):∃k,fD C (F k) f o ρ g hp=some x:=by
 obtain⟨dst,op,ty,pos,after,guard⟩:=o;cases op
 case call c=>
  obtain⟨callee,args,ats⟩:=c;cases callee
  case value fn=>
   simp only[fD,eH,cond_false]at e ⊢;split at e
   ·rename_i h1;split at e
    ·rename_i h2;exact yP h e
    ·cases e
   ·cases e
  case invoke r n=>
   simp only[fD,eH,cond_false]at e ⊢;split at e
   ·rename_i h1 h2;split at e
    ·rename_i h3;exact yP h e
    ·cases e
   ·cases e
  case builtin bb=>cases bb<;>exact⟨0,e⟩
 all_goals exact⟨0,e⟩
theorem Ed(h:Sup F b){f:Nat}{o:Oper}{s:St}{x}(e:fE C b f o s=some x):∃k,fE C (F k) f o s=some x:=by
 unfold fE at e;split at e
 ·rename_i h1;obtain⟨k,hk⟩:=U0 h h1;exact⟨k,by unfold fE;rw[hk];exact e⟩
 ·cases e
theorem PI(h:Sup F b){f:Nat}{all:List Oper}:∀{l:List Oper} {s:St} {x},bg C b f all l s=some x→∃k,bg C (F k) f all l s=some x:=by
 intro l;induction l with
 |nil=>intro s x e;exact⟨0,e⟩| cons o l ih =>
  intro s x e;unfold bg at e;split at e
  ·rename_i hw;split at e
   ·rename_i h1;split at e
    ·rename_i h2;obtain⟨k1,hk1⟩:=Ed h h1;obtain⟨k2,hk2⟩:=ih h2;refine⟨max k1 k2,?_⟩;unfold bg;rw[hw,vK (h.le _ _ (Nat.le_max_left k1 k2)) hk1];simp only[yN (h.le _ _ (Nat.le_max_right k1 k2)) hk2];exact e
    ·cases e
   ·rename_i y s1 fp1 h1 h2;obtain⟨k1,hk1⟩:=Ed h h2;refine⟨k1,?_⟩;unfold bg;rw[hw,hk1];cases e;cases y<;>first|rfl|exact(h1 rfl).elim
   ·cases e
  ·rename_i hw;split at e
   ·rename_i h2;obtain⟨k2,hk2⟩:=ih h2;refine⟨k2,?_⟩;unfold bg;rw[hw];simp only[hk2];exact e
   ·cases e
  ·cases e
theorem AZ(h:Sup F b):∀{k:Nat} {f:FuncId} {c:Code} {s:St} {x},exec C b k f c s=some x→∃j,exec C (F j) k f c s=some x:=by
 intro k;induction k with
 |zero=>intro f c s x e;cases e| succ k ih =>
  intro f c s x e;cases c with
  |skip=>exact⟨0,e⟩|label=>exact⟨0,e⟩| region id ops dr =>
   simp only[exec]at e;cases h1:bg C b f ops.toList ops.toList s with
   |none=>simp only[h1]at e;cases e|some r=>obtain⟨j,hj⟩:=PI h h1;refine⟨j,?_⟩;simp only[exec];rw[hj];simp only[h1]at e;exact e
  | seq p q =>
   simp only[exec]at e;cases h1:exec C b k f p s with
   |none=>simp only[h1]at e;cases e| some r =>
    obtain⟨y,s1⟩:=r;obtain⟨j1,hj1⟩:=ih h1;simp only[h1]at e;cases y with
    |normal=>obtain⟨j2,hj2⟩:=ih e;refine⟨max j1 j2,?_⟩;simp only[exec];rw[dR (h.le _ _ (Nat.le_max_left j1 j2)) (Nat.le_refl k) hj1];exact dR (h.le _ _ (Nat.le_max_right j1 j2)) (Nat.le_refl k) hj2
    |exit=>exact⟨j1,by simp only[exec];rw[hj1];exact e⟩|ret=>exact⟨j1,by simp only[exec];rw[hj1];exact e⟩|pan=>exact⟨j1,by simp only[exec];rw[hj1];exact e⟩
  | cond t p q =>
   simp only[exec]at e ⊢;split at e
   ·rename_i bb h1;cases bb with
    |true=>exact ih e|false=>exact ih e
   ·cases e
  |block id p=>
   simp only[exec]at e;cases h1:exec C b k f p s with
   |none=>simp only[h1]at e;cases e|some r=>obtain⟨j,hj⟩:=ih h1;exact⟨j,by simp only[exec];rw[hj];simp only[h1]at e;exact e⟩
  | loop p =>
   simp only[exec]at e;cases h1:exec C b k f p s with
   |none=>simp only[h1]at e;cases e| some r =>
    obtain⟨y,s1⟩:=r;obtain⟨j1,hj1⟩:=ih h1;simp only[h1]at e;cases y with
    |normal=>obtain⟨j2,hj2⟩:=ih e;refine⟨max j1 j2,?_⟩;simp only[exec];rw[dR (h.le _ _ (Nat.le_max_left j1 j2)) (Nat.le_refl k) hj1];exact dR (h.le _ _ (Nat.le_max_right j1 j2)) (Nat.le_refl k) hj2
    |exit=>exact⟨j1,by simp only[exec];rw[hj1];exact e⟩|ret=>exact⟨j1,by simp only[exec];rw[hj1];exact e⟩|pan=>exact⟨j1,by simp only[exec];rw[hj1];exact e⟩
  |scope p=>simp only[exec]at e ⊢;exact ih e|exit=>exact⟨0,e⟩|ret=>exact⟨0,e⟩| rangeFunc g ps p q =>
   simp only[exec]at e;cases h0:inLoop s.rnd s.m.hp with
   |false=>simp only[h0]at e;cases e| true =>
    simp only[h0,cond_true]at e;split at e
    ·rename_i h1;split at e
     ·rename_i h2;obtain⟨j,hj⟩:=h.get _ _ _ _ _ h2;refine⟨j,?_⟩;simp only[exec,h0,cond_true,h1,hj];exact e
     ·cases e
    ·cases e
  |goto=>simp only[exec]at e;cases e|refuse=>simp only[exec]at e;cases e
theorem UI(h:Sup F b){fn:Func}{frz:Nat}:∀{ds:List DR} {pv:Option V} {s:St} {x},leave C b fn frz ds pv s=some x→∃j,leave C (F j) fn frz ds pv s=some x:=by
 intro ds;induction ds with
 |nil=>intro pv s x e;cases pv<;>exact⟨0,e⟩| cons d ds ih =>
  intro pv s x e;unfold leave at e;split at e
  ·rename_i h1;obtain⟨j1,hj1⟩:=h.get _ _ _ _ _ h1;obtain⟨j2,hj2⟩:=ih e;refine⟨max j1 j2,?_⟩;unfold leave;rw[h.le _ _ (Nat.le_max_left j1 j2) _ _ _ _ _ hj1];exact mQ (h.le _ _ (Nat.le_max_right j1 j2)) hj2
  ·cases e
theorem Tt(h:Sup F b){k:Nat}{g:FuncId}{fn:Func}{c:Code}{vs:List V}{rc:Option (Option V)}{hp:List O}{x}(e:ng C b k g fn c vs rc hp=some x):∃j,ng C (F j) k g fn c vs rc hp=some x:=by
 have key:∀{y:X} {s:St} {ds:List DR} {pv:Option V},exec C b k g c {tm:=lJ vs 0,m:={ob:=[],hp:=hp,wl:=0},df:=[],rc:=rc}=some (y,s)→leave C b fn (C.frz g) ds pv s=some x→
   ∃j,exec C (F j) k g c {tm:=lJ vs 0,m:={ob:=[],hp:=hp,wl:=0},df:=[],rc:=rc}=some (y,s)∧leave C (F j) fn (C.frz g) ds pv s=some x:=by
  intro y s ds pv h1 h2;obtain⟨j1,hj1⟩:=AZ h h1;obtain⟨j2,hj2⟩:=UI h h2;exact⟨max j1 j2,dR (h.le _ _ (Nat.le_max_left j1 j2)) (Nat.le_refl k) hj1,mQ (h.le _ _ (Nat.le_max_right j1 j2)) hj2⟩
 unfold ng at e;split at e
 ·rename_i h1;obtain⟨j,h2,h3⟩:=key h1 e;exact⟨j,by unfold ng;rw[h2];exact h3⟩
 ·rename_i h1;obtain⟨j,h2,h3⟩:=key h1 e;exact⟨j,by unfold ng;rw[h2];exact h3⟩
 ·rename_i h1;obtain⟨j,h2,h3⟩:=key h1 e;exact⟨j,by unfold ng;rw[h2];exact h3⟩
 ·cases e
theorem L9(h:Sup F b){k l:Nat}{args:List V}{hp:List O}{x}(e:nP C b k l args hp=some x):∃j,nP C (F j) k l args hp=some x:=by
 unfold nP at e;split at e
 ·rename_i fi tmi obi psi ai bi hq;cases hl:args.length==psi.length with
  |false=>rw[hl]at e;cases e| true =>
   rw[hl]at e;simp only[cond_true]at e;split at e
   ·rename_i h1;obtain⟨j1,hj1⟩:=AZ h h1;split at e
    ·rename_i hr;split at e
     ·rename_i h3;obtain⟨j2,hj2⟩:=AZ h h3;refine⟨max j1 j2,?_⟩;unfold nP;simp only[hq,hl,cond_true];rw[dR (h.le _ _ (Nat.le_max_left j1 j2)) (Nat.le_refl k) hj1];simp only[hr];rw[dR (h.le _ _ (Nat.le_max_right j1 j2)) (Nat.le_refl k) hj2];exact e
     ·cases e
    ·cases e
   ·cases e
 ·cases e
noncomputable section
open Classical in
def ah(C:aY):bK:=fun g args rc hp=>if h:∃r k,bV C k g args rc hp=some r then some h.choose else none
theorem mF{g:V}{args:List V}{rc:Option (Option V)}{hp:List O}{r:CR×Bool×List O×Nat}:ah C g args rc hp=some r↔∃k,bV C k g args rc hp=some r:=by
 unfold ah;constructor
 ·intro h;split at h
  ·rename_i h1;cases h;exact h1.choose_spec
  ·cases h
 ·rintro⟨k,hk⟩;have h1:∃r k,bV C k g args rc hp=some r:=⟨r,k,hk⟩
  rw[dif_pos h1];obtain⟨j,hj⟩:=h1.choose_spec;have h2:=sG (Nat.le_max_left j k) _ _ _ _ _ hj;have h3:=sG (Nat.le_max_right j k) _ _ _ _ _ hk;rw[h2]at h3;exact h3
theorem Ei(C:aY):Sup (bV C) (ah C):=⟨fun _ _ h=>sG h,fun _ _ _ _ _ h=>mF.1 h⟩
theorem Eg(C:aY)(k:Nat):iV (bV C k) (ah C):=fun _ _ _ _ _ h=>mF.2 ⟨k,h⟩
open Classical in
def aj(C:aY)(f:FuncId)(c:Code)(s:St):Option (X×St):=if h:∃r k,exec C (ah C) k f c s=some r then some h.choose else none
theorem bZ{f:FuncId}{c:Code}{s:St}{r:X×St}:aj C f c s=some r↔∃k,exec C (ah C) k f c s=some r:=by
 unfold aj;constructor
 ·intro h;split at h
  ·rename_i h1;cases h;exact h1.choose_spec
  ·cases h
 ·rintro⟨k,hk⟩;have h1:∃r k,exec C (ah C) k f c s=some r:=⟨r,k,hk⟩
  rw[dif_pos h1];obtain⟨j,hj⟩:=h1.choose_spec;have h2:=dR (.refl _) (Nat.le_max_left j k) hj;have h3:=dR (.refl _) (Nat.le_max_right j k) hk;rw[h2]at h3;exact h3
theorem oJ{f:FuncId}{c:Code}{s:St}{r:X×St}(h:aj C f c s=some r):∃k,∀j,k≤j→exec C (ah C) j f c s=some r:=by obtain⟨k,hk⟩:=bZ.1 h;exact⟨k,fun j hj=>dR (.refl _) hj hk⟩
theorem tH{α:Type}{a b:Option α}(h:∀r,a=some r↔b=some r):a=b:=by
 cases a with
 |none=>cases b with
  |none=>rfl|some x=>exact absurd ((h x).2 rfl) (by simp)
 |some x=>exact((h x).1 rfl).symm
theorem mZ{f:FuncId}{c:Code}{s:St}{r:Option (X×St)}(h:∀k,exec C (ah C) (k+1) f c s=r):aj C f c s=r:=by
 apply tH;intro x;rw[bZ];constructor
 ·rintro⟨k,hk⟩;cases k with
  |zero=>cases hk|succ k=>rw[←h k];exact hk
 ·intro hr;exact⟨1,(h 0).trans hr⟩
theorem N8{f:FuncId}{s:St}:aj C f .skip s=some (.normal,s):=mZ fun _=>rfl
theorem Ju{f:FuncId}{l:Nat}{s:St}:aj C f (.label l) s=some (.normal,s):=mZ fun _=>rfl
theorem Nb{f:FuncId}{l:Nat}{s:St}:aj C f (.exit l) s=some (.exit l,s):=mZ fun _=>rfl
theorem EF{f:FuncId}{s:St}:aj C f .ret s=some (.ret,s):=mZ fun _=>rfl
theorem oZ{f:FuncId}{id:Nat}{ops:Array Oper}{dr:Bool}{s:St}:aj C f (.region id ops dr) s =
  match bg C (ah C) f ops.toList ops.toList s with
  |some (.normal,s',fps)=>bif !dr || jK s.m.hp.length fps (C.pairs f id)then some (.normal,{s' with tm:=cO (C.keep f id) s'.tm})else none
  |some (x,s',_)=>bif !dr then some (x,s')else none|none=>none:=mZ fun _=>by
   simp only[exec];cases bg C (ah C) f ops.toList ops.toList s with
   |none=>rfl|some r=>obtain⟨y,s1,fp⟩:=r;cases y<;>rfl
def andThen(f:St→Option (X×St)):Option (X×St)→Option (X×St)
 |some (.normal,s)=>f s|r=>r
theorem mr{f:FuncId}{p q:Code}{s:St}:aj C f (.seq p q) s=andThen (aj C f q) (aj C f p s):=by
 apply tH;intro x;rw[bZ];constructor
 ·rintro⟨k,hk⟩;cases k with
  |zero=>cases hk| succ k =>
   simp only[exec]at hk;cases h1:exec C (ah C) k f p s with
   |none=>simp only[h1]at hk;cases hk|some r=>
    obtain⟨y,s1⟩:=r;rw[bZ.2 ⟨k,h1⟩];simp only[h1]at hk;cases y with
    |normal=>exact bZ.2 ⟨k,hk⟩|_=>exact hk
 ·intro h;cases h1:aj C f p s with
  |none=>rw[h1]at h;cases h| some r =>
   obtain⟨y,s1⟩:=r;obtain⟨k1,hk1⟩:=oJ h1;rw[h1]at h;cases y with
   |normal=>obtain⟨k2,hk2⟩:=oJ (show aj C f q s1=some x from h);refine⟨max k1 k2+1,?_⟩;simp only[exec];rw[hk1 _ (Nat.le_max_left k1 k2)];exact hk2 _ (Nat.le_max_right k1 k2)
   |_=>exact⟨k1+1,by simp only[exec];rw[hk1 _ (Nat.le_refl _)];exact h⟩
theorem af{f:FuncId}{p:Code}{s:St}:aj C f (.loop p) s=andThen (aj C f (.loop p)) (aj C f p s):=by
 apply tH;intro x;rw[bZ];constructor
 ·rintro⟨k,hk⟩;cases k with
  |zero=>cases hk| succ k =>
   simp only[exec]at hk;cases h1:exec C (ah C) k f p s with
   |none=>simp only[h1]at hk;cases hk|some r=>
    obtain⟨y,s1⟩:=r;rw[bZ.2 ⟨k,h1⟩];simp only[h1]at hk;cases y with
    |normal=>exact bZ.2 ⟨k,hk⟩|_=>exact hk
 ·intro h;cases h1:aj C f p s with
  |none=>rw[h1]at h;cases h| some r =>
   obtain⟨y,s1⟩:=r;obtain⟨k1,hk1⟩:=oJ h1;rw[h1]at h;cases y with
   |normal=>obtain⟨k2,hk2⟩:=oJ (show aj C f (.loop p) s1=some x from h);refine⟨max k1 k2+1,?_⟩;simp only[exec];rw[hk1 _ (Nat.le_max_left k1 k2)];exact hk2 _ (Nat.le_max_right k1 k2)
   |_=>exact⟨k1+1,by simp only[exec];rw[hk1 _ (Nat.le_refl _)];exact h⟩
theorem BR{f:FuncId}{c d:Code}{s t:St}{g:Option (X×St)→Option (X×St)}(hg:g none=none)(h:∀k,exec C (ah C) (k+1) f c s=g (exec C (ah C) k f d t)):aj C f c s=g (aj C f d t):=by
 apply tH;intro x;rw[bZ];constructor
 ·rintro⟨k,hk⟩;cases k with
  |zero=>cases hk|succ k=>
   rw[h]at hk;cases h1:exec C (ah C) k f d t with
   |none=>rw[h1,hg]at hk;cases hk|some r=>rw[bZ.2 ⟨k,h1⟩];rw[h1]at hk;exact hk
 ·intro h2;cases h1:aj C f d t with
  |none=>rw[h1,hg]at h2;cases h2|some r=>obtain⟨k,hk⟩:=bZ.1 h1;refine⟨k+1,?_⟩;rw[h,hk];rw[h1]at h2;exact h2
theorem JF{f:FuncId}{p:Code}{s:St}:aj C f (.scope p) s=aj C f p s:=BR (g:=id) rfl fun _=>by simp only[exec,id]
def outOf(id:Nat):Option (X×St)→Option (X×St)
 |some (.exit j,s)=>bif j==id then some (.normal,s)else some (.exit j,s)|r=>r
theorem jB{f:FuncId}{id:Nat}{p:Code}{s:St}:aj C f (.block id p) s=outOf id (aj C f p s):=BR rfl fun k=>by
 simp only[exec];cases exec C (ah C) k f p s with
 |none=>rfl|some r=>obtain⟨y,s1⟩:=r;cases y<;>rfl
theorem uJ{f:FuncId}{t:Operand}{p q:Code}{s:St}{v:Bool}(h:bJ C s t=.d (.bool v)):aj C f (.cond t p q) s=aj C f (bif v then p else q) s:=BR (g:=id) rfl fun k=>by simp only[exec,h,id];cases v<;>rfl
def iQ(s:St)(l:Nat):Option (CR×Bool×List O×Nat)→Option (X×St)
 |some (.ret _,_,hp,wl)=>
  match hp[l]? with
  |some (.loop .ready none ..)=>some (.normal,{s with m:={s.m with hp:=hp.set l .dead,wl:=s.m.wl ||| wl} })|some (.loop .done (some .ret) ..)=>some (.ret,{s with m:={s.m with hp:=hp.set l .dead,wl:=s.m.wl ||| wl} })|some (.loop .done (some (.exit id)) ..)=>some (.exit id,{s with m:={s.m with hp:=hp.set l .dead,wl:=s.m.wl ||| wl} })|_=>none
 |_=>none
theorem kV{f:FuncId}{g:Operand}{ps:Array Tmp}{p q:Code}{s:St}{gf:FuncId}{ga gb:List V}(h0:inLoop s.rnd s.m.hp=true)(h:bH 4 s.m.get (bJ C s g)=some (.fn (.func gf) ga gb,[])) :
  aj C f (.rangeFunc g ps p q) s=iQ s s.m.hp.length (ah C (.fn (.func gf) ga gb) [.fn (.yield s.m.hp.length) [] []] none (s.m.hp++[.loop .ready none f (vN s.m.ob s.tm) (uf s.m.ob) ps.toList p q])):=
 mZ fun _=>by
  simp only[exec,h0,cond_true,h];unfold iQ;cases ah C (.fn (.func gf) ga gb) [.fn (.yield s.m.hp.length) [] []] none (s.m.hp++[.loop .ready none f (vN s.m.ob s.tm) (uf s.m.ob) ps.toList p q])with
  |none=>rfl|some r=>obtain⟨y,r1,r2,r3⟩:=r;cases y<;>rfl
def JV(C:aY)(g:FuncId)(fn:Func)(c:Code)(vs:List V)(rc:Option (Option V))(hp:List O):Option (CR×St):=
 match aj C g c {tm:=lJ vs 0,m:={ob:=[],hp:=hp,wl:=0},df:=[],rc:=rc}with
 |some (.normal,s)=>leave C (ah C) fn (C.frz g) s.df none s|some (.ret,s)=>leave C (ah C) fn (C.frz g) s.df none s|some (.pan v,s)=>leave C (ah C) fn (C.frz g) s.df (some v) s|_=>none
theorem EI{g:FuncId}{fn:Func}{c:Code}{vs:List V}{rc:Option (Option V)}{hp:List O}{r:CR×St}:JV C g fn c vs rc hp=some r↔∃k,ng C (ah C) k g fn c vs rc hp=some r:=by
 unfold JV ng;constructor
 ·intro h;split at h
  ·rename_i h1;obtain⟨k,hk⟩:=bZ.1 h1;exact⟨k,by rw[hk];exact h⟩
  ·rename_i h1;obtain⟨k,hk⟩:=bZ.1 h1;exact⟨k,by rw[hk];exact h⟩
  ·rename_i h1;obtain⟨k,hk⟩:=bZ.1 h1;exact⟨k,by rw[hk];exact h⟩
  ·cases h
 ·rintro⟨k,h⟩;split at h
  ·rename_i h1;rw[bZ.2 ⟨k,h1⟩];exact h
  ·rename_i h1;rw[bZ.2 ⟨k,h1⟩];exact h
  ·rename_i h1;rw[bZ.2 ⟨k,h1⟩];exact h
  ·cases h
theorem NM{g:FuncId}{fn:Func}{c:Code}(ho:C.orc g=none)(hf:C.P.funcs[g]?=some fn)(hc:fn.body=some c)(first caps args:List V)(rc:Option (Option V))(hp:List O) :
  ah C (.fn (.func g) first caps) args rc hp=Td (JV C g fn c (first++args++caps) rc hp):=by
 apply tH;intro r;rw[mF];constructor
 ·rintro⟨k,hk⟩;cases k with
  |zero=>cases hk|succ k=>
   rw[uT ho hf hc]at hk;cases h1:ng C (bV C k) k g fn c (first++args++caps) rc hp with
   |none=>rw[h1]at hk;cases hk|some x=>rw[EI.2 ⟨k,uX (Eg C k) (Nat.le_refl k) h1⟩];rw[h1]at hk;exact hk
 ·intro h;cases h1:JV C g fn c (first++args++caps) rc hp with
  |none=>rw[h1]at h;cases h|some x=>obtain⟨k,hk⟩:=EI.1 h1;obtain⟨j,hj⟩:=Tt (Ei C) hk;refine⟨max j k+1,?_⟩;rw[uT ho hf hc,uX (sG (Nat.le_max_left j k)) (Nat.le_max_right j k) hj];rw[h1]at h;exact h
theorem aF{g:FuncId}{h:List V→List O→Option (CR×List O×Nat)}(ho:C.orc g=some h)(first caps args:List V)(hp:List O){r:CR}{hp':List O}{wl:Nat}(e:h (first++args++caps) hp=some (r,hp',wl)) :
  ah C (.fn (.func g) first caps) args none hp=some (r,false,hp',wl):=mF.2 ⟨1,by simp only[bV,ho,e]⟩
def gJ (C:aY) (l:Nat) (args:List V) (hp:List O):Option (CR × Bool × List O × Nat):=match hp[l]? with
 | some (.loop .ready none f tm ob ps a b) =>
  bif args.length==ps.length then
   match aj C f a {tm:=insL ps args tm,m:={ob:=ob,hp:=hp,wl:=0},df:=[],rnd:=some l}with
   | some (.normal,s) =>
    match s.m.hp[l]? with
    |some (.loop .ready none f1 tm1 ob1 ps1 a1 b1)=>
     match aj C f b {s with m:={s.m with hp:=s.m.hp.set l (.loop .busy none f1 tm1 ob1 ps1 a1 b1),wl:=s.m.wl ||| (1 <<< l)} }with
     |some (x,s)=>oL l x s|none=>none
    |_=>none
   |_=>none
  else none
 |_=>none
theorem PE{l:Nat}{args:List V}{hp:List O}{r:CR×Bool×List O×Nat}:gJ C l args hp=some r↔∃k,nP C (ah C) k l args hp=some r:=by
 unfold gJ nP;constructor
 ·intro h;split at h
  ·rename_i fi tmi obi psi ai bi hq;cases hl:args.length==psi.length with
   |false=>rw[hl]at h;cases h| true =>
    rw[hl]at h;simp only[cond_true]at h ⊢;split at h
    ·rename_i h1;obtain⟨k1,hk1⟩:=oJ h1;split at h
     ·rename_i hr;split at h
      ·rename_i h2;obtain⟨k2,hk2⟩:=oJ h2;refine⟨max k1 k2,?_⟩;simp only[hq,hl,cond_true];rw[hk1 _ (Nat.le_max_left k1 k2)];simp only[hr];rw[hk2 _ (Nat.le_max_right k1 k2)];exact h
      ·cases h
     ·cases h
    ·cases h
  ·cases h
 ·rintro⟨k,h⟩;split at h
  ·rename_i fi tmi obi psi ai bi hq;cases hl:args.length==psi.length with
   |false=>rw[hl]at h;cases h| true =>
    rw[hl]at h;simp only[cond_true]at h ⊢;split at h
    ·rename_i h1;simp only[hq,hl,cond_true];rw[bZ.2 ⟨k,h1⟩];split at h
     ·rename_i hr;simp only[hr];split at h
      ·rename_i h2;rw[bZ.2 ⟨k,h2⟩];exact h
      ·cases h
     ·cases h
    ·cases h
  ·cases h
theorem bP(l:Nat)(first caps args:List V)(rc:Option (Option V))(hp:List O):ah C (.fn (.yield l) first caps) args rc hp=gJ C l args hp:=by
 apply tH;intro r;rw[mF,PE];constructor
 ·rintro⟨k,hk⟩;cases k with
  |zero=>cases hk|succ k=>rw[rC]at hk;exact⟨k,sH (Eg C k) (Nat.le_refl k) hk⟩
 ·rintro⟨k,hk⟩;obtain⟨j,hj⟩:=L9 (Ei C) hk;exact⟨max j k+1,by rw[rC];exact sH (sG (Nat.le_max_left j k)) (Nat.le_max_right j k) hj⟩
end
end Mw
