/- DependLevels answers true for every list of numbers: its tied card holds; no condition beyond the card's own. -/
import Derived.Test.YtdjnccgeajpegaaGreatDoorKa
set_option linter.unusedVariables false
set_option linter.unusedSimpArgs false
namespace Mw
open Go
structure Sup (F:Nat→CallF) (b:CallF):Prop where
 le:∀ j k,j≤k→CallLe (F j) (F k)
 get:∀ g args rc hp r,b g args rc hp=some r→∃ k,F k g args rc hp=some r
variable {C:Cfg} {F:Nat→CallF} {b:CallF}
theorem callOut_cpt (h:Sup F b) {fn:V} {vs:List V} {hp:List O} {ss:List (Loc × O)} {x:Out} (e:callOut ss (b fn vs none hp)=some x):∃ k,callOut ss (F k fn vs none hp)=some x:=by
 cases hb:b fn vs none hp with
 | none=>rw [hb] at e; cases e
 | some r=>obtain ⟨k,hk⟩:=h.get _ _ _ _ _ hb; exact ⟨k,by rw [hk]; rw [hb] at e; exact e⟩
theorem opOut_cpt (h:Sup F b) {f:Nat} {o:Oper} {ρ:Operand→V} {g:Rd} {hp:List O} {x:Out} (e:opOut C b f o ρ g hp=some x):∃ k,opOut C (F k) f o ρ g hp=some x:=by
 obtain ⟨dst,op,ty,pos,after,guard⟩:=o
 cases op
 case call c =>
  obtain ⟨callee,args,ats⟩:=c
  cases callee
  case value fn =>
   simp only [opOut,isPure,cond_false] at e ⊢
   split at e
   ·rename_i h1
    split at e
    ·rename_i h2
     exact callOut_cpt h e
    ·cases e
   ·cases e
  case invoke r n =>
   simp only [opOut,isPure,cond_false] at e ⊢
   split at e
   ·rename_i h1 h2
    split at e
    ·rename_i h3
     exact callOut_cpt h e
    ·cases e
   ·cases e
  case builtin bb=>cases bb<;>exact ⟨0,e⟩
 all_goals exact ⟨0,e⟩
theorem opRun_cpt (h:Sup F b) {f:Nat} {o:Oper} {s:St} {x} (e:opRun C b f o s=some x):∃ k,opRun C (F k) f o s=some x:=by
 unfold opRun at e
 split at e
 ·rename_i h1
  obtain ⟨k,hk⟩:=opOut_cpt h h1
  exact ⟨k,by unfold opRun; rw [hk]; exact e⟩
 ·cases e
theorem opsRun_cpt (h:Sup F b) {f:Nat} {all:List Oper}:∀ {l:List Oper} {s:St} {x},opsRun C b f all l s=some x→∃ k,opsRun C (F k) f all l s=some x:=by
 intro l
 induction l with
 | nil=>intro s x e; exact ⟨0,e⟩
 | cons o l ih =>
  intro s x e
  unfold opsRun at e
  split at e
  ·rename_i hw
   split at e
   ·rename_i h1
    split at e
    ·rename_i h2
     obtain ⟨k1,hk1⟩:=opRun_cpt h h1
     obtain ⟨k2,hk2⟩:=ih h2
     refine ⟨max k1 k2,?_⟩
     unfold opsRun
     rw [hw,opRun_mono (h.le _ _ (Nat.le_max_left k1 k2)) hk1]
     simp only [opsRun_mono (h.le _ _ (Nat.le_max_right k1 k2)) hk2]
     exact e
    ·cases e
   ·rename_i y s1 fp1 h1 h2
    obtain ⟨k1,hk1⟩:=opRun_cpt h h2
    refine ⟨k1,?_⟩
    unfold opsRun
    rw [hw,hk1]
    cases e
    cases y<;>first | rfl | exact (h1 rfl).elim
   ·cases e
  ·rename_i hw
   split at e
   ·rename_i h2
    obtain ⟨k2,hk2⟩:=ih h2
    refine ⟨k2,?_⟩
    unfold opsRun
    rw [hw]
    simp only [hk2]
    exact e
   ·cases e
  ·cases e
theorem exec_cpt (h:Sup F b):∀ {k:Nat} {f:FuncId} {c:Code} {s:St} {x},exec C b k f c s=some x→∃ j,exec C (F j) k f c s=some x:=by
 intro k
 induction k with
 | zero=>intro f c s x e; cases e
 | succ k ih =>
  intro f c s x e
  cases c with
  | skip=>exact ⟨0,e⟩
  | label=>exact ⟨0,e⟩
  | region id ops dr =>
   simp only [exec] at e
   cases h1:opsRun C b f ops.toList ops.toList s with
   | none=>simp only [h1] at e; cases e
   | some r =>
    obtain ⟨j,hj⟩:=opsRun_cpt h h1
    refine ⟨j,?_⟩
    simp only [exec]
    rw [hj]; simp only [h1] at e; exact e
  | seq p q =>
   simp only [exec] at e
   cases h1:exec C b k f p s with
   | none=>simp only [h1] at e; cases e
   | some r =>
    obtain ⟨y,s1⟩:=r
    obtain ⟨j1,hj1⟩:=ih h1
    simp only [h1] at e
    cases y with
    | normal =>
     obtain ⟨j2,hj2⟩:=ih e
     refine ⟨max j1 j2,?_⟩
     simp only [exec]
     rw [exec_mono (h.le _ _ (Nat.le_max_left j1 j2)) (Nat.le_refl k) hj1]
     exact exec_mono (h.le _ _ (Nat.le_max_right j1 j2)) (Nat.le_refl k) hj2
    | exit=>exact ⟨j1,by simp only [exec]; rw [hj1]; exact e⟩
    | ret=>exact ⟨j1,by simp only [exec]; rw [hj1]; exact e⟩
    | pan=>exact ⟨j1,by simp only [exec]; rw [hj1]; exact e⟩
  | cond t p q =>
   simp only [exec] at e ⊢
   split at e
   ·rename_i bb h1
    cases bb with
    | true=>exact ih e
    | false=>exact ih e
   ·cases e
  | block id p =>
   simp only [exec] at e
   cases h1:exec C b k f p s with
   | none=>simp only [h1] at e; cases e
   | some r=>obtain ⟨j,hj⟩:=ih h1; exact ⟨j,by simp only [exec]; rw [hj]; simp only [h1] at e; exact e⟩
  | loop p =>
   simp only [exec] at e
   cases h1:exec C b k f p s with
   | none=>simp only [h1] at e; cases e
   | some r =>
    obtain ⟨y,s1⟩:=r
    obtain ⟨j1,hj1⟩:=ih h1
    simp only [h1] at e
    cases y with
    | normal =>
     obtain ⟨j2,hj2⟩:=ih e
     refine ⟨max j1 j2,?_⟩
     simp only [exec]
     rw [exec_mono (h.le _ _ (Nat.le_max_left j1 j2)) (Nat.le_refl k) hj1]
     exact exec_mono (h.le _ _ (Nat.le_max_right j1 j2)) (Nat.le_refl k) hj2
    | exit=>exact ⟨j1,by simp only [exec]; rw [hj1]; exact e⟩
    | ret=>exact ⟨j1,by simp only [exec]; rw [hj1]; exact e⟩
    | pan=>exact ⟨j1,by simp only [exec]; rw [hj1]; exact e⟩
  | scope p=>simp only [exec] at e ⊢; exact ih e
  | exit=>exact ⟨0,e⟩
  | ret=>exact ⟨0,e⟩
  | rangeFunc g ps p q =>
   simp only [exec] at e
   cases h0:inLoop s.rnd s.m.hp with
   | false=>simp only [h0] at e; cases e
   | true =>
    simp only [h0,cond_true] at e
    split at e
    ·rename_i h1
     split at e
     ·rename_i h2
      obtain ⟨j,hj⟩:=h.get _ _ _ _ _ h2
      refine ⟨j,?_⟩
      simp only [exec,h0,cond_true,h1,hj]
      exact e
     ·cases e
    ·cases e
  | goto=>simp only [exec] at e; cases e
  | refuse=>simp only [exec] at e; cases e
theorem leave_cpt (h:Sup F b) {fn:Func} {frz:Nat}:∀ {ds:List Dfr} {pv:Option V} {s:St} {x},leave C b fn frz ds pv s=some x→∃ j,leave C (F j) fn frz ds pv s=some x:=by
 intro ds
 induction ds with
 | nil=>intro pv s x e; cases pv<;>exact ⟨0,e⟩
 | cons d ds ih =>
  intro pv s x e
  unfold leave at e
  split at e
  ·rename_i h1
   obtain ⟨j1,hj1⟩:=h.get _ _ _ _ _ h1
   obtain ⟨j2,hj2⟩:=ih e
   refine ⟨max j1 j2,?_⟩
   unfold leave
   rw [h.le _ _ (Nat.le_max_left j1 j2) _ _ _ _ _ hj1]
   exact leave_mono (h.le _ _ (Nat.le_max_right j1 j2)) hj2
  ·cases e
theorem bodyR_cpt (h:Sup F b) {k:Nat} {g:FuncId} {fn:Func} {c:Code} {vs:List V} {rc:Option (Option V)} {hp:List O} {x} (e:bodyR C b k g fn c vs rc hp=some x):∃ j,bodyR C (F j) k g fn c vs rc hp=some x:=by
 have key:∀ {y:X} {s:St} {ds:List Dfr} {pv:Option V},exec C b k g c { tm:=zipI vs 0,m:={ ob:=[],hp:=hp,wl:=0 },df:=[],rc:=rc }=some (y,s)→leave C b fn (C.frz g) ds pv s=some x →
   ∃ j,exec C (F j) k g c { tm:=zipI vs 0,m:={ ob:=[],hp:=hp,wl:=0 },df:=[],rc:=rc }=some (y,s)∧leave C (F j) fn (C.frz g) ds pv s=some x:=by
  intro y s ds pv h1 h2
  obtain ⟨j1,hj1⟩:=exec_cpt h h1
  obtain ⟨j2,hj2⟩:=leave_cpt h h2
  exact ⟨max j1 j2,exec_mono (h.le _ _ (Nat.le_max_left j1 j2)) (Nat.le_refl k) hj1,leave_mono (h.le _ _ (Nat.le_max_right j1 j2)) hj2⟩
 unfold bodyR at e
 split at e
 ·rename_i h1; obtain ⟨j,h2,h3⟩:=key h1 e; exact ⟨j,by unfold bodyR; rw [h2]; exact h3⟩
 ·rename_i h1; obtain ⟨j,h2,h3⟩:=key h1 e; exact ⟨j,by unfold bodyR; rw [h2]; exact h3⟩
 ·rename_i h1; obtain ⟨j,h2,h3⟩:=key h1 e; exact ⟨j,by unfold bodyR; rw [h2]; exact h3⟩
 ·cases e
theorem roundR_cpt (h:Sup F b) {k l:Nat} {args:List V} {hp:List O} {x} (e:roundR C b k l args hp=some x):∃ j,roundR C (F j) k l args hp=some x:=by
 unfold roundR at e
 split at e
 ·rename_i fi tmi obi psi ai bi hq
  cases hl:args.length == psi.length with
  | false=>rw [hl] at e; cases e
  | true =>
   rw [hl] at e; simp only [cond_true] at e
   split at e
   ·rename_i h1
    obtain ⟨j1,hj1⟩:=exec_cpt h h1
    split at e
    ·rename_i hr
     split at e
     ·rename_i h3
      obtain ⟨j2,hj2⟩:=exec_cpt h h3
      refine ⟨max j1 j2,?_⟩
      unfold roundR
      simp only [hq,hl,cond_true]
      rw [exec_mono (h.le _ _ (Nat.le_max_left j1 j2)) (Nat.le_refl k) hj1]
      simp only [hr]
      rw [exec_mono (h.le _ _ (Nat.le_max_right j1 j2)) (Nat.le_refl k) hj2]
      exact e
     ·cases e
    ·cases e
   ·cases e
 ·cases e
noncomputable section
open Classical in
def callL (C:Cfg):CallF:=fun g args rc hp=>if h:∃ r k,callV C k g args rc hp=some r then some h.choose else none
theorem callL_iff {g:V} {args:List V} {rc:Option (Option V)} {hp:List O} {r:CR × Bool × List O × Nat}:callL C g args rc hp=some r↔∃ k,callV C k g args rc hp=some r:=by
 unfold callL
 constructor
 ·intro h
  split at h
  ·rename_i h1; cases h; exact h1.choose_spec
  ·cases h
 ·rintro ⟨k,hk⟩
  have h1:∃ r k,callV C k g args rc hp=some r:=⟨r,k,hk⟩
  rw [dif_pos h1]
  obtain ⟨j,hj⟩:=h1.choose_spec
  have h2:=callV_le (Nat.le_max_left j k) _ _ _ _ _ hj
  have h3:=callV_le (Nat.le_max_right j k) _ _ _ _ _ hk
  rw [h2] at h3
  exact h3
theorem callL_sup (C:Cfg):Sup (callV C) (callL C):=⟨fun _ _ h=>callV_le h,fun _ _ _ _ _ h=>callL_iff.1 h⟩
theorem callV_leL (C:Cfg) (k:Nat):CallLe (callV C k) (callL C):=fun _ _ _ _ _ h=>callL_iff.2 ⟨k,h⟩
open Classical in
def execL (C:Cfg) (f:FuncId) (c:Code) (s:St):Option (X × St):=if h:∃ r k,exec C (callL C) k f c s=some r then some h.choose else none
theorem execL_iff {f:FuncId} {c:Code} {s:St} {r:X × St}:execL C f c s=some r↔∃ k,exec C (callL C) k f c s=some r:=by
 unfold execL
 constructor
 ·intro h
  split at h
  ·rename_i h1; cases h; exact h1.choose_spec
  ·cases h
 ·rintro ⟨k,hk⟩
  have h1:∃ r k,exec C (callL C) k f c s=some r:=⟨r,k,hk⟩
  rw [dif_pos h1]
  obtain ⟨j,hj⟩:=h1.choose_spec
  have h2:=exec_mono (.refl _) (Nat.le_max_left j k) hj
  have h3:=exec_mono (.refl _) (Nat.le_max_right j k) hk
  rw [h2] at h3
  exact h3
theorem execL_up {f:FuncId} {c:Code} {s:St} {r:X × St} (h:execL C f c s=some r):∃ k,∀ j,k≤j→exec C (callL C) j f c s=some r:=by
 obtain ⟨k,hk⟩:=execL_iff.1 h
 exact ⟨k,fun j hj=>exec_mono (.refl _) hj hk⟩
theorem opt_ext {α:Type} {a b:Option α} (h:∀ r,a=some r↔b=some r):a=b:=by
 cases a with
 | none=>cases b with
  | none=>rfl
  | some x=>exact absurd ((h x).2 rfl) (by simp)
 | some x=>exact ((h x).1 rfl).symm
theorem execL_of {f:FuncId} {c:Code} {s:St} {r:Option (X × St)} (h:∀ k,exec C (callL C) (k+1) f c s=r):execL C f c s=r:=by
 apply opt_ext
 intro x
 rw [execL_iff]
 constructor
 ·rintro ⟨k,hk⟩
  cases k with
  | zero=>cases hk
  | succ k=>rw [← h k]; exact hk
 ·intro hr; exact ⟨1,(h 0).trans hr⟩
theorem execL_skip {f:FuncId} {s:St}:execL C f .skip s=some (.normal,s):=execL_of fun _=>rfl
theorem execL_label {f:FuncId} {l:Nat} {s:St}:execL C f (.label l) s=some (.normal,s):=execL_of fun _=>rfl
theorem execL_exit {f:FuncId} {l:Nat} {s:St}:execL C f (.exit l) s=some (.exit l,s):=execL_of fun _=>rfl
theorem execL_ret {f:FuncId} {s:St}:execL C f .ret s=some (.ret,s):=execL_of fun _=>rfl
theorem execL_region {f:FuncId} {id:Nat} {ops:Array Oper} {dr:Bool} {s:St}:execL C f (.region id ops dr) s =
  match opsRun C (callL C) f ops.toList ops.toList s with
  | some (.normal,s',fps)=>bif !dr || pairsOk s.m.hp.length fps (C.pairs f id) then some (.normal,{ s' with tm:=keepMask (C.keep f id) s'.tm }) else none
  | some (x,s',_)=>bif !dr then some (x,s') else none
  | none=>none:=execL_of fun _=>by
   simp only [exec]
   cases opsRun C (callL C) f ops.toList ops.toList s with
   | none=>rfl
   | some r=>obtain ⟨y,s1,fp⟩:=r; cases y<;>rfl
def andThen (f:St→Option (X × St)):Option (X × St)→Option (X × St)
 | some (.normal,s)=>f s
 | r=>r
theorem execL_seq {f:FuncId} {p q:Code} {s:St}:execL C f (.seq p q) s=andThen (execL C f q) (execL C f p s):=by
 apply opt_ext
 intro x
 rw [execL_iff]
 constructor
 ·rintro ⟨k,hk⟩
  cases k with
  | zero=>cases hk
  | succ k =>
   simp only [exec] at hk
   cases h1:exec C (callL C) k f p s with
   | none=>simp only [h1] at hk; cases hk
   | some r =>
    obtain ⟨y,s1⟩:=r
    rw [execL_iff.2 ⟨k,h1⟩]
    simp only [h1] at hk
    cases y with
    | normal=>exact execL_iff.2 ⟨k,hk⟩
    | _=>exact hk
 ·intro h
  cases h1:execL C f p s with
  | none=>rw [h1] at h; cases h
  | some r =>
   obtain ⟨y,s1⟩:=r
   obtain ⟨k1,hk1⟩:=execL_up h1
   rw [h1] at h
   cases y with
   | normal =>
    obtain ⟨k2,hk2⟩:=execL_up (show execL C f q s1=some x from h)
    refine ⟨max k1 k2+1,?_⟩
    simp only [exec]
    rw [hk1 _ (Nat.le_max_left k1 k2)]
    exact hk2 _ (Nat.le_max_right k1 k2)
   | _=>exact ⟨k1+1,by simp only [exec]; rw [hk1 _ (Nat.le_refl _)]; exact h⟩
theorem execL_loop {f:FuncId} {p:Code} {s:St}:execL C f (.loop p) s=andThen (execL C f (.loop p)) (execL C f p s):=by
 apply opt_ext
 intro x
 rw [execL_iff]
 constructor
 ·rintro ⟨k,hk⟩
  cases k with
  | zero=>cases hk
  | succ k =>
   simp only [exec] at hk
   cases h1:exec C (callL C) k f p s with
   | none=>simp only [h1] at hk; cases hk
   | some r =>
    obtain ⟨y,s1⟩:=r
    rw [execL_iff.2 ⟨k,h1⟩]
    simp only [h1] at hk
    cases y with
    | normal=>exact execL_iff.2 ⟨k,hk⟩
    | _=>exact hk
 ·intro h
  cases h1:execL C f p s with
  | none=>rw [h1] at h; cases h
  | some r =>
   obtain ⟨y,s1⟩:=r
   obtain ⟨k1,hk1⟩:=execL_up h1
   rw [h1] at h
   cases y with
   | normal =>
    obtain ⟨k2,hk2⟩:=execL_up (show execL C f (.loop p) s1=some x from h)
    refine ⟨max k1 k2+1,?_⟩
    simp only [exec]
    rw [hk1 _ (Nat.le_max_left k1 k2)]
    exact hk2 _ (Nat.le_max_right k1 k2)
   | _=>exact ⟨k1+1,by simp only [exec]; rw [hk1 _ (Nat.le_refl _)]; exact h⟩
theorem execL_in {f:FuncId} {c d:Code} {s t:St} {g:Option (X × St)→Option (X × St)} (hg:g none=none) (h:∀ k,exec C (callL C) (k+1) f c s=g (exec C (callL C) k f d t)):execL C f c s=g (execL C f d t):=by
 apply opt_ext
 intro x
 rw [execL_iff]
 constructor
 ·rintro ⟨k,hk⟩
  cases k with
  | zero=>cases hk
  | succ k =>
   rw [h] at hk
   cases h1:exec C (callL C) k f d t with
   | none=>rw [h1,hg] at hk; cases hk
   | some r=>rw [execL_iff.2 ⟨k,h1⟩]; rw [h1] at hk; exact hk
 ·intro h2
  cases h1:execL C f d t with
  | none=>rw [h1,hg] at h2; cases h2
  | some r =>
   obtain ⟨k,hk⟩:=execL_iff.1 h1
   refine ⟨k+1,?_⟩
   rw [h,hk]
   rw [h1] at h2
   exact h2
theorem execL_scope {f:FuncId} {p:Code} {s:St}:execL C f (.scope p) s=execL C f p s:=execL_in (g:=id) rfl fun _=>by simp only [exec,id]
def outOf (id:Nat):Option (X × St)→Option (X × St)
 | some (.exit j,s)=>bif j == id then some (.normal,s) else some (.exit j,s)
 | r=>r
theorem execL_block {f:FuncId} {id:Nat} {p:Code} {s:St}:execL C f (.block id p) s=outOf id (execL C f p s):=execL_in rfl fun k=>by
 simp only [exec]
 cases exec C (callL C) k f p s with
 | none=>rfl
 | some r=>obtain ⟨y,s1⟩:=r; cases y<;>rfl
theorem execL_cond {f:FuncId} {t:Operand} {p q:Code} {s:St} {v:Bool} (h:evalV C s t=.d (.bool v)):execL C f (.cond t p q) s=execL C f (bif v then p else q) s:=execL_in (g:=id) rfl fun k=>by
 simp only [exec,h,id]
 cases v<;>rfl
def rangeR (s:St) (l:Nat):Option (CR × Bool × List O × Nat)→Option (X × St)
 | some (.ret _,_,hp,wl) =>
  match hp[l]? with
  | some (.loop .ready none ..)=>some (.normal,{ s with m:={ s.m with hp:=hp.set l .dead,wl:=s.m.wl ||| wl } })
  | some (.loop .done (some .ret) ..)=>some (.ret,{ s with m:={ s.m with hp:=hp.set l .dead,wl:=s.m.wl ||| wl } })
  | some (.loop .done (some (.exit id)) ..)=>some (.exit id,{ s with m:={ s.m with hp:=hp.set l .dead,wl:=s.m.wl ||| wl } })
  | _=>none
 | _=>none
theorem execL_range {f:FuncId} {g:Operand} {ps:Array Tmp} {p q:Code} {s:St} {gf:FuncId} {ga gb:List V} (h0:inLoop s.rnd s.m.hp=true) (h:expo 4 s.m.get (evalV C s g)=some (.fn (.func gf) ga gb,[])) :
  execL C f (.rangeFunc g ps p q) s=rangeR s s.m.hp.length (callL C (.fn (.func gf) ga gb) [.fn (.yield s.m.hp.length) [] []] none (s.m.hp++[.loop .ready none f (roT s.m.ob s.tm) (roL s.m.ob) ps.toList p q])) :=
 execL_of fun _=>by
  simp only [exec,h0,cond_true,h]
  unfold rangeR
  cases callL C (.fn (.func gf) ga gb) [.fn (.yield s.m.hp.length) [] []] none (s.m.hp++[.loop .ready none f (roT s.m.ob s.tm) (roL s.m.ob) ps.toList p q]) with
  | none=>rfl
  | some r=>obtain ⟨y,r1,r2,r3⟩:=r; cases y<;>rfl
def bodyL (C:Cfg) (g:FuncId) (fn:Func) (c:Code) (vs:List V) (rc:Option (Option V)) (hp:List O):Option (CR × St) :=
 match execL C g c { tm:=zipI vs 0,m:={ ob:=[],hp:=hp,wl:=0 },df:=[],rc:=rc } with
 | some (.normal,s)=>leave C (callL C) fn (C.frz g) s.df none s
 | some (.ret,s)=>leave C (callL C) fn (C.frz g) s.df none s
 | some (.pan v,s)=>leave C (callL C) fn (C.frz g) s.df (some v) s
 | _=>none
theorem bodyL_iff {g:FuncId} {fn:Func} {c:Code} {vs:List V} {rc:Option (Option V)} {hp:List O} {r:CR × St}:bodyL C g fn c vs rc hp=some r↔∃ k,bodyR C (callL C) k g fn c vs rc hp=some r:=by
 unfold bodyL bodyR
 constructor
 ·intro h
  split at h
  ·rename_i h1; obtain ⟨k,hk⟩:=execL_iff.1 h1; exact ⟨k,by rw [hk]; exact h⟩
  ·rename_i h1; obtain ⟨k,hk⟩:=execL_iff.1 h1; exact ⟨k,by rw [hk]; exact h⟩
  ·rename_i h1; obtain ⟨k,hk⟩:=execL_iff.1 h1; exact ⟨k,by rw [hk]; exact h⟩
  ·cases h
 ·rintro ⟨k,h⟩
  split at h
  ·rename_i h1; rw [execL_iff.2 ⟨k,h1⟩]; exact h
  ·rename_i h1; rw [execL_iff.2 ⟨k,h1⟩]; exact h
  ·rename_i h1; rw [execL_iff.2 ⟨k,h1⟩]; exact h
  ·cases h
theorem callL_func {g:FuncId} {fn:Func} {c:Code} (ho:C.orc g=none) (hf:C.P.funcs[g]?=some fn) (hc:fn.body=some c) (first caps args:List V) (rc:Option (Option V)) (hp:List O) :
  callL C (.fn (.func g) first caps) args rc hp=outR (bodyL C g fn c (first++args++caps) rc hp):=by
 apply opt_ext
 intro r
 rw [callL_iff]
 constructor
 ·rintro ⟨k,hk⟩
  cases k with
  | zero=>cases hk
  | succ k =>
   rw [callV_func ho hf hc] at hk
   cases h1:bodyR C (callV C k) k g fn c (first++args++caps) rc hp with
   | none=>rw [h1] at hk; cases hk
   | some x=>rw [bodyL_iff.2 ⟨k,bodyR_mono (callV_leL C k) (Nat.le_refl k) h1⟩]; rw [h1] at hk; exact hk
 ·intro h
  cases h1:bodyL C g fn c (first++args++caps) rc hp with
  | none=>rw [h1] at h; cases h
  | some x =>
   obtain ⟨k,hk⟩:=bodyL_iff.1 h1
   obtain ⟨j,hj⟩:=bodyR_cpt (callL_sup C) hk
   refine ⟨max j k+1,?_⟩
   rw [callV_func ho hf hc,bodyR_mono (callV_le (Nat.le_max_left j k)) (Nat.le_max_right j k) hj]
   rw [h1] at h
   exact h
theorem callL_orc {g:FuncId} {h:List V→List O→Option (CR × List O × Nat)} (ho:C.orc g=some h) (first caps args:List V) (hp:List O) {r:CR} {hp':List O} {wl:Nat} (e:h (first++args++caps) hp=some (r,hp',wl)) :
  callL C (.fn (.func g) first caps) args none hp=some (r,false,hp',wl):=callL_iff.2 ⟨1,by simp only [callV,ho,e]⟩
def roundL (C:Cfg) (l:Nat) (args:List V) (hp:List O):Option (CR × Bool × List O × Nat):=match hp[l]? with
 | some (.loop .ready none f tm ob ps a b) =>
  bif args.length == ps.length then
   match execL C f a { tm:=insL ps args tm,m:={ ob:=ob,hp:=hp,wl:=0 },df:=[],rnd:=some l } with
   | some (.normal,s) =>
    match s.m.hp[l]? with
    | some (.loop .ready none f1 tm1 ob1 ps1 a1 b1) =>
     match execL C f b { s with m:={ s.m with hp:=s.m.hp.set l (.loop .busy none f1 tm1 ob1 ps1 a1 b1),wl:=s.m.wl ||| (1 <<< l) } } with
     | some (x,s)=>endR l x s
     | none=>none
    | _=>none
   | _=>none
  else none
 | _=>none
theorem roundL_iff {l:Nat} {args:List V} {hp:List O} {r:CR × Bool × List O × Nat}:roundL C l args hp=some r↔∃ k,roundR C (callL C) k l args hp=some r:=by
 unfold roundL roundR
 constructor
 ·intro h
  split at h
  ·rename_i fi tmi obi psi ai bi hq
   cases hl:args.length == psi.length with
   | false=>rw [hl] at h; cases h
   | true =>
    rw [hl] at h; simp only [cond_true] at h ⊢
    split at h
    ·rename_i h1
     obtain ⟨k1,hk1⟩:=execL_up h1
     split at h
     ·rename_i hr
      split at h
      ·rename_i h2
       obtain ⟨k2,hk2⟩:=execL_up h2
       refine ⟨max k1 k2,?_⟩
       simp only [hq,hl,cond_true]
       rw [hk1 _ (Nat.le_max_left k1 k2)]
       simp only [hr]
       rw [hk2 _ (Nat.le_max_right k1 k2)]
       exact h
      ·cases h
     ·cases h
    ·cases h
  ·cases h
 ·rintro ⟨k,h⟩
  split at h
  ·rename_i fi tmi obi psi ai bi hq
   cases hl:args.length == psi.length with
   | false=>rw [hl] at h; cases h
   | true =>
    rw [hl] at h; simp only [cond_true] at h ⊢
    split at h
    ·rename_i h1
     simp only [hq,hl,cond_true]
     rw [execL_iff.2 ⟨k,h1⟩]
     split at h
     ·rename_i hr
      simp only [hr]
      split at h
      ·rename_i h2
       rw [execL_iff.2 ⟨k,h2⟩]
       exact h
      ·cases h
     ·cases h
    ·cases h
  ·cases h
theorem callL_yield (l:Nat) (first caps args:List V) (rc:Option (Option V)) (hp:List O):callL C (.fn (.yield l) first caps) args rc hp=roundL C l args hp:=by
 apply opt_ext
 intro r
 rw [callL_iff,roundL_iff]
 constructor
 ·rintro ⟨k,hk⟩
  cases k with
  | zero=>cases hk
  | succ k=>rw [callV_yield] at hk; exact ⟨k,roundR_mono (callV_leL C k) (Nat.le_refl k) hk⟩
 ·rintro ⟨k,hk⟩
  obtain ⟨j,hj⟩:=roundR_cpt (callL_sup C) hk
  exact ⟨max j k+1,by rw [callV_yield]; exact roundR_mono (callV_le (Nat.le_max_left j k)) (Nat.le_max_right j k) hj⟩
end
end Mw
