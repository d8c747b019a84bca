/- DependFirst's tied card holds; no condition beyond the card's own. -/
import Derived.Test.YtdjnccgeajpegaaGreatDoorMwF
import Derived.Laws.Slices
import Derived.Laws.BytesString
set_option linter.unusedVariables false
set_option linter.unusedSimpArgs false
namespace Mw
open Go
section
variable{C:aY}{E:Env}{m:Mem}{w:World}{f:Nat}{o:Oper}{σ:Operand→Value}{ρ:Operand→V}{g:Rd}
theorem jJ{b:Builtin}{args:Array Operand}{ts:Array TypeId}(ho:o.op=.call {callee:=.builtin b,args:=args,argTypes:=ts}) :
  ∃cs,(execOp σ o).run C.P w=(builtin b ts o.type cs (args.map σ)).run C.P w:=
 ⟨_,by simp only[execOp,ho,resolve,invoke,Sem.run_bind,Sem.run_pure,Result.andThen_ok];rfl⟩
theorem DJ{t:TypeId}{l c:Operand}{eff:Eff}(ho:o.op=.makeSlice t l c)(hI:Inv C E m w)(hρ:∀x,RV E (ρ x) (σ x))(h:jT C f o ρ g=some eff):fF C f o E m w σ eff:=by
 unfold jT at h;simp only[ho]at h;split at h
 ·rename_i e n c' he hn hc;obtain⟨hty,de,hde⟩:=jm he;split at h
  ·rename_i z hz;cases hb:(Nat.ble n c'&&gY C e c'&&(z.cells.length==aA C e))with
   |false=>simp only[hb,cond_false,reduceCtorEq]at h| true =>
    simp only[hb,cond_true,oI]at h;subst h;simp only[Bool.and_eq_true,beq_iff_eq,Nat.ble_eq,gY]at hb;obtain⟨⟨hle,hroom1,hroom2⟩,hzl⟩:=hb;obtain⟨kl,hkl⟩:=jo hn (hρ l);obtain⟨kc,hkc⟩:=jo hc (hρ c);obtain⟨ie,zv,hie,hzv,hzr⟩:=sQ hz;have hsz:ie.size=aA C e:=by simp[aA,Program.cellsOf,hie]
    have hbytes:ie.bytes*c'≤4294967296:=by
     have:C.P.bytesOf e=ie.bytes:=by simp[Program.bytesOf,hie]
     rw[Nat.mul_comm,←this];exact hroom2
    have hb':(ie.bytes:Int)*(c':Int)≤281474976710656:=by
     have h:((ie.bytes*c':Nat):Int)≤281474976710656:=by omega
     rwa[Int.natCast_mul]at h
    have run:=run_make (P:=C.P) w t e ie zv hty hie hzv kl kc n c' (by omega) (by omega) hb' (by omega);simp only[Int.toNat_natCast]at run;have zr:=vz (E:=E) hzl hzr c';have hzu:∀e'∈List.replicate c' z,e'.cells.length=aA C e:=fun e' he'=>by rw[(List.mem_replicate.1 he').2,hzl]
    have hrun:(execOp σ o).run C.P w=.ok (.value (.slice (some ⟨w.heap.size,0,none⟩) n c')) (w.alloc (.cells (madeCells zv.cells (c'*ie.size)) e)):=by simp only[execOp,ho,hkl,hkc,Sem.run_bind,run,Result.andThen_ok,Sem.run_pure]
    refine⟨_,_,hrun,E,w.heap.size,c',.refl hI,rfl,fun _ h=>(by cases h),⟨by simp,rfl,rfl⟩,fun r hr=>heap_alloc w _ r hr,Nat.le_refl _,fun l2 E2 _ hle2 hG hk=>?_⟩;simp only[O.key,List.length_replicate]at hk;refine⟨⟨w.heap.size,c',_,by rw[PX];simpa using hk,fO w _ e,by simp[madeCells,hsz],by simp,fun _=>by simp,hzu,fun d hd=>?_,fun q d x hd hx=>?_,fun hf=>by simp at hf,fun q _=>by rw[yC,hG];exact hI.G_new (Nat.le_refl _) q⟩,?_⟩
    ·simp only[flat,List.mem_flatMap]at hd;obtain⟨e',he',hd⟩:=hd;rw[(List.mem_replicate.1 he').2]at hd;exact(hzr E.G).cells_isCell d hd
    ·refine zr.2 _ q d x hd ?_;rw[←hsz];exact hx
    ·exact .sl l2 (aA C e) c' 0 n w.heap.size c' 0 c' hk (.inr (by simp)) (fun _=>⟨rfl,rfl⟩) hle
  ·cases h
 ·cases h
theorem nH{v:Option Operand}{d n:Nat}(h:bound (v.map ρ) d=some n)(hρ:∀x,RV E (ρ x) (σ x)):(v=none∧n=d)∨∃x k,v=some x∧σ x=.int k (n:Int):=by
 cases v with
 |none=>simp[bound]at h;exact .inl ⟨rfl,h.symm⟩|some x=>simp only[Option.map_some,bound]at h;obtain⟨k,hk⟩:=jo h (hρ x);exact .inr ⟨x,k,rfl,hk⟩
theorem oH(k:IntKind)(i y:Nat)(code:BoundsCode)(h:i≤y):(Instr.sliceBound (.int k (i:Int)) y code).run C.P w=.ok i w:=by
 have:(0:Int)≤(i:Int)∧(i:Int)≤(y:Int):=by omega
 simp[Instr.sliceBound,asIntOf,h]
theorem BU{isS:Bool}{lo hi:Option Operand}{mx:Option Operand}{len cap l h mm:Nat}(hl:bound (lo.map ρ) 0=some l)(hh:bound (hi.map ρ) len=some h)(hmx:(mx=none∧mm=cap)∨(∃x k,mx=some x∧σ x=.int k (mm:Int)∧hi≠none))
  (hρ:∀x,RV E (ρ x) (σ x))(h1:l≤h)(h2:h≤mm)(h3:mm≤cap):(Instr.sliceBounds isS len cap (lo.map σ) (hi.map σ) (mx.map σ)).run C.P w=.ok (l,h,mm) w:=by
 rcases hmx with ⟨rfl,rfl⟩|⟨x,k,rfl,hx,hne⟩
 ·rcases nH hl hρ with ⟨rfl,rfl⟩|⟨a,ka,rfl,ha⟩<;>rcases nH hh hρ with ⟨rfl,rfl⟩|⟨b,kb,rfl,hb⟩ <;>
   simp[Instr.sliceBounds, *,oH _ _ _ _ h1,oH _ _ _ _ h2]
 ·rcases nH hh hρ with ⟨rfl,rfl⟩|⟨b,kb,rfl,hb⟩
  ·exact absurd rfl hne
  ·rcases nH hl hρ with ⟨rfl,rfl⟩|⟨a,ka,rfl,ha⟩<;>simp[Instr.sliceBounds, *,oH _ _ _ _ h1,oH _ _ _ _ h2,oH _ _ _ _ h3]
theorem tN{t e:TypeId}{de:TypeDesc}(hty:C.P.underlying t=some (.slice e))(hde:C.P.underlying e=some de){lo hi mx:Option Operand}{a:Option Addr}{len cap l h mm:Nat}(hl:bound (lo.map ρ) 0=some l)(hh:bound (hi.map ρ) len=some h)
  (hmx:(mx=none∧mm=cap)∨(∃x k,mx=some x∧σ x=.int k (mm:Int)∧hi≠none))(hρ:∀x,RV E (ρ x) (σ x))(h1:l≤h)(h2:h≤mm)(h3:mm≤cap) :
  (Instr.sliceAt t (.slice a len cap) (lo.map σ) (hi.map σ) (mx.map σ)).run C.P w=.ok (.slice (if mm=l then a else a.map (·.add (l*C.P.cellsOf e))) (h-l) (mm-l)) w:=by
 simp only[Instr.sliceAt,Sem.run_bind,ak hty,Result.andThen_ok,Instr.slice,BU (C:=C) (w:=w) (isS:=true) hl hh hmx hρ h1 h2 h3,dh hde,Sem.run_pure]
theorem RV.ex'{E:Env}{sz n:Nat}{es:List D}{a:Option Addr}(hl:es.length=n)(h:RD E.G (.list sz es) (.slice a n n)):RV E (.ex sz es) (.slice a n n):=by subst hl;exact .ex _ _ _ h
theorem RD.sub{G:Nat→Nat→Option Value}{sz:Nat}{es:List D}{b o:Nat}{xs:Nat→Value}(hs:∀e∈es,e.cells.length=sz)
  (hG:∀q c,(flat es)[q]?=some c→G b (o+q)=some (xs q))(hR:∀q c,(flat es)[q]?=some c→RD G c (xs q))(hC:∀c∈flat es,c.isCell=true){l h:Nat}(h1:l≤h)(h2:h≤es.length){cap':Nat}(hcap:h-l≤cap'){o':Nat}
  (ho:h=l∨o'=o+l*sz):RD G (.list sz ((es.drop l).take (h-l))) (.slice (some ⟨b,o',none⟩) (h-l) cap'):=by
 have hlen:((es.drop l).take (h-l)).length=h-l:=by simp;omega
 have key:RD G (.list sz ((es.drop l).take (h-l))) (.slice (some ⟨b,o',none⟩) ((es.drop l).take (h-l)).length cap'):=by
  refine .list sz _ b o' cap' (fun q=>xs (l*sz+q)) (by omega) (fun e he=>hs e (List.mem_of_mem_drop (List.mem_of_mem_take he))) (fun q c hq=>?_) (fun q c hq=>hR _ _ (lX hs l _ hq)) (fun c hc=>hC c (qx hc));rcases ho with rfl|rfl
  ·simp[flat]at hq
  ·have:=hG _ _ (lX hs l _ hq);rw[←this];congr 1;omega
 rwa[hlen]at key
theorem vY{b o mm l sz:Nat}:(if mm=l then(some ⟨b,o,none⟩:Option Addr)else(some ⟨b,o,none⟩:Option Addr).map (·.add (l*sz)))=some ⟨b,if mm=l then o else o+l*sz,none⟩:=by
 split
 ·rfl
 ·simp[je]
theorem Ut {t:TypeId} {x:Operand} {lo hi mx:Option Operand} {eff:Eff} (ho:o.op=.slice t x lo hi mx) (hI:Inv C E m w) (hu:Up g m) (hg:∀ l o,g l=some o→m.get l=some o) (hρ:∀ x,RV E (ρ x) (σ x)) (h:jT C f o ρ g=some eff) :
  fF C f o E m w σ eff:=by
 unfold jT at h;simp only[ho]at h;have ex:∀y,(Instr.sliceAt t (σ x) (lo.map σ) (hi.map σ) (mx.map σ)).run C.P w=.ok y w→(execOp σ o).run C.P w=.ok (.value y) w:=fun y hy=>by simp[execOp,ho,hy]
 have hx:=hρ x;split at h
 ·rename_i n e hty;split at h
  ·rename_i p l off ha hp
   obtain⟨hty',de,hde⟩:=tK (n:=n) (e:=e) (by
    obtain⟨n',e'⟩:=p;obtain⟨h1,_⟩:=tK ha
    rw[hty]at h1;cases h1;exact ha)
   cases hs:(aA C e==1)with
   |false=>simp only[hs,cond_false,reduceCtorEq]at h|true=>simp only[hs,cond_true,oI]at h;subst h;rw[hp]at hx;obtain⟨b,c,hk,hσ⟩:=hx.ptr_inv;refine⟨.slice (some ⟨b,off,none⟩) n n,w,E,ex _ ?_,.refl hI,.asl l off n b c n hk (Nat.le_refl _)⟩;simp only[Option.map_none,hσ,Instr.sliceAt,Sem.run_bind,ak hty,Result.andThen_ok,Instr.sureAddr,Sem.run_pure,Instr.sliceBounds,dh hde,je];simp
  ·cases h
 ·rename_i hty;split at h
  ·rename_i s hs;split at h
   ·rename_i v hv;simp only[oI]at h;subst h;rw[hs]at hx;have hσ:=hx.str_inv;unfold G7 at hv;split at hv
    ·rename_i l h' hl hh;cases hb:(Nat.ble l h'&&Nat.ble h' s.size)with
     |false=>simp only[hb,cond_false,reduceCtorEq]at hv|true=>simp only[hb,cond_true,oI]at hv;subst hv;simp only[Bool.and_eq_true,Nat.ble_eq]at hb;have hbd:=BU (C:=C) (w:=w) (isS:=false) (mx:=none) (cap:=s.size) (mm:=s.size) hl hh (.inl ⟨rfl,rfl⟩) hρ hb.1 hb.2 (Nat.le_refl _);refine⟨.string (s.extract l h'),w,E,ex _ ?_,.refl hI,.d _ _ (.str _)⟩;simp only[Option.map_none]at hbd;simp only[Option.map_none,hσ,Instr.sliceAt,Sem.run_bind,ak hty,Result.andThen_ok,Instr.slice,Option.isSome_none,Bool.false_eq_true,if_false,Sem.run_pure,hbd]
    ·cases hv
   ·cases h
  ·cases h
 ·rename_i e0 hty0;split at h
  ·rename_i e he;obtain⟨hty,de,hde⟩:=jm he;split at h
   ·rename_i v ss hv;simp only[oI]at h;subst h;have hsT:aA C e=C.P.cellsOf e:=rfl;unfold FY at hv;split at hv
    ·cases hv
    ·rename_i n hn;split at hv
     ·rename_i l h' hl hh;cases hb:(Nat.ble l h'&&Nat.ble h' n)with
      |false=>simp only[hb,cond_false,reduceCtorEq]at hv| true =>
       simp only[hb,cond_true]at hv;simp only[Bool.and_eq_true,Nat.ble_eq]at hb;split at hv
       ·rename_i hmx;have hmxn:mx=none:=by cases mx<;>simp at hmx ⊢
        subst hmxn;split at hv
        ·rename_i v' hcut;simp only[oI,pI]at hv;obtain⟨rfl,rfl⟩:=hv;unfold cutV at hcut;split at hcut
         ·rename_i loc sz' len off n' hxx;cases hs:(sz'==aA C e)with
          |false=>simp only[hs,cond_false,reduceCtorEq]at hcut| true =>
           simp only[hs,cond_true,oI]at hcut;subst hcut;have hs':sz'=C.P.cellsOf e:=by simpa[hsT]using hs
           rw[hxx]at hx hn;simp[lenV]at hn;subst hn;obtain⟨b,c,a,cap,k1,k2,k3,k4,hσ⟩:=hx.sl_inv;have run:=tN (C:=C) (w:=w) (a:=some ⟨b,a,none⟩) (mx:=none) hty hde hl hh (.inl ⟨rfl,rfl⟩) hρ hb.1 (by omega:h'≤cap) (Nat.le_refl _);rw[vY]at run;refine⟨_,w,E,ex _ (by rw[hσ];exact run),.refl hI,.sl loc sz' len (off+l) (h'-l) b c _ _ k1 ?_ (fun h0=>?_) (by omega)⟩
           ·rcases k2 with k2|k2
            ·left;omega
            ·by_cases hc:cap=l
             ·left;omega
             ·right;rw[if_neg hc,k2,Nat.add_mul,hs']
           ·have h00:off=0∧l=0:=by omega
            obtain⟨ka,kb⟩:=k3 h00.1;rw[h00.2,ka,kb];simp
         ·rename_i hxx;simp only[oI]at hcut;subst hcut;rw[hxx]at hx hn;simp[lenV]at hn;subst hn;have hσ:=hx.nils_inv;have run:=tN (C:=C) (w:=w) (a:=none) (cap:=0) (mx:=none) hty hde hl hh (.inl ⟨rfl,rfl⟩) hρ hb.1 hb.2 (Nat.le_refl _);refine⟨_,w,E,ex _ (by rw[hσ];exact run),.refl hI,?_⟩;have h0:h'=0:=by omega
          have l0:l=0:=by omega
          subst h0;subst l0;exact .d _ _ (by simpa using RD.nils)
         ·rename_i sz' es hxx;cases hs:(sz'==aA C e)with
          |false=>simp only[hs,cond_false,reduceCtorEq]at hcut| true =>
           simp only[hs,cond_true]at hcut;have hs':sz'=C.P.cellsOf e:=by simpa[hsT]using hs
           rw[hxx]at hx hn;simp[lenV]at hn;subst hn;obtain⟨b,o',xs,hσ,k1,k2,k3,k4⟩:=hx.ex_inv;have run:=tN (C:=C) (w:=w) (a:=some ⟨b,o',none⟩) (cap:=es.length) (mx:=none) hty hde hl hh (.inl ⟨rfl,rfl⟩) hρ hb.1 hb.2 (Nat.le_refl _);rw[vY]at run
           have sub:=RD.sub (o':=if es.length=l then o' else o'+l*C.P.cellsOf e) (cap':=es.length-l) k1 k2 k3 k4 hb.1 hb.2 (by omega) (by
            by_cases hc:es.length=l
            ·left;omega
            ·right;rw[if_neg hc,hs'])
           refine⟨_,w,E,ex _ (by rw[hσ];exact run),.refl hI,?_⟩;cases hend:(h'==es.length)with
           |true=>
            simp only[hend,cond_true,oI]at hcut;subst hcut;have hend':h'=es.length:=by simpa using hend
            have hlen:((es.drop l).take (h'-l)).length=h'-l:=by simp;omega
            rw[←hend']at sub ⊢;exact RV.ex' hlen sub
           |false=>simp only[hend,cond_false,oI]at hcut;subst hcut;exact .d _ _ sub
         ·rename_i sz' es hxx;cases hs:(sz'==aA C e)with
          |false=>simp only[hs,cond_false,reduceCtorEq]at hcut|true=>
           simp only[hs,cond_true,oI]at hcut;subst hcut;have hs':sz'=C.P.cellsOf e:=by simpa[hsT]using hs
           rw[hxx]at hx hn;simp[lenV]at hn;subst hn;obtain⟨b,o',cap,xs,hσ,k0,k1,k2,k3,k4⟩:=hx.list_inv;have run:=tN (C:=C) (w:=w) (a:=some ⟨b,o',none⟩) (cap:=cap) (mx:=none) hty hde hl hh (.inl ⟨rfl,rfl⟩) hρ hb.1 (by omega) (Nat.le_refl _);rw[vY]at run;refine⟨_,w,E,ex _ (by rw[hσ];exact run),.refl hI,.d _ _ (RD.sub k1 k2 k3 k4 hb.1 hb.2 (by omega) ?_)⟩;by_cases hc:cap=l
           ·left;omega
           ·right;rw[if_neg hc,hs']
         ·cases hcut
        ·cases hv
       ·rename_i mv hmx;split at hv
        ·rename_i hv' mm hhi hmm;cases hme:(mm==h')with
         |false=>simp only[hme,cond_false,reduceCtorEq]at hv| true =>
          simp only[hme,cond_true]at hv;have hme':mm=h':=by simpa using hme
          subst hme';obtain⟨mo,rfl⟩:∃mo,mx=some mo:=by cases mx<;>simp at hmx ⊢
          simp only[Option.map_some,oI]at hmx;subst hmx;obtain⟨km,hkm⟩:=jo hmm (hρ mo);have hmx':∀cap,(some mo=none∧mm=cap)∨(∃x k,some mo=some x∧σ x=.int k (mm:Int)∧hi≠none):=fun cap=>.inr ⟨mo,km,rfl,hkm,fun e=>by subst e;simp at hhi⟩;have lst:∀{E1:Env} {sz':Nat} {es:List D},Step C E m w E1 (m.sets ss) w→RV E1 (.d (.list sz' es)) (σ x)→n=es.length→sz'=C.P.cellsOf e→v=.ex sz' ((es.drop l).take (mm-l))→
            ∃y w' E',(execOp σ o).run C.P w=.ok (.value y) w'∧Step C E m w E' (m.sets ss) w'∧RV E' v y:=by
           intro E1 sz' es s1 hr hne hsz hve;subst hne;obtain⟨b,o',cap,xs,hσ,k0,k1,k2,k3,k4⟩:=hr.list_inv;have run:=tN (C:=C) (w:=w) (a:=some ⟨b,o',none⟩) (cap:=cap) hty hde hl hh (hmx' cap) hρ hb.1 (Nat.le_refl _) (by omega);rw[vY]at run
           have sub:=RD.sub (o':=if mm=l then o' else o'+l*C.P.cellsOf e) (cap':=mm-l) k1 k2 k3 k4 hb.1 hb.2 (Nat.le_refl _) (by
            by_cases hc:mm=l
            ·left;omega
            ·right;rw[if_neg hc,hsz])
           refine⟨_,w,E1,ex _ (by rw[hσ];exact run),s1,?_⟩;rw[hve];have hlen:((es.drop l).take (mm-l)).length=mm-l:=by simp;omega
           exact RV.ex' hlen sub
          unfold afn at hv;split at hv
          ·rename_i hxx;simp only[oI,pI]at hv;obtain⟨rfl,rfl⟩:=hv;rw[hxx]at hx hn;simp[lenV]at hn;subst hn;have hσ:=hx.nils_inv;have run:=tN (C:=C) (w:=w) (a:=none) (cap:=0) hty hde hl hh (hmx' 0) hρ hb.1 (Nat.le_refl _) hb.2;refine⟨_,w,E,ex _ (by rw[hσ];exact run),.refl hI,?_⟩;have h0:mm=0:=by omega
           have l0:l=0:=by omega
           subst h0;subst l0;exact .d _ _ (by simpa using RD.nils)
          ·rename_i sz' es hxx;cases hs:(sz'==aA C e)with
           |false=>simp only[hs,cond_false,reduceCtorEq]at hv| true =>
            simp only[hs,cond_true,oI,pI]at hv;obtain⟨rfl,rfl⟩:=hv;have hs':sz'=C.P.cellsOf e:=by simpa[hsT]using hs
            rw[hxx]at hx hn;simp[lenV]at hn;subst hn;have hr:RV E (.d (.list sz' es)) (σ x):=by generalize σ x=y at hx;cases hx with|ex _ _ a hr=>exact .d _ _ hr
            exact lst (.refl hI) hr rfl hs' rfl
          ·split at hv
           ·rename_i sz' es ss' hexp;cases hs:(sz'==aA C e)with
            |false=>simp only[hs,cond_false,reduceCtorEq]at hv|true=>
             simp only[hs,cond_true,oI,pI]at hv;obtain⟨rfl,rfl⟩:=hv;have hs':sz'=C.P.cellsOf e:=by simpa[hsT]using hs
             obtain⟨E1,s1,r1,u1⟩:=fZ 1 g _ _ _ E m w _ hexp hI hu hx;have r1':=r1.mono E1.bare_le;refine lst s1 r1' ?_ hs' rfl;obtain⟨b,o',cap,xs,hσ,_⟩:=r1'.list_inv;unfold lenV at hn;split at hn
             ·rename_i s1 es1 hxx;rw[hxx]at hx;obtain⟨_,_,_,_,e1,_⟩:=hx.list_inv;rw[hσ]at e1;simp at hn e1;omega
             ·rename_i s1 es1 hxx;rw[hxx]at hx;obtain⟨_,_,_,e1,_⟩:=hx.ex_inv;rw[hσ]at e1;simp at hn e1;omega
             ·rename_i hxx;rw[hxx]at hx;have:=hx.nils_inv;rw[hσ]at this;cases this
             ·rename_i es1 hxx;rw[hxx]at hx;obtain⟨_,_,_,_,e1,_⟩:=hx.vl_inv;rw[hσ]at e1;simp at hn e1;omega
             ·rename_i l1 s1 ln1 of1 n1 hxx;rw[hxx]at hx;obtain⟨_,_,_,_,_,_,_,_,e1⟩:=hx.sl_inv;rw[hσ]at e1;simp at hn e1;omega
             ·rename_i l1 of1 n1 hxx;rw[hxx]at hx;obtain⟨_,_,_,_,_,e1⟩:=hx.asl_inv;rw[hσ]at e1;simp at hn e1;omega
             ·cases hn
           ·cases hv
        ·cases hv
     ·cases hv
   ·cases h
  ·cases h
 ·cases h
end
section
variable{C:aY}{E:Env}{m:Mem}{w:World}{f:Nat}{o:Oper}{σ:Operand→Value}{ρ:Operand→V}{g:Rd}
theorem dD{P:Program}{w:World}{r:Nat}{ob:Obj}(h:w.heap[r]?=some ob)(hc:∀c e fz,ob≠.cells c e fz):(getObj r).run P w=.ok ob w:=by cases ob<;>first|exact absurd rfl (hc _ _ _)|simp[getObj,Sem.run,h]
theorem gQ{P:Program}{w:World}{r:Nat}{ob:Obj}(o':Obj)(h:w.heap[r]?=some ob)(hc:∀c e fz,ob≠.cells c e fz):(setObj r o').run P w=.ok () {w with heap:=w.heap.setIfInBounds r o'}:=by cases ob<;>first|exact absurd rfl (hc _ _ _)|simp[setObj,Sem.run,h]
theorem Qb{x:V}{n:Nat}{y:Value}(h:lenV x=some n)(hx:RV E x y):∃a cap,y=.slice a n cap:=by
 unfold lenV at h;split at h
 ·simp at h;subst h;obtain⟨b,o,cap,_,e,_⟩:=hx.list_inv;exact⟨_,_,e⟩
 ·simp at h;subst h;obtain⟨b,o,_,e,_⟩:=hx.ex_inv;exact⟨_,_,e⟩
 ·simp at h;subst h;exact⟨_,_,hx.nils_inv⟩
 ·simp at h;subst h;obtain⟨b,o,cap,_,e,_⟩:=hx.vl_inv;exact⟨_,_,e⟩
 ·simp at h;subst h;obtain⟨_,_,_,_,_,_,_,_,e⟩:=hx.sl_inv;exact⟨_,_,e⟩
 ·simp at h;subst h;obtain⟨_,_,_,_,_,e⟩:=hx.asl_inv;exact⟨_,_,e⟩
 ·cases h
theorem Inv.map(hI:Inv C E m w){l:Loc}{es:List (D×V)}(h:m.get l=some (.map es)):∃(b c:Nat) (ents:Array MapEntry),E.k l 0=some (b,c)∧w.heap[b]?=some (.map ents ents.size)∧ents.size=es.length∧
   (∀(i:Nat) (k:D) (v:V) (e:MapEntry),es[i]?=some (k,v)→ents[i]?=some e→RD E.G k e.key∧RV (E.of l) v e.val∧e.born=i)∧∀i,E.G b i=none:=by
 cases l with
 |slot t g=>exact hI.slots t g _ h|heap i=>obtain⟨b,c,ents,h1,h2,h3,h4,h5⟩:=(hI.heap i _ h).base rfl;exact⟨b,c,ents,h1,h2,h3,h4,h5⟩
theorem IQ{α β:Type}{fV:α→β}{a:Array α}{x:β}(h:a.toList.map fV=[x]):∃y,a=#[y]∧fV y=x:=by
 obtain⟨l⟩:=a
 match l with
 |[]=>simp at h|[y]=>simp at h;exact⟨y,rfl,h⟩|_::_::_=>simp at h
theorem H9{α β:Type}{fV:α→β}{a:Array α}{x y:β}(h:a.toList.map fV=[x,y]):∃u v,a=#[u,v]∧fV u=x∧fV v=y:=by
 obtain⟨l⟩:=a
 match l with
 |[]=>simp at h|[u]=>simp at h|[u,v]=>simp at h;exact⟨u,v,rfl,h⟩|_::_::_::_=>simp at h
theorem Um{α:Type}{a:Array α}{t:α}{r:List α}(h:a.toList=t::r):a[0]?=some t:=by obtain⟨l⟩:=a;simp at h;subst h;rfl
theorem ace{args:Array Operand}{ts:Array TypeId}{eff:Eff}(ho:o.op=.call {callee:=.builtin .len,args:=args,argTypes:=ts})(hI:Inv C E m w)(hg:∀l o,g l=some o→m.get l=some o)(hρ:∀x,RV E (ρ x) (σ x))(h:jT C f o ρ g=some eff) :
  fF C f o E m w σ eff:=by
 unfold jT at h;simp only[ho]at h;obtain⟨cs,hex⟩:=jJ (C:=C) (w:=w) (σ:=σ) ho;split at h
 ·rename_i x t r hxs hts;obtain⟨x0,rfl,hx0⟩:=IQ hxs;have ht0:=Um hts;have hx:=hρ x0;rw[hx0]at hx;split at h
  ·rename_i n hn;simp only[oI]at h;subst h;refine⟨.int .i64 (n:Int),w,E,?_,.refl hI,.d _ _ (.int _ _)⟩;rw[hex];simp only[List.map_toArray,List.map_cons,List.map_nil,builtin,Sem.run_bind];have key:(Builtin.len_ ts o.type #[σ x0]).run C.P w=.ok (.int .i64 (n:Int)) w:=by
    have h0:(#[σ x0]:Array Value)[0]?=some (σ x0):=rfl;unfold Builtin.len_;simp only[ht0,h0];unfold aa0 at hn;split at hn
    ·rename_i n' e hu;simp at hn;subst hn;simp[ak hu,goInt]
    ·rename_i a hu;split at hn
     ·rename_i n' e hu2;simp at hn;subst hn;simp[ak hu,ak hu2,goInt]
     ·cases hn
    ·rename_i hu;split at hn
     ·rename_i s;simp at hn;subst hn;rw[hx.str_inv];simp[ak hu,goInt]
     ·cases hn
    ·rename_i e hu;obtain⟨a,cap,e'⟩:=Qb hn hx;rw[e'];simp[ak hu,goInt]
    ·rename_i k e hu;split at hn
     ·simp at hn;subst hn;rw[hx.nilm_inv];simp[ak hu,goInt]
     ·rename_i l;split at hn
      ·rename_i es hes;simp at hn;subst hn;obtain⟨b,c,hk,e'⟩:=hx.map_inv;obtain⟨b',c',ents,h1,h2,h3,_⟩:=hI.map (hg _ _ hes);rw[hk]at h1;cases h1;rw[e'];simp only[Sem.run_bind,ak hu,Result.andThen_ok,dD h2 (by simp),Sem.run_pure,goInt,h3]
      ·cases hn
     ·cases hn
    ·cases hn
   have key':(Builtin.len_ ts o.type (Array.mk [σ x0])).run C.P w=.ok (.int .i64 (n:Int)) w:=key;rw[key'];rfl
  ·cases h
 ·cases h
theorem Inv.setObj0(hI:Inv C E m w){l:Loc}{ob ob':O}(h:m.get l=some ob){b c:Nat}(hk:E.k l 0=some (b,c))(hkey:ob.key=0)(hkey':ob'.key=0)(hown:ob.owned=true){w':World}(hos:nS w w')(hsz:w'.heap.size=w.heap.size)
  (ho:∀r,r≠b→w'.heap[r]?=w.heap[r]?)(hG:∀i,E.G b i=none)(hrel:dG (E.of l) w' l ob')(hnv:∀sz es fr gr,ob'≠.vec sz es fr gr)(hnh:∀b,¬heldBy E l ob' b):Step C E m w E (m.set l ob') w':=by
 have hb:own E l ob b:=⟨hown,c,by rw[hkey];exact hk⟩
 refine hI.set h (.refl E) rfl (fun _ _ _=>rfl) (by omega) hos (fun r hr hn=>ho r fun e=>hn (e▸hb)) (fun b i x h=>.inl h) (fun b' i x hx hh=>?_) (fun b' hb'=>.inl ?_) ⟨fun i hi=>?_,fun t g hi=>?_⟩ (fun b hb=>absurd hb (hnh b)) (fun _ _ _ _ he=>absurd he (hnv _ _ _ _))
 ·have hp:=hI.prot b' i x hx;exact hp.of_same (ho b' fun e=>by subst e;rw[hG i]at hx;cases hx)
 ·obtain⟨_,c',hc⟩:=hb';rw[hkey']at hc;exact⟨hown,c',by rw[hkey];exact hc⟩
 ·subst hi;exact dG.toH hrel
 ·subst hi;exact hrel
theorem Inv.sit(hI:Inv C E m w){l:Loc}{s:ByteArray}{pos:Nat}(h:m.get l=some (.sit s pos)):∃b c,E.k l 0=some (b,c)∧w.heap[b]?=some (.stringIter s pos)∧∀i,E.G b i=none:=by
 cases l with
 |slot t g=>exact hI.slots t g _ h|heap i=>exact(hI.heap i _ h).base rfl
theorem Yy{it:Operand}{eff:Eff}(ho:o.op=.next it true)(hI:Inv C E m w)(hg:∀l o,g l=some o→m.get l=some o)(hρ:∀x,RV E (ρ x) (σ x))(h:jT C f o ρ g=some eff) :
  fF C f o E m w σ eff:=by
 unfold jT at h;simp only[ho]at h;have hx:=hρ it;split at h
 ·rename_i l hl;rw[hl]at hx;obtain⟨b,c,hk,hσ⟩:=hx.ptr_inv;split at h
  ·rename_i s pos hgl;have hgm:=hg _ _ hgl;obtain⟨b',c',h1,h2,h3⟩:=hI.sit hgm;rw[hk]at h1;cases h1;have hgo:=dD (P:=C.P) h2 (by simp);split at h
   ·rename_i hn;simp only[oI]at h;subst h;have hps:¬pos<s.size:=fun hlt=>by have:s.data[pos]?=some s.data[pos]:=Array.getElem?_eq_getElem hlt;rw[hn]at this;cases this
    refine⟨.tuple #[.bool false],w,E,?_,.refl hI,.tuple _ _ rfl fun i v x hv hx=>?_⟩
    ·simp only[execOp,ho,hσ,Instr.next,Sem.run_bind,hgo,Result.andThen_ok,if_neg hps,Sem.run_pure]
    ·rcases i with _|i
     ·simp at hv hx;subst hv;subst hx;exact .d _ _ (.bool _)
     ·simp at hv
   ·rename_i bt hbt;cases hb:Nat.ble (bt.toNat+1) 128 with
    |false=>simp only[hb,cond_false,reduceCtorEq]at h| true =>
     simp only[hb,cond_true,oI]at h;subst h;simp only[Nat.ble_eq]at hb;have hps:pos<s.size:=(Array.getElem?_eq_some_iff.1 hbt).1;have hdec:Utf8.decode s pos=(bt.toNat,1):=by
      have hget:s.get! (pos+0)=bt:=by have h1:s.data[pos]?=some bt:=hbt;simp only[Nat.add_zero,ByteArray.get!];rw[getElem!_pos s.data pos hps];exact(Array.getElem?_eq_some_iff.1 hbt).2
      simp only[Utf8.decode,hget];rw[if_pos (by omega)]
     have hso:=gQ (P:=C.P) (.stringIter s (pos+1)) h2 (by simp);refine⟨.tuple #[.bool true,goInt pos,.int .i32 bt.toNat],_,E,?_,hI.setObj0 (ob':=.sit s (pos+1)) hgm hk rfl rfl rfl (w':={w with heap:=w.heap.setIfInBounds b (.stringIter s (pos+1))}) ⟨rfl,rfl⟩ (by simp) (fun r hr=>?_) h3 ⟨b,c,by rw[PX];exact hk,?_,fun i=>by rw[yC];exact h3 i⟩ (by simp) (fun b hb=>hb.elim),.tuple _ _ rfl fun i v x hv hx=>?_⟩
     ·simp only[execOp,ho,hσ,Instr.next,Sem.run_bind,hgo,Result.andThen_ok,if_pos hps,hdec,hso,Sem.run_pure]
     ·exact Array.getElem?_setIfInBounds_ne (fun e=>hr e.symm)
     ·have:=(Array.getElem?_eq_some_iff.1 h2).1;simp[this]
     ·rcases i with _|_|_|i
      ·simp at hv hx;subst hv;subst hx;exact .d _ _ (.bool _)
      ·simp at hv hx;subst hv;subst hx;exact .d _ _ (.int _ _)
      ·simp at hv hx;subst hv;subst hx;exact .d _ _ (.int _ _)
      ·simp at hv
  ·cases h
 ·cases h
theorem UN{hf:Operand}{args:Array Operand}{ts:Array TypeId}{eff:Eff}(ho:o.op=.defer {callee:=.value hf,args:=args,argTypes:=ts})(hI:Inv C E m w)(hu:Up g m)(hρ:∀x,RV E (ρ x) (σ x))(h:jT C f o ρ g=some eff) :
  fF C f o E m w σ eff:=by
 unfold jT at h;simp only[ho]at h;have hx:=hρ hf;split at h
 ·cases h
 ·rename_i fn first caps hy hfn
  split at h
  ·rename_i vs hvs;simp only[oI]at h;subst h;rw[hfn]at hx;generalize hσ:σ hf=z at hx;cases hx with
   |fn _ _ _ a' b' hny ha hb hA hB=>
    have rA:dS E first a'.toList:=⟨by simpa using ha,fun i v x hv hx=>hA i v x hv (by simpa using hx)⟩
    have rB:dS E caps b'.toList:=⟨by simpa using hb,fun i v x hv hx=>hB i v x hv (by simpa using hx)⟩
    obtain⟨E1,s1,r1,u1⟩:=bT 4 g _ _ _ E m w _ hvs hI hu ((rA.append (dS.ofOps hρ args.toList)).append rB);refine⟨{target:=.fn fn b',args:=a'++args.map σ},E1,?_,s1,b',rfl,hny,by simpa using r1⟩;simp only[execOp,ho,resolve,hσ,Deferred.ofValue,Sem.run_bind,Sem.run_pure,Result.andThen_ok]
   |yield l=>exact(hy _ rfl).elim
  ·cases h
 ·cases h
theorem IC{args:Array Operand}{ts:Array TypeId}{eff:Eff}(ho:o.op=.call {callee:=.builtin .recover,args:=args,argTypes:=ts})(h:jT C f o ρ g=some eff):fF C f o E m w σ eff:=by
 unfold jT at h;simp only[ho]at h;cases ha:args.isEmpty with
 |false=>simp[ha]at h|true=>simp only[ha,cond_true,oI]at h;subst h;obtain⟨cs,hex⟩:=jJ (C:=C) (w:=w) (σ:=σ) ho;show(execOp σ o).run C.P w=.ok .recover w;rw[hex];simp[builtin]
end
structure Bc(P:Program)(E:Env)(w:World)(sz:Nat)(es:List D)(x:Value):Prop where
 cells:∃ys:List Value,ys.length=es.length*sz∧(∀(q:Nat) (c:D) (y:Value),(flat es)[q]?=some c→ys[q]?=some y→RD E.G c y)∧
  ∀n,n≤es.length→∀w',(∀a,w'.cell? a=w.cell? a)→(Builtin.firstCells sz n x).run P w'=.ok (ys.take (n*sz)).toArray w'
 uni:∀e∈es,e.cells.length=sz
 cell:∀c∈flat es,c.isCell=true
 len:∀w',(Builtin.lenOf x).run P w'=.ok es.length w'
section
variable{C:aY}{E:Env}{m:Mem}{w:World}{f:Nat}{o:Oper}{σ:Operand→Value}{ρ:Operand→V}{g:Rd}
theorem Bc.ofRow{sz:Nat}{es:List D}{b a cap:Nat}(hu:∀e∈es,e.cells.length=sz)(hc:∀c∈flat es,c.isCell=true)
  (h:∀q c,(flat es)[q]?=some c→∃y,w.cell? ⟨b,a+q,none⟩=some y∧RD E.G c y):Bc C.P E w sz es (.slice (some ⟨b,a,none⟩) es.length cap):=by
 have hl:=flat_length hu;refine⟨⟨(List.range (es.length*sz)).map fun q=>(w.cell? ⟨b,a+q,none⟩).getD undef,by simp,fun q c y hq hy=>?_,fun n hn w' hw=>?_⟩,hu,hc,fun w'=>by simp[Builtin.lenOf]⟩
 ·obtain⟨y',h1,h2⟩:=h q c hq;have hlt:q<es.length*sz:=by have:=(List.getElem?_eq_some_iff.1 hq).1;omega
  simp[List.getElem?_map,List.getElem?_range hlt,h1]at hy;subst hy;exact h2
 ·have hle:n*sz≤es.length*sz:=Nat.mul_le_mul_right _ hn;refine run_firstCells_some (P:=C.P) w' sz n ⟨b,a,none⟩ es.length cap _ (by rw[List.length_take,List.length_map,List.length_range];omega) fun j v hj=>?_;have hlt:j<n*sz:=by have:=(List.getElem?_eq_some_iff.1 hj).1;rw[List.length_take,List.length_map,List.length_range]at this;omega
  rw[je,hw];rw[List.getElem?_take,if_pos hlt]at hj;simp[List.getElem?_map,List.getElem?_range (show j<es.length*sz by omega)]at hj;obtain⟨y',h1,h2⟩:=h j _ (List.getElem?_eq_getElem (show j<(flat es).length by omega));rw[h1]at hj ⊢;simpa using hj
theorem Inv.gcell(hI:Inv C E m w){b i:Nat}{x:Value}(h:E.G b i=some x)(hv:cellV x=true):w.cell? ⟨b,i,none⟩=some x:=(hI.prot b i x h).cell hv
theorem Bc.nil{x:Value}(sz:Nat)(hx:∃a cap,x=.slice a 0 cap):Bc C.P E w sz [] x:=by
 obtain⟨a,cap,rfl⟩:=hx;refine⟨⟨[],by simp,by simp[flat],fun n hn w' hw=>?_⟩,by simp,by simp[flat],fun w'=>by simp[Builtin.lenOf]⟩;have:n=0:=by simpa using hn
 subst this;cases a with
 |none=>simp[Builtin.firstCells]|some a=>simp[Builtin.firstCells,loadCells,loadCellsFrom]
theorem rM{v:V}{sz:Nat}{es:List D}{x:Value}(hI:Inv C E m w)(hg:∀l o,g l=some o→m.get l=some o)(h:elems g v=some (sz,es))(hx:RV E v x):Bc C.P E w sz es x∧∃a cap,x=.slice a es.length cap:=by
 unfold elems at h;split at h
 ·simp only[oI,pI]at h;obtain⟨rfl,rfl⟩:=h;obtain⟨b,a,cap,xs,rfl,h0,h1,h2,h3,h4⟩:=hx.list_inv;exact⟨.ofRow h1 h4 fun q c hq=>⟨xs q,hI.gcell (h2 q c hq) ((h3 q c hq).cell (h4 c (List.mem_of_getElem? hq))),h3 q c hq⟩,_,_,rfl⟩
 ·simp only[oI,pI]at h;obtain⟨rfl,rfl⟩:=h;obtain⟨b,a,xs,rfl,h1,h2,h3,h4⟩:=hx.ex_inv;exact⟨.ofRow h1 h4 fun q c hq=>⟨xs q,hI.gcell (h2 q c hq) ((h3 q c hq).cell (h4 c (List.mem_of_getElem? hq))),h3 q c hq⟩,_,_,rfl⟩
 ·rename_i vs;split at h
  ·rename_i ds hds;simp only[oI,pI]at h;obtain⟨rfl,rfl⟩:=h;have hvs:=GK _ _ hds;subst hvs;obtain⟨b,a,cap,xs,rfl,h0,h2,h3,h4⟩:=hx.vl_inv;have h5:∀d∈ds,d.isCell=true:=fun d hd=>h4 (.d d) (List.mem_map.2 ⟨d,hd,rfl⟩);have hfl:flat ds=ds:=by
    clear h0 h2 h3 h4 hds hx;induction ds with
    |nil=>rfl|cons d r ih=>
     have hd:=h5 d (.head _);have hfl:flat (d::r)=d.cells++flat r:=by simp[flat]
     rw[hfl,ih (fun x hx=>h5 x (.tail _ hx))];cases d<;>first|rfl|cases hd
   have h6:∀e∈ds,e.cells.length=1:=fun e he=>by have:=h5 e he;cases e<;>first|rfl|cases this
   rw[List.length_map];refine⟨.ofRow h6 (by rw[hfl];exact h5) fun q c hq=>?_,_,_,rfl⟩;rw[hfl]at hq;have hr:=(h3 q (.d c) (by simp[hq])).of_d;exact⟨xs q,hI.gcell (h2 q (.d c) (by simp[hq])) (hr.cell (h5 c (List.mem_of_getElem? hq))),hr⟩
  ·cases h
 ·simp only[oI,pI]at h;obtain⟨rfl,rfl⟩:=h;have:=hx.nils_inv;subst this;exact⟨.nil 0 ⟨_,_,rfl⟩,_,_,rfl⟩
 ·rename_i l sz0 len off n;split at h
  ·rename_i sz' es' fr gr hgl;cases hb:((sz'==sz0)&&(es'.length==len)&&Nat.ble (off+n) len)with
   |false=>simp only[hb,cond_false,reduceCtorEq]at h| true =>
    simp only[hb,cond_true,oI,pI]at h;obtain⟨rfl,rfl⟩:=h;simp only[Bool.and_eq_true,beq_iff_eq,Nat.ble_eq]at hb;obtain⟨⟨rfl,rfl⟩,hle⟩:=hb;obtain⟨b,c,arr,h1,h2,h3,h4,h5,h6,h7,h8,h9,h10⟩:=hI.vec (hg _ _ hgl);obtain⟨b',c',a,cap,k1,k2,k3,k4,rfl⟩:=hx.sl_inv;rw[h1]at k1;cases k1;have hl:((es'.drop off).take n).length=n:=by simp;omega
    have hfl:=flat_length h6;have hcs:es'.length*sz'≤c*sz':=Nat.mul_le_mul_right _ h4;have key:Bc C.P E w sz' ((es'.drop off).take n) (.slice (some ⟨b,a,none⟩) ((es'.drop off).take n).length cap):=by
     refine .ofRow (fun e he=>h6 e (List.mem_of_mem_drop (List.mem_of_mem_take he))) (fun c hc=>h7 c (qx hc)) fun q c hq=>?_;have hq':=lX h6 off n hq;have hlt:=(List.getElem?_eq_some_iff.1 hq').1;have ha:a=off*sz':=by
      rcases k2 with k2|k2
      ·subst k2;simp[flat]at hq
      ·exact k2
     have hlt':off*sz'+q<arr.size:=by omega
     rw[ha];exact⟨arr[off*sz'+q],by rw[h2.cell];exact Array.getElem?_eq_getElem hlt',h8 _ c _ hq' (Array.getElem?_eq_getElem hlt')⟩
    rw[hl]at key;exact⟨key,_,_,by rw[hl]⟩
  ·cases h
 ·cases h
theorem bytesOf_length(s:ByteArray):(bytesOf s).length=s.size:=by simp[bytesOf]
theorem Bg(s:ByteArray):flat (bytesOf s)=bytesOf s:=by
 unfold bytesOf;generalize s.data.toList=l;induction l with
 |nil=>rfl|cons b l ih=>rw[List.map_cons,iw,ih];rfl
theorem wz{v:V}{sz:Nat}{es:List D}{x:Value}(hI:Inv C E m w)(hg:∀l o,g l=some o→m.get l=some o)(h:elems' g v=some (sz,es))(hx:RV E v x):Bc C.P E w sz es x:=by
 unfold elems' at h;split at h
 ·rename_i s;simp only[oI,pI]at h;obtain⟨rfl,rfl⟩:=h;have:=hx.str_inv;subst this;have hcell:∀e∈bytesOf s,∃n:UInt8,e=.int .u8 n.toNat:=fun e he=>by simp only[bytesOf,List.mem_map]at he;obtain⟨b,_,rfl⟩:=he;exact⟨b,rfl⟩
  refine⟨⟨s.data.toList.map fun b=>.int .u8 b.toNat,by simp[bytesOf],fun q c y hq hy=>?_,fun n hn w' hw=>?_⟩,fun e he=>?_,fun c hc=>?_,fun w'=>by simp[Builtin.lenOf,bytesOf_length]⟩
  ·rw[Bg]at hq;simp only[bytesOf,List.getElem?_map,Option.map_eq_some_iff]at hq hy;obtain⟨b,hb,rfl⟩:=hq;obtain⟨b',hb',rfl⟩:=hy;rw[hb]at hb';cases hb';exact .int _ _
  ·rw[bytesOf_length]at hn;simp only[Builtin.firstCells,Sem.run_pure,Nat.mul_one];congr 1;apply Array.ext';simp[ByteArray.data_extract,List.extract_eq_take_drop,List.map_take]
  ·obtain⟨b,rfl⟩:=hcell e he;rfl
  ·rw[Bg]at hc;obtain⟨b,rfl⟩:=hcell c hc;rfl
 ·exact(rM hI hg h hx).1
end
section
variable{C:aY}{E:Env}{m:Mem}{w:World}{f:Nat}{o:Oper}{σ:Operand→Value}{ρ:Operand→V}{g:Rd}
def Iu:TypeDesc→Bool
 | .slice _=>true| .string=>true|_=>false
theorem run_append_grow'{P:Program}{t u e:TypeId}{du:TypeDesc}{i:TypeInfo}{z:Value}(hty:P.underlying t=some (.slice e))(hu:P.underlying u=some du)(hdu:Iu du=true)(hi:P.info? e=some i)(hz:i.zero=some z)
  {base:Option Addr}{sLen sCap n:Nat}{x:Value}{olds news:Array Value}(hlen:∀w',(Builtin.lenOf x).run P w'=.ok n w')(ho:∀w',(∀a,w'.cell? a=w.cell? a)→(Builtin.firstCells i.size sLen (.slice base sLen sCap)).run P w'=.ok olds w')
  (hn:∀w',(∀a,w'.cell? a=w.cell? a)→(Builtin.firstCells i.size n x).run P w'=.ok news w')(hg:sCap<sLen+n)(h1:sLen+n≤4294967296)(h2:(sLen+n)*i.bytes≤4294967296)(ty:TypeId) :
  ∃cap,sLen+n≤cap∧(Builtin.append_ #[t,u] ty #[.slice base sLen sCap,x]).run P w=.ok (.slice (some ⟨w.heap.size,0,none⟩) (sLen+n) cap) (w.drew.alloc (.cells (olds++news++Builtin.zeroCells z.cells (cap-(sLen+n))) e)):=by
 refine⟨grownCap w (sLen+n) sCap e,grownCap_ge w _ _ e,?_⟩;have hn':¬(sLen+n≤sCap):=by omega
 have h63':¬(9223372036854775807<((sLen:Int)+(n:Int))):=by omega
 have hfit:=nextslicecap_le (need:=sLen+n) (old:=sCap) hg;have hfit2:Builtin.nextslicecap (sLen+n) sCap*i.bytes≤2*(sLen+n)*i.bytes:=Nat.mul_le_mul_right _ hfit;rw[Nat.mul_assoc]at hfit2;have h48':¬(281474976710656<Builtin.nextslicecap (sLen+n) sCap*i.bytes):=by omega
 have hd:=hn w.drew (fun a=>by simp);have hdo:=ho w.drew (fun a=>by simp);have hmu:∀b:Bool,((match du with| .int _=>true|_=>false)=b)→b=false:=by intro b hb;cases du<;>simp[Iu]at hdu<;>simpa using hb.symm
 cases du<;>simp[Iu]at hdu <;>
  simp[Builtin.append_,ak hty,ak hu,Go.sizeOf,typeInfo,zeroValue,hi,hz,hlen,hn',h63',h48',Question.forced,hd,hdo,newRow,grownCap]
theorem run_append_room'{P:Program}{t u e:TypeId}{du:TypeDesc}{i:TypeInfo}(hty:P.underlying t=some (.slice e))(hu:P.underlying u=some du)(hdu:Iu du=true)(hi:P.info? e=some i)
  {b a sLen sCap n:Nat}{x:Value}{news:Array Value}(hlen:∀w',(Builtin.lenOf x).run P w'=.ok n w')
  (hn:(Builtin.firstCells i.size n x).run P w=.ok news w)(hg:sLen+n≤sCap){w':World}(hst:(storeCells ⟨b,a+sLen*i.size,none⟩ news.toList).run P w=.ok () w')(ty:TypeId) :
  (Builtin.append_ #[t,u] ty #[.slice (some ⟨b,a,none⟩) sLen sCap,x]).run P w=.ok (.slice (some ⟨b,a,none⟩) (sLen+n) sCap) w':=by
 cases du<;>simp[Iu]at hdu <;>
  simp[Builtin.append_,ak hty,ak hu,Go.sizeOf,typeInfo,hi,hlen,hn,hg,je,hst]
theorem qM{P:Program}{x:Value}(hlen:∀w',(Builtin.lenOf x).run P w'=.ok 0 w')(size:Nat)(w:World):(Builtin.firstCells size 0 x).run P w=.ok #[] w:=by
 have h:=hlen w;cases x<;>simp[Builtin.lenOf]at h
 ·simp[Builtin.firstCells,ByteArray.data_extract]
 ·rename_i a n c;cases a with
  |none=>simp[Builtin.firstCells]|some a=>simp[Builtin.firstCells,loadCells,loadCellsFrom]
theorem zu{P:Program}{t u e:TypeId}{du:TypeDesc}{de:TypeDesc}(hty:P.underlying t=some (.slice e))(hde:P.underlying e=some de)(hu:P.underlying u=some du)(hdu:Iu du=true)
  {base:Option Addr}{sLen sCap:Nat}{x:Value}(hlen:∀w',(Builtin.lenOf x).run P w'=.ok 0 w')(hc:sLen≤sCap)(ty:TypeId) :
  (Builtin.append_ #[t,u] ty #[.slice base sLen sCap,x]).run P w=.ok (.slice base sLen sCap) w:=by
 have h0:=qM hlen (P.cellsOf e) w;cases base<;>cases du<;>simp[Iu]at hdu <;>
  simp[Builtin.append_,ak hty,ak hu,dh hde,hlen,h0,hc,storeCells]
theorem xU{sz cap:Nat}{all:List D}{eff:Eff}{arr:Array Value}{w':World}(hI:Inv C E m w)(h:yF C f o.dst sz all=some eff)
  (run:(execOp σ o).run C.P w=.ok (.value (.slice (some ⟨w.heap.size,0,none⟩) all.length cap)) w')(hsz:w.heap.size≤w'.heap.size∧nS w w')(hw:∀r,r<w.heap.size→w'.heap[r]?=w.heap[r]?)(hrow:rowAt w' w.heap.size arr)
  (ha:arr.size=cap*sz)(hle:all.length≤cap)(hu:∀e∈all,e.cells.length=sz)(hc:∀c∈flat all,c.isCell=true)(hr:∀(q:Nat) (d:D) (x:Value),(flat all)[q]?=some d→arr[q]?=some x→RD E.G d x):fF C f o E m w σ eff:=by
 have hfl:=flat_length hu;have hcs:all.length*sz≤cap*sz:=Nat.mul_le_mul_right _ hle;unfold yF at h;split at h
 ·cases h
 ·rename_i t ht;cases him:C.imm f t with
  | true =>
   simp only[him,cond_true,oI]at h;subst h;obtain⟨E2,s2,hG⟩:=hI.freshRow hsz hw (Nat.le_refl _) hrow;refine⟨_,w',E2,run,s2,.d _ _ (.list sz all _ _ cap (fun q=>(arr[q]?).getD undef) hle hu (fun q c hq=>?_) (fun q c hq=>?_) hc)⟩
   ·have hlt:=(List.getElem?_eq_some_iff.1 hq).1;have hlt':q<arr.size:=by omega
    rw[Nat.zero_add,hG,Array.getElem?_eq_getElem hlt'];rfl
   ·have hlt:=(List.getElem?_eq_some_iff.1 hq).1;have hlt':q<arr.size:=by omega
    have:=hr q c arr[q] hq (Array.getElem?_eq_getElem hlt');rw[Array.getElem?_eq_getElem hlt'];exact this.mono s2.le.G
  | false =>
   simp only[him,cond_false,oI]at h;subst h;refine⟨_,w',run,E,w.heap.size,cap,.refl hI,rfl,fun _ h=>(by cases h),hsz,hw,Nat.le_refl _,fun l E2 _ hle2 hG hk=>⟨⟨w.heap.size,cap,arr,by rw[PX];exact hk,hrow,ha,hle,fun hf=>by simp at hf,hu,hc,fun q d x hd hx=>?_,fun hf=>by simp at hf,fun q _=>?_⟩,?_⟩⟩
   ·have:=(hr q d x hd hx).mono hle2.G;rw[yC];exact this
   ·rw[yC,hG];exact hI.G_new (Nat.le_refl _) q
   ·exact .sl l sz all.length 0 all.length w.heap.size cap 0 cap hk (.inr (by simp)) (fun _=>⟨rfl,rfl⟩) hle
theorem Ig{v:V}{x:Value}(h:isList v=true)(hx:RV E v x):∃a n cap,x=.slice a n cap∧n≤cap:=by
 unfold isList at h;split at h
 ·obtain⟨b,o,cap,xs,rfl,h0,_⟩:=hx.list_inv;exact⟨_,_,_,rfl,h0⟩
 ·exact⟨_,_,_,hx.nils_inv,Nat.le_refl _⟩
 ·obtain⟨b,o,xs,rfl,_⟩:=hx.ex_inv;exact⟨_,_,_,rfl,Nat.le_refl _⟩
 ·obtain⟨b,c,a,cap,_,_,_,h4,rfl⟩:=hx.sl_inv;exact⟨_,_,_,rfl,h4⟩
 ·cases h
end
end Mw
