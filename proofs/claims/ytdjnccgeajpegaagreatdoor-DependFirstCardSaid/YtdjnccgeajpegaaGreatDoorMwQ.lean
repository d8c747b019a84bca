/- DependFirst's tied card holds; no condition beyond the card's own. -/
import Derived.Shelf.Spec.SlicesInsertGrow
import Derived.Test.YtdjnccgeajpegaaGreatDoorMwO
set_option linter.unusedVariables false
set_option linter.unusedSimpArgs false
namespace Mw
open Go Go.Proofs Go.Shelf Go.RowKit Go.Lib
variable{P:Program}{ρ:Ren}
set_option maxHeartbeats 4000000 in
set_option maxRecDepth 100000 in
theorem Vl(L:Lays2.n21 P ρ)(b n c vb o vc:Nat)(xs:List Value)(y:Value)(w:World)(h0:0<n)(hroom:n+1≤c)(hsmall:n+1≤9223372036854775807)(hne:vb≠b)
  (hl:xs.length=n)(hx:∀j v,xs[j]?=some v→w.cell? ⟨b,0+j,none⟩=some v)(hs:∀j,j<n+1→(w.cell? ⟨b,0+j,none⟩).isSome=true)(hf:∀j,j<n+1→w.frozen? ⟨b,0+j,none⟩=false)
  (hy:w.cell? ⟨vb,o,none⟩=some y)(h1:∀v∈xs,v.oneCell'=true)(h2:y.oneCell'=true)
  (tA tB:TypeId)(kA kB:Nat)(hsa:w.shape? vb=some (tA,kA))(hsb:w.shape? b=some (tB,kB))(hkB:kB≠0)(hfa:w.frozen? ⟨vb,o,none⟩=false)(hfe:w.frozen? ⟨vb,kA,none⟩=false) :
  Calls P (ρ.f 21) #[.slice (some ⟨b,0,none⟩) n c,.int .i64 0,.slice (some ⟨vb,o,none⟩) 1 vc] w fun e w'=>
   e=.returned (.slice (some ⟨b,0,none⟩) (n+1) c)∧w'=(w.drew.setCells b 1 xs).setCells b 0 [y]:=by
 have mixed:=L.mixed;have t0:=L.t0;have t3:=L.t3;have t4:=L.t4;have t22:=L.t22;have a0:=L.a0;have a3:=L.a3;have a4:=L.a4;have a22:=L.a22;have z0:=L.z0;have z3:=L.z3;have z4:=L.z4;have z22:=L.z22;have v0:=L.v0;have v3:=L.v3;have v4:=L.v4;have v22:=L.v22;have u0:=run_underlying L.t0;have u3:=run_underlying L.t3;have u4:=run_underlying L.t4;have u22:=run_underlying L.t22;have hz2:¬((0:Int)=(n:Int)):=by omega
 have hsz:(P.info? (ρ.t 3)).map (·.size)=some 1:=by obtain⟨i0,hi0,_,hi1,_⟩:=info_parts L.i3;rw[hi0];simp[hi1]
 have hov:∀lb cb,(callFunc (ρ.f 27) #[.slice (some ⟨vb,o,none⟩) 1 vc,.slice (some ⟨b,1,none⟩) lb cb]).run P w=.ok (.value (.bool false)) w:=fun lb cb=>by
  rw[run_callFunc_extern L.f27 (by kernel_rfl) (by kernel_rfl) (by kernel_rfl) (e:=Extern.SlicesOverlaps.overlaps #[(ρ.t 22),(ρ.t 22)] #[(ρ.t 4)]) (by kernel_rfl),
   Lib.run_overlaps_apart w (ρ.t 22) (ρ.t 4) (ρ.t 3) L.t22 1 L.z3 ⟨vb,o,none⟩ ⟨b,1,none⟩ 1 vc lb cb hne tA tB kA kB hsa hsb hkB hfa hfe]
  rfl
 have hb2:¬(c=1):=by omega
 have hb3:(1:Int)≤(n:Int)+1:=by omega
 have hb4:¬(c=0):=by omega
 have hb5:(n:Int)+1≤(c:Int):=by omega
 have hw:IntKind.i64.wrap ((n:Int)+1)=(n:Int)+1:=by rw[IntKind.wrap_i64];omega
 have hw1:IntKind.i64.wrap 1=1:=by rw[IntKind.wrap_i64];omega
 have htn:(1:Int).toNat=1:=rfl;have hsub:n+1-1=n:=by omega
 have hb6:(0:Int)≤(n:Int)+1:=by omega
 have hcpA:∀ty dc sc,(Builtin.copy_ #[(ρ.t 22),(ρ.t 22)] ty #[.slice (some ⟨b,1,none⟩) n dc,.slice (some ⟨b,0,none⟩) (n+1) sc]).run P w.drew=.ok (goInt xs.length) (w.drew.setCells b 1 xs):=fun ty dc sc=>
  run_copy_cells w.drew _ _ ty (ρ.t 3) b 1 n dc ⟨b,0,none⟩ (n+1) sc xs L.t22 hsz (by rw[hl];simp only[Nat.min_def];split<;>omega)
   (fun j v hj=>by rw[Addr.add_lit];exact hx j v hj)
   (fun j hj=>by have:=hs (1+j) (by omega);rwa[Nat.zero_add]at this) (fun j hj=>by have:=hf (1+j) (by omega);rwa[Nat.zero_add]at this) h1
 obtain⟨W1,hW1⟩:∃W1,W1=w.drew.setCells b 1 xs:=⟨_,rfl⟩
 have hcpB:∀(W:World),(∀x,W.cell? x=W1.cell? x)→(∀x,W.frozen? x=W1.frozen? x)→∀ty dc,(Builtin.copy_ #[(ρ.t 22),(ρ.t 22)] ty #[.slice (some ⟨b,0,none⟩) (n+1) dc,.slice (some ⟨vb,o,none⟩) 1 vc]).run P W=.ok (goInt [y].length) (W.setCells b 0 [y]):=fun W hc hfr ty dc=>
  run_copy_cells W _ _ ty (ρ.t 3) b 0 (n+1) dc ⟨vb,o,none⟩ 1 vc [y] L.t22 hsz (by simp only[List.length_cons,List.length_nil,Nat.min_def];split<;>omega)
   (fun j v hj=>by
    have hj0:j=0:=by have:=(List.getElem?_eq_some_iff.1 hj).1;simp at this;omega
    subst hj0;simp at hj;subst hj;rw[Addr.add_lit,hc,hW1,World.cell?_setCells_out b _ _ _ _ (fun h _=>absurd h hne)]
    exact hy)
   (fun j hj=>by
    have hj0:j=0:=by simpa using hj
    subst hj0;rw[hc,hW1,World.cell?_setCells_out b _ _ _ _ (fun _ _=>by simp)]
    exact hs 0 (by omega))
   (fun j hj=>by
    have hj0:j=0:=by simpa using hj
    subst hj0
    rw[hfr,hW1,World.frozen?_setCells];exact hf 0 (by omega)) (fun v hv=>by simp at hv;subst hv;exact h2)
 rw[←hW1]at hcpA
 go_enter L.f21,Body2.n21_ntmps ρ
 go_wp2_with (simp only[hov])
 go_region_law_o (refine step_copy_runI rfl _ _ (ρ.t 22) (ρ.t 22) rfl _ _ (by simp[Act.eval,Act.put]) (by simp[Act.eval,Act.put]) (hcpA _ _ _) ?_)
 go_wp2_with (at_builtin;refine wpList_copy_runI _ rfl _ _ (ρ.t 22) (ρ.t 22) rfl _ _ rfl rfl (hcpB _ (fun _=>rfl) (fun _=>rfl) _ _) ?_)
 go_ret
 first|exact⟨rfl,rfl⟩|exact⟨rfl,by rw[hW1]⟩
end Mw
namespace Mw
open Go Go.Proofs Go.Shelf
section
variable{C:aY}{E:Env}{m:Mem}{w:World}
theorem dm{b:Nat}:∀(vs:List Value) (o:Nat) (arr:Array Value) (w:World),rowAt w b arr→o+vs.length≤arr.size→rowAt (w.setCells b o vs) b (splice arr.toList o vs).toArray
 |[],o,arr,w,h,_=>by simpa[World.setCells,kL]using h|v::r,o,arr,w,h,hl=>by simp only[List.length_cons]at hl;have:=dm r (o+1) _ _ (h.setCell o v) (by simp;omega);rw[World.setCells,←qi arr.toList o v r (by simp;omega)];simpa using this
theorem heap_setCells_other{b:Nat}:∀(vs:List Value) (o:Nat) (w:World) (r:Nat),r≠b→(w.setCells b o vs).heap[r]?=w.heap[r]?
 |[],_,_,_,_=>rfl|v::vs,o,w,r,h=>by rw[World.setCells,heap_setCells_other vs (o+1) _ r h,heap_setCell_other _ _ _ _ _ h]
theorem bQ{b:Nat}:∀(vs:List Value) (o:Nat) (w:World),(w.setCells b o vs).heap.size=w.heap.size∧nS w (w.setCells b o vs)
 |[],_,w=>⟨rfl,.refl w⟩|v::vs,o,w=>by rw[World.setCells];have h:=bQ (b:=b) vs (o+1) (w.setCell ⟨b,o,none⟩ v);exact⟨by rw[h.1];simp[World.setCell],(show nS w (w.setCell ⟨b,o,none⟩ v)from⟨rfl,rfl⟩).trans h.2⟩
theorem Inv.swapVec(hI:Inv C E m w){l:Loc}{sz:Nat}{es es':List D}(h:m.get l=some (.vec sz es false true)){b c:Nat}(hk:E.k l es.length=some (b,c))
  (hlen:es.length<es'.length){w':World}{b' c':Nat}{arr':Array Value}(hsz:w.heap.size≤w'.heap.size∧nS w w')(ho:∀r,r<w.heap.size→r≠b→w'.heap[r]?=w.heap[r]?)
  (hb:b'=b∨(w.heap.size≤b'∧w'.heap[b]?=w.heap[b]?))(hrow:rowAt w' b' arr')(ha:arr'.size=c'*sz)(hle:es'.length≤c')(hu:∀e∈es',e.cells.length=sz)(hc:∀d∈flat es',d.isCell=true)
  (hrel:∀(q:Nat) (d:D) (x:Value),(flat es')[q]?=some d→arr'[q]?=some x→RD E.G d x) :
  ∃E',Step C E m w E' (m.set l (.vec sz es' false true)) w'∧E'.k l es'.length=some (b',c'):=by
 obtain⟨b1,c1,arr1,h1,h2,h3,h4,h5,h6,h7,h8,h9,h10⟩:=hI.vec h;rw[hk]at h1;cases h1;let E':Env:={G:=E.G,k:=fun l' n=>if l'=l∧n=es'.length then some (b',c')else E.k l' n,kl:=E.kl}
 have hE:E.Le E':=⟨fun _ _ _ h=>h,fun l' n p hp=>by
  show(if l'=l∧n=es'.length then some (b',c')else E.k l' n)=some p;split
  ·rename_i hcnd;obtain⟨rfl,rfl⟩:=hcnd;rw[hI.top l' _ _ _ _ h _ hlen]at hp;cases hp
  ·exact hp⟩
 have hk':E'.k l es'.length=some (b',c'):=if_pos ⟨rfl,rfl⟩;have hown:own E l (.vec sz es false true) b:=⟨rfl,c,hk⟩
 have hown':∀r,own E l (.vec sz es false true) r→r=b:=fun r ⟨_,c2,hr⟩=>by simp only[O.key]at hr;rw[hk]at hr;cases hr;rfl
 have hG':∀q,E.G b' q=none:=fun q=>by
  rcases hb with hb|⟨hb,_⟩
  ·subst hb;exact h10 q (.inl rfl)
  ·exact hI.G_new hb q
 have hr:dG E' w' l (.vec sz es' false true):=
  ⟨b',c',arr',hk',hrow,ha,hle,fun hg=>by simp at hg,hu,hc,hrel,fun hf=>by simp at hf,fun q _=>hG' q⟩
 refine⟨E',hI.set h hE rfl (fun l' n hne=>if_neg fun hcnd=>hne hcnd.1) hsz.1 hsz.2 (fun r hr hn=>ho r hr fun e=>hn (e▸hown)) (fun r i x hx=>.inl hx) (fun r i x hx hh=>?_) (fun r hr=>?_) ⟨fun i hi=>?_,fun t g hi=>hr⟩ (fun b hb=>hb.elim) (fun sz1 es1 fr1 gr1 he n hn=>?_),hk'⟩
 ·have hx':E.G r i=some x:=hx;rcases hh with hh|hh
  ·have hrb:=hown' r hh;subst hrb;rw[h10 i (.inl rfl)]at hx';cases hx'
  ·rw[hI.G_new hh]at hx';cases hx'
 ·obtain⟨_,c2,h2'⟩:=hr;simp only[O.key]at h2';rw[hk']at h2';cases h2';rcases hb with hb|⟨hb,_⟩
  ·left;rw[hb];exact hown
  ·exact .inr hb
 ·subst hi;obtain⟨b,c,arr,rest⟩:=hr;exact dG.toH ⟨b,c,arr,rest⟩
 ·cases he;show(if l=l∧n=es'.length then some (b',c')else E.k l n)=none;rw[if_neg (fun hcnd=>by omega)];exact hI.top l _ _ _ _ h n (by omega)
theorem EH (hOk:C.Ok) {ρ:Ren} (L:Lays2.n21 C.P ρ) {args:List V} {hp hp':List O} {r:CR} {wl:Nat} (h:nM args hp=some (r,hp',wl)):aC C (ρ.f 21) args hp r hp':=by
 unfold nM at h;split at h
 ·rename_i l len off n i y;split at h
  ·rename_i sz es hl;rw[Bool.cond_eq_ite]at h;split at h
   ·rename_i hcnd;simp only[Bool.and_eq_true,beq_iff_eq,decide_eq_true_eq,Nat.ble_eq]at hcnd;obtain⟨⟨⟨⟨⟨⟨rfl,hlen⟩,rfl⟩,rfl⟩,rfl⟩,hpos⟩,hmax⟩:=hcnd;simp only[oI,pI]at h;obtain⟨rfl,rfl,rfl⟩:=h;intro E w xs hI hv;obtain⟨body,hbody⟩:∃c,(Body2.n21 ρ).body=some c:=⟨_,rfl⟩
    refine⟨fun w'=>gV hOk L.f21 hbody xs w',?_⟩;have hget:(Mem.get ⟨[],hp,0⟩ (.heap l))=some (.vec 1 es false true):=hl;obtain⟨x0,x1,x2,rfl⟩:∃x0 x1 x2,xs=#[x0,x1,x2]:=by
     obtain⟨ls⟩:=xs
     match ls,hv.1 with
     |[a,b,c],_=>exact⟨a,b,c,rfl⟩
    have e0:=hv.2 0 _ x0 rfl rfl;have e1:=(hv.2 1 _ x1 rfl rfl).int_inv;have e2:=hv.2 2 _ x2 rfl rfl;subst e1;cases e0 with|sl _ _ _ _ _ b c a cap hk ha h0 hn=>
    obtain⟨rfl,rfl⟩:=h0 rfl;obtain⟨vb,o,vcap,ys,hya,hvcap,hyG,hyR,hyC,fi,hFl⟩:=e2.vl_inv';cases hya;have g0:=hyG 0 (.d y) rfl;have r0:=(hyR 0 (.d y) rfl).of_d;have hyc:y.isCell=true:=hyC (.d y) (.head _);simp only[Nat.add_zero]at g0;have hy0:y.cells=[y]:=by cases y<;>first|rfl|cases hyc
    obtain⟨va,hva,hvx⟩:=(hI.prot _ _ _ g0).row (r0.cell hyc) (hI.prot _ _ _ hFl);obtain⟨b1,c1,arr,k1,k2,k3,k4,k5,k6,k7,k8,k9,k10⟩:=hI.vec hget;rw[hlen]at k1;rw[hk]at k1;cases k1;have hne:vb≠b:=fun e=>by rw[e,k10 _ (.inl rfl)]at g0;cases g0
    have hfl:(flat es).length=n:=by have:=flat_length k6;omega
    have hsz:arr.size=cap:=by omega
    have hcap:n≤cap:=by omega
    let xs:=arr.toList.take n;have hxl:xs.length=n:=by simp[xs];omega
    have hxg:∀(j:Nat) (v:Value),xs[j]?=some v→arr[j]?=some v∧j<n:=fun j v hj=>by
     simp only[xs,List.getElem?_take]at hj;split at hj
     ·rename_i hlt;exact⟨by simpa using hj,hlt⟩
     ·cases hj
    have hx1:∀v∈xs,v.oneCell'=true:=fun v hv=>by obtain⟨j,hj⟩:=List.mem_iff_getElem?.1 hv;obtain⟨ha,hlt⟩:=hxg j v hj;have hd:(flat es)[j]?=some (flat es)[j]:=List.getElem?_eq_getElem (by omega);exact oq ((k8 j _ v hd ha).cell (k7 _ (List.getElem_mem _)))
    have hy1c:(ys 0).oneCell'=true:=oq (r0.cell (hyc));have hflat:flat (y::es)=y::flat es:=by simp[flat,hy0]
    have hall:∀(b' c':Nat) (arr':Array Value) (w':World),w.heap.size≤w'.heap.size∧nS w w'→(∀r,r<w.heap.size→r≠b→w'.heap[r]?=w.heap[r]?)→(b'=b∨(w.heap.size≤b'∧w'.heap[b]?=w.heap[b]?))→
      rowAt w' b' arr'→arr'.size=c'→n+1≤c'→arr'[0]?=some (ys 0)→(∀j,j<n→arr'[j+1]?=arr[j]?)→
      ∃E',Inv C E' ⟨[],hp.set l (.vec 1 (y::es) false true),0⟩ w'∧Moved E ⟨[],hp,0⟩ w E' ⟨[],hp.set l (.vec 1 (y::es) false true),0⟩ w'∧nO E' (.ret (.sl (.heap l) 1 (n+1) 0 (n+1))) (.returned (.slice (some ⟨b',0,none⟩) (n+1) c')):=by
     intro b' c' arr' w' q1 q2 q3 q4 q5 q6 q7 q8
     obtain⟨E',hS,hk'⟩:=hI.swapVec (sz:=1) (c':=c') (es':=y::es) hget (by rw[hlen];exact hk) (by simp) q1 q2 q3 q4 (by omega) (by simp;omega) (fun e he=>by
       cases he with
       |head=>rw[hy0];rfl|tail _ he=>exact k6 e he) (fun d hd=>by
       rw[hflat]at hd;cases hd with
       |head=>exact hyc|tail _ hd=>exact k7 d hd) (fun q d x hd hx=>by
       rw[hflat]at hd;cases q with
       |zero=>simp at hd;subst hd;rw[q7]at hx;cases hx;exact r0|succ q=>
        simp at hd;have hlt:q<n:=by have:=(List.getElem?_eq_some_iff.1 hd).1;omega
        rw[q8 q hlt]at hx
        exact k8 q d x hd hx)
     have hk2:E'.k (.heap l) (n+1)=some (b',c'):=by rw[←hk'];simp[hlen]
     exact⟨E',hS.inv.reWl,hS.mov.reWl,.ret (.sl (.heap l) 1 (n+1) 0 (n+1) b' c' 0 c' hk2 (.inr (by simp)) (fun _=>⟨rfl,rfl⟩) q6)⟩
    obtain⟨eb,heb⟩:=k2;obtain⟨ea,hea⟩:=hva;have k2:rowAt w b arr:=⟨eb,heb⟩
    have hva:rowAt w vb va:=⟨ea,hea⟩
    intro cs;by_cases hroom:n+1≤cap
    ·have hcall:=Vl L b n cap vb o vcap xs (ys 0) w (by omega) hroom (by omega) hne hxl (fun j v hj=>by rw[Nat.zero_add,k2.cell];exact(hxg j v hj).1)
      (fun j hj=>by rw[Nat.zero_add,k2.cell,Array.getElem?_eq_getElem (by omega)];rfl) (fun j hj=>k2.free _ (by omega)) (by rw[hva.cell];exact hvx) hx1 hy1c
      ea eb va.size arr.size (by simp[World.shape?,hea]) (by simp[World.shape?,heb]) (by omega) (by simp[World.frozen?,hea]) (by simp[World.frozen?,hea])
     obtain⟨e,w',fr,⟨rfl,hw'⟩,hcm,hfn,hlv⟩:=hcall cs;have r1:rowAt (w.drew.setCells b 1 xs) b _:=dm xs 1 arr w.drew k2 (by omega);have r2:=dm [ys 0] 0 _ _ r1 (by simp[aI _ _ _ (show 1+xs.length≤arr.toList.length by simp;omega)];omega);have hl1:(splice arr.toList 1 xs).length=cap:=by rw[aI _ _ _ (by simp;omega)];simpa using hsz
     obtain⟨E',hI',hM,hE⟩:=hall b cap _ w' ⟨by rw[hw',(bQ _ _ _).1,(bQ _ _ _).1];exact Nat.le_refl _,by rw[hw'];exact(show nS w w.drew from⟨rfl,rfl⟩).trans ((bQ _ _ _).2.trans (bQ _ _ _).2)⟩
      (fun r _ hr=>by rw[hw',heap_setCells_other _ _ _ _ hr,heap_setCells_other _ _ _ _ hr];rfl) (.inl rfl) (by rw[hw'];exact r2) (by simp[aI _ _ _ (show 0+[ys 0].length≤(splice arr.toList 1 xs).length by simp;omega),hl1]) hroom
      (by simp[aB _ _ _ (show 0+[ys 0].length≤(splice arr.toList 1 xs).length by simp;omega)])
      (fun j hj=>by
       simp only[List.getElem?_toArray];rw[aB _ _ _ (show 0+[ys 0].length≤(splice arr.toList 1 xs).length by simp;omega),if_neg (by simp),aB _ _ _ (by simp;omega),if_pos (by omega)]
       simp only[Nat.add_sub_cancel,xs,List.getElem?_take,if_pos hj,Array.getElem?_toList])
     exact⟨E',w',fr,_,hI',hM,hE,hcm,hfn,hlv⟩
    ·have hcall:=Any2.slices_Insert_int_grow L b 0 n cap 0 vb o 1 vcap xs [ys 0] w (by omega) (by omega) hcap (by omega) (by omega) hxl rfl (fun j v hj=>by rw[Nat.zero_add,k2.cell];exact(hxg j v hj).1)
      (fun j v hj=>by
       cases j with
       |zero=>simp at hj;subst hj;rw[Nat.add_zero,hva.cell];exact hvx|succ j=>simp at hj) hx1 (fun v hv=>by simp at hv;subst hv;exact hy1c)
     obtain⟨e,w',fr,⟨rfl,hw'⟩,hcm,hfn,hlv⟩:=hcall cs;have hG:=grownCap_ge w (n+1) cap (ρ.t 3);generalize grownCap w (n+1) cap (ρ.t 3)=G at *;obtain⟨ROW,hROW⟩:∃ROW:Array Value,ROW=(List.take 0 xs).toArray++Builtin.zeroCells (Value.int IntKind.i64 0).cells (n+1-0)++Builtin.zeroCells (Value.int IntKind.i64 0).cells (G-(n+1)):=⟨_,rfl⟩
     rw[←hROW]at hw';have hRs:ROW.size=G:=by rw[hROW];simp[Builtin.zeroCells,Value.cells];omega
     obtain⟨W0,hW0⟩:∃W0,W0=w.alloc (.cells ROW (ρ.t 3)):=⟨_,rfl⟩
     rw[←hW0]at hw';have p0:rowAt W0 w.heap.size ROW:=hW0▸fO w ROW (ρ.t 3);have pz:W0.heap.size=w.heap.size+1:=by rw[hW0];simp
     have pw:nS w W0:=hW0▸⟨rfl,rfl⟩
     have po:∀r,r<w.heap.size→W0.heap[r]?=w.heap[r]?:=fun r hr=>by rw[hW0];exact heap_alloc w _ r hr
     obtain⟨W1,hW1⟩:∃W1,W1=W0.drew.setCells w.heap.size 0 [ys 0]:=⟨_,rfl⟩
     rw[←hW1]at hw';have p1:rowAt W1 w.heap.size (splice ROW.toList 0 [ys 0]).toArray:=hW1▸dm [ys 0] 0 ROW W0.drew p0 (by simp;omega);have p1z:=(bQ (b:=w.heap.size) [ys 0] 0 W0.drew)
     rw[←hW1]at p1z;have hl1:(splice ROW.toList 0 [ys 0]).length=G:=by rw[aI _ _ _ (by simp;omega)];simpa using hRs
     rw[List.drop_zero]at hw';have p2:rowAt w' w.heap.size (splice (splice ROW.toList 0 [ys 0]).toArray.toList (0+1) xs).toArray:=hw'▸dm xs (0+1) _ W1.drew p1 (by simp[hl1];omega);have p2z:=(bQ (b:=w.heap.size) xs (0+1) W1.drew)
     rw[←hw']at p2z;have oth:∀r,r<w.heap.size→w'.heap[r]?=w.heap[r]?:=fun r hr=>by
      have hne:r≠w.heap.size:=by omega
      rw[hw',heap_setCells_other _ _ _ _ hne];show W1.heap[r]?=_;rw[hW1,heap_setCells_other _ _ _ _ hne];exact po r hr
     have hbl:b<w.heap.size:=k2.lt
     obtain⟨E',hI',hM,hE⟩:=hall w.heap.size G _ w' ⟨by rw[p2z.1];show _≤W1.heap.size;rw[p1z.1];show _≤W0.heap.size;omega,
       pw.trans ((show nS W0 W0.drew from⟨rfl,rfl⟩).trans (p1z.2.trans ((show nS W1 W1.drew from⟨rfl,rfl⟩).trans p2z.2)))⟩
      (fun r hr _=>oth r hr) (.inr ⟨Nat.le_refl _,oth b hbl⟩) p2 (by simp[aI _ _ _ (show 0+1+xs.length≤(splice ROW.toList 0 [ys 0]).length by omega),hl1]) hG
      (by
       simp only[List.getElem?_toArray];rw[aB _ _ _ (by simp[hl1];omega),if_neg (by omega)]
       simp[aB _ _ _ (show 0+[ys 0].length≤ROW.toList.length by simp;omega)])
      (fun j hj=>by
       simp only[List.getElem?_toArray];rw[aB _ _ _ (by simp[hl1];omega),if_pos (by omega)]
       simp only[Nat.zero_add,Nat.add_sub_cancel,xs,List.getElem?_take,if_pos hj,Array.getElem?_toList])
     exact⟨E',w',fr,_,hI',hM,hE,hcm,hfn,hlv⟩
   ·cases h
  ·cases h
 ·cases h
theorem Eh{args:List V}{hp hp':List O}{r:CR}{wl:Nat}(h:nM args hp=some (r,hp',wl)):hp.length≤hp'.length∧∀i,i<hp.length→wl.testBit i=false→hp'[i]?=hp[i]?:=by
 unfold nM at h;split at h
 ·split at h
  ·rw[Bool.cond_eq_ite]at h;split at h
   ·simp only[oI,pI]at h;obtain⟨rfl,rfl,rfl⟩:=h;refine⟨by simp,fun i _ hb=>?_⟩;rw[kZ]at hb;simp only[beq_eq_false_iff_ne,ne_eq,decide_eq_false_iff_not]at hb;rw[List.getElem?_set,if_neg (fun e=>hb (by simpa using e))]
   ·cases h
  ·cases h
 ·cases h
end
end Mw
namespace Mw
open Go
def U6:V→Bool
 | .d _=>true|_=>false
def Es:V→Bool
 | .d _=>true| .tuple vs=>vs.all U6|_=>false
theorem RV.U6{E E':Env}(hG:∀b i x,E.G b i=some x→E'.G b i=some x){v:V}{x:Value}(h:RV E v x)(hv:U6 v=true):RV E' v x:=by
 cases h with
 |d y x h=>exact .d y x (h.mono hG)|_=>simp[Mw.U6]at hv
theorem RV.data{E E':Env}(hG:∀b i x,E.G b i=some x→E'.G b i=some x){v:V}{x:Value}(h:RV E v x)(hv:Es v=true):RV E' v x:=by
 cases h with
 |d y x h=>exact .d y x (h.mono hG)|tuple vs xs hl hR=>simp only[Es,List.all_eq_true]at hv;exact .tuple vs xs hl fun i v x h1 h2=>(hR i v x h1 h2).U6 hG (hv v (List.mem_of_getElem? h1))
 |_=>simp[Es]at hv
section
variable{C:aY}{f:FuncId}
theorem aC.frame{vs:List V}{v:V}{hp1:List O}(h:aC C f vs [] (.ret v) hp1)(hvs:vs.all U6=true)(hv:Es v=true)(hp:List O):aC C f vs hp (.ret v) hp:=by
 intro E w xs hI hx;let E0:Env:={G:=E.G,k:=fun _ _=>none,kl:=E.kl}
 have hI0:Inv C E0 ⟨[],[],0⟩ w:=⟨hI.prot,fun t g o h=>by simp[Mem.get,look]at h,fun i o h=>by simp[Mem.get]at h,fun l o l' o' b h=>by cases l<;>simp[Mem.get,look]at h,
  fun b ⟨l,o,h,_⟩=>by cases l<;>simp[Mem.get,look]at h,fun _ _ _=>rfl,fun _ _ _ _=>rfl,fun l sz es fr gr h=>by cases l<;>simp[Mem.get,look]at h,hI.glob⟩
 have hx0:dS E0 vs xs.toList:=⟨hx.1,fun i u x h1 h2=>(hx.2 i u x h1 h2).U6 (E:=E) (E':=E0) (fun _ _ _ h=>h) (List.all_eq_true.1 hvs u (List.mem_of_getElem? h1))⟩
 obtain⟨hc,hrun⟩:=h E0 w xs hI0 hx0;refine⟨hc,fun cs=>?_⟩;obtain⟨E1,w',fr,e,hI1,hM,hE,hs,hfn,hl⟩:=hrun cs;have noOwn:∀r,¬Own E0 ⟨[],[],0⟩ r:=fun r ⟨l,o,h,_⟩=>by cases l<;>simp[Mem.get,look]at h
 let E2:Env:={G:=E1.G,k:=E.k,kl:=E.kl}
 have hS:Step C E ⟨[],hp,0⟩ w E2 ⟨[],hp,0⟩ w':=hI.grow (E':=E2) hM.G rfl rfl hM.size hM.wos (fun r hr=>hM.kept r hr (noOwn r)) (fun b i x hx=>by
  rcases hM.newG b i x hx with h|h|h
  ·exact .inl h
  ·exact absurd h (noOwn b)
  ·exact .inr ⟨h,hI1.prot b i x hx⟩)
 refine⟨E2,w',fr,e,hS.inv,hS.mov,?_,hs,hfn,hl⟩;cases hE with
 |ret h=>exact .ret (h.data (E:=E1) (E':=E2) (fun _ _ _ h=>h) hv)
def aY.knows(C:aY)(k:Nat→Option (List V→List O→Option (CR×List O×Nat))):aY:={C with orc:=k}
variable{k:Nat→Option (List V→List O→Option (CR×List O×Nat))}
theorem wC(nt g:Nat)(c:Code):codeOk (C.knows k) nt g c=codeOk C nt g c:=by induction c<;>simp_all[codeOk,wE,aY.knows]
theorem DF{g:FuncId}{ps:List Tmp}{a b:Code}{n:Nat}:sO (C.knows k) g ps a b n↔sO C g ps a b n:=by simp only[sO,wC];exact Iff.rfl
theorem Cm{E:Env}{w:World}{i:Nat}{o:O}:nC (C.knows k) E w i o↔nC C E w i o:=by
 cases o with
 |loop=>simp only[nC,DF]|_=>exact Iff.rfl
theorem sU{E:Env}{m:Mem}{w:World}:Inv (C.knows k) E m w↔Inv C E m w:=
 ⟨fun h=>⟨h.prot,h.slots,fun i o hg=>Cm.1 (h.heap i o hg),h.dist,h.held,h.freshH,h.freshS,h.top,h.glob⟩,
  fun h=>⟨h.prot,h.slots,fun i o hg=>Cm.2 (h.heap i o hg),h.dist,h.held,h.freshH,h.freshS,h.top,h.glob⟩⟩
theorem fK{vs:List V}{hp hp':List O}{r:CR}:aC (C.knows k) f vs hp r hp'↔aC C f vs hp r hp':=by
 constructor
 ·intro h E w xs hI hx;obtain⟨h1,h2⟩:=h E w xs (sU.2 hI) hx;refine⟨h1,fun cs=>?_⟩;obtain⟨E',w',fr,e,hI',rest⟩:=h2 cs;exact⟨E',w',fr,e,sU.1 hI',rest⟩
 ·intro h E w xs hI hx;obtain⟨h1,h2⟩:=h E w xs (sU.1 hI) hx;refine⟨h1,fun cs=>?_⟩;obtain⟨E',w',fr,e,hI',rest⟩:=h2 cs;exact⟨E',w',fr,e,sU.2 hI',rest⟩
theorem aY.Ok.knows(h:C.Ok):(C.knows k).Ok:=⟨h.mixed,fun f fn c h1 h2=>by rw[wC];exact h.code f fn c h1 h2⟩
end
end Mw
namespace Mw
open Go Go.Proofs Go.Shelf
def eqL{α:Type}(f:α→α→Bool):List α→List α→Bool
 |[],[]=>true|a::xs,b::ys=>f a b&&eqL f xs ys|_,_=>false
theorem tV{α:Type}{f:α→α→Bool}:∀{xs ys:List α},(∀a b,f a b=true→a=b)→eqL f xs ys=true→xs=ys
 |[],[],_,_=>rfl|a::xs,b::ys,hf,h=>by simp only[eqL,Bool.and_eq_true]at h;rw[hf a b h.1,tV hf h.2]|[],_::_,_,h=>by simp[eqL]at h|_::_,[],_,h=>by simp[eqL]at h
def eqD:Nat→D→D→Bool
 |0,_,_=>false|k+1,a,b=>match a with
  | .bool x=>match b with| .bool y=>x==y|_=>false
  | .int j x=>match b with| .int i y=>i==j&&decide (x=y)|_=>false
  | .str s=>match b with| .str t=>eqL (fun a b=>decide (a=b)) s.data.toList t.data.toList|_=>false
  | .nilp=>match b with| .nilp=>true|_=>false
  | .nili=>match b with| .nili=>true|_=>false
  | .nilf=>match b with| .nilf=>true|_=>false
  | .nilm=>match b with| .nilm=>true|_=>false
  | .nils=>match b with| .nils=>true|_=>false
  | .list sz es=>match b with| .list sy fs=>Nat.beq sz sy&&eqL (eqD k) es fs|_=>false
  | .agg es=>match b with| .agg fs=>eqL (eqD k) es fs|_=>false
  | .iface t d=>match b with| .iface u e=>Nat.beq t u&&eqD k d e|_=>false
theorem EC:∀(k:Nat) (a b:D),eqD k a b=true→a=b:=by
 intro k;induction k with
 |zero=>intro a b h;simp[eqD]at h| succ k ih =>
  intro a b h;cases a<;>cases b<;>simp only[eqD,Bool.false_eq_true,Bool.and_eq_true,beq_iff_eq,decide_eq_true_eq]at h<;>try rfl
  ·rw[h]
  ·rw[h.1,h.2]
  ·rename_i s t;have:=tV (fun a b h=>by simpa using h) h;obtain⟨⟨s⟩⟩:=s;obtain⟨⟨t⟩⟩:=t;simp only at this;rw[this]
  ·rw[Nat.eq_of_beq_eq_true h.1,tV ih h.2]
  ·rw[tV ih h]
  ·rw[Nat.eq_of_beq_eq_true h.1,ih _ _ h.2]
def Du:List V→List D→Bool
 |[],[]=>true| .d a::vs,d::ds=>eqD 100 a d&&Du vs ds|_,_=>false
theorem yg:∀{vs:List V} {ds:List D},Du vs ds=true→vs=ds.map V.d
 |[],[],_=>rfl| .d a::vs,d::ds,h=>by simp only[Du,Bool.and_eq_true]at h;rw[EC _ _ _ h.1,yg h.2];rfl|[],_::_,h=>by simp[Du]at h|v::vs,[],h=>by cases v<;>simp[Du]at h| .undef::_,_::_,h=>by simp[Du]at h| .ptr .. ::_,_::_,h=>by simp[Du]at h| .ept .. ::_,_::_,h=>by simp[Du]at h| .dptr .. ::_,_::_,h=>by simp[Du]at h| .vptr .. ::_,_::_,h=>by simp[Du]at h| .sl .. ::_,_::_,h=>by simp[Du]at h| .asl .. ::_,_::_,h=>by simp[Du]at h| .ex .. ::_,_::_,h=>by simp[Du]at h| .vl .. ::_,_::_,h=>by simp[Du]at h| .map .. ::_,_::_,h=>by simp[Du]at h| .fn .. ::_,_::_,h=>by simp[Du]at h| .agg .. ::_,_::_,h=>by simp[Du]at h| .tuple .. ::_,_::_,h=>by simp[Du]at h| .iface .. ::_,_::_,h=>by simp[Du]at h
abbrev Ans:=List (List D×V)
def JG(vs:List V):Ans→Option V
 |[]=>none|(ds,v)::r=>bif Du vs ds then some v else JG vs r
def ET(l:Ans):List V→List O→Option (CR×List O×Nat):=fun vs hp=>match JG vs l with
 |some v=>some (.ret v,hp,0)|none=>none
def aS(tab:List (Nat×Ans)):Nat→Option (List V→List O→Option (CR×List O×Nat)):=fun g=>match look g tab with
 |some l=>some (ET l)|none=>bif g==117 then some nM else none
section
variable{C:aY}
def CP(C:aY)(g:Nat)(l:Ans):Prop:=∀ds v,(ds,v)∈l→Es v=true∧∃hp,aC C g (ds.map V.d) [] (.ret v) hp
def mO(C:aY)(tab:List (Nat×Ans)):Prop:=∀g l,(g,l)∈tab→CP C g l
theorem CP.nil{g:Nat}:CP C g []:=fun _ _ h=>by cases h
theorem CP.cons{g:Nat}{ds:List D}{v:V}{l:Ans}(h:∃hp,aC C g (ds.map V.d) [] (.ret v) hp)(hv:Es v=true)(hl:CP C g l):CP C g ((ds,v)::l):=fun d u hm=>by
 cases hm with
 |head=>exact⟨hv,h⟩|tail _ hm=>exact hl d u hm
theorem mO.nil:mO C []:=fun _ _ h=>by cases h
theorem mO.cons{g:Nat}{l:Ans}{t:List (Nat×Ans)}(h:CP C g l)(ht:mO C t):mO C ((g,l)::t):=fun g' l' hm=>by
 cases hm with
 |head=>exact h|tail _ hm=>exact ht g' l' hm
theorem yG{vs:List V}{v:V}:∀{l:Ans},JG vs l=some v→∃ds,(ds,v)∈l∧vs=ds.map V.d
 |[],h=>by simp[JG]at h| (ds,u) :: r,h=>by
  simp only[JG]at h;cases he:Du vs ds with
  |true=>rw[he]at h;simp at h;subst h;exact⟨ds,.head _,yg he⟩|false=>rw[he]at h;obtain⟨d,h1,h2⟩:=yG (by simpa using h);exact⟨d,.tail _ h1,h2⟩
theorem AO{α:Type}{t:Nat}{a:α}:∀{l:List (Nat×α)},look t l=some a→(t,a)∈l
 |[],h=>by simp[look]at h| (s,u) :: r,h=>by
  simp only[look]at h;cases hs:(s==t)with
  |true=>
   rw[hs]at h;simp at h;subst h;have:s=t:=by simpa using hs
   subst this;exact .head _
  |false=>rw[hs]at h;exact .tail _ (AO (by simpa using h))
theorem Rz(ds:List D):(ds.map V.d).all U6=true:=by
 induction ds with
 |nil=>rfl|cons d ds ih=>simp[U6]
theorem am7(hOk:C.Ok){ρ:Ren}(L:Lays2.n21 C.P ρ)(hρ:ρ.f 21=117){tab:List (Nat×Ans)}(hT:mO C tab):yX (C.knows (aS tab)):=by
 constructor
 ·intro g h args hp r hp' wl ho hr;rw[fK];simp only[aY.knows,aS]at ho;split at ho
  ·rename_i l hl;cases ho;simp only[ET]at hr;split at hr
   ·rename_i v hv;simp only[oI,pI]at hr;obtain⟨rfl,rfl,rfl⟩:=hr;obtain⟨ds,hm,rfl⟩:=yG hv;obtain⟨hd,hp1,hF⟩:=hT _ _ (AO hl) ds v hm;exact hF.frame (Rz ds) hd hp
   ·cases hr
  ·rw[Bool.cond_eq_ite]at ho;split at ho
   ·rename_i hg;cases ho;have:g=117:=by simpa using hg
    rw[this,←hρ];exact EH hOk L hr
   ·cases ho
 ·intro g h args hp r hp' wl ho hr;simp only[aY.knows,aS]at ho;split at ho
  ·cases ho;simp only[ET]at hr;split at hr
   ·simp only[oI,pI]at hr;obtain⟨rfl,rfl,rfl⟩:=hr;exact⟨Nat.le_refl _,fun _ _ _=>rfl⟩
   ·cases hr
  ·rw[Bool.cond_eq_ite]at ho;split at ho
   ·cases ho;exact Eh hr
   ·cases ho
def Z8:List V→List D
 | .d x::r=>x::Z8 r|_=>[]
def aT (v:V) (r:Option (CR × Bool × List O × Nat)):Bool:=match r with
 | some (c,_,_,_)=>match c with
  | .ret u=>match v with
   | .d a=>match u with
    | .d b=>eqD 100 b a|_=>false
   | .tuple vs=>match u with
    | .tuple us=>Du us (Z8 vs)&&vs.all U6|_=>false
   |_=>false
  |_=>false
 |none=>false
theorem Q9:∀{vs:List V},vs.all U6=true→(Z8 vs).map V.d=vs
 |[],_=>rfl|v::vs,h=>by
  rw[List.all_cons,Bool.and_eq_true]at h;cases v with
  |d x=>simp only[Z8,List.map_cons,Q9 h.2]|_=>simp[U6]at h
theorem IE{v:V}{r:Option (CR×Bool×List O×Nat)}(h:aT v r=true):∃rcd hp wl,r=some (.ret v,rcd,hp,wl):=by
 unfold aT at h;split at h
 ·rename_i c rcd hp wl;split at h
  ·rename_i u;split at h
   ·split at h
    ·rw[EC _ _ _ h];exact⟨_,_,_,rfl⟩
    ·cases h
   ·split at h
    ·simp only[Bool.and_eq_true]at h;rw[yg h.1,Q9 h.2];exact⟨_,_,_,rfl⟩
    ·cases h
   ·cases h
  ·cases h
 ·cases h
end
end Mw
