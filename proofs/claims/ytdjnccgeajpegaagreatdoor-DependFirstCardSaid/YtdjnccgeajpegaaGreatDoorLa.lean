/- DependFirst's tied card holds; no condition beyond the card's own. -/
import Derived.Test.YtdjnccgeajpegaaGreatDoorMwT
import Derived.Test.YtdjnccgeajpegaaGreatDoorTie
import Derived.Test.YtdjnccgeajpegaaGreatDoorCards
import Derived.ProofKit
import Derived.LaidMore
import Derived.OpenShut
import Derived.Stop.Joined
set_option linter.unusedVariables false
set_option linter.unusedSimpArgs false
namespace Go.Proofs.YtdjnccgeajpegaaGreatDoor
set_option maxRecDepth 10000
open Go.ChangeShapes Go.WideShapes Go.ChangeAt Go.WideMaps Go.WideElems Go.RowKit
theorem G6{w w':World}(ho:Mw.nS w w')(h:∀r,r<w.heap.size→w'.heap[r]?=w.heap[r]?)(may:MemPlace→Prop):w.keptBut w' may:=by
 refine⟨ho.1,ho.2,fun i hi=>?_⟩;rw[h i hi];cases w.heap[i]? with
 |none=>rfl|some o=>cases o<;>first|rfl|exact⟨rfl,rfl,rfl,fun _ _=>rfl⟩|exact .inr ⟨rfl,rfl⟩
def SL(f:Nat):Prop:=∀(v:Mw.V) (nums:List Int),(v=.d (.list 1 (nums.map (Mw.D.int .i64)))∨(v=.d .nils∧nums=[]))→∃hp,Mw.aC Mw.aG f [v] [] (.ret (.d (.bool true))) hp
theorem xO(nums:List Int):Mw.flat (nums.map (Mw.D.int .i64))=nums.map (Mw.D.int .i64):=by
 induction nums with
 |nil=>rfl|cons x xs ih=>simp only[List.map_cons,Mw.flat,List.flatMap_cons,Mw.D.cells];rw[←Mw.flat,ih];rfl
theorem aeQ{f:Nat}(hF:SL f)(W:World)(x:Value)
  (hx:x=.slice none 0 0∨∃b off len cap,∃zs:List Int,x=.slice (some ⟨b,off,none⟩) len cap∧len≤cap∧len≤zs.length∧∀i,i<zs.length→W.cell? ⟨b,off+i,none⟩=some (.int .i64 (zs.getD i 0))) :
  Calls Tryz.prog f #[x] W fun e W'=>e=.returned (.bool true)∧Mw.nS W W'∧∀r,r<W.heap.size→W'.heap[r]?=W.heap[r]?:=by
 intro cs;obtain⟨v,nums,G,hv,hG,hR⟩:∃(v:Mw.V) (nums:List Int) (G:Nat→Nat→Option Value),(v=.d (.list 1 (nums.map (Mw.D.int .i64)))∨(v=.d .nils∧nums=[]))∧(∀b i y,G b i=some y→Mw.fM W b i y)∧
   ∀k kl,Mw.RV {G:=G,k:=k,kl:=kl} v x:=by
  rcases hx with rfl|⟨b,off,len,cap,zs,rfl,hlc,hlz,hcell⟩
  ·exact⟨.d .nils,[],fun _ _=>none,.inr ⟨rfl,rfl⟩,fun _ _ _ h=>(by cases h),fun k kl=>.d _ _ .nils⟩
  ·refine⟨.d (.list 1 ((zs.take len).map (Mw.D.int .i64))),zs.take len,fun b' i=>if b'=b∧off≤i∧i<off+len then some (.int .i64 (zs.getD (i-off) 0))else none,.inl rfl,fun b' i y hy=>?_,fun k kl=>?_⟩
   ·simp only at hy;split at hy
    ·rename_i hc;obtain⟨rfl,h1,h2⟩:=hc;cases hy;have hc:=hcell (i-off) (by omega);rw[show off+(i-off)=i by omega]at hc;simp only[World.cell?]at hc;split at hc
     ·rename_i c e mk hrow;simp at hc;exact⟨c,e,mk,hrow,fun h=>(by cases h),fun _=>(by simpa using hc)⟩
     ·cases hc
    ·cases hy
   ·have hlen:((zs.take len).map (Mw.D.int .i64)).length=len:=by simp;omega
    have key:Mw.RV {G:=fun b' i=>if b'=b∧off≤i∧i<off+len then some (.int .i64 (zs.getD (i-off) 0))else none,k:=k,kl:=kl} (.d (.list 1 ((zs.take len).map (Mw.D.int .i64)))) (.slice (some ⟨b,off,none⟩) ((zs.take len).map (Mw.D.int .i64)).length cap):=by
     refine .d _ _ (.list 1 _ b off cap (fun q=>.int .i64 (zs.getD q 0)) (by rw[hlen];exact hlc) (fun e he=>?_) (fun q c hq=>?_) (fun q c hq=>?_) (fun c hc=>?_))
     ·obtain⟨n,_,rfl⟩:=List.mem_map.1 he;rfl
     ·rw[xO]at hq;have hlt:=(List.getElem?_eq_some_iff.1 hq).1;rw[hlen]at hlt;show(if b=b∧off≤off+q∧off+q<off+len then some (Value.int .i64 (zs.getD (off+q-off) 0))else none)=_;rw[if_pos ⟨rfl,by omega,by omega⟩,show off+q-off=q by omega]
     ·rw[xO]at hq;have hlt:=(List.getElem?_eq_some_iff.1 hq).1;rw[hlen]at hlt;rw[List.getElem?_map,List.getElem?_take,if_pos hlt]at hq;rw[List.getElem?_eq_getElem (by omega)]at hq;simp at hq;subst hq;have:zs.getD q 0=zs[q]'(by omega):=by rw[List.getD,List.getElem?_eq_getElem (by omega)];rfl
      rw[this];exact .int _ _
     ·rw[xO]at hc;obtain⟨n,_,rfl⟩:=List.mem_map.1 hc;rfl
    rw[hlen]at key;exact key
 obtain⟨hp,hF⟩:=hF v nums hv;let E0:Mw.Env:={G:=G,k:=fun _ _=>none,kl:=fun _ _ _ _=>none}
 have hI0:Mw.Inv Mw.aG E0 ⟨[],[],0⟩ W:=⟨hG,fun t g o h=>(by simp[Mw.Mem.get,Mw.look]at h),fun i o h=>(by simp[Mw.Mem.get]at h),fun l o l' o' b h=>(by cases l<;>simp[Mw.Mem.get,Mw.look]at h),
  fun b ⟨l,o,h,_⟩=>(by cases l<;>simp[Mw.Mem.get,Mw.look]at h),fun _ _ _=>rfl,fun _ _ _ _=>rfl,fun l sz es fr gr h=>(by cases l<;>simp[Mw.Mem.get,Mw.look]at h),fun g cs h=>(by cases h)⟩
 obtain⟨_,hrun⟩:=hF E0 W #[x] hI0 ⟨rfl,fun i u y h1 h2=>by
  cases i with
  |zero=>simp at h1 h2;subst h1;subst h2;exact hR _ _|succ i=>simp at h1⟩
 obtain⟨E1,w',fr,e,hI1,hM,hE,hs,hfn,hl⟩:=hrun cs;have noOwn:∀r,¬Mw.Own E0 ⟨[],[],0⟩ r:=fun r ⟨l,o,h,_⟩=>by cases l<;>simp[Mw.Mem.get,Mw.look]at h
 cases hE with
 | ret h =>
  cases h with
  |d _ _ h=>cases h;exact⟨_,w',fr,⟨rfl,hM.wos,fun r hr=>hM.kept r hr (noOwn r)⟩,hs,hfn,hl⟩
def P22{H:Type}(enc:TypeId×Value→H)(W:World)(v:Value)(d:DataW H)(ps:List MemPlace):Prop:=
 (v=.slice none 0 0∨∃b off len cap,∃zs:List Int,v=.slice (some ⟨b,off,none⟩) len cap∧len≤cap∧len≤zs.length∧∀i,i<zs.length→W.cell? ⟨b,off+i,none⟩=some (.int .i64 (zs.getD i 0)))∧
 ∀W':World,(∀r,r<W.heap.size→W'.heap[r]?=W.heap[r]?)→DataW.Trod enc Tryz.prog W' 0 (fun b=>decide (b<W.heap.size)) true 22 v d ps
theorem agn{H:Type}{enc:TypeId×Value→H}{W:World}{base:Nat}{v:Value}{d:DataW H}{ps:List MemPlace}(hval:Value.okWide Tryz.prog W .any base 22 v)
  (hd:DataW.Trod enc Tryz.prog W 0 (fun _=>true) true 22 v d ps):P22 enc W v d ps:=by
 have hc1:Tryz.prog.cellsOf 3=1:=by kernel_rfl
 have hnagg:∀cs,v≠.agg cs:=fun cs e=>by subst e;simp[Value.okWide,Cell.okWide,Cell.ok,Tryz.underlying22]at hval
 have hcells:v.cells.toList=[v]:=by cases v<;>first|rfl|exact absurd rfl (hnagg _)
 obtain⟨fuel,hd⟩:=hd;rw[hcells]at hd;rcases open_ints Tryz.underlying22 Tryz.underlying3 hc1 hd with ⟨h1,h2⟩|⟨a,len,cap,zs,h1,_,hlc,hmax,hz,hx,hcell,hwf⟩
 ·simp only[List.cons.injEq,and_true]at h1;subst h1;simp only[Prod.mk.injEq]at h2;obtain⟨rfl,rfl⟩:=h2;exact⟨.inl rfl,fun W' _=>shut_slice_nil Tryz.underlying22⟩
 ·simp only[List.cons.injEq,and_true]at h1;subst h1;have hsp:a.spot=none:=by simp only[Value.okWide,Cell.okWide,Cell.ok,Tryz.underlying22,World.has]at hval;exact hval.2.2.2.1
  obtain⟨b,off,sp⟩:=a;simp only at hsp;subst hsp;simp only[if_true]at hz;simp only[Prod.mk.injEq]at hx;obtain⟨rfl,rfl⟩:=hx;refine⟨.inr ⟨b,off,len,cap,zs,rfl,hlc,by omega,fun i hi=>by have:=hcell i hi;rwa[add_plain]at this⟩,fun W' hW=>?_⟩;have hb:0<zs.length→b<W.heap.size:=fun h=>by
   have:=hcell 0 h;rw[add_plain]at this;simp only[World.cell?]at this;split at this
   ·rename_i hr;exact(Array.getElem?_eq_some_iff.1 hr).1
   ·cases this
  by_cases h0:b<W.heap.size
  ·refine⟨2,?_⟩;show DataW.trod enc Tryz.prog W' 0 _ true 2 22 [.slice (some ⟨b,off,none⟩) len cap]=_
   exact shut_ints' 0 Tryz.underlying22 Tryz.underlying3 hc1 (Nat.zero_le _) hlc hmax (by simp[h0,hz]) (fun i hi=>by
    have:=hcell i hi;rw[add_plain]at this;rw[←this]
    simp only[World.cell?,hW b h0]) hwf
  ·have hz0:zs.length=0:=by
    rcases Nat.eq_zero_or_pos zs.length with h|h
    ·exact h
    ·exact absurd (hb h) h0
   have hzs:zs=[]:=List.eq_nil_of_length_eq_zero hz0;subst hzs;have hcap:cap=0:=by simpa using hz.symm
   subst hcap;have hl0:len=0:=by omega
   subst hl0;refine⟨2,?_⟩;show DataW.trod enc Tryz.prog W' 0 _ true 2 22 [.slice (some ⟨b,off,none⟩) 0 0]=_;exact shut_ints' (zs:=[]) 0 Tryz.underlying22 Tryz.underlying3 hc1 (Nat.zero_le _) (Nat.le_refl _) hmax (by simp) (fun i hi=>by simp at hi) (fun n hn=>by cases hn)
end Go.Proofs.YtdjnccgeajpegaaGreatDoor
