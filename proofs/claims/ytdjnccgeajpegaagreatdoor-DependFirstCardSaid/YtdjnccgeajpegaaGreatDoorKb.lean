/- DependFirst's tied card holds; no condition beyond the card's own. -/
import Derived.Test.YtdjnccgeajpegaaGreatDoorMwT
import Derived.Test.YtdjnccgeajpegaaGreatDoorMwQ
import Derived.Shelf.Sort.Plain
import Derived.Shelf.Slices.In.SortNone
import Derived.Shelf.Spec.SlicesInsertGrow
import Derived.Test.YtdjnccgeajpegaaGreatDoorKd
set_option linter.unusedVariables false
set_option linter.unusedSimpArgs false
namespace Mw
open Go Go.Proofs
def aik:List (Nat×Ans):=[(18,[([],.d (.bool true))]),
 (188,[([(.int .i64 0),(.int .i64 1)],.d (.agg [(.str ⟨#[48]⟩),(.str ⟨#[49]⟩)])),
  ([(.int .i64 1),(.int .i64 1)],.d (.agg [(.str ⟨#[49]⟩),(.str ⟨#[49]⟩)])),
  ([(.int .i64 2),(.int .i64 1)],.d (.agg [(.str ⟨#[50]⟩),(.str ⟨#[49]⟩)])),
  ([(.int .i64 3),(.int .i64 1)],.d (.agg [(.str ⟨#[51]⟩),(.str ⟨#[49]⟩)])),
  ([(.int .i64 4),(.int .i64 1)],.d (.agg [(.str ⟨#[52]⟩),(.str ⟨#[49]⟩)])),
  ([(.int .i64 5),(.int .i64 1)],.d (.agg [(.str ⟨#[53]⟩),(.str ⟨#[49]⟩)])),
  ([(.int .i64 1),(.int .i64 2)],.d (.agg [(.str ⟨#[49]⟩),(.str ⟨#[50]⟩)])),
  ([(.int .i64 1),(.int .i64 3)],.d (.agg [(.str ⟨#[49]⟩),(.str ⟨#[51]⟩)])),
  ([(.int .i64 2),(.int .i64 2)],.d (.agg [(.str ⟨#[49]⟩),(.str ⟨#[49]⟩)])),
  ([(.int .i64 2),(.int .i64 3)],.d (.agg [(.str ⟨#[50]⟩),(.str ⟨#[51]⟩)]))]),
 (189,[([(.int .i64 0)],.d (.str ⟨#[48]⟩)),
  ([(.int .i64 1)],.d (.str ⟨#[49]⟩)),
  ([(.int .i64 2)],.d (.str ⟨#[50]⟩))]),
 (266,[([(.agg [(.str ⟨#[48]⟩),(.str ⟨#[49]⟩)])],.d (.int .i64 0)),
  ([(.agg [(.str ⟨#[49]⟩),(.str ⟨#[49]⟩)])],.d (.int .i64 0)),
  ([(.agg [(.str ⟨#[50]⟩),(.str ⟨#[49]⟩)])],.d (.int .i64 0)),
  ([(.agg [(.str ⟨#[51]⟩),(.str ⟨#[49]⟩)])],.d (.int .i64 0)),
  ([(.agg [(.str ⟨#[52]⟩),(.str ⟨#[49]⟩)])],.d (.int .i64 0)),
  ([(.agg [(.str ⟨#[53]⟩),(.str ⟨#[49]⟩)])],.d (.int .i64 0)),
  ([(.agg [(.str ⟨#[49]⟩),(.str ⟨#[50]⟩)])],.d (.int .i64 0)),
  ([(.agg [(.str ⟨#[49]⟩),(.str ⟨#[51]⟩)])],.d (.int .i64 0)),
  ([(.agg [(.str ⟨#[50]⟩),(.str ⟨#[51]⟩)])],.d (.int .i64 0))]),
 (268,[([(.str ⟨#[97]⟩)],.d (.bool true)),
  ([(.str ⟨#[98]⟩)],.d (.bool true)),
  ([(.str ⟨#[99]⟩)],.d (.bool true)),
  ([(.str ⟨#[114,48]⟩)],.d (.bool true)),
  ([(.str ⟨#[114,49]⟩)],.d (.bool true)),
  ([(.str ⟨#[114,50]⟩)],.d (.bool true)),
  ([(.str ⟨#[105,48]⟩)],.d (.bool true)),
  ([(.str ⟨#[105,49]⟩)],.d (.bool true))]),
 (165,[([(.str ⟨#[114,48]⟩),(.int .u8 114),(.int .i64 1)],.d (.int .i64 0)),
  ([(.str ⟨#[114,48]⟩),(.int .u8 114),(.int .i64 2)],.d (.int .i64 0)),
  ([(.str ⟨#[114,48]⟩),(.int .u8 114),(.int .i64 3)],.d (.int .i64 0)),
  ([(.str ⟨#[114,49]⟩),(.int .u8 114),(.int .i64 2)],.d (.int .i64 1)),
  ([(.str ⟨#[114,49]⟩),(.int .u8 114),(.int .i64 3)],.d (.int .i64 1)),
  ([(.str ⟨#[114,50]⟩),(.int .u8 114),(.int .i64 3)],.d (.int .i64 2)),
  ([(.str ⟨#[105,48]⟩),(.int .u8 114),(.int .i64 0)],.d (.int .i64 (-1))),
  ([(.str ⟨#[105,48]⟩),(.int .u8 114),(.int .i64 1)],.d (.int .i64 (-1))),
  ([(.str ⟨#[105,48]⟩),(.int .u8 114),(.int .i64 2)],.d (.int .i64 (-1))),
  ([(.str ⟨#[105,48]⟩),(.int .u8 114),(.int .i64 3)],.d (.int .i64 (-1))),
  ([(.str ⟨#[105,48]⟩),(.int .u8 105),(.int .i64 1)],.d (.int .i64 0)),
  ([(.str ⟨#[105,48]⟩),(.int .u8 105),(.int .i64 2)],.d (.int .i64 0)),
  ([(.str ⟨#[105,49]⟩),(.int .u8 114),(.int .i64 0)],.d (.int .i64 (-1))),
  ([(.str ⟨#[105,49]⟩),(.int .u8 114),(.int .i64 1)],.d (.int .i64 (-1))),
  ([(.str ⟨#[105,49]⟩),(.int .u8 114),(.int .i64 2)],.d (.int .i64 (-1))),
  ([(.str ⟨#[105,49]⟩),(.int .u8 114),(.int .i64 3)],.d (.int .i64 (-1))),
  ([(.str ⟨#[105,49]⟩),(.int .u8 105),(.int .i64 2)],.d (.int .i64 1))])]
set_option maxRecDepth 100000
def wU(args:List V)(hp:List O):Option (CR×List O×Nat):=match args with
 |[.ex 1 [],.d (.int .i64 0),.vl [.d (.int .i64 y)]]=>some (.ret (.sl (.heap hp.length) 1 1 0 1),hp++[.vec 1 [.int .i64 y] false true],0)|_=>none
theorem VH(y:Int)(hp:List O):aK aG 60 (.fn (.func 117) [] []) [.ex 1 [],.d (.int .i64 0),.vl [.d (.int .i64 y)]] none hp=some (.ret (.sl (.heap hp.length) 1 1 0 1),false,hp++[.vec 1 [.int .i64 y] false true],0):=by kernel_rfl
theorem PG:yX aG:=⟨fun _ _ _ _ _ _ _ h _=>(by cases h),fun _ _ _ _ _ _ _ h _=>(by cases h)⟩
theorem abO{args:List V}{hp hp':List O}{r:CR}{wl:Nat}(h:wU args hp=some (r,hp',wl)):aC aG 117 args hp r hp':=by
 unfold wU at h;split at h
 ·simp only[oI,pI]at h;obtain⟨rfl,rfl,rfl⟩:=h;rename_i y;have hr:=VH y hp;rw[wW]at hr;have:=(CB nY PG 60).func _ _ _ _ _ _ _ _ _ hr;simpa using this
 ·cases h
def UG(vs:List V)(hp:List O):Option (CR×List O×Nat):=match nM vs hp with
 |some r=>some r|none=>wU vs hp
def acM(tab:List (Nat×Ans)):Nat→Option (List V→List O→Option (CR×List O×Nat)):=fun g=>bif g==117 then some UG else match look g tab with
 |some l=>some (ET l)|none=>none
theorem ahJ{tab:List (Nat×Ans)}(hT:mO aG tab):yX (aG.knows (acM tab)):=by
 constructor
 ·intro g h args hp r hp' wl ho hr;rw[fK];simp only[aY.knows,acM,Bool.cond_eq_ite]at ho;split at ho
  ·rename_i hg;cases ho;have:g=117:=by simpa using hg
   subst this;simp only[UG]at hr;split at hr
   ·rename_i h1;cases hr;exact EH nY Tryz.lIns h1
   ·exact abO hr
  ·split at ho
   ·rename_i l hl;cases ho;simp only[ET]at hr;split at hr
    ·rename_i v hv;simp only[oI,pI]at hr;obtain⟨rfl,rfl,rfl⟩:=hr;obtain⟨ds,hm,rfl⟩:=yG hv;obtain⟨hd,hp1,hF⟩:=hT _ _ (AO hl) ds v hm;exact hF.frame (Rz ds) hd hp
    ·cases hr
   ·cases ho
 ·intro g h args hp r hp' wl ho hr;simp only[aY.knows,acM,Bool.cond_eq_ite]at ho;split at ho
  ·cases ho;simp only[UG]at hr;split at hr
   ·rename_i h1;cases hr;exact Eh h1
   ·unfold wU at hr;split at hr
    ·simp only[oI,pI]at hr;obtain⟨rfl,rfl,rfl⟩:=hr;exact⟨by simp,fun i hi _=>by rw[List.getElem?_append_left hi]⟩
    ·cases hr
  ·split at ho
   ·cases ho;simp only[ET]at hr;split at hr
    ·simp only[oI,pI]at hr;obtain⟨rfl,rfl,rfl⟩:=hr;exact⟨Nat.le_refl _,fun _ _ _=>rfl⟩
    ·cases hr
   ·cases ho
end Mw
namespace Go.Proofs
open Go Go.Shelf
def Tryz.lSort_ren:Ren where
 f:=fun x=>match x with
  |125=>194|128=>226|129=>227|189=>140|215=>198|216=>223|257=>193|294=>217|295=>218|296=>219|297=>220|298=>221|299=>222|300=>224|301=>225|328=>247|329=>248|330=>249|331=>250|332=>251|343=>277|n=>n
 t:=fun x=>match x with
  |28=>22|46=>195|51=>261|53=>94|131=>139|182=>254|183=>255|218=>286|222=>289|228=>314|229=>143|n=>n
 g:=fun x=>x
theorem Tryz.lSort:Lays.n189 Tryz.prog Tryz.lSort_ren where
 mixed:=by kernel_rfl
 f125:=Tryz.func194
 f128:=Tryz.func226
 f129:=Tryz.func227
 f189:=Tryz.func140
 f215:=Tryz.func198
 f216:=Tryz.func223
 f257:=Tryz.func193
 f294:=Tryz.func217
 f295:=Tryz.func218
 f296:=Tryz.func219
 f297:=Tryz.func220
 f298:=Tryz.func221
 f299:=Tryz.func222
 f300:=Tryz.func224
 f301:=Tryz.func225
 f328:=Tryz.func247
 f329:=Tryz.func248
 f330:=Tryz.func249
 f331:=Tryz.func250
 f332:=Tryz.func251
 f343:=Tryz.func277
 t0:=Tryz.underlying0
 a0:=Tryz.isAgg0
 z0:=Tryz.sizeOf0
 v0:=Tryz.zeroValue0
 t3:=Tryz.underlying3
 a3:=Tryz.isAgg3
 z3:=Tryz.sizeOf3
 v3:=Tryz.zeroValue3
 t4:=Tryz.underlying4
 a4:=Tryz.isAgg4
 z4:=Tryz.sizeOf4
 v4:=Tryz.zeroValue4
 t5:=Tryz.underlying5
 a5:=Tryz.isAgg5
 z5:=Tryz.sizeOf5
 v5:=Tryz.zeroValue5
 t9:=Tryz.underlying9
 a9:=Tryz.isAgg9
 z9:=Tryz.sizeOf9
 v9:=Tryz.zeroValue9
 t28:=Tryz.underlying22
 a28:=Tryz.isAgg22
 z28:=Tryz.sizeOf22
 v28:=Tryz.zeroValue22
 t46:=Tryz.underlying195
 a46:=Tryz.isAgg195
 z46:=Tryz.sizeOf195
 v46:=Tryz.zeroValue195
 t51:=Tryz.underlying261
 a51:=Tryz.isAgg261
 z51:=Tryz.sizeOf261
 v51:=Tryz.zeroValue261
 t53:=Tryz.underlying94
 a53:=Tryz.isAgg94
 z53:=Tryz.sizeOf94
 v53:=Tryz.zeroValue94
 t131:=Tryz.underlying139
 a131:=Tryz.isAgg139
 z131:=Tryz.sizeOf139
 v131:=Tryz.zeroValue139
 t182:=Tryz.underlying254
 a182:=Tryz.isAgg254
 z182:=Tryz.sizeOf254
 v182:=Tryz.zeroValue254
 t183:=Tryz.underlying255
 a183:=Tryz.isAgg255
 z183:=Tryz.sizeOf255
 v183:=Tryz.zeroValue255
 t218:=Tryz.underlying286
 a218:=Tryz.isAgg286
 z218:=Tryz.sizeOf286
 v218:=Tryz.zeroValue286
 t222:=Tryz.underlying289
 a222:=Tryz.isAgg289
 z222:=Tryz.sizeOf289
 v222:=Tryz.zeroValue289
 t228:=Tryz.underlying314
 a228:=Tryz.isAgg314
 z228:=Tryz.sizeOf314
 v228:=Tryz.zeroValue314
 t229:=Tryz.underlying143
 a229:=Tryz.isAgg143
 z229:=Tryz.sizeOf143
 v229:=Tryz.zeroValue143
end Go.Proofs
namespace Mw
open Go Go.Proofs Go.Shelf
section
variable{C:aY}{E:Env}{m:Mem}{w:World}
theorem Inv.setVec2(hI:Inv C E m w){l:Loc}{sz:Nat}{es es':List D}(h:m.get l=some (.vec sz es false true)){b c:Nat}(hk:E.k l es.length=some (b,c))
  (hes:es'.length=es.length){w':World}(hsz:w.heap.size≤w'.heap.size∧nS w w')(ho:∀r,r<w.heap.size→r≠b→w'.heap[r]?=w.heap[r]?){arr':Array Value}(hrow:rowAt w' b arr')
  (ha:arr'.size=c*sz)(hu:∀e∈es',e.cells.length=sz)(hc:∀d∈flat es',d.isCell=true)
  (hrel:∀(q:Nat) (d:D) (x:Value),(flat es')[q]?=some d→arr'[q]?=some x→RD E.G d x):Step C E m w E (m.set l (.vec sz es' false true)) w':=by
 obtain⟨b',c',arr0,h1,h2,h3,h4,h5,h6,h7,h8,h9,h10⟩:=hI.vec h;rw[hk]at h1;cases h1;have hown:own E l (.vec sz es false true) b:=⟨rfl,c,hk⟩
 have hown':∀r,own E l (.vec sz es false true) r→r=b:=fun r ⟨_,c2,hr⟩=>by simp only[O.key]at hr;rw[hk]at hr;cases hr;rfl
 have hr:dG E w' l (.vec sz es' false true):=⟨b,c,arr',by rw[hes];exact hk,hrow,ha,by omega,fun hg=>by rw[hes];exact h5 hg,hu,hc,hrel,fun hf=>by simp at hf,fun q _=>h10 q (.inl rfl)⟩
 refine hI.set h (.refl E) rfl (fun _ _ _=>rfl) hsz.1 hsz.2 (fun r hr hn=>ho r hr fun e=>hn (e▸hown)) (fun b i x h=>.inl h) (fun r i x hx hh=>?_) (fun b' hb=>.inl ?_) ⟨fun i hi=>?_,fun t g hi=>hr⟩ (fun b hb=>hb.elim) (fun sz1 es1 fr1 gr1 he n hn=>?_)
 ·have hx':E.G r i=some x:=hx;rcases hh with hh|hh
  ·have hrb:=hown' r hh;subst hrb;rw[h10 i (.inl rfl)]at hx';cases hx'
  ·rw[hI.G_new hh]at hx';cases hx'
 ·obtain⟨_,c1,hb⟩:=hb;simp only[O.key,hes]at hb;exact⟨rfl,c1,hb⟩
 ·subst hi;obtain⟨b,c,arr,rest⟩:=hr;exact dG.toH ⟨b,c,arr,rest⟩
 ·cases he;exact hI.top l _ _ _ _ h n (by omega)
end
def intsOf:List D→Option (List Int)
 |[]=>some []| .int .i64 n::r=>(intsOf r).map (n::·)|_::_=>none
theorem EP:∀{es:List D} {zs:List Int},intsOf es=some zs→es=zs.map (.int .i64)
 |[],zs,h=>by simp[intsOf]at h;subst h;rfl| e :: r,zs,h=>by
  cases e with
  |int k n=>cases k<;>simp only[intsOf,Option.map_eq_some_iff,reduceCtorEq]at h;obtain⟨q,h1,rfl⟩:=h;rw[EP h1];rfl
  |_=>simp[intsOf]at h
theorem VW(zs:List Int):flat (zs.map (D.int .i64))=zs.map (D.int .i64):=by
 induction zs with
 |nil=>rfl|cons a r ih=>rw[List.map_cons,iw,ih];rfl
def jO(zs:List Int):List Int:=zs.mergeSort fun x y=>decide (x≤y)
def Ba (args:List V) (hp:List O):Option (CR × List O × Nat):=match args with
 |[.d .nils]=>some (.ret (.tuple []),hp,0)| [.sl (.heap l) 1 len off n]=>match hp[l]? with
  | some (.vec sz es false true)=>match intsOf es with
   | some zs=>bif (sz == 1)&&(es.length == len)&&(n == len)&&(off == 0)&&Nat.ble len 100000000 then
     some (.ret (.tuple []),hp.set l (.vec 1 ((jO zs).map (.int .i64)) false true),1 <<< l)
    else none
   |none=>none
  |_=>none
 |_=>none
variable{C:aY}
theorem abK(hOk:C.Ok){ρ:Ren}(L:Lays.n189 C.P ρ){args:List V}{hp hp':List O}{r:CR}{wl:Nat}(h:Ba args hp=some (r,hp',wl)):aC C (ρ.f 189) args hp r hp':=by
 unfold Ba at h;split at h
 ·simp only[oI,pI]at h;obtain⟨rfl,rfl,rfl⟩:=h;intro E w xs hI hv;obtain⟨body,hbody⟩:∃c,(Body.n189 ρ).body=some c:=⟨_,rfl⟩
  refine⟨fun w'=>gV hOk L.f189 hbody xs w',?_⟩;obtain⟨x0,rfl⟩:∃x0,xs=#[x0]:=by
   obtain⟨ls⟩:=xs
   match ls,hv.1 with
   |[a],_=>exact⟨a,rfl⟩
  have e0:=hv.2 0 _ x0 rfl rfl;cases e0 with|d _ _ e1=>
  cases e1;intro cs;obtain⟨e,w',fr,⟨rfl,rfl⟩,hcm,hfn,hlv⟩:=Any.slices_Sort_int_none L none 0 w cs;exact⟨E,w',fr,_,hI,Moved.refl _ _ _,.ret (.tuple [] #[] rfl (fun i v x h=>by simp at h)),hcm,hfn,hlv⟩
 ·rename_i l len off n;split at h
  ·rename_i sz es hl;split at h
   ·rename_i zs hz;rw[Bool.cond_eq_ite]at h;split at h
    ·rename_i hcnd;simp only[Bool.and_eq_true,beq_iff_eq]at hcnd;obtain⟨⟨⟨⟨rfl,hlen⟩,rfl⟩,rfl⟩,hmax⟩:=hcnd;have hmax:=Nat.le_of_ble_eq_true hmax;simp only[oI,pI]at h;obtain⟨rfl,rfl,rfl⟩:=h;have hes:=EP hz;intro E w xs hI hv;obtain⟨body,hbody⟩:∃c,(Body.n189 ρ).body=some c:=⟨_,rfl⟩
     refine⟨fun w'=>gV hOk L.f189 hbody xs w',?_⟩;have hget:(Mem.get ⟨[],hp,0⟩ (.heap l))=some (.vec 1 es false true):=hl;obtain⟨x0,rfl⟩:∃x0,xs=#[x0]:=by
      obtain⟨ls⟩:=xs
      match ls,hv.1 with
      |[a],_=>exact⟨a,rfl⟩
     have e0:=hv.2 0 _ x0 rfl rfl;cases e0 with|sl _ _ _ _ _ b c a cap hk ha h0 hn=>
     obtain⟨rfl,rfl⟩:=h0 rfl;obtain⟨b1,c1,arr,k1,k2,k3,k4,k5,k6,k7,k8,k9,k10⟩:=hI.vec hget;rw[hlen]at k1;rw[hk]at k1;cases k1;subst hes;rw[VW]at k8;simp only[List.length_map]at hlen;have hsz:arr.size=cap:=by omega
     have hcell:∀j,(hj:j<zs.length)→arr[j]?=some (.int .i64 zs[j]):=fun j hj=>by
      have hlt:j<arr.size:=by omega
      have h1:=k8 j (.int .i64 zs[j]) arr[j] (by simp[List.getElem?_eq_getElem hj]) (Array.getElem?_eq_getElem hlt);rw[Array.getElem?_eq_getElem hlt];generalize arr[j]=v at h1 ⊢;cases h1;rfl
     have hH:Go.Sort.Holds (Value.int .i64) w b 0 zs.toArray:=fun j hj=>by
      have hj':j<zs.length:=by simpa using hj
      refine⟨?_,k2.free _ (by omega)⟩;rw[Nat.zero_add,k2.cell,hcell j hj'];simp[hj']
     intro cs;have hcall:=Any.slices_Sort_int L b 0 cap zs w hH k2.lt (by omega);rw[hlen]at hcall;obtain⟨e,w',fr,⟨rfl,k,os,hw'⟩,hcm,hfn,hlv⟩:=hcall cs;have hss:(jO zs).length=zs.length:=List.length_mergeSort _;obtain⟨ee,hee⟩:=k2
     have hrow:rowAt w' b (Go.Sort.putCells (Value.int .i64) 0 (jO zs).toArray arr):=⟨ee,by
      have hb:b<w.heap.size:=(Array.getElem?_eq_some_iff.1 hee).1;rw[hw'];simp only[Go.Sort.grow,Go.Sort.putRow,Go.Sort.mapBlock,Go.Sort.ahead];rw[Array.getElem?_append_left (by simpa using hb),Array.getElem?_modify,if_pos rfl,hee]
      rfl⟩
     have hsz2:w.heap.size≤w'.heap.size∧nS w w':=by rw[hw'];refine⟨?_,rfl,rfl⟩;simp[Go.Sort.grow,Go.Sort.putRow,Go.Sort.mapBlock,Go.Sort.ahead]
     have ho:∀r,r<w.heap.size→r≠b→w'.heap[r]?=w.heap[r]?:=fun r hr hne=>by rw[hw'];simp only[Go.Sort.grow,Go.Sort.putRow,Go.Sort.mapBlock,Go.Sort.ahead];rw[Array.getElem?_append_left (by simpa using hr),Array.getElem?_modify,if_neg (Ne.symm hne)]
     have hS:=hI.setVec2 (l:=.heap l) (sz:=1) (es':=(jO zs).map (.int .i64)) hget (by simpa[hlen]using hk) (by simp[hss]) hsz2 ho hrow (by simp[Go.Sort.putCells];omega)
      (fun e he=>by obtain⟨z,_,rfl⟩:=List.mem_map.1 he;rfl) (fun d hd=>by rw[VW]at hd;obtain⟨z,_,rfl⟩:=List.mem_map.1 hd;rfl)
      (fun q d x hd hx=>by
       rw[VW]at hd;simp only[List.getElem?_map,Option.map_eq_some_iff]at hd;obtain⟨z,hz,rfl⟩:=hd;have hq:=(List.getElem?_eq_some_iff.1 hz).1;have hz2:=(List.getElem?_eq_some_iff.1 hz).2;simp only[Go.Sort.putCells,Array.getElem?_mapIdx,Option.map_eq_some_iff]at hx;obtain⟨y,_,rfl⟩:=hx;rw[if_pos (by simp;exact hq)];simp only[Nat.sub_zero];have:z=(jO zs).toArray[q]!:=by simp[hq,hz2]
       rw[←this];exact .int _ _)
     exact⟨E,w',fr,_,hS.inv.reWl,hS.mov.reWl,.ret (.tuple [] #[] rfl (fun i v x h=>by simp at h)),hcm,hfn,hlv⟩
    ·cases h
   ·cases h
  ·cases h
 ·cases h
end Mw
namespace Mw
open Go Go.Proofs
theorem acJ{args:List V}{hp hp':List O}{r:CR}{wl:Nat}(h:Ba args hp=some (r,hp',wl)):hp.length≤hp'.length∧∀i,i<hp.length→wl.testBit i=false→hp'[i]?=hp[i]?:=by
 unfold Ba at h;split at h
 ·simp only[oI,pI]at h;obtain⟨rfl,rfl,rfl⟩:=h;exact⟨Nat.le_refl _,fun i _ _=>rfl⟩
 ·split at h
  ·split at h
   ·rw[Bool.cond_eq_ite]at h;split at h
    ·simp only[oI,pI]at h;obtain⟨rfl,rfl,rfl⟩:=h;refine⟨by simp,fun i _ hb=>?_⟩;rw[kZ]at hb;simp only[beq_eq_false_iff_ne,ne_eq,decide_eq_false_iff_not]at hb;rw[List.getElem?_set,if_neg (fun e=>hb (by simpa using e))]
    ·cases h
   ·cases h
  ·cases h
 ·cases h
def abk(tab:List (Nat×Ans)):Nat→Option (List V→List O→Option (CR×List O×Nat)):=fun g=>bif g==140 then some Ba else acM tab g
theorem afI{tab:List (Nat×Ans)}(hT:mO aG tab):yX (aG.knows (abk tab)):=by
 have h0:=ahJ hT;obtain⟨a,b⟩:=h0;constructor
 ·intro g h args hp r hp' wl ho hr;rw[fK];simp only[aY.knows,abk,Bool.cond_eq_ite]at ho;split at ho
  ·rename_i hg;cases ho;have:g=140:=by simpa using hg
   subst this;exact abK nY Tryz.lSort hr
  ·have:=a g h args hp r hp' wl ho hr;rw[fK]at this;exact this
 ·intro g h args hp r hp' wl ho hr;simp only[aY.knows,abk,Bool.cond_eq_ite]at ho;split at ho
  ·cases ho;exact acJ hr
  ·exact b g h args hp r hp' wl ho hr
end Mw
namespace Mw
open Go Go.Proofs Go.Shelf Go.RowKit Go.Lib
variable{P:Program}{ρ:Ren}
noncomputable def YP(ρ:Ren):Func:={Body2.n22 ρ with name:= "slices.Insert[[][]int,[]int]" }
noncomputable def as9(ρ:Ren):Func:={Body2.n29 ρ with name:= "slices.overlaps[[]int]" }
theorem nD(ρ:Ren):(YP ρ).ntmps=95:=rfl
structure U1(P:Program)(ρ:Ren):Prop where
 mixed:P.follows .mixedOrders=true
 f22:P.funcs[ρ.f 22]?=some (YP ρ)
 f29:P.funcs[ρ.f 29]?=some (as9 ρ)
 t0:P.underlying (ρ.t 0)=some (TypeDesc.tuple #[])
 a0:∀w,(isAgg (ρ.t 0)).run P w=.ok false w
 z0:∀w,(Go.sizeOf (ρ.t 0)).run P w=.ok 1 w
 v0:∀w,(zeroValue (ρ.t 0)).run P w=.ok (Value.tuple #[]) w
 t3:P.underlying (ρ.t 3)=some (TypeDesc.int IntKind.i64)
 a3:∀w,(isAgg (ρ.t 3)).run P w=.ok false w
 z3:∀w,(Go.sizeOf (ρ.t 3)).run P w=.ok 1 w
 v3:∀w,(zeroValue (ρ.t 3)).run P w=.ok (Value.int IntKind.i64 0) w
 t4:P.underlying (ρ.t 4)=some (TypeDesc.bool)
 a4:∀w,(isAgg (ρ.t 4)).run P w=.ok false w
 z4:∀w,(Go.sizeOf (ρ.t 4)).run P w=.ok 1 w
 v4:∀w,(zeroValue (ρ.t 4)).run P w=.ok (Value.bool false) w
 t9:P.underlying (ρ.t 9)=some (TypeDesc.slice (ρ.t 3))
 a9:∀w,(isAgg (ρ.t 9)).run P w=.ok false w
 z9:∀w,(Go.sizeOf (ρ.t 9)).run P w=.ok 1 w
 v9:∀w,(zeroValue (ρ.t 9)).run P w=.ok (Value.slice none 0 0) w
 t24:P.underlying (ρ.t 24)=some (TypeDesc.slice (ρ.t 9))
 a24:∀w,(isAgg (ρ.t 24)).run P w=.ok false w
 z24:∀w,(Go.sizeOf (ρ.t 24)).run P w=.ok 1 w
 v24:∀w,(zeroValue (ρ.t 24)).run P w=.ok (Value.slice none 0 0) w
 i9:(P.info? (ρ.t 9)).map (fun i=>(i.zero,i.size,i.bytes))=some (some (Value.slice none 0 0),1,24)
set_option maxHeartbeats 4000000 in
set_option maxRecDepth 100000 in
theorem Qh(L:U1 P ρ)(b off n c i vb voff m vc:Nat)(cs vs:List Value)(w:World)(hi:i<n)(hm:0<m)(hroom:n+m≤c)(hc63:n+m≤9223372036854775807)(hvb:vb≠b)
  (hcl:cs.length=n)(hvl:vs.length=m)
  (hcs:∀j v,cs[j]?=some v→w.cell? ⟨b,off+j,none⟩=some v)(hsp:∀j,j<n+m→(w.cell? ⟨b,off+j,none⟩).isSome=true)(hfz:∀j,j<n+m→w.frozen? ⟨b,off+j,none⟩=false)
  (hvs:∀j v,vs[j]?=some v→w.cell? ⟨vb,voff+j,none⟩=some v)(h1c:∀v∈cs,v.oneCell'=true)(h1v:∀v∈vs,v.oneCell'=true)
  (tA tB:TypeId)(kA kB:Nat)(hsa:w.shape? vb=some (tA,kA))(hsb:w.shape? b=some (tB,kB))(hkB:kB≠0)(hfa:w.frozen? ⟨vb,voff,none⟩=false)(hfe:w.frozen? ⟨vb,kA,none⟩=false) :
  Calls P (ρ.f 22) #[.slice (some ⟨b,off,none⟩) n c,.int .i64 i,.slice (some ⟨vb,voff,none⟩) m vc] w fun e w'=>
   e=.returned (.slice (some ⟨b,off,none⟩) (n+m) c)∧w'=(w.drew.setCells b (off+(i+m)) (cs.drop i)).setCells b (off+i) vs:=by
 have t0:=L.t0;have a0:=L.a0;have z0:=L.z0;have v0:=L.v0;have t3:=L.t3;have a3:=L.a3;have z3:=L.z3;have v3:=L.v3;have t4:=L.t4;have a4:=L.a4;have z4:=L.z4;have v4:=L.v4;have t9:=L.t9;have a9:=L.a9;have z9:=L.z9;have v9:=L.v9;have t24:=L.t24;have a24:=L.a24;have z24:=L.z24;have v24:=L.v24;have u0:=run_underlying L.t0;have u3:=run_underlying L.t3;have u4:=run_underlying L.t4;have u9:=run_underlying L.t9;have u24:=run_underlying L.t24;have hz1:¬((m:Int)=0):=by omega
 have hz2:¬((i:Int)=(n:Int)):=by omega
 have hsz:(P.info? (ρ.t 9)).map (·.size)=some 1:=by obtain⟨i0,hi0,h0,h1,h2⟩:=info_parts L.i9;rw[hi0];simp[h1]
 have hov:∀lb cb,(callFunc (ρ.f 29) #[.slice (some ⟨vb,voff,none⟩) m vc,.slice (some ⟨b,off+(i+m),none⟩) lb cb]).run P w=.ok (.value (.bool false)) w:=fun lb cb=>by
  rw[run_callFunc_extern L.f29 (by kernel_rfl) (by kernel_rfl) (by kernel_rfl) (e:=Extern.SlicesOverlaps.overlaps #[(ρ.t 24),(ρ.t 24)] #[(ρ.t 4)]) (by kernel_rfl),
   Lib.run_overlaps_apart w (ρ.t 24) (ρ.t 4) (ρ.t 9) L.t24 1 L.z9 ⟨vb,voff,none⟩ ⟨b,off+(i+m),none⟩ m vc lb cb hvb tA tB kA kB hsa hsb hkB hfa hfe]
  rfl
 have hdl:(cs.drop i).length=n-i:=by rw[List.length_drop,hcl]
 have mixed:=L.mixed;have hw1:IntKind.i64.wrap ((i:Int)+(m:Int))=(i:Int)+(m:Int):=by rw[IntKind.wrap_i64];omega
 have hb1:(0:Int)≤(i:Int)+(m:Int):=by omega
 have hin:i≤n:=by omega
 have htn:((i:Int)+(m:Int)).toNat=i+m:=by omega
 have hb2:¬(c=i+m):=by omega
 have hb3:(i:Int)≤(n:Int)+(m:Int):=by omega
 have hb4:¬(c=i):=by omega
 have hcp1:∀ty dc sc,(Builtin.copy_ #[(ρ.t 24),(ρ.t 24)] ty #[.slice (some ⟨b,off+(i+m),none⟩) (n+m-(i+m)) dc,.slice (some ⟨b,off+i,none⟩) (n+m-i) sc]).run P w.drew=.ok (goInt (cs.drop i).length) (w.drew.setCells b (off+(i+m)) (cs.drop i)):=fun ty dc sc=>
  run_copy_cells w.drew _ _ ty (ρ.t 9) b (off+(i+m)) (n+m-(i+m)) dc ⟨b,off+i,none⟩ (n+m-i) sc (cs.drop i) L.t24 hsz (by rw[hdl];simp only[Nat.min_def];split<;>omega)
   (fun j v hj=>by rw[Addr.add_lit,Nat.add_assoc];exact hcs (i+j) v (by rwa[List.getElem?_drop]at hj))
   (fun j hj=>by rw[Nat.add_assoc];exact hsp _ (by omega)) (fun j hj=>by rw[Nat.add_assoc];exact hfz _ (by omega)) (fun v hv=>h1c v (List.mem_of_mem_drop hv))
 obtain⟨W1,hW1⟩:∃W1,W1=w.drew.setCells b (off+(i+m)) (cs.drop i):=⟨_,rfl⟩
 have hsp1:∀k,k<n+m→(W1.cell? ⟨b,off+k,none⟩).isSome=true:=fun k hk=>by rw[hW1];exact isSome_setCells b _ _ _ (fun j hj=>by rw[Nat.add_assoc];exact hsp _ (by omega)) _ (hsp k hk)
 have hcp2:∀(W:World),(∀x,W.cell? x=W1.cell? x)→(∀x,W.frozen? x=W1.frozen? x)→∀ty dc,(Builtin.copy_ #[(ρ.t 24),(ρ.t 24)] ty #[.slice (some ⟨b,off+i,none⟩) (n+m-i) dc,.slice (some ⟨vb,voff,none⟩) m vc]).run P W=.ok (goInt vs.length) (W.setCells b (off+i) vs):=fun W hWc hWf ty dc=>
  run_copy_cells W _ _ ty (ρ.t 9) b (off+i) (n+m-i) dc ⟨vb,voff,none⟩ m vc vs L.t24 hsz (by rw[hvl];simp only[Nat.min_def];split<;>omega)
   (fun j v hj=>by
    rw[Addr.add_lit,hWc,hW1,World.cell?_setCells_out b _ _ _ _ (fun h _=>absurd h hvb)]
    exact hvs j v hj)
   (fun j hj=>by rw[hWc,Nat.add_assoc];exact hsp1 _ (by omega)) (fun j hj=>by rw[hWf,hW1,World.frozen?_setCells,Nat.add_assoc];exact hfz _ (by omega)) h1v
 rw[←hW1]at hcp1
 go_enter L.f22,nD ρ
 go_wp2_with (simp only[hov])
 go_region_law_o (refine step_copy_runI rfl _ _ (ρ.t 24) (ρ.t 24) rfl _ _ (by simp[Act.eval,Act.put]) (by simp[Act.eval,Act.put]) (hcp1 _ _ _) ?_)
 go_wp2_with (at_builtin;refine wpList_copy_runI _ rfl _ _ (ρ.t 24) (ρ.t 24) rfl _ _ rfl rfl (hcp2 _ (fun _=>rfl) (fun _=>rfl) _ _) ?_)
 go_ret
 first|exact⟨rfl,rfl⟩|exact⟨rfl,by rw[hW1]⟩
set_option maxHeartbeats 4000000 in
set_option maxRecDepth 100000 in
theorem DY(L:U1 P ρ)(b off n c vb voff m vc:Nat)(vs:List Value)(w:World)(hm:0<m)(hroom:n+m≤c)(hc63:n+m≤9223372036854775807)
  (hvl:vs.length=m)(hsp:∀j,j<m→(w.cell? ⟨b,off+n+j,none⟩).isSome=true)(hfz:∀j,j<m→w.frozen? ⟨b,off+n+j,none⟩=false)
  (hvs:∀j v,vs[j]?=some v→w.cell? ⟨vb,voff+j,none⟩=some v)(h1v:∀v∈vs,v.oneCell'=true) :
  Calls P (ρ.f 22) #[.slice (some ⟨b,off,none⟩) n c,.int .i64 n,.slice (some ⟨vb,voff,none⟩) m vc] w fun e w'=>
   e=.returned (.slice (some ⟨b,off,none⟩) (n+m) c)∧w'=w.setCells b (off+n) vs:=by
 have t0:=L.t0;have a0:=L.a0;have z0:=L.z0;have v0:=L.v0;have t3:=L.t3;have a3:=L.a3;have z3:=L.z3;have v3:=L.v3;have t4:=L.t4;have a4:=L.a4;have z4:=L.z4;have v4:=L.v4;have t9:=L.t9;have a9:=L.a9;have z9:=L.z9;have v9:=L.v9;have t24:=L.t24;have a24:=L.a24;have z24:=L.z24;have v24:=L.v24;have u0:=run_underlying L.t0;have u3:=run_underlying L.t3;have u4:=run_underlying L.t4;have u9:=run_underlying L.t9;have u24:=run_underlying L.t24;have mixed:=L.mixed;have hz1:¬((m:Int)=0):=by omega
 have hsrc:Src P 1 (ρ.t 24) (.slice (some ⟨vb,voff,none⟩) m vc) m vs w:=Src.ofSlice w L.t24 ⟨vb,voff,none⟩ m vc vs (by omega) (fun j u hj=>by rw[Addr.add_lit];exact hvs j u hj) h1v
 go_enter L.f22,nD ρ
 go_wp2_with (at_builtin;refine wpList_append_room1 _ rfl _ _ (ρ.t 24) (ρ.t 24) rfl (ρ.t 9) _ _ L.t24 L.i9 b off n c rfl _ rfl m vs hsrc hroom (by rw[hvl];exact hsp) (by rw[hvl];exact hfz) ?_)
 go_ret
 exact⟨rfl,rfl⟩
set_option maxHeartbeats 4000000 in
set_option maxRecDepth 100000 in
theorem DC(L:U1 P ρ)(base:Option Addr)(n c vb voff m vc:Nat)(cs vs:List Value)(w:World)(hm:0<m)(hnc:n≤c)(hroom:c<n+m)(hbig:(n+m)*24≤140737488355328)
  (hcl:cs.length=n)(hvl:vs.length=m)(hnil:base=none→n=0)
  (hcs:∀a,base=some a→∀j v,cs[j]?=some v→w.cell? (a.add j)=some v)
  (hvs:∀j v,vs[j]?=some v→w.cell? ⟨vb,voff+j,none⟩=some v)(h1v:∀v∈vs,v.oneCell'=true) :
  Calls P (ρ.f 22) #[.slice base n c,.int .i64 n,.slice (some ⟨vb,voff,none⟩) m vc] w fun e w'=>
   e=.returned (.slice (some ⟨w.heap.size,0,none⟩) (n+m) (grownCap w (n+m) c (ρ.t 9)))∧
   w'=w.drew.alloc (.cells ((cs++vs).toArray++Builtin.zeroCells (Value.slice none 0 0).cells (grownCap w (n+m) c (ρ.t 9)-(n+m))) (ρ.t 9)):=by
 have t0:=L.t0;have a0:=L.a0;have z0:=L.z0;have v0:=L.v0;have t3:=L.t3;have a3:=L.a3;have z3:=L.z3;have v3:=L.v3;have t4:=L.t4;have a4:=L.a4;have z4:=L.z4;have v4:=L.v4;have t9:=L.t9;have a9:=L.a9;have z9:=L.z9;have v9:=L.v9;have t24:=L.t24;have a24:=L.a24;have z24:=L.z24;have v24:=L.v24;have u0:=run_underlying L.t0;have u3:=run_underlying L.t3;have u4:=run_underlying L.t4;have u9:=run_underlying L.t9;have u24:=run_underlying L.t24;have mixed:=L.mixed;obtain⟨i0,hi0,hz0,hzs,hzb⟩:=info_parts L.i9;have hz1:¬((m:Int)=0):=by omega
 have hsrc:Src P i0.size (ρ.t 24) (.slice (some ⟨vb,voff,none⟩) m vc) m vs w:=by rw[hzs];exact Src.ofSlice w L.t24 ⟨vb,voff,none⟩ m vc vs (by omega) (fun j u hj=>by rw[Addr.add_lit];exact hvs j u hj) h1v
 have hold:(Builtin.firstCells i0.size n (.slice base n c)).run P w.drew=.ok cs.toArray w.drew:=by
  rw[hzs];cases base with
  |none=>have h0:=hnil rfl;subst h0;rw[List.length_eq_zero_iff.1 hcl];exact run_firstCells_none w.drew 1 0 0 c
  |some a=>exact run_firstCells_some w.drew 1 n a n c cs (by omega) (fun j v hj=>hcs a rfl j v hj)
 have hrun:∀ty,(Builtin.append_ #[(ρ.t 24),(ρ.t 24)] ty #[.slice base n c,.slice (some ⟨vb,voff,none⟩) m vc]).run P w=_:=fun ty=>
  run_append_grow_src w (ρ.t 24) (ρ.t 24) ty (ρ.t 9) i0 _ L.t24 hi0 hz0 base n c cs hold _ m vs hsrc hroom (by omega) (by rw[hzb];exact growslice_fits hroom hbig)
 go_enter L.f22,nD ρ
 cases base with
 |none=>
  have h0:=hnil rfl;subst h0
  go_wp2_with (at_builtin;refine Lib.wpList_append_run _ rfl _ _ _ _ rfl _ _ rfl rfl _ _ (hrun _) ?_)
  go_ret
  exact⟨rfl,rfl⟩
 |some a=>
  obtain⟨ab,ao,asp⟩:=a
  go_wp2_with (at_builtin;refine Lib.wpList_append_run _ rfl _ _ _ _ rfl _ _ rfl rfl _ _ (hrun _) ?_)
  all_goals (go_ret;exact⟨rfl,rfl⟩)
set_option maxHeartbeats 4000000 in
set_option maxRecDepth 100000 in
theorem U3(L:U1 P ρ)(b off n c i vb voff m vc:Nat)(cs vs:List Value)(w:World)(hi:i<n)(hm:0<m)(hnc:n≤c)(hroom:c<n+m)(hbig:(n+m)*24≤140737488355328)
  (hcl:cs.length=n)(hvl:vs.length=m)
  (hcs:∀j v,cs[j]?=some v→w.cell? ⟨b,off+j,none⟩=some v)
  (hvs:∀j v,vs[j]?=some v→w.cell? ⟨vb,voff+j,none⟩=some v)(h1c:∀v∈cs,v.oneCell'=true)(h1v:∀v∈vs,v.oneCell'=true) :
  Calls P (ρ.f 22) #[.slice (some ⟨b,off,none⟩) n c,.int .i64 i,.slice (some ⟨vb,voff,none⟩) m vc] w fun e w'=>
   e=.returned (.slice (some ⟨w.heap.size,0,none⟩) (n+m) (grownCap w (n+m) c (ρ.t 9)))∧
   w'=(((w.alloc (.cells ((cs.take i).toArray++Builtin.zeroCells (Value.slice none 0 0).cells (n+m-i)++Builtin.zeroCells (Value.slice none 0 0).cells (grownCap w (n+m) c (ρ.t 9)-(n+m))) (ρ.t 9))).drew.setCells w.heap.size i vs).drew).setCells w.heap.size (i+m) (cs.drop i):=by
 have t0:=L.t0;have a0:=L.a0;have z0:=L.z0;have v0:=L.v0;have t3:=L.t3;have a3:=L.a3;have z3:=L.z3;have v3:=L.v3;have t4:=L.t4;have a4:=L.a4;have z4:=L.z4;have v4:=L.v4;have t9:=L.t9;have a9:=L.a9;have z9:=L.z9;have v9:=L.v9;have t24:=L.t24;have a24:=L.a24;have z24:=L.z24;have v24:=L.v24;have u0:=run_underlying L.t0;have u3:=run_underlying L.t3;have u4:=run_underlying L.t4;have u9:=run_underlying L.t9;have u24:=run_underlying L.t24;have mixed:=L.mixed;obtain⟨i0,hi0,hz0,hzs,hzb⟩:=info_parts L.i9;have hz1:¬((m:Int)=0):=by omega
 have hz2:¬((i:Int)=(n:Int)):=by omega
 have hz3:(c:Int)<(n:Int)+(m:Int):=by omega
 have hsz:(P.info? (ρ.t 9)).map (·.size)=some 1:=by rw[hi0];simp[hzs]
 have hbw:b<w.heap.size:=block_lt_of_cell (hcs 0 _ (List.getElem?_eq_getElem (by omega)));have hvw:vb<w.heap.size:=block_lt_of_cell (hvs 0 _ (List.getElem?_eq_getElem (by omega)));have hkk:(n:Int)+(m:Int)-(i:Int)=((n+m-i:Nat):Int):=by omega
 have hik:i+(n+m-i)=n+m:=by omega
 have hold:(Builtin.firstCells i0.size i (.slice (some ⟨b,off,none⟩) i c)).run P w.drew=.ok (cs.take i).toArray w.drew:=by
  rw[hzs]
  exact run_firstCells_some w.drew 1 i ⟨b,off,none⟩ i c (cs.take i) (by rw[List.length_take];omega) (fun j v hj=>by
   rw[Addr.add_lit];rw[List.getElem?_take]at hj;split at hj
   ·exact hcs j v hj
   ·cases hj)
 have hrz:∀ty,(Builtin.append_ #[(ρ.t 24),(ρ.t 3)] ty #[.slice (some ⟨b,off,none⟩) i c,.int .i64 ((n:Int)+(m:Int)-(i:Int))]).run P w =
   .ok (.slice (some ⟨w.heap.size,0,none⟩) (n+m) (grownCap w (n+m) c (ρ.t 9))) (w.drew.alloc (.cells ((cs.take i).toArray++Builtin.zeroCells (Value.slice none 0 0).cells (n+m-i)++Builtin.zeroCells (Value.slice none 0 0).cells (grownCap w (n+m) c (ρ.t 9)-(n+m))) (ρ.t 9))):=fun ty=>by
  have h:=Lib.run_append_grow_zeros w (ρ.t 24) (ρ.t 3) ty (ρ.t 9) i0 _ .i64 .i64 L.t24 L.t3 hi0 hz0 (some ⟨b,off,none⟩) i c (cs.take i) hold (n+m-i) (by omega) (by omega) (by omega) (by omega) (by rw[hzb];omega) (by rw[hzb,hik];exact growslice_fits hroom hbig);rw[hik]at h;rw[hkk];exact h
 obtain⟨G,hG⟩:∃G,G=grownCap w (n+m) c (ρ.t 9):=⟨_,rfl⟩
 obtain⟨ROW,hROW⟩:∃ROW:Array Value,ROW=(cs.take i).toArray++Builtin.zeroCells (Value.slice none 0 0).cells (n+m-i)++Builtin.zeroCells (Value.slice none 0 0).cells (G-(n+m)):=⟨_,rfl⟩
 rw[←hG]at hrz ⊢;rw[←hROW]at hrz ⊢;have hRl:n+m≤ROW.size:=by rw[hROW];simp[Builtin.zeroCells,Value.cells];omega
 obtain⟨W1,hW1⟩:∃W1,W1=w.drew.alloc (.cells ROW (ρ.t 9)):=⟨_,rfl⟩
 rw[←hW1]at hrz;have hN:∀j,j<n+m→(W1.cell? ⟨w.heap.size,j,none⟩).isSome=true:=fun j hj=>by rw[hW1,World.cell?_alloc_at (w:=w.drew) ROW _ w.heap.size j rfl,Array.getElem?_eq_getElem (by omega)];rfl
 have hNf:∀j,W1.frozen? ⟨w.heap.size,j,none⟩=false:=fun j=>by rw[hW1];exact World.frozen?_alloc_at (w:=w.drew) ROW _ w.heap.size j rfl
 have hOb:∀j v,w.cell? ⟨b,j,none⟩=some v→W1.cell? ⟨b,j,none⟩=some v:=fun j v h=>by rw[hW1,World.cell?_alloc_past (w:=w.drew) _ b j hbw];exact h
 have hOv:∀j v,w.cell? ⟨vb,j,none⟩=some v→W1.cell? ⟨vb,j,none⟩=some v:=fun j v h=>by rw[hW1,World.cell?_alloc_past (w:=w.drew) _ vb j hvw];exact h
 have hcpA:∀(W:World),(∀x,W.cell? x=W1.cell? x)→(∀x,W.frozen? x=W1.frozen? x)→∀ty dc,(Builtin.copy_ #[(ρ.t 24),(ρ.t 24)] ty #[.slice (some ⟨w.heap.size,i,none⟩) (n+m-i) dc,.slice (some ⟨vb,voff,none⟩) m vc]).run P W=.ok (goInt vs.length) (W.setCells w.heap.size i vs):=fun W hWc hWf ty dc=>
  run_copy_cells W _ _ ty (ρ.t 9) w.heap.size i (n+m-i) dc ⟨vb,voff,none⟩ m vc vs L.t24 hsz (by rw[hvl];simp only[Nat.min_def];split<;>omega)
   (fun j v hj=>by rw[Addr.add_lit,hWc];exact hOv _ v (hvs j v hj))
   (fun j hj=>by rw[hWc];exact hN _ (by omega)) (fun j hj=>by rw[hWf];exact hNf _) h1v
 have hGn:n+m≤G:=by rw[hG];exact grownCap_ge w _ _ _
 have hG63:G≤9223372036854775807:=by have:=grownCap_le_maxLen w (n+m) c (ρ.t 9) (by unfold maxLen;omega);rw[←hG]at this;unfold maxLen at this;omega
 have hGi:¬(G=i):=by omega
 have hGim:¬(G=i+m):=by omega
 have hci:¬(c=i):=by omega
 have hbN:b≠w.heap.size:=by omega
 have hdl:(cs.drop i).length=n-i:=by rw[List.length_drop,hcl]
 have hcpB:∀(W:World),(∀x,W.cell? x=(W1.setCells w.heap.size i vs).cell? x)→(∀x,W.frozen? x=(W1.setCells w.heap.size i vs).frozen? x)→∀ty dc sc,(Builtin.copy_ #[(ρ.t 24),(ρ.t 24)] ty #[.slice (some ⟨w.heap.size,i+m,none⟩) (n+m-(i+m)) dc,.slice (some ⟨b,off+i,none⟩) (n-i) sc]).run P W=.ok (goInt (cs.drop i).length) (W.setCells w.heap.size (i+m) (cs.drop i)):=fun W hWc hWf ty dc sc=>
  run_copy_cells W _ _ ty (ρ.t 9) w.heap.size (i+m) (n+m-(i+m)) dc ⟨b,off+i,none⟩ (n-i) sc (cs.drop i) L.t24 hsz (by rw[hdl];simp only[Nat.min_def];split<;>omega)
   (fun j v hj=>by
    rw[Addr.add_lit,hWc,World.cell?_setCells_out _ _ _ _ _ (fun h _=>absurd h hbN),Nat.add_assoc]
    exact hOb _ v (hcs (i+j) v (by rwa[List.getElem?_drop]at hj)))
   (fun j hj=>by rw[hWc];exact isSome_setCells _ _ _ _ (fun t ht=>hN _ (by omega)) _ (hN _ (by omega)))
   (fun j hj=>by rw[hWf,World.frozen?_setCells];exact hNf _) (fun v hv=>h1c v (List.mem_of_mem_drop hv))
 subst hW1;have hE1:∀x,((w.alloc (.cells ROW (ρ.t 9))).drew).cell? x=(w.drew.alloc (.cells ROW (ρ.t 9))).cell? x:=fun x=>rfl;have hE2:∀x,((w.alloc (.cells ROW (ρ.t 9))).drew).frozen? x=(w.drew.alloc (.cells ROW (ρ.t 9))).frozen? x:=fun x=>rfl;have hF1:∀x,(((w.alloc (.cells ROW (ρ.t 9))).drew.setCells w.heap.size i vs).drew).cell? x=((w.drew.alloc (.cells ROW (ρ.t 9))).setCells w.heap.size i vs).cell? x:=fun x=>rfl;have hF2:∀x,(((w.alloc (.cells ROW (ρ.t 9))).drew.setCells w.heap.size i vs).drew).frozen? x=((w.drew.alloc (.cells ROW (ρ.t 9))).setCells w.heap.size i vs).frozen? x:=fun x=>rfl;have hw1:IntKind.i64.wrap ((i:Int)+(m:Int))=(i:Int)+(m:Int):=by rw[IntKind.wrap_i64];omega
 have hb1:(0:Int)≤(i:Int)+(m:Int):=by omega
 have hin:i≤n:=by omega
 have htn:((i:Int)+(m:Int)).toNat=i+m:=by omega
 have hb3:(i:Int)≤(n:Int):=by omega
 clear hkk hik hold hROW hG hRl
 go_enter L.f22,nD ρ
 go_wp2_with (first
  |(at_builtin;refine Lib.wpList_append_run _ rfl _ _ _ _ rfl _ _ rfl rfl _ _ (hrz _) ?_)
  |(at_builtin;refine wpList_copy_runI _ rfl _ _ (ρ.t 24) (ρ.t 24) rfl _ _ rfl rfl (hcpA _ hE1 hE2 _ _) ?_)
  |(at_builtin;refine wpList_copy_runI _ rfl _ _ (ρ.t 24) (ρ.t 24) rfl _ _ rfl rfl (hcpB _ (fun _=>rfl) (fun _=>rfl) _ _ _) ?_))
 go_region_law_o (refine step_copy_runI rfl _ _ (ρ.t 24) (ρ.t 24) rfl (.slice (some ⟨w.heap.size,i+m,none⟩) (n+m-(i+m)) (G-(i+m))) (.slice (some ⟨b,off+i,none⟩) (n-i) (c-i)) (by simp[Act.eval,Act.put]) (by simp[Act.eval,Act.put]) (hcpB _ hF1 hF2 (ρ.t 3) (G-(i+m)) (c-i)) ?_)
 go_wp2
 go_ret
 exact⟨rfl,rfl⟩
end Mw
namespace Go.Proofs
open Go Go.Shelf
def Tryz.lInsL_ren:Ren where
 f:=fun x=>match x with
  |22=>101|29=>155|30=>156|n=>n
 t:=fun x=>match x with
  |9=>22|24=>74|n=>n
 g:=fun x=>x
theorem Tryz.lInsL:Mw.U1 Tryz.prog Tryz.lInsL_ren where
 mixed:=by kernel_rfl
 f22:=Tryz.func101
 f29:=Tryz.func155
 t0:=Tryz.underlying0
 a0:=Tryz.isAgg0
 z0:=Tryz.sizeOf0
 v0:=Tryz.zeroValue0
 t3:=Tryz.underlying3
 a3:=Tryz.isAgg3
 z3:=Tryz.sizeOf3
 v3:=Tryz.zeroValue3
 t4:=Tryz.underlying4
 a4:=Tryz.isAgg4
 z4:=Tryz.sizeOf4
 v4:=Tryz.zeroValue4
 t9:=Tryz.underlying22
 a9:=Tryz.isAgg22
 z9:=Tryz.sizeOf22
 v9:=Tryz.zeroValue22
 t24:=Tryz.underlying74
 a24:=Tryz.isAgg74
 z24:=Tryz.sizeOf74
 v24:=Tryz.zeroValue74
 i9:=by kernel_rfl
end Go.Proofs
namespace Mw
open Go Go.Proofs Go.Shelf
def vC(es:List D)(i:Nat)(y:D):List D:=es.take i++y::es.drop i
theorem Xr(es:List D)(i:Nat)(y:D)(q:Nat)(hi:i≤es.length):(vC es i y)[q]?=if q<i then es[q]? else if q=i then some y else es[q-1]?:=by
 unfold vC;by_cases h:q<i
 ·rw[if_pos h,List.getElem?_append_left (by simp;omega),List.getElem?_take,if_pos h]
 ·rw[if_neg h,List.getElem?_append_right (by simp;omega)];have hl:(es.take i).length=i:=by simp;omega
  rw[hl];by_cases h2:q=i
  ·subst h2;simp
  ·rw[if_neg h2];obtain⟨k,rfl⟩:∃k,q=i+1+k:=⟨q-i-1,by omega⟩
   rw[show i+1+k-i=k+1 by omega,List.getElem?_cons_succ,List.getElem?_drop,show i+1+k-1=i+k by omega]
theorem Bh(es:List D)(i:Nat)(y:D):(vC es i y).length=es.length+1:=by simp only[vC,List.length_append,List.length_take,List.length_cons,List.length_drop];omega
theorem Vj{es:List D}{i:Nat}{y e:D}(h:e∈vC es i y):e=y∨e∈es:=by
 unfold vC at h;rcases List.mem_append.1 h with h|h
 ·exact .inr (List.mem_of_mem_take h)
 ·rcases List.mem_cons.1 h with h|h
  ·exact .inl h
  ·exact .inr (List.mem_of_mem_drop h)
theorem Jo{d:D}(h:d.isCell=true):d.cells=[d]:=by cases d<;>first|rfl|cases h
theorem yu:∀{es:List D},(∀e∈es,e.isCell=true)→flat es=es
 |[],_=>rfl|e::r,h=>by rw[iw,yu (fun x hx=>h x (List.mem_cons_of_mem _ hx)),Jo (h e (.head _))];rfl
def Ce (args:List V) (hp:List O):Option (CR × List O × Nat):=match args with
 | [.sl (.heap l) 1 len off n,.d (.int .i64 i),.vl [.d y]]=>match hp[l]? with
  | some (.vec sz es false true)=>bif (sz == 1)&&(es.length == len)&&(n == len)&&(off == 0)&&decide (0 < n)&&decide (0≤i)&&decide (i≤n)&&Nat.ble n 100000000&&es.all D.isCell then
    some (.ret (.sl (.heap l) 1 (n+1) 0 (n+1)),hp.set l (.vec 1 (vC es i.toNat y) false true),1 <<< l)
   else none
  |_=>none
 |_=>none
variable{C:aY}
theorem aaZ (hOk:C.Ok) {ρ:Ren} (L:U1 C.P ρ) {args:List V} {hp hp':List O} {r:CR} {wl:Nat} (h:Ce args hp=some (r,hp',wl)):aC C (ρ.f 22) args hp r hp':=by
 unfold Ce at h;split at h
 ·rename_i l len off n i y;split at h
  ·rename_i sz es hl;rw[Bool.cond_eq_ite] at h;split at h
   ·rename_i hcnd;simp only[Bool.and_eq_true,beq_iff_eq,decide_eq_true_eq,Nat.ble_eq,List.all_eq_true] at hcnd;obtain ⟨⟨⟨⟨⟨⟨⟨⟨rfl,hlen⟩,rfl⟩,rfl⟩,hpos⟩,hi0⟩,hin⟩,hmax⟩,hall1⟩:=hcnd;obtain⟨i,rfl⟩:∃k:Nat,i=k:=⟨i.toNat,by omega⟩
    have hin:i≤n:=by omega
    simp only[oI,pI,Int.toNat_natCast]at h;obtain⟨rfl,rfl,rfl⟩:=h;intro E w xs hI hv;obtain⟨body,hbody⟩:∃c,(YP ρ).body=some c:=⟨_,rfl⟩
    refine⟨fun w'=>gV hOk L.f22 hbody xs w',?_⟩;have hget:(Mem.get ⟨[],hp,0⟩ (.heap l))=some (.vec 1 es false true):=hl;obtain⟨x0,x1,x2,rfl⟩:∃x0 x1 x2,xs=#[x0,x1,x2]:=by
     obtain⟨ls⟩:=xs
     match ls,hv.1 with
     |[a,b,c],_=>exact⟨a,b,c,rfl⟩
    have e0:=hv.2 0 _ x0 rfl rfl;have e1:=(hv.2 1 _ x1 rfl rfl).int_inv;have e2:=hv.2 2 _ x2 rfl rfl;subst e1;cases e0 with|sl _ _ _ _ _ b c a cap hk ha h0 hn=>
    obtain⟨rfl,rfl⟩:=h0 rfl;obtain⟨vb,o,vcap,ys,hya,hvcap,hyG,hyR,hyC,fi,hFl⟩:=e2.vl_inv';cases hya;have g0:=hyG 0 (.d y) rfl;have r0:=(hyR 0 (.d y) rfl).of_d;have hyc:y.isCell=true:=hyC (.d y) (.head _);simp only[Nat.add_zero]at g0;obtain⟨va,hva,hvx⟩:=(hI.prot _ _ _ g0).row (r0.cell hyc) (hI.prot _ _ _ hFl);obtain⟨b1,c1,arr,k1,k2,k3,k4,k5,k6,k7,k8,k9,k10⟩:=hI.vec hget;rw[hlen]at k1;rw[hk]at k1;cases k1;have hne:vb≠b:=fun e=>by rw[e,k10 _ (.inl rfl)]at g0;cases g0
    have hflat:flat es=es:=yu hall1;rw[hflat]at k8;have hsz:arr.size=cap:=by omega
    have hcap:n≤cap:=by omega
    let xs:=arr.toList.take n;have hxl:xs.length=n:=by simp[xs];omega
    have hxg:∀(j:Nat) (v:Value),xs[j]?=some v→arr[j]?=some v∧j<n:=fun j v hj=>by
     simp only[xs,List.getElem?_take]at hj;split at hj
     ·rename_i hlt;exact⟨by simpa using hj,hlt⟩
     ·cases hj
    have hx1:∀v∈xs,v.oneCell'=true:=fun v hv=>by obtain⟨j,hj⟩:=List.mem_iff_getElem?.1 hv;obtain⟨ha,hlt⟩:=hxg j v hj;have hd:es[j]?=some es[j]:=List.getElem?_eq_getElem (by omega);exact oq ((k8 j _ v hd ha).cell (hall1 _ (List.getElem_mem _)))
    have hy1c:(ys 0).oneCell'=true:=oq (r0.cell (hyc));have hcl':∀e∈vC es i y,e.isCell=true:=fun e he=>by
     rcases Vj he with rfl|he
     ·exact hyc
     ·exact hall1 e he
    have hflat':flat (vC es i y)=vC es i y:=yu hcl';have hall:∀ (b' c':Nat) (arr':Array Value) (w':World),w.heap.size≤w'.heap.size∧nS w w'→(∀ r,r < w.heap.size→r≠b→w'.heap[r]?=w.heap[r]?)→(b'=b∨(w.heap.size≤b'∧w'.heap[b]?=w.heap[b]?)) →
      rowAt w' b' arr'→arr'.size=c'→n+1≤c'→(∀j,j<i→arr'[j]?=arr[j]?)→arr'[i]?=some (ys 0)→(∀j,i≤j→j<n→arr'[j+1]?=arr[j]?)→
      ∃E',Inv C E' ⟨[],hp.set l (.vec 1 (vC es i y) false true),0⟩ w'∧Moved E ⟨[],hp,0⟩ w E' ⟨[],hp.set l (.vec 1 (vC es i y) false true),0⟩ w'∧nO E' (.ret (.sl (.heap l) 1 (n+1) 0 (n+1))) (.returned (.slice (some ⟨b',0,none⟩) (n+1) c')):=by
     intro b' c' arr' w' q1 q2 q3 q4 q5 q6 q7 q8 q9
     obtain⟨E',hS,hk'⟩:=hI.swapVec (sz:=1) (c':=c') (es':=vC es i y) hget (by rw[hlen];exact hk) (by rw[Bh];omega) q1 q2 q3 q4 (by omega) (by rw[Bh];omega) (fun e he=>by rw[Jo (hcl' e he)];rfl) (fun d hd=>by
       rw[hflat']at hd
       exact hcl' d hd) (fun q d x hd hx=>by
       rw[hflat',Xr _ _ _ _ (by omega)]at hd;by_cases h1:q<i
       ·rw[if_pos h1]at hd;rw[q7 q h1]at hx;exact k8 q d x hd hx
       ·rw[if_neg h1]at hd;by_cases h2:q=i
        ·subst h2;rw[if_pos rfl]at hd;cases hd;rw[q8]at hx;cases hx;exact r0
        ·rw[if_neg h2]at hd;obtain⟨k,rfl⟩:∃k,q=k+1:=⟨q-1,by omega⟩
         simp only[Nat.add_sub_cancel]at hd;have hlt:k<n:=by have:=(List.getElem?_eq_some_iff.1 hd).1;omega
         rw[q9 k (by omega) hlt]at hx
         exact k8 k d x hd hx)
     have hk2:E'.k (.heap l) (n+1)=some (b',c'):=by rw[←hk',Bh,hlen]
     exact⟨E',hS.inv.reWl,hS.mov.reWl,.ret (.sl (.heap l) 1 (n+1) 0 (n+1) b' c' 0 c' hk2 (.inr (by simp)) (fun _=>⟨rfl,rfl⟩) q6)⟩
    obtain⟨eb,heb⟩:=k2;obtain⟨ea,hea⟩:=hva;have k2:rowAt w b arr:=⟨eb,heb⟩
    have hva:rowAt w vb va:=⟨ea,hea⟩
    have hxs:∀j v,xs[j]?=some v→w.cell? ⟨b,0+j,none⟩=some v:=fun j v hj=>by rw[Nat.zero_add,k2.cell];exact(hxg j v hj).1
    have hvs:∀j v,[ys 0][j]?=some v→w.cell? ⟨vb,o+j,none⟩=some v:=fun j v hj=>by
     cases j with
     |zero=>simp at hj;subst hj;rw[Nat.add_zero,hva.cell];exact hvx|succ j=>simp at hj
    have hv1:∀v∈[ys 0],v.oneCell'=true:=fun v hv=>by simp at hv;subst hv;exact hy1c
    intro cs;by_cases hie:i=n
    ·subst hie;by_cases hroom:i+1≤cap
     ·have hcall:=DY L b 0 i cap vb o 1 vcap [ys 0] w (by omega) hroom (by omega) rfl
       (fun j hj=>by rw[k2.cell,Array.getElem?_eq_getElem (by omega)];rfl) (fun j hj=>k2.free _ (by omega)) hvs hv1
      obtain⟨e,w',fr,⟨rfl,hw'⟩,hcm,hfn,hlv⟩:=hcall cs;rw[Nat.zero_add]at hw';have r1:rowAt (w.setCells b i [ys 0]) b _:=dm [ys 0] i arr w k2 (by simp;omega);have sl:i+[ys 0].length≤arr.toList.length:=by simp;omega
      obtain⟨E',hI',hM,hE⟩:=hall b cap _ w' ⟨by rw[hw',(bQ _ _ _).1];exact Nat.le_refl _,by rw[hw'];exact(bQ _ _ _).2⟩
       (fun r _ hr=>by rw[hw',heap_setCells_other _ _ _ _ hr]) (.inl rfl) (by rw[hw'];exact r1) (by simp[aI _ _ _ sl];omega) hroom
       (fun j hj=>by
        simp only[List.getElem?_toArray]
        rw[aB _ _ _ sl,if_neg (by omega)];simp)
       (by
        simp only[List.getElem?_toArray]
        rw[aB _ _ _ sl,if_pos (by simp)];simp)
       (fun j h1 h2=>by omega)
      exact⟨E',w',fr,_,hI',hM,hE,hcm,hfn,hlv⟩
     ·have hcall:=DC L (some ⟨b,0,none⟩) i cap vb o 1 vcap xs [ys 0] w (by omega) hcap (by omega) (by omega) hxl rfl (fun h=>by cases h)
       (fun a ha j v hj=>by cases ha;rw[Addr.add_lit];exact hxs j v hj) hvs hv1
      obtain⟨e,w',fr,⟨rfl,hw'⟩,hcm,hfn,hlv⟩:=hcall cs;have hG:=grownCap_ge w (i+1) cap (ρ.t 9);generalize grownCap w (i+1) cap (ρ.t 9)=G at *;obtain⟨ROW,hROW⟩:∃ROW:Array Value,ROW=(xs++[ys 0]).toArray++Builtin.zeroCells (Value.slice none 0 0).cells (G-(i+1)):=⟨_,rfl⟩
      rw[←hROW]at hw';have hRs:ROW.size=G:=by rw[hROW];simp[Builtin.zeroCells,Value.cells,hxl];omega
      have p0:rowAt (w.drew.alloc (.cells ROW (ρ.t 9))) w.heap.size ROW:=fO w.drew ROW (ρ.t 9);have oth:∀r,r<w.heap.size→w'.heap[r]?=w.heap[r]?:=fun r hr=>by rw[hw'];exact heap_alloc w.drew _ r hr
      have hbl:b<w.heap.size:=k2.lt;have hRg:∀j,j<i+1→ROW[j]?=(xs++[ys 0])[j]?:=fun j hj=>by rw[hROW,Array.getElem?_append_left (by simp[hxl];omega)];simp
      obtain⟨E',hI',hM,hE⟩:=hall w.heap.size G ROW w' ⟨by rw[hw'];simp[World.alloc,-World.alloc_eq],by rw[hw'];exact⟨rfl,rfl⟩⟩
       (fun r hr _=>oth r hr) (.inr ⟨Nat.le_refl _,oth b hbl⟩) (by rw[hw'];exact p0) hRs hG
       (fun j hj=>by
        rw[hRg j (by omega),List.getElem?_append_left (by omega)]
        simp only[xs,List.getElem?_take,if_pos hj,Array.getElem?_toList])
       (by rw[hRg i (by omega),List.getElem?_append_right (by omega),hxl];simp)
       (fun j h1 h2=>by omega)
      exact⟨E',w',fr,_,hI',hM,hE,hcm,hfn,hlv⟩
    ·have hdl:(xs.drop i).length=n-i:=by rw[List.length_drop,hxl]
     have hdg:∀j,i≤j→j<n→(xs.drop i)[j-i]?=arr[j]?:=fun j h1 h2=>by rw[List.getElem?_drop,show i+(j-i)=j by omega];simp only[xs,List.getElem?_take,if_pos h2,Array.getElem?_toList]
     by_cases hroom:n+1≤cap
     ·have hcall:=Qh L b 0 n cap i vb o 1 vcap xs [ys 0] w (by omega) (by omega) hroom (by omega) hne hxl rfl hxs
       (fun j hj=>by rw[Nat.zero_add,k2.cell,Array.getElem?_eq_getElem (by omega)];rfl) (fun j hj=>k2.free _ (by omega)) hvs hx1 hv1
       ea eb va.size arr.size (by simp[World.shape?,hea]) (by simp[World.shape?,heb]) (by omega) (by simp[World.frozen?,hea]) (by simp[World.frozen?,hea])
      obtain⟨e,w',fr,⟨rfl,hw'⟩,hcm,hfn,hlv⟩:=hcall cs;simp only[Nat.zero_add]at hw';have s1:(i+1)+(xs.drop i).length≤arr.toList.length:=by simp only[hdl,Array.length_toList];omega
      have r1:rowAt (w.drew.setCells b (i+1) (xs.drop i)) b _:=dm (xs.drop i) (i+1) arr w.drew k2 (by rw[hdl];omega);have hl1:(splice arr.toList (i+1) (xs.drop i)).length=cap:=by rw[aI _ _ _ s1];simpa using hsz
      have s2:i+[ys 0].length≤(splice arr.toList (i+1) (xs.drop i)).length:=by rw[hl1];simp;omega
      have r2:=dm [ys 0] i _ _ r1 (by simp only[List.size_toArray,hl1,List.length_cons,List.length_nil];omega);obtain⟨E',hI',hM,hE⟩:=hall b cap _ w' ⟨by rw[hw',(bQ _ _ _).1,(bQ _ _ _).1];exact Nat.le_refl _,by rw[hw'];exact(show nS w w.drew from⟨rfl,rfl⟩).trans ((bQ _ _ _).2.trans (bQ _ _ _).2)⟩
       (fun r _ hr=>by rw[hw',heap_setCells_other _ _ _ _ hr,heap_setCells_other _ _ _ _ hr];rfl) (.inl rfl) (by rw[hw'];exact r2) (by simp only[List.size_toArray];rw[aI _ _ _ s2];exact hl1) hroom
       (fun j hj=>by
        simp only[List.getElem?_toArray]
        rw[aB _ _ _ s2,if_neg (by omega),aB _ _ _ s1,if_neg (by omega)];simp)
       (by
        simp only[List.getElem?_toArray]
        rw[aB _ _ _ s2,if_pos (by simp)];simp)
       (fun j h1 h2=>by
        simp only[List.getElem?_toArray];rw[aB _ _ _ s2,if_neg (by simp;omega),aB _ _ _ s1,if_pos (by rw[hdl];omega),←hdg j h1 h2]
        congr 1;omega)
      exact⟨E',w',fr,_,hI',hM,hE,hcm,hfn,hlv⟩
     ·have hcall:=U3 L b 0 n cap i vb o 1 vcap xs [ys 0] w (by omega) (by omega) hcap (by omega) (by omega) hxl rfl hxs hvs hx1 hv1;obtain⟨e,w',fr,⟨rfl,hw'⟩,hcm,hfn,hlv⟩:=hcall cs;have hG:=grownCap_ge w (n+1) cap (ρ.t 9);generalize grownCap w (n+1) cap (ρ.t 9)=G at *;obtain⟨ROW,hROW⟩:∃ROW:Array Value,ROW=(List.take i xs).toArray++Builtin.zeroCells (Value.slice none 0 0).cells (n+1-i)++Builtin.zeroCells (Value.slice none 0 0).cells (G-(n+1)):=⟨_,rfl⟩
      rw[←hROW]at hw';have hRs:ROW.size=G:=by rw[hROW];simp[Builtin.zeroCells,Value.cells,hxl];omega
      have hRg:∀j,j<i→ROW[j]?=arr[j]?:=fun j hj=>by rw[hROW,Array.append_assoc,Array.getElem?_append_left (by simp[hxl];omega)];simp only[xs,List.getElem?_toArray,List.getElem?_take,if_pos hj,if_pos (show j<n by omega),Array.getElem?_toList]
      obtain⟨W0,hW0⟩:∃W0,W0=w.alloc (.cells ROW (ρ.t 9)):=⟨_,rfl⟩
      rw[←hW0]at hw';have p0:rowAt W0 w.heap.size ROW:=hW0▸fO w ROW (ρ.t 9);have pz:W0.heap.size=w.heap.size+1:=by rw[hW0];simp
      have pw:nS w W0:=hW0▸⟨rfl,rfl⟩
      have po:∀r,r<w.heap.size→W0.heap[r]?=w.heap[r]?:=fun r hr=>by rw[hW0];exact heap_alloc w _ r hr
      obtain⟨W1,hW1⟩:∃W1,W1=W0.drew.setCells w.heap.size i [ys 0]:=⟨_,rfl⟩
      rw[←hW1]at hw';have s1:i+[ys 0].length≤ROW.toList.length:=by simp;omega
      have p1:rowAt W1 w.heap.size (splice ROW.toList i [ys 0]).toArray:=hW1▸dm [ys 0] i ROW W0.drew p0 (by simp;omega);have p1z:=(bQ (b:=w.heap.size) [ys 0] i W0.drew)
      rw[←hW1]at p1z;have hl1:(splice ROW.toList i [ys 0]).length=G:=by rw[aI _ _ _ s1];simpa using hRs
      have s2:(i+1)+(xs.drop i).length≤(splice ROW.toList i [ys 0]).length:=by rw[hl1,hdl];omega
      have p2:rowAt w' w.heap.size (splice (splice ROW.toList i [ys 0]).toArray.toList (i+1) (xs.drop i)).toArray:=hw'▸dm (xs.drop i) (i+1) _ W1.drew p1 (by simp only[List.size_toArray,hl1,hdl];omega);have p2z:=(bQ (b:=w.heap.size) (xs.drop i) (i+1) W1.drew)
      rw[←hw']at p2z;have oth:∀r,r<w.heap.size→w'.heap[r]?=w.heap[r]?:=fun r hr=>by
       have hne:r≠w.heap.size:=by omega
       rw[hw',heap_setCells_other _ _ _ _ hne];show W1.heap[r]?=_;rw[hW1,heap_setCells_other _ _ _ _ hne];exact po r hr
      have hbl:b<w.heap.size:=k2.lt
      obtain⟨E',hI',hM,hE⟩:=hall w.heap.size G _ w' ⟨by rw[p2z.1];show _≤W1.heap.size;rw[p1z.1];show _≤W0.heap.size;omega,
        pw.trans ((show nS W0 W0.drew from⟨rfl,rfl⟩).trans (p1z.2.trans ((show nS W1 W1.drew from⟨rfl,rfl⟩).trans p2z.2)))⟩
       (fun r hr _=>oth r hr) (.inr ⟨Nat.le_refl _,oth b hbl⟩) p2 (by simp only[List.size_toArray];rw[aI _ _ _ s2];exact hl1) hG
       (fun j hj=>by
        simp only[List.getElem?_toArray];rw[aB _ _ _ s2,if_neg (by omega),aB _ _ _ s1,if_neg (by omega)]
        simpa using hRg j hj)
       (by
        simp only[List.getElem?_toArray]
        rw[aB _ _ _ s2,if_neg (by omega),aB _ _ _ s1,if_pos (by simp)];simp)
       (fun j h1 h2=>by
        simp only[List.getElem?_toArray];rw[aB _ _ _ s2,if_pos (by rw[hdl];omega),←hdg j h1 h2]
        congr 1;omega)
      exact⟨E',w',fr,_,hI',hM,hE,hcm,hfn,hlv⟩
   ·cases h
  ·cases h
 ·cases h
theorem abJ{args:List V}{hp hp':List O}{r:CR}{wl:Nat}(h:Ce args hp=some (r,hp',wl)):hp.length≤hp'.length∧∀i,i<hp.length→wl.testBit i=false→hp'[i]?=hp[i]?:=by
 unfold Ce at h;split at h
 ·split at h
  ·rw[Bool.cond_eq_ite]at h;split at h
   ·simp only[oI,pI]at h;obtain⟨rfl,rfl,rfl⟩:=h;refine⟨by simp,fun i _ hb=>?_⟩;rw[kZ]at hb;simp only[beq_eq_false_iff_ne,ne_eq,decide_eq_false_iff_not]at hb;rw[List.getElem?_set,if_neg (fun e=>hb (by simpa using e))]
   ·cases h
  ·cases h
 ·cases h
end Mw
namespace Mw
open Go Go.Proofs
theorem Uz(es:List D)(hp:List O):aK aG 60 (.fn (.func 101) [] []) [.d .nils,.d (.int .i64 0),.vl [.d (.list 1 es)]] none hp=some (.ret (.sl (.heap hp.length) 1 1 0 1),false,hp++[.vec 1 [.list 1 es] false true],0):=by kernel_rfl
theorem PU(hp:List O):aK aG 60 (.fn (.func 101) [] []) [.d .nils,.d (.int .i64 0),.vl [.d .nils]] none hp=some (.ret (.sl (.heap hp.length) 1 1 0 1),false,hp++[.vec 1 [.nils] false true],0):=by kernel_rfl
def Ii(args:List V)(hp:List O):Option (CR×List O×Nat):=match args with
 |[.d .nils,.d (.int .i64 0),.vl [.d (.list 1 es)]]=>some (.ret (.sl (.heap hp.length) 1 1 0 1),hp++[.vec 1 [.list 1 es] false true],0)|[.d .nils,.d (.int .i64 0),.vl [.d .nils]]=>some (.ret (.sl (.heap hp.length) 1 1 0 1),hp++[.vec 1 [.nils] false true],0)|_=>none
theorem Vb{args:List V}{hp hp':List O}{r:CR}{wl:Nat}(h:Ii args hp=some (r,hp',wl)):aC aG 101 args hp r hp':=by
 unfold Ii at h;split at h
 ·simp only[oI,pI]at h;obtain⟨rfl,rfl,rfl⟩:=h;rename_i es;have hr:=Uz es hp;rw[wW]at hr;have:=(CB nY PG 60).func _ _ _ _ _ _ _ _ _ hr;simpa using this
 ·simp only[oI,pI]at h;obtain⟨rfl,rfl,rfl⟩:=h;have hr:=PU hp;rw[wW]at hr;have:=(CB nY PG 60).func _ _ _ _ _ _ _ _ _ hr;simpa using this
 ·cases h
theorem Yo{args:List V}{hp hp':List O}{r:CR}{wl:Nat}(h:Ii args hp=some (r,hp',wl)):hp.length≤hp'.length∧∀i,i<hp.length→wl.testBit i=false→hp'[i]?=hp[i]?:=by
 unfold Ii at h;split at h
 ·simp only[oI,pI]at h;obtain⟨rfl,rfl,rfl⟩:=h;exact⟨by simp,fun i hi _=>List.getElem?_append_left hi⟩
 ·simp only[oI,pI]at h;obtain⟨rfl,rfl,rfl⟩:=h;exact⟨by simp,fun i hi _=>List.getElem?_append_left hi⟩
 ·cases h
def H6(vs:List V)(hp:List O):Option (CR×List O×Nat):=match Ce vs hp with
 |some r=>some r|none=>Ii vs hp
def Yu(tab:List (Nat×Ans)):Nat→Option (List V→List O→Option (CR×List O×Nat)):=fun g=>bif g==101 then some H6 else abk tab g
theorem aio{tab:List (Nat×Ans)}(hT:mO aG tab):yX (aG.knows (Yu tab)):=by
 have h0:=afI hT;obtain⟨a,b⟩:=h0;constructor
 ·intro g h args hp r hp' wl ho hr;rw[fK];simp only[aY.knows,Yu,Bool.cond_eq_ite]at ho;split at ho
  ·rename_i hg;cases ho;have:g=101:=by simpa using hg
   subst this;simp only[H6]at hr;split at hr
   ·rename_i h1;cases hr;exact aaZ nY Tryz.lInsL h1
   ·exact Vb hr
  ·have:=a g h args hp r hp' wl ho hr;rw[fK]at this;exact this
 ·intro g h args hp r hp' wl ho hr;simp only[aY.knows,Yu,Bool.cond_eq_ite]at ho;split at ho
  ·cases ho;simp only[H6]at hr;split at hr
   ·rename_i h1;cases hr;exact abJ h1
   ·exact Yo hr
  ·exact b g h args hp r hp' wl ho hr
end Mw
namespace Mw
open Go
def strip(o:Oper):Oper:={o with type:=0,pos:= "",after:=#[] }
variable{C:aY}{call:bK}{f:FuncId}
theorem Ji(o:Oper)(ρ:Operand→V)(g:Rd)(hp:List O):fD C call f (strip o) ρ g hp=fD C call f o ρ g hp:=by obtain⟨dst,op,ty,pos,after,guard⟩:=o;cases op<;>rfl
theorem IV(o:Oper)(s:St):fE C call f (strip o) s=fE C call f o s:=by unfold fE;rw[Ji];rfl
theorem D5(all:List Oper)(s:St)(o:Oper):gU (all.map strip) s (strip o)=gU all s o:=by
 unfold gU;obtain⟨dst,op,ty,pos,after,guard⟩:=o;cases guard with
 |none=>rfl|some g=>
  obtain⟨j,w⟩:=g;simp only[strip,List.getElem?_map];cases h:all[j]? with
  |none=>rfl|some p=>rfl
theorem l7(all:List Oper):∀(l:List Oper) (s:St),bg C call f (all.map strip) (l.map strip) s=bg C call f all l s
 |[],s=>rfl|o::l,s=>by simp only[List.map_cons,bg,D5,IV,l7 all l];rfl
def ahD(C:aY)(f:Nat)(t:Tmp)(ob:O)(mk:Loc→V)(s:St):St:=
 bif C.esc f t then {s with tm:=ins t (mk (.heap s.m.hp.length)) s.tm,m:={s.m with hp:=s.m.hp++[ob] } }
 else {s with tm:=ins t (mk (.slot t (dY t s.m.ob))) s.tm,m:={s.m with ob:=ins t (dY t s.m.ob,ob) s.m.ob} }
def Vs(ss:List (Loc×O))(s:St):St:={s with m:=s.m.sets ss}
def ad2(dst:Option Tmp)(ss:List (Loc×O))(s:St):Option (CR×Bool×List O×Nat)→Option (X×St)
 |some (.ret v,_,hp,wl)=>some (.normal,put dst v {s with m:={s.m.sets ss with hp:=hp,wl:=(s.m.sets ss).wl ||| wl} })|some (.pan v,_,hp,wl)=>some (.pan v,{s with m:={s.m.sets ss with hp:=hp,wl:=(s.m.sets ss).wl ||| wl} })|none=>none
def TT(C:aY)(f:Nat)(o:Oper)(s:St):Option Eff→Option (X×St)
 |some (.val v ss)=>some (.normal,put o.dst v (Vs ss s))|some (.skip ss)=>some (.normal,put o.dst (.tuple []) (Vs ss s))|some (.new ob mk ss)=>match o.dst with
  |some t=>some (.normal,ahD C f t ob mk (Vs ss s))|none=>none
 |some (.dfr d)=>match s.rnd with
  |some _=>none|none=>some (.normal,put o.dst (.tuple []) {s with df:=d::s.df})
 |some (.pan v)=>some (.pan v,s)|some .recov=>match s.rc with
  |some (some v)=>some (.normal,put o.dst v {s with rc:=some none,rcd:=true})|some none=>some (.normal,put o.dst (.d .nili) s)|none=>none
 |none=>none
def aiE(o:Oper)(s:St):Option V→Option (X×St)
 |some v=>some (.normal,put o.dst v s)|none=>none
def afN(call:bK)(o:Oper)(s:St):Option (List V×List (Loc×O))→Option (V×List (Loc×O))→Option (X×St)
 |some (vs,ss),some (fn',ts)=>ad2 o.dst (ss++ts) s (call fn' vs none (setH s.m.hp (ss++ts)))|_,_=>none
def Gp:X×St×FP→X×St:=fun r=>(r.1,r.2.1)
def RI:X×St×List FP→X×St:=fun r=>(r.1,r.2.1)
def opS(C:aY)(call:bK)(f:Nat)(o:Oper)(s:St):Option (X×St):=
 if eH o.op=true then aiE o s (J7 C o (bJ C s))else
 match o.op with
 | .call {callee:=.value fn,args,.. }=>afN call o s (bH.goL (ay C (bJ C s fn)) (iT (fB o (bJ C s)) s.m) (args.toList.map (bJ C s))) (bH 4 (iT (fB o (bJ C s)) s.m) (bJ C s fn))| .call {callee:=.invoke _ _,.. }=>(fE C call f o s).map Gp|_=>TT C f o s (jT C f o (bJ C s) (iT (fB o (bJ C s)) s.m))
theorem zH(o:Oper)(s:St)(e:Option Eff)(ls:List Loc):TT C f o s e=((match(match e with
   |some e=>some (Out.eff e)|none=>none)with
  |some out=>aO C f o ls s out|none=>none).map Gp):=by
 obtain⟨dst,op,ty,pos,after,guard⟩:=o;cases e with
 |none=>rfl| some e =>
  cases e with
  |val=>rfl|skip=>rfl| new ob mk ss =>
   cases dst with
   |none=>rfl|some t=>simp only[TT,aO,ahD,Vs];cases C.esc f t<;>rfl
  |dfr d=>simp only[TT,aO];cases s.rnd<;>rfl|pan=>rfl|recov=>
   simp only[TT,aO];cases s.rc with
   |none=>rfl|some v=>cases v<;>rfl
theorem Ad(o:Oper)(s:St)(e:Option V)(ls:List Loc):aiE o s e=((match(match e with
   |some v=>some (Out.eff (.val v []))|none=>none)with
  |some out=>aO C f o ls s out|none=>none).map Gp):=by
 cases e with
 |none=>rfl|some e=>rfl
theorem ahB(o:Oper)(s:St):opS C call f o s=(fE C call f o s).map Gp:=by
 obtain⟨dst,op,ty,pos,after,guard⟩:=o;cases op
 case call c=>
  obtain⟨callee,args,ats⟩:=c;cases callee
  case value fn=>
   simp only[opS,fE,fD,eH,cond_false,Bool.false_eq_true,if_false,afN];cases bH.goL (ay C (bJ C s fn)) _ (args.toList.map (bJ C s))with
   |none=>rfl| some a =>
    obtain⟨vs,ss⟩:=a;simp only;cases bH 4 _ (bJ C s fn)with
    |none=>rfl|some b=>
     obtain⟨fn',ts⟩:=b;simp only[fP];cases call fn' vs none (setH s.m.hp (ss++ts))with
     |none=>rfl|some r=>obtain⟨y,r1,r2,r3⟩:=r;cases y<;>rfl
  case invoke=>rfl
  case builtin bb=>
   cases bb<;>simp only[opS,fE,fD,eH,cond_false,cond_true,Bool.false_eq_true,if_false,if_true]<;>first|exact Ad _ _ _ []|exact zH _ _ _ []|exact Ad _ _ _ _|exact zH _ _ _ _
 all_goals (simp only[opS,fE,fD,eH,cond_false,cond_true,Bool.false_eq_true,if_false,if_true]<;>first|exact Ad _ _ _ []|exact zH _ _ _ []|exact Ad _ _ _ _|exact zH _ _ _ _)
def jy(C:aY)(call:bK)(f:Nat)(all:List Oper):List Oper→St→Option (X×St)
 |[],s=>some (.normal,s)|o::r,s=>goOn (jy C call f all r) o (gU all s o) s (opS C call f o s)
 where
 goOn (k:St→Option (X×St)) (o:Oper) (w:Option Bool) (s:St) (r:Option (X×St)):Option (X×St):=match w with
  |some true=>andThen k r|some false=>k (put o.dst (.tuple []) s)|none=>none
theorem GZ(all:List Oper):∀(l:List Oper) (s:St),jy C call f all l s=(bg C call f all l s).map RI
 |[],s=>rfl| o :: l,s=>by
  have ih:=GZ all l;simp only[jy,bg,ahB,jy.goOn];cases gU all s o with
  |none=>rfl| some w =>
   cases w with
   | true =>
    simp only;cases fE C call f o s with
    |none=>rfl| some r =>
     obtain⟨y,s1,fp⟩:=r;cases y with
     | normal =>
      show jy C call f all l s1=_;rw[ih]
      show _=Option.map RI (match bg C call f all l s1 with
       |some (x,s,fps)=>some (x,s,fp::fps)|none=>none)
      cases bg C call f all l s1 with
      |none=>rfl|some r=>obtain⟨y,s2,fps⟩:=r;rfl
     |_=>rfl
   |false=>
    simp only[ih];cases bg C call f all l (put o.dst (.tuple []) s)with
    |none=>rfl|some r=>obtain⟨y,s2,fps⟩:=r;rfl
def oK(mask:Nat):Option (X×St)→Option (X×St)
 |some (.normal,s)=>some (.normal,{s with tm:=cO mask s.tm})|r=>r
def Qu(mask:Nat):Option (X×St)→Option (X×St)
 |some (.normal,s)=>some (.normal,{s with tm:=cO mask s.tm})|_=>none
def J6(n mask:Nat)(ps:List (Nat×Nat)):Option (X×St×List FP)→Option (X×St)
 |some (.normal,s,fps)=>bif jK n fps ps then some (.normal,{s with tm:=cO mask s.tm})else none|_=>none
theorem aiq{id:Nat}{ops:Array Oper}{L:List Oper}{mask:Nat}(h1:ops.toList.map strip=L)(h3:C.keep f id=mask)(s:St) :
  aj C f (.region id ops false) s=oK mask (jy C (ah C) f L L s):=by
 rw[oZ,←h1,GZ,l7,h3];cases bg C (ah C) f ops.toList ops.toList s with
 |none=>rfl|some r=>obtain⟨y,s1,fp⟩:=r;cases y<;>rfl
theorem acI{id:Nat}{ops:Array Oper}{L:List Oper}{mask:Nat}(h1:ops.toList.map strip=L)(h2:C.pairs f id=[])(h3:C.keep f id=mask)(s:St) :
  aj C f (.region id ops true) s=Qu mask (jy C (ah C) f L L s):=by
 rw[oZ,←h1,GZ,l7,h3,h2];cases bg C (ah C) f ops.toList ops.toList s with
 |none=>rfl|some r=>obtain⟨y,s1,fp⟩:=r;cases y<;>rfl
theorem ZR{id:Nat}{ops:Array Oper}{L:List Oper}{mask:Nat}{ps:List (Nat×Nat)}(h1:ops.toList.map strip=L)(h2:C.pairs f id=ps)(h3:C.keep f id=mask)(s:St) :
  aj C f (.region id ops true) s=J6 s.m.hp.length mask ps (bg C (ah C) f L L s):=by
 rw[oZ,←h1,l7,h3,h2];cases bg C (ah C) f ops.toList ops.toList s with
 |none=>rfl|some r=>obtain⟨y,s1,fp⟩:=r;cases y<;>rfl
def kS(id:Nat):Code→Option (Array Oper)
 | .region j ops _=>bif j==id then some ops else none| .seq a b=>match kS id a with
  |some r=>some r|none=>kS id b
 | .cond _ a b=>match kS id a with
  |some r=>some r|none=>kS id b
 | .block _ b=>kS id b| .loop b=>kS id b| .scope b=>kS id b| .rangeFunc _ _ a b=>match kS id a with
  |some r=>some r|none=>kS id b
 |_=>none
def lQ(P:Program)(f id:Nat):Array Oper:=match P.funcs[f]? with
 |some fn=>match fn.body with
  |some c=>(kS id c).getD #[]|none=>#[]
 |none=>#[]
theorem Vf{t:Operand}{p q:Code}{s:St}:aj C f (.cond t p q) s=match bJ C s t with
  | .d (.bool v)=>if v=true then aj C f p s else aj C f q s|_=>none:=by
 split
 ·rename_i v h;rw[uJ h];cases v
  ·rfl
  ·rfl
 ·rename_i h;apply mZ;intro k;simp only[exec]
def aCW(C:aY)(s:St)(rs:List ResultVar):Option (List V):=G9 C s rs
def vO(C:aY)(call:bK)(rs:List ResultVar)(frz:Nat):List DR→Option V→St→Option (CR×St)
 | [],none,s=>match G9 C s rs with
  |some vs=>match bH.goL frz s.m.get vs with
   |some (vs,ss)=>some (.ret (match vs with|[v]=>v|vs=>.tuple vs),{s with m:=s.m.sets ss})|none=>none
  |none=>none
 |[],some v,s=>some (.pan v,s)|d::ds,pv,s=>match call (.fn d.f [] []) d.args (some pv) s.m.hp with
  |some (.ret _,rcd,hp,wl)=>vO C call rs frz ds (bif rcd then none else pv) {s with m:={s.m with hp:=hp,wl:=s.m.wl ||| wl} }|_=>none
theorem ES{fn:Func}{frz:Nat}:∀(ds:List DR) (pv:Option V) (s:St),leave C call fn frz ds pv s=vO C call fn.results.toList frz ds pv s
 |[],none,s=>rfl|[],some v,s=>rfl|d::ds,pv,s=>by
  unfold leave vO;cases call (.fn d.f [] []) d.args (some pv) s.m.hp with
  |none=>rfl|some r=>obtain⟨y,r1,r2,r3⟩:=r;cases y<;>first|exact ES ds _ _|rfl
noncomputable def QX(C:aY)(rs:List ResultVar)(frz:Nat):Option (X×St)→Option (CR×St)
 |some (.normal,s)=>vO C (ah C) rs frz s.df none s|some (.ret,s)=>vO C (ah C) rs frz s.df none s|some (.pan v,s)=>vO C (ah C) rs frz s.df (some v) s|_=>none
def Fv(P:Program)(g:FuncId):Option (Code×List ResultVar):=match P.funcs[g]? with
 |some fn=>match fn.body with
  |some c=>some (c,fn.results.toList)|none=>none
 |none=>none
theorem KE{g:FuncId}{c:Code}{rs:List ResultVar}{frz:Nat}(ho:C.orc g=none)(h:Fv C.P g=some (c,rs))(hz:C.frz g=frz)(first caps args:List V)(rc:Option (Option V))(hp:List O) :
  ah C (.fn (.func g) first caps) args rc hp=Td (QX C rs frz (aj C g c {tm:=lJ (first++args++caps) 0,m:={ob:=[],hp:=hp,wl:=0},df:=[],rc:=rc})):=by
 unfold Fv at h;split at h
 ·rename_i fn hf;split at h
  ·rename_i c' hc;cases h;rw[NM ho hf hc];congr 1;unfold JV QX;generalize aj C g c {tm:=lJ (first++args++caps) 0,m:={ob:=[],hp:=hp,wl:=0},df:=[],rc:=rc}=r;cases r with
   |none=>rfl|some r=>obtain⟨y,s⟩:=r;cases y<;>first|(rw[←hz];exact ES _ _ _)|rfl
  ·cases h
 ·cases h
end Mw
namespace Mw
open Go Go.Proofs
noncomputable def K:aY:=aG.knows (Yu aik)
theorem Gx(a b:Nat):Nat.ble a b=decide (a≤b):=by
 cases h:Nat.ble a b
 ·have:¬a≤b:=fun h'=>by rw[Nat.ble_eq_true_of_le h']at h;cases h
  simp[this]
 ·simp[Nat.le_of_ble_eq_true h]
theorem gy{C:aY}{t b:Nat}(h:C.P.bytesOf t=b)(n:Nat):gY C t n=(decide (n≤4294967296)&&decide (n*b≤4294967296)):=by unfold gY;rw[h,Gx,Gx]
def Hz(C:aY)(t:Nat):Bool:=match aU C t with
  |some z=>z.cells.length==aA C t|none=>false
theorem ig{C:aY}{t b:Nat}(h:C.P.bytesOf t=b)(hz:Hz C t=true)(n:Nat):gI C t n=(decide (n≤4294967296)&&decide (n*b≤4294967296)):=by show(gY C t n&&Hz C t)=_;rw[hz,Bool.and_true,gy h]
def gG(z:List D)(pl:List (Nat×Nat))(parts:List (Nat×V)):Option V:=match kY (fun i=>pl[i]?) (z.map V.d) parts with
 |some cs=>some (rW cs)|none=>none
def AV(z:List D)(sz:Nat)(parts:List (Nat×V)):Option V:=match kY (fun i=>some (i*sz,sz)) (z.map V.d) parts with
 |some cs=>some (rW cs)|none=>none
theorem aX{C:aY}{t:Nat}{z:List D}{fs:Array Field}{pl:List (Nat×Nat)}(h1:aU C t=some (.agg z))(h2:C.P.underlying t=some (.struct fs))(h3:(fs.toList.all fun f=>(C.P.info? f.type).isSome)=true)
  (h4:fs.toList.map (fun f=>(f.offset,aA C f.type))=pl)(parts:List (Nat×V)):dO C t parts=gG z pl parts:=by
 unfold dO F7 gG;rw[h1,h2];simp only[h3,cond_true,D.cells]
 have:(fun(i:Nat)=>match(fs[i]?:Option Field)with
   |some fl=>some (fl.offset,aA C fl.type)|none=>none)=fun(i:Nat)=>pl[i]?:=by
  funext i;rw[←h4,List.getElem?_map,Array.getElem?_toList];cases fs[i]?<;>rfl
 rw[←this];rfl
theorem BI{C:aY}{t n e s:Nat}{z:List D}(h1:aU C t=some (.agg z))(h2:C.P.underlying t=some (.array n e))(h3:(C.P.info? e).isSome=true)(h4:aA C e=s)(parts:List (Nat×V)):dO C t parts=AV z s parts:=by unfold dO F7 AV;rw[h1,h2];simp only[h3,cond_true,D.cells,h4];rfl
noncomputable def Wr:{g:IntKind→Int→Int // ∀k x,g k x=k.wrap x}:=Classical.choice ⟨⟨_,fun _ _=>rfl⟩⟩
noncomputable def wr(k:IntKind)(x:Int):Int:=Wr.1 k x
theorem qO(k:IntKind)(x:Int):wr k x=k.wrap x:=Wr.2 k x
@[simp] theorem asf(k:IntKind)(x:Int):IntKind.wrap k x=wr k x:=(qO k x).symm
def Ar(op:BinOp)(x y:Int):Int:=match op with
 | .add=>IntKind.wrap .u64 (x+y)| .sub=>IntKind.wrap .u64 (x-y)| .mul=>IntKind.wrap .u64 (x*y)| .xor=>IntKind.wrap .u64 (BitVec.ofInt 64 x ^^^ BitVec.ofInt 64 y).toNat| .rem=>x.tmod y| .shr=>x.fdiv (2 ^ min y.toNat 64)|_=>0
noncomputable def Au:{g:BinOp→Int→Int→Int // ∀op x y,g op x y=Ar op x y}:=Classical.choice ⟨⟨_,fun _ _ _=>rfl⟩⟩
noncomputable def au(op:BinOp)(x y:Int):Int:=Au.1 op x y
theorem uj(op:BinOp)(x y:Int):au op x y=Ar op x y:=Au.2 op x y
@[simp] theorem ayq(a b:Int):dN .add .u64 a b=some (.int .u64 (au .add a b)):=by rw[uj];rfl
@[simp] theorem atZ(a b:Int):dN .mul .u64 a b=some (.int .u64 (au .mul a b)):=by rw[uj];rfl
@[simp] theorem ayx(a b:Int):dN .xor .u64 a b=some (.int .u64 (au .xor a b)):=by rw[uj];rfl
@[simp] theorem avs{a y:Int}(h:0≤y):lu .shr .u64 a y=some (.int .u64 (au .shr a y)):=by
 rw[uj];have:decide (y<0)=false:=by simp;omega
 simp only[lu,this,cond_false,Ar];rfl
theorem afF{a b:Int}(h:b≠0):dN .rem .u64 a b=some (.int .u64 (au .rem a b)):=by
 rw[uj];have:(b==0)=false:=by simpa using h
 simp only[dN,this,cond_false,Ar]
@[simp] theorem axE(a b:Int):dN .add .i64 a b=some (.int .i64 (wr .i64 (a+b))):=by rw[qO];rfl
@[simp] theorem auB(a b:Int):dN .sub .i64 a b=some (.int .i64 (wr .i64 (a-b))):=by rw[qO];rfl
@[simp] theorem axq(a b:Int):dN .mul .i64 a b=some (.int .i64 (wr .i64 (a*b))):=by rw[qO];rfl
@[simp] theorem axs(k:IntKind)(a b:Int):dN .eql k a b=some (.bool (decide (a=b))):=rfl
@[simp] theorem auz(k:IntKind)(a b:Int):dN .neq k a b=some (.bool (!decide (a=b))):=rfl
@[simp] theorem ayG(k:IntKind)(a b:Int):dN .lss k a b=some (.bool (decide (a<b))):=rfl
@[simp] theorem atE(k:IntKind)(a b:Int):dN .leq k a b=some (.bool (decide (a≤b))):=rfl
@[simp] theorem auy(k:IntKind)(a b:Int):dN .gtr k a b=some (.bool (decide (a > b))):=rfl
@[simp] theorem azC(k:IntKind)(a b:Int):dN .geq k a b=some (.bool (decide (a ≥ b))):=rfl
@[simp] theorem Uo(hp J:List O)(a b:O):(hp++a::J).set hp.length b=hp++b::J:=by simp
attribute [simp] Nat.testBit_eq_decide_div_mod_eq
attribute [simp] FB jy jy.goOn andThen opS eH J7 gU bJ xK look put ins fB jT zB CX iT Op.operands V.locs.goL V.locs Mem.get Loc.eq V.ofCells D.ofCells Mem.sets Mem.set slotsOf bitsOf ni D.ofValue D.cells V.cells BN Gx aiE TT Vs ahD dY oK Qu cO outOf Vf mr jB N8 Nb EF JF Ju
 lC bound FY G7 cutV afn copyV findKey eqV I9 isNilD zn fA eqItems eqFields ofBytes inLoop D.ofValues
 lJ QX vO G9 resV Td bH.goL bH Loc.isHeap aa0 lenV AL V.isCell Fa splice rW qY gG AV kY H8 kQ elems elems' qm yF isList afN ad2 setH Call.operands D.isCell
@[simp] def oa(d:Nat)(op:Op):Oper:=⟨some d,op,0,"",#[],none⟩
@[simp] def on(op:Op):Oper:=⟨none,op,0,"",#[],none⟩
@[simp] def og(d j:Nat)(b:Bool)(op:Op):Oper:=⟨some d,op,0,"",#[],some (j,b)⟩
@[simp] def mv(d s:Nat):Oper:=⟨some d,.move (.tmp s),0,"",#[],none⟩
@[simp] def sg(d s:Nat):Oper:=⟨some d,.assign (.tmp s),0,"",#[],none⟩
@[simp] def ld(d t s:Nat):Oper:=⟨some d,.load t (.tmp s),0,"",#[],none⟩
@[simp] def fa(d t s i:Nat):Oper:=⟨some d,.fieldAddr t (.tmp s) i,0,"",#[],none⟩
@[simp] def ia(d t a b:Nat):Oper:=⟨some d,.indexAddr t (.tmp a) (.tmp b),0,"",#[],none⟩
@[simp] def so(t a b:Nat):Oper:=⟨none,.store t (.tmp a) (.tmp b),0,"",#[],none⟩
@[simp] def aq(d t:Nat):Oper:=⟨some d,.alloc t,0,"",#[],none⟩
@[simp] def bx(d t s:Nat):Oper:=⟨some d,.box t (.tmp s),0,"",#[],none⟩
@[simp] def xt(d s i:Nat):Oper:=⟨some d,.extract (.tmp s) i,0,"",#[],none⟩
@[simp] def bo(d:Nat)(op:BinOp)(t a b:Nat):Oper:=⟨some d,.binOp op t (.tmp a) (.tmp b) t,0,"",#[],none⟩
@[simp] def bk(d:Nat)(op:BinOp)(t a:Nat)(n:Int):Oper:=⟨some d,.binOp op t (.tmp a) (.const (.int .i64 n)) t,0,"",#[],none⟩
noncomputable abbrev rg(f id:Nat):Code:=.region id (lQ K.P f id) false
noncomputable abbrev rd(f id:Nat):Code:=.region id (lQ K.P f id) true
abbrev XF(f id m:Nat)(r:List Oper):Prop:=∀s:St,aj K f (.region id (lQ K.P f id) false) s=oK m (jy K (ah K) f r r s)
abbrev XD(f id m:Nat)(r:List Oper):Prop:=∀s:St,aj K f (.region id (lQ K.P f id) true) s=Qu m (jy K (ah K) f r r s)
abbrev XP(f id m:Nat)(ps:List (Nat×Nat))(r:List Oper):Prop:=∀s:St,aj K f (.region id (lQ K.P f id) true) s=J6 s.m.hp.length m ps (bg K (ah K) f r r s)
theorem XF.mk{f id m:Nat}{r:List Oper}(h1:(lQ K.P f id).toList.map strip=r:=by kernel_rfl)(h3:K.keep f id=m:=by kernel_rfl):XF f id m r:=fun s=>aiq h1 h3 s
theorem XD.mk{f id m:Nat}{r:List Oper}(h1:(lQ K.P f id).toList.map strip=r:=by kernel_rfl)(h2:K.pairs f id=[]:=by kernel_rfl)(h3:K.keep f id=m:=by kernel_rfl):XD f id m r:=fun s=>acI h1 h2 h3 s
theorem XP.mk{f id m:Nat}{ps:List (Nat×Nat)}{r:List Oper}(h1:(lQ K.P f id).toList.map strip=r:=by kernel_rfl)(h2:K.pairs f id=ps:=by kernel_rfl)(h3:K.keep f id=m:=by kernel_rfl):XP f id m ps r:=fun s=>ZR h1 h2 h3 s
abbrev KF(f:Nat)(rs:List ResultVar)(fz:Nat)(c:Code):Prop:=∀(first caps args:List V) (rc:Option (Option V)) (hp:List O),ah K (.fn (.func f) first caps) args rc hp=Td (QX K rs fz (aj K f c {tm:=lJ (first++args++caps) 0,m:={ob:=[],hp:=hp,wl:=0},df:=[],rc:=rc}))
theorem KF.mk{f:Nat}{rs:List ResultVar}{fz:Nat}{c:Code}(h1:K.orc f=none:=by kernel_rfl)(h2:Fv K.P f=some (c,rs):=by kernel_rfl)(h3:K.frz f=fz:=by kernel_rfl):KF f rs fz c:=fun first caps args rc hp=>KE h1 h2 h3 first caps args rc hp
attribute [simp] J6 bg fE fD aO fP jK FP.meets FP.reads FP.touches FP.local
abbrev CK(f:Nat)(vs:List V)(h:List O)(r:V)(h':List O)(w:Nat):Prop:=ah K (.fn (.func f) [] []) vs none h=some (.ret r,false,h',w)
theorem gS{α:Type}{l:List α}{i:Nat}{a:α}:l[i]?=some a↔∃h:i<l.length,l[i]=a:=List.getElem?_eq_some_iff
end Mw
