/- DependLevels answers true for every list of numbers: its tied card holds; no condition beyond the card's own. -/
import Derived.Test.YtdjnccgeajpegaaGreatDoorMwT
import Derived.Test.YtdjnccgeajpegaaGreatDoorMwQ
import Derived.Shelf.Sort.Plain
import Derived.Shelf.Slices.In.SortNone
import Derived.Test.YtdjnccgeajpegaaGreatDoorKd
set_option linter.unusedVariables false
set_option linter.unusedSimpArgs false
namespace Mw
open Go Go.Proofs
def tabK:List (Nat × Ans):=[(18,[([],.d (.bool true))]),
 (188,[([(.int .i64 0),(.int .i64 1)],.d (.agg [(.str ⟨#[48]⟩),(.str ⟨#[49]⟩)])),
  ([(.int .i64 1),(.int .i64 1)],.d (.agg [(.str ⟨#[49]⟩),(.str ⟨#[49]⟩)])),
  ([(.int .i64 2),(.int .i64 1)],.d (.agg [(.str ⟨#[50]⟩),(.str ⟨#[49]⟩)])),
  ([(.int .i64 3),(.int .i64 1)],.d (.agg [(.str ⟨#[51]⟩),(.str ⟨#[49]⟩)])),
  ([(.int .i64 4),(.int .i64 1)],.d (.agg [(.str ⟨#[52]⟩),(.str ⟨#[49]⟩)])),
  ([(.int .i64 5),(.int .i64 1)],.d (.agg [(.str ⟨#[53]⟩),(.str ⟨#[49]⟩)])),
  ([(.int .i64 1),(.int .i64 2)],.d (.agg [(.str ⟨#[49]⟩),(.str ⟨#[50]⟩)])),
  ([(.int .i64 1),(.int .i64 3)],.d (.agg [(.str ⟨#[49]⟩),(.str ⟨#[51]⟩)])),
  ([(.int .i64 2),(.int .i64 2)],.d (.agg [(.str ⟨#[49]⟩),(.str ⟨#[49]⟩)])),
  ([(.int .i64 2),(.int .i64 3)],.d (.agg [(.str ⟨#[50]⟩),(.str ⟨#[51]⟩)]))]),
 (189,[([(.int .i64 0)],.d (.str ⟨#[48]⟩)),
  ([(.int .i64 1)],.d (.str ⟨#[49]⟩)),
  ([(.int .i64 2)],.d (.str ⟨#[50]⟩))]),
 (266,[([(.agg [(.str ⟨#[48]⟩),(.str ⟨#[49]⟩)])],.d (.int .i64 0)),
  ([(.agg [(.str ⟨#[49]⟩),(.str ⟨#[49]⟩)])],.d (.int .i64 0)),
  ([(.agg [(.str ⟨#[50]⟩),(.str ⟨#[49]⟩)])],.d (.int .i64 0)),
  ([(.agg [(.str ⟨#[51]⟩),(.str ⟨#[49]⟩)])],.d (.int .i64 0)),
  ([(.agg [(.str ⟨#[52]⟩),(.str ⟨#[49]⟩)])],.d (.int .i64 0)),
  ([(.agg [(.str ⟨#[53]⟩),(.str ⟨#[49]⟩)])],.d (.int .i64 0)),
  ([(.agg [(.str ⟨#[49]⟩),(.str ⟨#[50]⟩)])],.d (.int .i64 0)),
  ([(.agg [(.str ⟨#[49]⟩),(.str ⟨#[51]⟩)])],.d (.int .i64 0)),
  ([(.agg [(.str ⟨#[50]⟩),(.str ⟨#[51]⟩)])],.d (.int .i64 0))]),
 (268,[([(.str ⟨#[97]⟩)],.d (.bool true)),
  ([(.str ⟨#[98]⟩)],.d (.bool true)),
  ([(.str ⟨#[99]⟩)],.d (.bool true)),
  ([(.str ⟨#[114,48]⟩)],.d (.bool true)),
  ([(.str ⟨#[114,49]⟩)],.d (.bool true)),
  ([(.str ⟨#[114,50]⟩)],.d (.bool true)),
  ([(.str ⟨#[105,48]⟩)],.d (.bool true)),
  ([(.str ⟨#[105,49]⟩)],.d (.bool true))]),
 (165,[([(.str ⟨#[114,48]⟩),(.int .u8 114),(.int .i64 1)],.d (.int .i64 0)),
  ([(.str ⟨#[114,48]⟩),(.int .u8 114),(.int .i64 2)],.d (.int .i64 0)),
  ([(.str ⟨#[114,48]⟩),(.int .u8 114),(.int .i64 3)],.d (.int .i64 0)),
  ([(.str ⟨#[114,49]⟩),(.int .u8 114),(.int .i64 2)],.d (.int .i64 1)),
  ([(.str ⟨#[114,49]⟩),(.int .u8 114),(.int .i64 3)],.d (.int .i64 1)),
  ([(.str ⟨#[114,50]⟩),(.int .u8 114),(.int .i64 3)],.d (.int .i64 2)),
  ([(.str ⟨#[105,48]⟩),(.int .u8 114),(.int .i64 0)],.d (.int .i64 (-1))),
  ([(.str ⟨#[105,48]⟩),(.int .u8 114),(.int .i64 1)],.d (.int .i64 (-1))),
  ([(.str ⟨#[105,48]⟩),(.int .u8 114),(.int .i64 2)],.d (.int .i64 (-1))),
  ([(.str ⟨#[105,48]⟩),(.int .u8 114),(.int .i64 3)],.d (.int .i64 (-1))),
  ([(.str ⟨#[105,48]⟩),(.int .u8 105),(.int .i64 1)],.d (.int .i64 0)),
  ([(.str ⟨#[105,48]⟩),(.int .u8 105),(.int .i64 2)],.d (.int .i64 0)),
  ([(.str ⟨#[105,49]⟩),(.int .u8 114),(.int .i64 0)],.d (.int .i64 (-1))),
  ([(.str ⟨#[105,49]⟩),(.int .u8 114),(.int .i64 1)],.d (.int .i64 (-1))),
  ([(.str ⟨#[105,49]⟩),(.int .u8 114),(.int .i64 2)],.d (.int .i64 (-1))),
  ([(.str ⟨#[105,49]⟩),(.int .u8 114),(.int .i64 3)],.d (.int .i64 (-1))),
  ([(.str ⟨#[105,49]⟩),(.int .u8 105),(.int .i64 2)],.d (.int .i64 1))])]
end Mw
namespace Mw
open Go Go.Proofs
set_option maxRecDepth 100000
def insertE (args:List V) (hp:List O):Option (CR × List O × Nat):=match args with
 | [.ex 1 [],.d (.int .i64 0),.vl [.d (.int .i64 y)]]=>some (.ret (.sl (.heap hp.length) 1 1 0 1),hp++[.vec 1 [.int .i64 y] false true],0)
 | _=>none
theorem insE_run (y:Int) (hp:List O):callE cfg0 60 (.fn (.func 117) [] []) [.ex 1 [],.d (.int .i64 0),.vl [.d (.int .i64 y)]] none hp=some (.ret (.sl (.heap hp.length) 1 1 0 1),false,hp++[.vec 1 [.int .i64 y] false true],0):=by kernel_rfl
theorem orc0Ok:OrcOk cfg0:=⟨fun _ _ _ _ _ _ _ h _=>(by cases h),fun _ _ _ _ _ _ _ h _=>(by cases h)⟩
theorem insE_ok {args:List V} {hp hp':List O} {r:CR} {wl:Nat} (h:insertE args hp=some (r,hp',wl)):FuncOk cfg0 117 args hp r hp':=by
 unfold insertE at h
 split at h
 ·simp only [Option.some.injEq,Prod.mk.injEq] at h; obtain ⟨rfl,rfl,rfl⟩:=h
  rename_i y
  have hr:=insE_run y hp
  rw [callE_eq] at hr
  have:=(callOk cfg_ok orc0Ok 60).func _ _ _ _ _ _ _ _ _ hr
  simpa using this
 ·cases h
def insO (vs:List V) (hp:List O):Option (CR × List O × Nat):=match insertO vs hp with
 | some r=>some r
 | none=>insertE vs hp
def orcE (tab:List (Nat × Ans)):Nat→Option (List V→List O→Option (CR × List O × Nat)):=fun g=>bif g == 117 then some insO else match look g tab with
 | some l=>some (memoO l)
 | none=>none
theorem orcEOk {tab:List (Nat × Ans)} (hT:TabOk cfg0 tab):OrcOk (cfg0.knows (orcE tab)):=by
 constructor
 ·intro g h args hp r hp' wl ho hr
  rw [FuncOk_knows]
  simp only [Cfg.knows,orcE,Bool.cond_eq_ite] at ho
  split at ho
  ·rename_i hg
   cases ho
   have:g=117:=by simpa using hg
   subst this
   simp only [insO] at hr
   split at hr
   ·rename_i h1
    cases hr
    exact insert_ok cfg_ok Tryz.lIns h1
   ·exact insE_ok hr
  ·split at ho
   ·rename_i l hl
    cases ho
    simp only [memoO] at hr
    split at hr
    ·rename_i v hv
     simp only [Option.some.injEq,Prod.mk.injEq] at hr; obtain ⟨rfl,rfl,rfl⟩:=hr
     obtain ⟨ds,hm,rfl⟩:=findA_mem hv
     obtain ⟨hd,hp1,hF⟩:=hT _ _ (look_mem hl) ds v hm
     exact hF.frame (all_isD ds) hd hp
    ·cases hr
   ·cases ho
 ·intro g h args hp r hp' wl ho hr
  simp only [Cfg.knows,orcE,Bool.cond_eq_ite] at ho
  split at ho
  ·cases ho
   simp only [insO] at hr
   split at hr
   ·rename_i h1
    cases hr
    exact insert_fr h1
   ·unfold insertE at hr
    split at hr
    ·simp only [Option.some.injEq,Prod.mk.injEq] at hr; obtain ⟨rfl,rfl,rfl⟩:=hr
     exact ⟨by simp,fun i hi _=>by rw [List.getElem?_append_left hi]⟩
    ·cases hr
  ·split at ho
   ·cases ho
    simp only [memoO] at hr
    split at hr
    ·simp only [Option.some.injEq,Prod.mk.injEq] at hr; obtain ⟨rfl,rfl,rfl⟩:=hr
     exact ⟨Nat.le_refl _,fun _ _ _=>rfl⟩
    ·cases hr
   ·cases ho
end Mw
namespace Go.Proofs
open Go Go.Shelf
def Tryz.lSort_ren:Ren where
 f:=fun x=>match x with
  | 125=>194
  | 128=>226
  | 129=>227
  | 189=>140
  | 215=>198
  | 216=>223
  | 257=>193
  | 294=>217
  | 295=>218
  | 296=>219
  | 297=>220
  | 298=>221
  | 299=>222
  | 300=>224
  | 301=>225
  | 328=>247
  | 329=>248
  | 330=>249
  | 331=>250
  | 332=>251
  | 343=>277
  | n=>n
 t:=fun x=>match x with
  | 28=>22
  | 46=>195
  | 51=>261
  | 53=>94
  | 131=>139
  | 182=>254
  | 183=>255
  | 218=>286
  | 222=>289
  | 228=>314
  | 229=>143
  | n=>n
 g:=fun x=>x
theorem Tryz.lSort:Lays.n189 Tryz.prog Tryz.lSort_ren where
 mixed:=by kernel_rfl
 f125:=Tryz.func194
 f128:=Tryz.func226
 f129:=Tryz.func227
 f189:=Tryz.func140
 f215:=Tryz.func198
 f216:=Tryz.func223
 f257:=Tryz.func193
 f294:=Tryz.func217
 f295:=Tryz.func218
 f296:=Tryz.func219
 f297:=Tryz.func220
 f298:=Tryz.func221
 f299:=Tryz.func222
 f300:=Tryz.func224
 f301:=Tryz.func225
 f328:=Tryz.func247
 f329:=Tryz.func248
 f330:=Tryz.func249
 f331:=Tryz.func250
 f332:=Tryz.func251
 f343:=Tryz.func277
 t0:=Tryz.underlying0
 a0:=Tryz.isAgg0
 z0:=Tryz.sizeOf0
 v0:=Tryz.zeroValue0
 t3:=Tryz.underlying3
 a3:=Tryz.isAgg3
 z3:=Tryz.sizeOf3
 v3:=Tryz.zeroValue3
 t4:=Tryz.underlying4
 a4:=Tryz.isAgg4
 z4:=Tryz.sizeOf4
 v4:=Tryz.zeroValue4
 t5:=Tryz.underlying5
 a5:=Tryz.isAgg5
 z5:=Tryz.sizeOf5
 v5:=Tryz.zeroValue5
 t9:=Tryz.underlying9
 a9:=Tryz.isAgg9
 z9:=Tryz.sizeOf9
 v9:=Tryz.zeroValue9
 t28:=Tryz.underlying22
 a28:=Tryz.isAgg22
 z28:=Tryz.sizeOf22
 v28:=Tryz.zeroValue22
 t46:=Tryz.underlying195
 a46:=Tryz.isAgg195
 z46:=Tryz.sizeOf195
 v46:=Tryz.zeroValue195
 t51:=Tryz.underlying261
 a51:=Tryz.isAgg261
 z51:=Tryz.sizeOf261
 v51:=Tryz.zeroValue261
 t53:=Tryz.underlying94
 a53:=Tryz.isAgg94
 z53:=Tryz.sizeOf94
 v53:=Tryz.zeroValue94
 t131:=Tryz.underlying139
 a131:=Tryz.isAgg139
 z131:=Tryz.sizeOf139
 v131:=Tryz.zeroValue139
 t182:=Tryz.underlying254
 a182:=Tryz.isAgg254
 z182:=Tryz.sizeOf254
 v182:=Tryz.zeroValue254
 t183:=Tryz.underlying255
 a183:=Tryz.isAgg255
 z183:=Tryz.sizeOf255
 v183:=Tryz.zeroValue255
 t218:=Tryz.underlying286
 a218:=Tryz.isAgg286
 z218:=Tryz.sizeOf286
 v218:=Tryz.zeroValue286
 t222:=Tryz.underlying289
 a222:=Tryz.isAgg289
 z222:=Tryz.sizeOf289
 v222:=Tryz.zeroValue289
 t228:=Tryz.underlying314
 a228:=Tryz.isAgg314
 z228:=Tryz.sizeOf314
 v228:=Tryz.zeroValue314
 t229:=Tryz.underlying143
 a229:=Tryz.isAgg143
 z229:=Tryz.sizeOf143
 v229:=Tryz.zeroValue143
end Go.Proofs
namespace Mw
open Go Go.Proofs Go.Shelf
section
variable {C:Cfg} {E:Env} {m:Mem} {w:World}
theorem Inv.setVec2 (hI:Inv C E m w) {l:Loc} {sz:Nat} {es es':List D} (h:m.get l=some (.vec sz es false true)) {b c:Nat} (hk:E.k l es.length=some (b,c))
  (hes:es'.length=es.length) {w':World} (hsz:w.heap.size≤w'.heap.size∧Wos w w') (ho:∀ r,r < w.heap.size→r≠b→w'.heap[r]?=w.heap[r]?) {arr':Array Value} (hrow:rowAt w' b arr')
  (ha:arr'.size=c * sz) (hu:∀ e∈es',e.cells.length=sz) (hc:∀ d∈flat es',d.isCell=true)
  (hrel:∀ (q:Nat) (d:D) (x:Value),(flat es')[q]?=some d→arr'[q]?=some x→RD E.G d x):Step C E m w E (m.set l (.vec sz es' false true)) w':=by
 obtain ⟨b',c',arr0,h1,h2,h3,h4,h5,h6,h7,h8,h9,h10⟩:=hI.vec h
 rw [hk] at h1; cases h1
 have hown:own E l (.vec sz es false true) b:=⟨rfl,c,hk⟩
 have hown':∀ r,own E l (.vec sz es false true) r→r=b:=fun r ⟨_,c2,hr⟩=>by
  simp only [O.key] at hr
  rw [hk] at hr; cases hr; rfl
 have hr:ORel0 E w' l (.vec sz es' false true):=⟨b,c,arr',by rw [hes]; exact hk,hrow,ha,by omega,fun hg=>by rw [hes]; exact h5 hg,hu,hc,hrel,fun hf=>by simp at hf,fun q _=>h10 q (.inl rfl)⟩
 refine hI.set h (.refl E) rfl (fun _ _ _=>rfl) hsz.1 hsz.2 (fun r hr hn=>ho r hr fun e=>hn (e ▸ hown)) (fun b i x h=>.inl h) (fun r i x hx hh=>?_) (fun b' hb=>.inl ?_) ⟨fun i hi=>?_,fun t g hi=>hr⟩ (fun b hb=>hb.elim) (fun sz1 es1 fr1 gr1 he n hn=>?_)
 ·have hx':E.G r i=some x:=hx
  rcases hh with hh | hh
  ·have hrb:=hown' r hh
   subst hrb
   rw [h10 i (.inl rfl)] at hx'; cases hx'
  ·rw [hI.G_new hh] at hx'; cases hx'
 ·obtain ⟨_,c1,hb⟩:=hb
  simp only [O.key,hes] at hb
  exact ⟨rfl,c1,hb⟩
 ·subst hi
  obtain ⟨b,c,arr,rest⟩:=hr
  exact ORel0.toH ⟨b,c,arr,rest⟩
 ·cases he
  exact hI.top l _ _ _ _ h n (by omega)
end
def intsOf:List D→Option (List Int)
 | []=>some []
 | .int .i64 n :: r=>(intsOf r).map (n :: ·)
 | _ :: _=>none
theorem intsOf_eq:∀ {es:List D} {zs:List Int},intsOf es=some zs→es=zs.map (.int .i64)
 | [],zs,h=>by simp [intsOf] at h; subst h; rfl
 | e :: r,zs,h=>by
  cases e with
  | int k n =>
   cases k<;>simp only [intsOf,Option.map_eq_some_iff,reduceCtorEq] at h
   obtain ⟨q,h1,rfl⟩:=h
   rw [intsOf_eq h1]; rfl
  | _=>simp [intsOf] at h
theorem flatI (zs:List Int):flat (zs.map (D.int .i64))=zs.map (D.int .i64):=by
 induction zs with
 | nil=>rfl
 | cons a r ih=>rw [List.map_cons,flat_cons,ih]; rfl
def sortI (zs:List Int):List Int:=zs.mergeSort fun x y=>decide (x≤y)
def sortO (args:List V) (hp:List O):Option (CR × List O × Nat):=match args with
 | [.d .nils]=>some (.ret (.tuple []),hp,0)
 | [.sl (.heap l) 1 len off n]=>match hp[l]? with
  | some (.vec sz es false true)=>match intsOf es with
   | some zs=>bif (sz == 1)&&(es.length == len)&&(n == len)&&(off == 0)&&Nat.ble len 100000000 then
     some (.ret (.tuple []),hp.set l (.vec 1 ((sortI zs).map (.int .i64)) false true),1 <<< l)
    else none
   | none=>none
  | _=>none
 | _=>none
variable {C:Cfg}
theorem sort_ok (hOk:C.Ok) {ρ:Ren} (L:Lays.n189 C.P ρ) {args:List V} {hp hp':List O} {r:CR} {wl:Nat} (h:sortO args hp=some (r,hp',wl)):FuncOk C (ρ.f 189) args hp r hp':=by
 unfold sortO at h
 split at h
 ·simp only [Option.some.injEq,Prod.mk.injEq] at h; obtain ⟨rfl,rfl,rfl⟩:=h
  intro E w xs hI hv
  obtain ⟨body,hbody⟩:∃ c,(Body.n189 ρ).body=some c:=⟨_,rfl⟩
  refine ⟨fun w'=>run_callFunc hOk L.f189 hbody xs w',?_⟩
  obtain ⟨x0,rfl⟩:∃ x0,xs=#[x0]:=by
   obtain ⟨ls⟩:=xs
   match ls,hv.1 with
   | [a],_=>exact ⟨a,rfl⟩
  have e0:=hv.2 0 _ x0 rfl rfl
  cases e0 with | d _ _ e1 =>
  cases e1
  intro cs
  obtain ⟨e,w',fr,⟨rfl,rfl⟩,hcm,hfn,hlv⟩:=Any.slices_Sort_int_none L none 0 w cs
  exact ⟨E,w',fr,_,hI,Moved.refl _ _ _,.ret (.tuple [] #[] rfl (fun i v x h=>by simp at h)),hcm,hfn,hlv⟩
 ·rename_i l len off n
  split at h
  ·rename_i sz es hl
   split at h
   ·rename_i zs hz
    rw [Bool.cond_eq_ite] at h
    split at h
    ·rename_i hcnd
     simp only [Bool.and_eq_true,beq_iff_eq] at hcnd
     obtain ⟨⟨⟨⟨rfl,hlen⟩,rfl⟩,rfl⟩,hmax⟩:=hcnd
     have hmax:=Nat.le_of_ble_eq_true hmax
     simp only [Option.some.injEq,Prod.mk.injEq] at h; obtain ⟨rfl,rfl,rfl⟩:=h
     have hes:=intsOf_eq hz
     intro E w xs hI hv
     obtain ⟨body,hbody⟩:∃ c,(Body.n189 ρ).body=some c:=⟨_,rfl⟩
     refine ⟨fun w'=>run_callFunc hOk L.f189 hbody xs w',?_⟩
     have hget:(Mem.get ⟨[],hp,0⟩ (.heap l))=some (.vec 1 es false true):=hl
     obtain ⟨x0,rfl⟩:∃ x0,xs=#[x0]:=by
      obtain ⟨ls⟩:=xs
      match ls,hv.1 with
      | [a],_=>exact ⟨a,rfl⟩
     have e0:=hv.2 0 _ x0 rfl rfl
     cases e0 with | sl _ _ _ _ _ b c a cap hk ha h0 hn =>
     obtain ⟨rfl,rfl⟩:=h0 rfl
     obtain ⟨b1,c1,arr,k1,k2,k3,k4,k5,k6,k7,k8,k9,k10⟩:=hI.vec hget
     rw [hlen] at k1
     rw [hk] at k1; cases k1
     subst hes
     rw [flatI] at k8
     simp only [List.length_map] at hlen
     have hsz:arr.size=cap:=by omega
     have hcell:∀ j,(hj:j < zs.length)→arr[j]?=some (.int .i64 zs[j]):=fun j hj=>by
      have hlt:j < arr.size:=by omega
      have h1:=k8 j (.int .i64 zs[j]) arr[j] (by simp [List.getElem?_eq_getElem hj]) (Array.getElem?_eq_getElem hlt)
      rw [Array.getElem?_eq_getElem hlt]
      generalize arr[j]=v at h1 ⊢
      cases h1; rfl
     have hH:Go.Sort.Holds (Value.int .i64) w b 0 zs.toArray:=fun j hj=>by
      have hj':j < zs.length:=by simpa using hj
      refine ⟨?_,k2.free _ (by omega)⟩
      rw [Nat.zero_add,k2.cell,hcell j hj']
      simp [hj']
     intro cs
     have hcall:=Any.slices_Sort_int L b 0 cap zs w hH k2.lt (by omega)
     rw [hlen] at hcall
     obtain ⟨e,w',fr,⟨rfl,k,os,hw'⟩,hcm,hfn,hlv⟩:=hcall cs
     have hss:(sortI zs).length=zs.length:=List.length_mergeSort _
     obtain ⟨ee,hee⟩:=k2
     have hrow:rowAt w' b (Go.Sort.putCells (Value.int .i64) 0 (sortI zs).toArray arr):=⟨ee,by
      have hb:b < w.heap.size:=(Array.getElem?_eq_some_iff.1 hee).1
      rw [hw']
      simp only [Go.Sort.grow,Go.Sort.putRow,Go.Sort.mapBlock,Go.Sort.ahead]
      rw [Array.getElem?_append_left (by simpa using hb),Array.getElem?_modify,if_pos rfl,hee]
      rfl⟩
     have hsz2:w.heap.size≤w'.heap.size∧Wos w w':=by
      rw [hw']
      refine ⟨?_,rfl,rfl⟩
      simp [Go.Sort.grow,Go.Sort.putRow,Go.Sort.mapBlock,Go.Sort.ahead]
     have ho:∀ r,r < w.heap.size→r≠b→w'.heap[r]?=w.heap[r]?:=fun r hr hne=>by
      rw [hw']
      simp only [Go.Sort.grow,Go.Sort.putRow,Go.Sort.mapBlock,Go.Sort.ahead]
      rw [Array.getElem?_append_left (by simpa using hr),Array.getElem?_modify,if_neg (Ne.symm hne)]
     have hS:=hI.setVec2 (l:=.heap l) (sz:=1) (es':=(sortI zs).map (.int .i64)) hget (by simpa [hlen] using hk) (by simp [hss]) hsz2 ho hrow (by simp [Go.Sort.putCells]; omega)
      (fun e he=>by obtain ⟨z,_,rfl⟩:=List.mem_map.1 he; rfl) (fun d hd=>by rw [flatI] at hd; obtain ⟨z,_,rfl⟩:=List.mem_map.1 hd; rfl)
      (fun q d x hd hx=>by
       rw [flatI] at hd
       simp only [List.getElem?_map,Option.map_eq_some_iff] at hd
       obtain ⟨z,hz,rfl⟩:=hd
       have hq:=(List.getElem?_eq_some_iff.1 hz).1
       have hz2:=(List.getElem?_eq_some_iff.1 hz).2
       simp only [Go.Sort.putCells,Array.getElem?_mapIdx,Option.map_eq_some_iff] at hx
       obtain ⟨y,_,rfl⟩:=hx
       rw [if_pos (by simp; exact hq)]
       simp only [Nat.sub_zero]
       have:z=(sortI zs).toArray[q]!:=by simp [hq,hz2]
       rw [← this]; exact .int _ _)
     exact ⟨E,w',fr,_,hS.inv.reWl,hS.mov.reWl,.ret (.tuple [] #[] rfl (fun i v x h=>by simp at h)),hcm,hfn,hlv⟩
    ·cases h
   ·cases h
  ·cases h
 ·cases h
end Mw
namespace Mw
open Go Go.Proofs
theorem sort_fr {args:List V} {hp hp':List O} {r:CR} {wl:Nat} (h:sortO args hp=some (r,hp',wl)):hp.length≤hp'.length∧∀ i,i < hp.length→wl.testBit i=false→hp'[i]?=hp[i]?:=by
 unfold sortO at h
 split at h
 ·simp only [Option.some.injEq,Prod.mk.injEq] at h; obtain ⟨rfl,rfl,rfl⟩:=h
  exact ⟨Nat.le_refl _,fun i _ _=>rfl⟩
 ·split at h
  ·split at h
   ·rw [Bool.cond_eq_ite] at h
    split at h
    ·simp only [Option.some.injEq,Prod.mk.injEq] at h; obtain ⟨rfl,rfl,rfl⟩:=h
     refine ⟨by simp,fun i _ hb=>?_⟩
     rw [testBit_shl] at hb
     simp only [beq_eq_false_iff_ne,ne_eq,decide_eq_false_iff_not] at hb
     rw [List.getElem?_set,if_neg (fun e=>hb (by simpa using e))]
    ·cases h
   ·cases h
  ·cases h
 ·cases h
def orcS (tab:List (Nat × Ans)):Nat→Option (List V→List O→Option (CR × List O × Nat)):=fun g=>bif g == 140 then some sortO else orcE tab g
theorem orcSOk {tab:List (Nat × Ans)} (hT:TabOk cfg0 tab):OrcOk (cfg0.knows (orcS tab)):=by
 have h0:=orcEOk hT
 obtain ⟨a,b⟩:=h0
 constructor
 ·intro g h args hp r hp' wl ho hr
  rw [FuncOk_knows]
  simp only [Cfg.knows,orcS,Bool.cond_eq_ite] at ho
  split at ho
  ·rename_i hg
   cases ho
   have:g=140:=by simpa using hg
   subst this
   exact sort_ok cfg_ok Tryz.lSort hr
  ·have:=a g h args hp r hp' wl ho hr
   rw [FuncOk_knows] at this
   exact this
 ·intro g h args hp r hp' wl ho hr
  simp only [Cfg.knows,orcS,Bool.cond_eq_ite] at ho
  split at ho
  ·cases ho
   exact sort_fr hr
  ·exact b g h args hp r hp' wl ho hr
end Mw
namespace Mw
open Go
def strip (o:Oper):Oper:={ o with type:=0,pos:= "",after:=#[] }
variable {C:Cfg} {call:CallF} {f:FuncId}
theorem opOut_strip (o:Oper) (ρ:Operand→V) (g:Rd) (hp:List O):opOut C call f (strip o) ρ g hp=opOut C call f o ρ g hp:=by
 obtain ⟨dst,op,ty,pos,after,guard⟩:=o
 cases op<;>rfl
theorem opRun_strip (o:Oper) (s:St):opRun C call f (strip o) s=opRun C call f o s:=by
 unfold opRun
 rw [opOut_strip]
 rfl
theorem wantedV_strip (all:List Oper) (s:St) (o:Oper):wantedV (all.map strip) s (strip o)=wantedV all s o:=by
 unfold wantedV
 obtain ⟨dst,op,ty,pos,after,guard⟩:=o
 cases guard with
 | none=>rfl
 | some g =>
  obtain ⟨j,w⟩:=g
  simp only [strip,List.getElem?_map]
  cases h:all[j]? with
  | none=>rfl
  | some p=>rfl
theorem opsRun_strip (all:List Oper):∀ (l:List Oper) (s:St),opsRun C call f (all.map strip) (l.map strip) s=opsRun C call f all l s
 | [],s=>rfl
 | o :: l,s=>by
  simp only [List.map_cons,opsRun,wantedV_strip,opRun_strip,opsRun_strip all l]
  rfl
def newS (C:Cfg) (f:Nat) (t:Tmp) (ob:O) (mk:Loc→V) (s:St):St :=
 bif C.esc f t then { s with tm:=ins t (mk (.heap s.m.hp.length)) s.tm,m:={ s.m with hp:=s.m.hp++[ob] } }
 else { s with tm:=ins t (mk (.slot t (genOf t s.m.ob))) s.tm,m:={ s.m with ob:=ins t (genOf t s.m.ob,ob) s.m.ob } }
def setM (ss:List (Loc × O)) (s:St):St:={ s with m:=s.m.sets ss }
def callS (dst:Option Tmp) (ss:List (Loc × O)) (s:St):Option (CR × Bool × List O × Nat)→Option (X × St)
 | some (.ret v,_,hp,wl)=>some (.normal,put dst v { s with m:={ s.m.sets ss with hp:=hp,wl:=(s.m.sets ss).wl ||| wl } })
 | some (.pan v,_,hp,wl)=>some (.pan v,{ s with m:={ s.m.sets ss with hp:=hp,wl:=(s.m.sets ss).wl ||| wl } })
 | none=>none
def effS (C:Cfg) (f:Nat) (o:Oper) (s:St):Option Eff→Option (X × St)
 | some (.val v ss)=>some (.normal,put o.dst v (setM ss s))
 | some (.skip ss)=>some (.normal,put o.dst (.tuple []) (setM ss s))
 | some (.new ob mk ss)=>match o.dst with
  | some t=>some (.normal,newS C f t ob mk (setM ss s))
  | none=>none
 | some (.dfr d)=>match s.rnd with
  | some _=>none
  | none=>some (.normal,put o.dst (.tuple []) { s with df:=d :: s.df })
 | some (.pan v)=>some (.pan v,s)
 | some .recov=>match s.rc with
  | some (some v)=>some (.normal,put o.dst v { s with rc:=some none,rcd:=true })
  | some none=>some (.normal,put o.dst (.d .nili) s)
  | none=>none
 | none=>none
def valS (o:Oper) (s:St):Option V→Option (X × St)
 | some v=>some (.normal,put o.dst v s)
 | none=>none
def argS (call:CallF) (o:Oper) (s:St):Option (List V × List (Loc × O))→Option (V × List (Loc × O))→Option (X × St)
 | some (vs,ss),some (fn',ts)=>callS o.dst (ss++ts) s (call fn' vs none (setH s.m.hp (ss++ts)))
 | _,_=>none
def dropFP:X × St × FP→X × St:=fun r=>(r.1,r.2.1)
def dropFPs:X × St × List FP→X × St:=fun r=>(r.1,r.2.1)
def opS (C:Cfg) (call:CallF) (f:Nat) (o:Oper) (s:St):Option (X × St) :=
 if isPure o.op=true then valS o s (opP C o (evalV C s)) else
 match o.op with
 | .call { callee:=.value fn,args,.. } =>
  argS call o s (expo.goL (argMode C (evalV C s fn)) (onlyAt (opLocs o (evalV C s)) s.m) (args.toList.map (evalV C s))) (expo 4 (onlyAt (opLocs o (evalV C s)) s.m) (evalV C s fn))
 | .call { callee:=.invoke _ _,.. }=>(opRun C call f o s).map dropFP
 | _=>effS C f o s (opM C f o (evalV C s) (onlyAt (opLocs o (evalV C s)) s.m))
theorem effS_eq (o:Oper) (s:St) (e:Option Eff) (ls:List Loc):effS C f o s e=((match (match e with
   | some e=>some (Out.eff e)
   | none=>none) with
  | some out=>applyOut C f o ls s out
  | none=>none).map dropFP):=by
 obtain ⟨dst,op,ty,pos,after,guard⟩:=o
 cases e with
 | none=>rfl
 | some e =>
  cases e with
  | val=>rfl
  | skip=>rfl
  | new ob mk ss =>
   cases dst with
   | none=>rfl
   | some t =>
    simp only [effS,applyOut,newS,setM]
    cases C.esc f t<;>rfl
  | dfr d=>simp only [effS,applyOut]; cases s.rnd<;>rfl
  | pan=>rfl
  | recov =>
   simp only [effS,applyOut]
   cases s.rc with
   | none=>rfl
   | some v=>cases v<;>rfl
theorem valS_eq (o:Oper) (s:St) (e:Option V) (ls:List Loc):valS o s e=((match (match e with
   | some v=>some (Out.eff (.val v []))
   | none=>none) with
  | some out=>applyOut C f o ls s out
  | none=>none).map dropFP):=by
 cases e with
 | none=>rfl
 | some e=>rfl
theorem opS_eq (o:Oper) (s:St):opS C call f o s=(opRun C call f o s).map dropFP:=by
 obtain ⟨dst,op,ty,pos,after,guard⟩:=o
 cases op
 case call c =>
  obtain ⟨callee,args,ats⟩:=c
  cases callee
  case value fn =>
   simp only [opS,opRun,opOut,isPure,cond_false,Bool.false_eq_true,if_false,argS]
   cases expo.goL (argMode C (evalV C s fn)) _ (args.toList.map (evalV C s)) with
   | none=>rfl
   | some a =>
    obtain ⟨vs,ss⟩:=a
    simp only
    cases expo 4 _ (evalV C s fn) with
    | none=>rfl
    | some b =>
     obtain ⟨fn',ts⟩:=b
     simp only [callOut]
     cases call fn' vs none (setH s.m.hp (ss++ts)) with
     | none=>rfl
     | some r=>obtain ⟨y,r1,r2,r3⟩:=r; cases y<;>rfl
  case invoke=>rfl
  case builtin bb =>
   cases bb<;>simp only [opS,opRun,opOut,isPure,cond_false,cond_true,Bool.false_eq_true,if_false,if_true]<;>first | exact valS_eq _ _ _ [] | exact effS_eq _ _ _ [] | exact valS_eq _ _ _ _ | exact effS_eq _ _ _ _
 all_goals (simp only [opS,opRun,opOut,isPure,cond_false,cond_true,Bool.false_eq_true,if_false,if_true]<;>first | exact valS_eq _ _ _ [] | exact effS_eq _ _ _ [] | exact valS_eq _ _ _ _ | exact effS_eq _ _ _ _)
def opsS (C:Cfg) (call:CallF) (f:Nat) (all:List Oper):List Oper→St→Option (X × St)
 | [],s=>some (.normal,s)
 | o :: r,s=>goOn (opsS C call f all r) o (wantedV all s o) s (opS C call f o s)
 where
 goOn (k:St→Option (X × St)) (o:Oper) (w:Option Bool) (s:St) (r:Option (X × St)):Option (X × St):=match w with
  | some true=>andThen k r
  | some false=>k (put o.dst (.tuple []) s)
  | none=>none
theorem opsS_eq (all:List Oper):∀ (l:List Oper) (s:St),opsS C call f all l s=(opsRun C call f all l s).map dropFPs
 | [],s=>rfl
 | o :: l,s=>by
  have ih:=opsS_eq all l
  simp only [opsS,opsRun,opS_eq,opsS.goOn]
  cases wantedV all s o with
  | none=>rfl
  | some w =>
   cases w with
   | true =>
    simp only
    cases opRun C call f o s with
    | none=>rfl
    | some r =>
     obtain ⟨y,s1,fp⟩:=r
     cases y with
     | normal =>
      show opsS C call f all l s1=_
      rw [ih]
      show _=Option.map dropFPs (match opsRun C call f all l s1 with
       | some (x,s,fps)=>some (x,s,fp :: fps)
       | none=>none)
      cases opsRun C call f all l s1 with
      | none=>rfl
      | some r=>obtain ⟨y,s2,fps⟩:=r; rfl
     | _=>rfl
   | false =>
    simp only [ih]
    cases opsRun C call f all l (put o.dst (.tuple []) s) with
    | none=>rfl
    | some r=>obtain ⟨y,s2,fps⟩:=r; rfl
def stepK (mask:Nat):Option (X × St)→Option (X × St)
 | some (.normal,s)=>some (.normal,{ s with tm:=keepMask mask s.tm })
 | r=>r
def stepDr (mask:Nat):Option (X × St)→Option (X × St)
 | some (.normal,s)=>some (.normal,{ s with tm:=keepMask mask s.tm })
 | _=>none
def stepP (n mask:Nat) (ps:List (Nat × Nat)):Option (X × St × List FP)→Option (X × St)
 | some (.normal,s,fps)=>bif pairsOk n fps ps then some (.normal,{ s with tm:=keepMask mask s.tm }) else none
 | _=>none
theorem reg_of {id:Nat} {ops:Array Oper} {L:List Oper} {mask:Nat} (h1:ops.toList.map strip=L) (h3:C.keep f id=mask) (s:St) :
  execL C f (.region id ops false) s=stepK mask (opsS C (callL C) f L L s):=by
 rw [execL_region,← h1,opsS_eq,opsRun_strip,h3]
 cases opsRun C (callL C) f ops.toList ops.toList s with
 | none=>rfl
 | some r=>obtain ⟨y,s1,fp⟩:=r; cases y<;>rfl
theorem regD_of {id:Nat} {ops:Array Oper} {L:List Oper} {mask:Nat} (h1:ops.toList.map strip=L) (h2:C.pairs f id=[]) (h3:C.keep f id=mask) (s:St) :
  execL C f (.region id ops true) s=stepDr mask (opsS C (callL C) f L L s):=by
 rw [execL_region,← h1,opsS_eq,opsRun_strip,h3,h2]
 cases opsRun C (callL C) f ops.toList ops.toList s with
 | none=>rfl
 | some r=>obtain ⟨y,s1,fp⟩:=r; cases y<;>rfl
theorem regP_of {id:Nat} {ops:Array Oper} {L:List Oper} {mask:Nat} {ps:List (Nat × Nat)} (h1:ops.toList.map strip=L) (h2:C.pairs f id=ps) (h3:C.keep f id=mask) (s:St) :
  execL C f (.region id ops true) s=stepP s.m.hp.length mask ps (opsRun C (callL C) f L L s):=by
 rw [execL_region,← h1,opsRun_strip,h3,h2]
 cases opsRun C (callL C) f ops.toList ops.toList s with
 | none=>rfl
 | some r=>obtain ⟨y,s1,fp⟩:=r; cases y<;>rfl
def findReg (id:Nat):Code→Option (Array Oper)
 | .region j ops _=>bif j == id then some ops else none
 | .seq a b=>match findReg id a with
  | some r=>some r
  | none=>findReg id b
 | .cond _ a b=>match findReg id a with
  | some r=>some r
  | none=>findReg id b
 | .block _ b=>findReg id b
 | .loop b=>findReg id b
 | .scope b=>findReg id b
 | .rangeFunc _ _ a b=>match findReg id a with
  | some r=>some r
  | none=>findReg id b
 | _=>none
def opsAt (P:Program) (f id:Nat):Array Oper:=match P.funcs[f]? with
 | some fn=>match fn.body with
  | some c=>(findReg id c).getD #[]
  | none=>#[]
 | none=>#[]
theorem execL_if {t:Operand} {p q:Code} {s:St}:execL C f (.cond t p q) s=match evalV C s t with
  | .d (.bool v)=>if v=true then execL C f p s else execL C f q s
  | _=>none:=by
 split
 ·rename_i v h
  rw [execL_cond h]
  cases v
  ·rfl
  ·rfl
 ·rename_i h
  apply execL_of
  intro k
  simp only [exec]
def resN (C:Cfg) (s:St) (rs:List ResultVar):Option (List V):=resL C s rs
def leaveN (C:Cfg) (call:CallF) (rs:List ResultVar) (frz:Nat):List Dfr→Option V→St→Option (CR × St)
 | [],none,s=>match resL C s rs with
  | some vs=>match expo.goL frz s.m.get vs with
   | some (vs,ss)=>some (.ret (match vs with | [v]=>v | vs=>.tuple vs),{ s with m:=s.m.sets ss })
   | none=>none
  | none=>none
 | [],some v,s=>some (.pan v,s)
 | d :: ds,pv,s=>match call (.fn d.f [] []) d.args (some pv) s.m.hp with
  | some (.ret _,rcd,hp,wl)=>leaveN C call rs frz ds (bif rcd then none else pv) { s with m:={ s.m with hp:=hp,wl:=s.m.wl ||| wl } }
  | _=>none
theorem leaveN_eq {fn:Func} {frz:Nat}:∀ (ds:List Dfr) (pv:Option V) (s:St),leave C call fn frz ds pv s=leaveN C call fn.results.toList frz ds pv s
 | [],none,s=>rfl
 | [],some v,s=>rfl
 | d :: ds,pv,s=>by
  unfold leave leaveN
  cases call (.fn d.f [] []) d.args (some pv) s.m.hp with
  | none=>rfl
  | some r=>obtain ⟨y,r1,r2,r3⟩:=r; cases y<;>first | exact leaveN_eq ds _ _ | rfl
noncomputable def bodyN (C:Cfg) (rs:List ResultVar) (frz:Nat):Option (X × St)→Option (CR × St)
 | some (.normal,s)=>leaveN C (callL C) rs frz s.df none s
 | some (.ret,s)=>leaveN C (callL C) rs frz s.df none s
 | some (.pan v,s)=>leaveN C (callL C) rs frz s.df (some v) s
 | _=>none
def bodyRes (P:Program) (g:FuncId):Option (Code × List ResultVar):=match P.funcs[g]? with
 | some fn=>match fn.body with
  | some c=>some (c,fn.results.toList)
  | none=>none
 | none=>none
theorem callL_body {g:FuncId} {c:Code} {rs:List ResultVar} {frz:Nat} (ho:C.orc g=none) (h:bodyRes C.P g=some (c,rs)) (hz:C.frz g=frz) (first caps args:List V) (rc:Option (Option V)) (hp:List O) :
  callL C (.fn (.func g) first caps) args rc hp=outR (bodyN C rs frz (execL C g c { tm:=zipI (first++args++caps) 0,m:={ ob:=[],hp:=hp,wl:=0 },df:=[],rc:=rc })):=by
 unfold bodyRes at h
 split at h
 ·rename_i fn hf
  split at h
  ·rename_i c' hc
   cases h
   rw [callL_func ho hf hc]
   congr 1
   unfold bodyL bodyN
   generalize execL C g c { tm:=zipI (first++args++caps) 0,m:={ ob:=[],hp:=hp,wl:=0 },df:=[],rc:=rc }=r
   cases r with
   | none=>rfl
   | some r =>
    obtain ⟨y,s⟩:=r
    cases y<;>first | (rw [← hz]; exact leaveN_eq _ _ _) | rfl
  ·cases h
 ·cases h
end Mw
namespace Mw
open Go Go.Proofs
noncomputable def K:Cfg:=cfg0.knows (orcS tabK)
theorem ble_dec (a b:Nat):Nat.ble a b=decide (a≤b):=by
 cases h:Nat.ble a b
 ·have:¬ a≤b:=fun h'=>by rw [Nat.ble_eq_true_of_le h'] at h; cases h
  simp [this]
 ·simp [Nat.le_of_ble_eq_true h]
theorem roomOk_eq {C:Cfg} {t b:Nat} (h:C.P.bytesOf t=b) (n:Nat):roomOk C t n=(decide (n≤4294967296)&&decide (n * b≤4294967296)):=by
 unfold roomOk; rw [h,ble_dec,ble_dec]
def zeroFits (C:Cfg) (t:Nat):Bool:=match zeroT C t with
  | some z=>z.cells.length == sizeT C t
  | none=>false
theorem growOk_eq {C:Cfg} {t b:Nat} (h:C.P.bytesOf t=b) (hz:zeroFits C t=true) (n:Nat):growOk C t n=(decide (n≤4294967296)&&decide (n * b≤4294967296)):=by
 show (roomOk C t n&&zeroFits C t)=_
 rw [hz,Bool.and_true,roomOk_eq h]
def buildL (z:List D) (pl:List (Nat × Nat)) (parts:List (Nat × V)):Option V:=match fillV (fun i=>pl[i]?) (z.map V.d) parts with
 | some cs=>some (mkAgg cs)
 | none=>none
def buildA (z:List D) (sz:Nat) (parts:List (Nat × V)):Option V:=match fillV (fun i=>some (i * sz,sz)) (z.map V.d) parts with
 | some cs=>some (mkAgg cs)
 | none=>none
theorem buildV_struct {C:Cfg} {t:Nat} {z:List D} {fs:Array Field} {pl:List (Nat × Nat)} (h1:zeroT C t=some (.agg z)) (h2:C.P.underlying t=some (.struct fs)) (h3:(fs.toList.all fun f=>(C.P.info? f.type).isSome)=true)
  (h4:fs.toList.map (fun f=>(f.offset,sizeT C f.type))=pl) (parts:List (Nat × V)):buildV C t parts=buildL z pl parts:=by
 unfold buildV placeT buildL
 rw [h1,h2]
 simp only [h3,cond_true,D.cells]
 have:(fun (i:Nat)=>match (fs[i]?:Option Field) with
   | some fl=>some (fl.offset,sizeT C fl.type)
   | none=>none)=fun (i:Nat)=>pl[i]?:=by
  funext i
  rw [← h4,List.getElem?_map,Array.getElem?_toList]
  cases fs[i]?<;>rfl
 rw [← this]
 rfl
theorem buildV_arr {C:Cfg} {t n e s:Nat} {z:List D} (h1:zeroT C t=some (.agg z)) (h2:C.P.underlying t=some (.array n e)) (h3:(C.P.info? e).isSome=true) (h4:sizeT C e=s) (parts:List (Nat × V)):buildV C t parts=buildA z s parts:=by
 unfold buildV placeT buildA
 rw [h1,h2]
 simp only [h3,cond_true,D.cells,h4]
 rfl
noncomputable def Wr:{g:IntKind→Int→Int // ∀ k x,g k x=k.wrap x}:=Classical.choice ⟨⟨_,fun _ _=>rfl⟩⟩
noncomputable def wr (k:IntKind) (x:Int):Int:=Wr.1 k x
theorem wr_eq (k:IntKind) (x:Int):wr k x=k.wrap x:=Wr.2 k x
@[simp] theorem wrap_wr (k:IntKind) (x:Int):IntKind.wrap k x=wr k x:=(wr_eq k x).symm
def arithU (op:BinOp) (x y:Int):Int:=match op with
 | .add=>IntKind.wrap .u64 (x+y)
 | .sub=>IntKind.wrap .u64 (x - y)
 | .mul=>IntKind.wrap .u64 (x * y)
 | .xor=>IntKind.wrap .u64 (BitVec.ofInt 64 x ^^^ BitVec.ofInt 64 y).toNat
 | .rem=>x.tmod y
 | .shr=>x.fdiv (2 ^ min y.toNat 64)
 | _=>0
noncomputable def Au:{g:BinOp→Int→Int→Int // ∀ op x y,g op x y=arithU op x y}:=Classical.choice ⟨⟨_,fun _ _ _=>rfl⟩⟩
noncomputable def au (op:BinOp) (x y:Int):Int:=Au.1 op x y
theorem au_eq (op:BinOp) (x y:Int):au op x y=arithU op x y:=Au.2 op x y
@[simp] theorem bu_add (a b:Int):binInt .add .u64 a b=some (.int .u64 (au .add a b)):=by rw [au_eq]; rfl
@[simp] theorem bu_mul (a b:Int):binInt .mul .u64 a b=some (.int .u64 (au .mul a b)):=by rw [au_eq]; rfl
@[simp] theorem bu_xor (a b:Int):binInt .xor .u64 a b=some (.int .u64 (au .xor a b)):=by rw [au_eq]; rfl
@[simp] theorem bu_shr {a y:Int} (h:0≤y):shiftInt .shr .u64 a y=some (.int .u64 (au .shr a y)):=by
 rw [au_eq]
 have:decide (y < 0)=false:=by simp; omega
 simp only [shiftInt,this,cond_false,arithU]
 rfl
theorem bu_rem {a b:Int} (h:b≠0):binInt .rem .u64 a b=some (.int .u64 (au .rem a b)):=by
 rw [au_eq]
 have:(b == 0)=false:=by simpa using h
 simp only [binInt,this,cond_false,arithU]
@[simp] theorem bi_add (a b:Int):binInt .add .i64 a b=some (.int .i64 (wr .i64 (a+b))):=by rw [wr_eq]; rfl
@[simp] theorem bi_sub (a b:Int):binInt .sub .i64 a b=some (.int .i64 (wr .i64 (a - b))):=by rw [wr_eq]; rfl
@[simp] theorem bi_mul (a b:Int):binInt .mul .i64 a b=some (.int .i64 (wr .i64 (a * b))):=by rw [wr_eq]; rfl
@[simp] theorem bi_eql (k:IntKind) (a b:Int):binInt .eql k a b=some (.bool (decide (a=b))):=rfl
@[simp] theorem bi_neq (k:IntKind) (a b:Int):binInt .neq k a b=some (.bool (!decide (a=b))):=rfl
@[simp] theorem bi_lss (k:IntKind) (a b:Int):binInt .lss k a b=some (.bool (decide (a < b))):=rfl
@[simp] theorem bi_leq (k:IntKind) (a b:Int):binInt .leq k a b=some (.bool (decide (a≤b))):=rfl
@[simp] theorem bi_gtr (k:IntKind) (a b:Int):binInt .gtr k a b=some (.bool (decide (a > b))):=rfl
@[simp] theorem bi_geq (k:IntKind) (a b:Int):binInt .geq k a b=some (.bool (decide (a ≥ b))):=rfl
@[simp] theorem heap_set0 (hp J:List O) (a b:O):(hp++a :: J).set hp.length b=hp++b :: J:=by simp
attribute [simp] Nat.testBit_eq_decide_div_mod_eq
attribute [simp] builtL opsS opsS.goOn andThen opS isPure opP wantedV evalV getT look put ins opLocs opM boolAct loadV onlyAt Op.operands V.locs.goL V.locs Mem.get Loc.eq V.ofCells D.ofCells Mem.sets Mem.set slotsOf bitsOf natOf D.ofValue D.cells V.cells binOpV ble_dec valS effS setM newS genOf stepK stepDr keepMask outOf execL_if execL_seq execL_block execL_skip execL_exit execL_ret execL_scope execL_label
 setsD bound sliceV sliceS cutV cutX copyV findKey eqV eqNil isNilD eqT eqCell eqItems eqFields ofBytes inLoop D.ofValues
 zipI bodyN leaveN resL resV outR expo.goL expo Loc.isHeap lenT lenV storeV V.isCell expoTo splice mkAgg allD buildL buildA fillV unOpD minmax elems elems' appendV newVec isList argS callS setH Call.operands D.isCell
@[simp] def oa (d:Nat) (op:Op):Oper:=⟨some d,op,0,"",#[],none⟩
@[simp] def on (op:Op):Oper:=⟨none,op,0,"",#[],none⟩
@[simp] def og (d j:Nat) (b:Bool) (op:Op):Oper:=⟨some d,op,0,"",#[],some (j,b)⟩
@[simp] def mv (d s:Nat):Oper:=⟨some d,.move (.tmp s),0,"",#[],none⟩
@[simp] def sg (d s:Nat):Oper:=⟨some d,.assign (.tmp s),0,"",#[],none⟩
@[simp] def ld (d t s:Nat):Oper:=⟨some d,.load t (.tmp s),0,"",#[],none⟩
@[simp] def fa (d t s i:Nat):Oper:=⟨some d,.fieldAddr t (.tmp s) i,0,"",#[],none⟩
@[simp] def ia (d t a b:Nat):Oper:=⟨some d,.indexAddr t (.tmp a) (.tmp b),0,"",#[],none⟩
@[simp] def so (t a b:Nat):Oper:=⟨none,.store t (.tmp a) (.tmp b),0,"",#[],none⟩
@[simp] def aq (d t:Nat):Oper:=⟨some d,.alloc t,0,"",#[],none⟩
@[simp] def bx (d t s:Nat):Oper:=⟨some d,.box t (.tmp s),0,"",#[],none⟩
@[simp] def xt (d s i:Nat):Oper:=⟨some d,.extract (.tmp s) i,0,"",#[],none⟩
@[simp] def bo (d:Nat) (op:BinOp) (t a b:Nat):Oper:=⟨some d,.binOp op t (.tmp a) (.tmp b) t,0,"",#[],none⟩
@[simp] def bk (d:Nat) (op:BinOp) (t a:Nat) (n:Int):Oper:=⟨some d,.binOp op t (.tmp a) (.const (.int .i64 n)) t,0,"",#[],none⟩
noncomputable abbrev rg (f id:Nat):Code:=.region id (opsAt K.P f id) false
noncomputable abbrev rd (f id:Nat):Code:=.region id (opsAt K.P f id) true
abbrev XF (f id m:Nat) (r:List Oper):Prop:=∀ s:St,execL K f (.region id (opsAt K.P f id) false) s=stepK m (opsS K (callL K) f r r s)
abbrev XD (f id m:Nat) (r:List Oper):Prop:=∀ s:St,execL K f (.region id (opsAt K.P f id) true) s=stepDr m (opsS K (callL K) f r r s)
abbrev XP (f id m:Nat) (ps:List (Nat × Nat)) (r:List Oper):Prop:=∀ s:St,execL K f (.region id (opsAt K.P f id) true) s=stepP s.m.hp.length m ps (opsRun K (callL K) f r r s)
theorem XF.mk {f id m:Nat} {r:List Oper} (h1:(opsAt K.P f id).toList.map strip=r:=by kernel_rfl) (h3:K.keep f id=m:=by kernel_rfl):XF f id m r:=fun s=>reg_of h1 h3 s
theorem XD.mk {f id m:Nat} {r:List Oper} (h1:(opsAt K.P f id).toList.map strip=r:=by kernel_rfl) (h2:K.pairs f id=[]:=by kernel_rfl) (h3:K.keep f id=m:=by kernel_rfl):XD f id m r:=fun s=>regD_of h1 h2 h3 s
theorem XP.mk {f id m:Nat} {ps:List (Nat × Nat)} {r:List Oper} (h1:(opsAt K.P f id).toList.map strip=r:=by kernel_rfl) (h2:K.pairs f id=ps:=by kernel_rfl) (h3:K.keep f id=m:=by kernel_rfl):XP f id m ps r:=fun s=>regP_of h1 h2 h3 s
abbrev KF (f:Nat) (rs:List ResultVar) (fz:Nat) (c:Code):Prop:=∀ (first caps args:List V) (rc:Option (Option V)) (hp:List O),callL K (.fn (.func f) first caps) args rc hp=outR (bodyN K rs fz (execL K f c { tm:=zipI (first++args++caps) 0,m:={ ob:=[],hp:=hp,wl:=0 },df:=[],rc:=rc }))
theorem KF.mk {f:Nat} {rs:List ResultVar} {fz:Nat} {c:Code} (h1:K.orc f=none:=by kernel_rfl) (h2:bodyRes K.P f=some (c,rs):=by kernel_rfl) (h3:K.frz f=fz:=by kernel_rfl):KF f rs fz c:=fun first caps args rc hp=>callL_body h1 h2 h3 first caps args rc hp
attribute [simp] stepP opsRun opRun opOut applyOut callOut pairsOk FP.meets FP.reads FP.touches FP.local
abbrev CK (f:Nat) (vs:List V) (h:List O) (r:V) (h':List O) (w:Nat):Prop:=callL K (.fn (.func f) [] []) vs none h=some (.ret r,false,h',w)
theorem gS {α:Type} {l:List α} {i:Nat} {a:α}:l[i]?=some a↔∃ h:i < l.length,l[i]=a:=List.getElem?_eq_some_iff
end Mw
