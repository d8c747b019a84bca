/- DependFirst's tied card holds; no condition beyond the card's own. -/
import Derived.Test.YtdjnccgeajpegaaGreatDoorMwR
import Derived.Test.YtdjnccgeajpegaaGreatDoorMwQ
import Derived.Shelf.Lays2
set_option linter.unusedVariables false
set_option linter.unusedSimpArgs false
namespace Go.Proofs
open Go.Shelf
set_option maxRecDepth 100000
def Tryz.lIns_ren:Ren where
 f:=fun x=>match x with
  |21=>117|27=>163|28=>164|35=>201|39=>233|n=>n
 t:=fun x=>x
 g:=fun x=>x
theorem Tryz.lIns:Lays2.n21 Tryz.prog Tryz.lIns_ren where
 mixed:=by kernel_rfl
 f21:=Tryz.func117
 f27:=Tryz.func163
 f28:=Tryz.func164
 f35:=Tryz.func201
 f39:=Tryz.func233
 t0:=Tryz.underlying0
 a0:=Tryz.isAgg0
 z0:=Tryz.sizeOf0
 v0:=Tryz.zeroValue0
 t3:=Tryz.underlying3
 a3:=Tryz.isAgg3
 z3:=Tryz.sizeOf3
 v3:=Tryz.zeroValue3
 t4:=Tryz.underlying4
 a4:=Tryz.isAgg4
 z4:=Tryz.sizeOf4
 v4:=Tryz.zeroValue4
 t22:=Tryz.underlying22
 a22:=Tryz.isAgg22
 z22:=Tryz.sizeOf22
 v22:=Tryz.zeroValue22
 i3:=by kernel_rfl
end Go.Proofs
namespace Mw
open Go Go.Proofs Go.Shelf
set_option maxRecDepth 100000
def KI(C:aY)(f:Nat)(fn:Func):Bool:=match fn.body with
 |some c=>codeOk C fn.ntmps f c&&!(fn.name== "runtime.NumGoroutine")|none=>true
def xw(C:aY):Nat→List Func→Bool
 |_,[]=>true|i,fn::r=>KI C i fn&&xw C (i+1) r
theorem yQ{C:aY}:∀{l:List Func} {i j:Nat} {fn:Func},xw C i l=true→l[j]?=some fn→KI C (i+j) fn=true
 |[],_,_,_,_,h=>by simp at h|f::r,i,0,fn,h,hj=>by simp only[xw,Bool.and_eq_true]at h;simp at hj;subst hj;exact h.1|f::r,i,j+1,fn,h,hj=>by simp only[xw,Bool.and_eq_true]at h;have:=yQ h.2 (by simpa using hj);rwa[show i+1+j=i+(j+1) by omega]at this
theorem aY.Ok.of{C:aY}(hm:C.P.follows .mixedOrders=true)(h:xw C 0 C.P.funcs.toList=true):C.Ok:=by refine⟨hm,fun f fn c hf hc=>?_⟩;have:=yQ (j:=f) h (by simpa using hf);simp only[KI,hc,Bool.and_eq_true,Bool.not_eq_true']at this;rw[Nat.zero_add]at this;exact this
end Mw
