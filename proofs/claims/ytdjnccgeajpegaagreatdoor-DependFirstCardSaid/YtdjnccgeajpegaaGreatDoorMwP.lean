/- DependFirst's tied card holds; no condition beyond the card's own. -/
import Derived.Test.YtdjnccgeajpegaaGreatDoorMwO
set_option linter.unusedVariables false
set_option linter.unusedSimpArgs false
namespace Mw
open Go
def agB(x:Operand)(C:aY)(ρ:Operand→V):Option V:=some (ρ x)
def Xp(x:Operand)(C:aY)(ρ:Operand→V):Option V:=some (ρ x)
def aim(c:Operand)(a:Operand)(b:Operand)(C:aY)(ρ:Operand→V):Option V:=match ρ c with
  | .d (.bool c)=>some (bif c then ρ a else ρ b)|_=>none
def abG(t:TypeId)(parts:Array (Nat×Operand))(C:aY)(ρ:Operand→V):Option V:=dO C t (parts.toList.map fun p=>(p.1,ρ p.2))
def Qs(x:Operand)(C:aY)(ρ:Operand→V):Option V:=match ρ x with
  | .ptr l off=>some (.ptr l off)| .dptr cs off=>some (.dptr cs off)| .ept l sz n i off=>some (.ept l sz n i off)| .fn (.func g) a b=>some (.fn (.func g) a b)| .fn (.yield l) a b=>some (.fn (.yield l) a b)|_=>none
def abp(op:BinOp)(t:TypeId)(x:Operand)(y:Operand)(_:TypeId)(C:aY)(ρ:Operand→V):Option V:=BN C op t ((x matches .const _) || (y matches .const _)) (ρ x) (ρ y)
def ahr(op:UnOp)(_:TypeId)(x:Operand)(C:aY)(ρ:Operand→V):Option V:=match ρ x with
  | .d a=>match H8 op a with
   |some v=>some (.d v)|none=>none
  |_=>none
def zq(t:TypeId)(x:Operand)(C:aY)(ρ:Operand→V):Option V:=match C.P.underlying t with
  |none=>none|some (.interface _)=>none|some _=>match ρ x with
   | .d a=>some (.d (.iface t a))|v=>some (.iface t v)
def I7(s:TypeId)(x:Operand)(i:Nat)(C:aY)(ρ:Operand→V):Option V:=match aQ C s i with
  |some fl=>bif aA C fl.type==0 then none else match ρ x with
   | .ptr l off=>some (.ptr l (off+fl.offset))| .ept l sz len j off=>some (.ept l sz len j (off+fl.offset))| .dptr cs off=>some (.dptr cs (off+fl.offset))| .vptr cs off=>some (.vptr cs (off+fl.offset))|_=>none
  |none=>none
def abx(t:TypeId)(x:Operand)(i:Nat)(C:aY)(ρ:Operand→V):Option V:=match aQ C t i with
  |some fl=>match ρ x with
   | .d (.agg cs)=>bif Nat.ble (fl.offset+aA C fl.type) cs.length then V.ofCells (cu C fl.type) (((cs.map V.d).drop fl.offset).take (aA C fl.type))else none| .agg cs=>bif Nat.ble (fl.offset+aA C fl.type) cs.length then V.ofCells (cu C fl.type) ((cs.drop fl.offset).take (aA C fl.type))else none|_=>none
  |none=>none
def JI (t:TypeId) (x:Operand) (i:Operand) (C:aY) (ρ:Operand→V):Option V:=match ni (ρ i) with
  |none=>none| some i=>match eU C t with
   | some e=>match ρ x with
    | .d (.list sz es)=>match es[i]? with
     |some d=>bif sz==aA C e then some (.dptr d.cells 0)else none|none=>none
    | .ex sz es=>match es[i]? with
     |some d=>bif sz==aA C e then some (.dptr d.cells 0)else none|none=>none
    | .vl es=>bif Nat.ble (i+1) es.length&&(aA C e==1)then some (.vptr es i)else none| .sl l sz len off n=>bif Nat.ble (i+1) n&&(sz==aA C e)then some (.ept l sz len (off+i) 0)else none| .asl l off n=>bif Nat.ble (i+1) n&&(aA C e==1)then some (.ptr l (off+i))else none|_=>none
   | none=>match wH C t with
    |some (n,e)=>bif Nat.ble (i+1) n then(match ρ x with
     | .ptr l off=>some (.ptr l (off+i*aA C e))| .dptr cs off=>some (.dptr cs (off+i*aA C e))| .ept l sz len j off=>some (.ept l sz len j (off+i*aA C e))|_=>none)else none
    |none=>none
def aaV (t:TypeId) (x:Operand) (i:Operand) (C:aY) (ρ:Operand→V):Option V:=match ni (ρ i) with
  |none=>none| some i=>match ρ x with
   | .d (.str s)=>match C.P.underlying t,s.data[i]? with
    |some .string,some b=>some (.d (.int .u8 b.toNat))|_,_=>none
   | .d (.agg cs)=>match wH C t with
    |some (n,e)=>bif Nat.ble (i+1) n&&Nat.ble (i*aA C e+aA C e) cs.length then V.ofCells (cu C e) (((cs.map V.d).drop (i*aA C e)).take (aA C e))else none|none=>none
   | .agg cs=>match wH C t with
    |some (n,e)=>bif Nat.ble (i+1) n&&Nat.ble (i*aA C e+aA C e) cs.length then V.ofCells (cu C e) ((cs.drop (i*aA C e)).take (aA C e))else none|none=>none
   |_=>none
def Gz(x:Operand)(_:TypeId)(asserted:TypeId)(ok:Bool)(C:aY)(ρ:Operand→V):Option V:=match ρ x with
  | .d .nili=>bif ok then(match C.P.underlying asserted,aU C asserted with
   |some _,some z=>some (.tuple [.d z,.d (.bool false)])|_,_=>none)else none
  |_=>none
def Uk(t:Operand)(i:Nat)(C:aY)(ρ:Operand→V):Option V:=match ρ t with
  | .tuple vs=>vs[i]?|_=>none
def aks(args:Array Operand)(argTypes:Array TypeId)(C:aY)(ρ:Operand→V):Option V:=match args.toList.map ρ with
  | .d (.int j x)::vs=>match kQ true (.int j x) vs with
   |some d=>some (.d d)|none=>none
  |_=>none
def alq(args:Array Operand)(argTypes:Array TypeId)(C:aY)(ρ:Operand→V):Option V:=match args.toList.map ρ with
  | .d (.int j x)::vs=>match kQ false (.int j x) vs with
   |some d=>some (.d d)|none=>none
  |_=>none
def aa9(t:TypeId)(C:aY)(f:Nat)(o:Oper)(ρ:Operand→V)(g:Rd):Option Eff:=match aU C t with
  |some z=>some (.new (.cells (z.cells.map .d) false) (fun l=>.ptr l 0) [])|none=>none
def ant(_:TypeId)(x:Operand)(C:aY)(f:Nat)(o:Oper)(ρ:Operand→V)(g:Rd):Option Eff:=bif !(ρ x).cells.all V.isCell then none else match o.dst with
  |some t=>match(bif C.esc f t then bH.goL 0 g (ρ x).cells else some ((ρ x).cells,[]))with
   |some (vs,ss)=>some (.new (.cells vs false) (fun l=>.ptr l 0) ss)|none=>none
  |none=>none
def Hf (t:TypeId) (len:Nat) (parts:Array (Nat × Operand)) (C:aY) (f:Nat) (o:Oper) (ρ:Operand→V) (g:Rd):Option Eff :=
  match eU C t with
  | some e =>
   match aU C e,bH.goL 1 g (parts.toList.map fun p=>ρ p.2)with
   |some z,some (vs,ss)=>bif Nat.ble (len*aA C e) 16777216&&(z.cells.length==aA C e)&&(parts.toList.all fun p=>Nat.ble (p.1+1) len)then
    (match qY vs with
    |some ds=>bif ds.all fun d=>d.cells.length==aA C e then some (FB C f o.dst (aA C e) (lC (List.replicate len z) (parts.toList.map (·.1)) ds) ss)else none
    |none=>bif aA C e==1&&(parts.toList.map (·.1)==List.range len)&&vs.all V.isCell then some (.val (.vl vs) ss)else none)
    else none
   |_,_=>none
  |none=>none
def aeZ(t:TypeId)(a:Operand)(C:aY)(f:Nat)(o:Oper)(ρ:Operand→V)(g:Rd):Option Eff:=zB (CX C t (ρ a) g)
def ab2(t:TypeId)(a:Operand)(x:Operand)(C:aY)(f:Nat)(o:Oper)(ρ:Operand→V)(g:Rd):Option Eff:=match AL C t (ρ a) (ρ x) g with
  |some ss=>some (.skip ss)|none=>none
def Ur (src:TypeId) (dst:TypeId) (x:Operand) (C:aY) (f:Nat) (o:Oper) (ρ:Operand→V) (g:Rd):Option Eff:=match C.P.underlying src,C.P.underlying dst with
  | some us,some ud=>match us,ud,ρ x with
   |_,.int k,.d (.int _ n)=>some (.val (.d (.int k (k.wrap n))) [])|_,.string,.d (.int _ n)=>bif decide (0≤n)&&decide (n<128)then some (.val (.d (.str ⟨#[UInt8.ofNat n.toNat]⟩)) [])else none|_,.string,.d (.str s)=>some (.val (.d (.str s)) [])| .slice e,.string,x=>match C.P.underlying e,elems g x with
    |some (.int .u8),some (sz,es)=>bif sz==1 then(match ofBytes es with
     |some bs=>some (.val (.d (.str ⟨bs.toArray⟩)) [])|none=>none)else none
    |_,_=>none
   |_,_,_=>none
  |_,_=>none
def Oa(fn:Fn)(first:Array Operand)(caps:Array Operand)(C:aY)(f:Nat)(o:Oper)(ρ:Operand→V)(g:Rd):Option Eff:=match bH.goL 4 g (first.toList.map ρ),bH.goL 4 g (caps.toList.map ρ)with
  |some (a,ss),some (b,ts)=>some (.val (.fn fn a b) (ss++ts))|_,_=>none
def Uy(_:TypeId)(C:aY)(f:Nat)(o:Oper)(ρ:Operand→V)(g:Rd):Option Eff:=some (.new (.map []) (fun l=>.map l) [])
def JP (t:TypeId) (len:Operand) (cap:Operand) (C:aY) (f:Nat) (o:Oper) (ρ:Operand→V) (g:Rd):Option Eff:=match eU C t,ni (ρ len),ni (ρ cap) with
  | some e,some n,some c=>match aU C e with
   | some z=>bif Nat.ble n c&&gY C e c&&(z.cells.length == aA C e) then
     some (.new (.vec (aA C e) (List.replicate c z) false false) (fun l=>.sl l (aA C e) c 0 n) [])
    else none
   |none=>none
  |_,_,_=>none
def aaK (t:TypeId) (x:Operand) (lo:Option Operand) (hi:Option Operand) (mx:Option Operand) (C:aY) (f:Nat) (o:Oper) (ρ:Operand→V) (g:Rd):Option Eff:=match C.P.underlying t with
  |some (.array n e)=>match wH C t,lo,hi,mx,ρ x with
   |some _,none,none,none,.ptr l off=>bif aA C e==1 then some (.val (.asl l off n) [])else none|_,_,_,_,_=>none
  | some .string=>match mx,ρ x with
   |none,.d (.str s)=>match G7 s (lo.map ρ) (hi.map ρ)with
    |some v=>some (.val v [])|none=>none
   |_,_=>none
  | some (.slice _)=>match eU C t with
   |some e=>match FY (aA C e) (ρ x) (lo.map ρ) (hi.map ρ) (mx.map ρ) g with
    |some (v,ss)=>some (.val v ss)|none=>none
   |none=>none
  |_=>none
def YW (t:TypeId) (x:Operand) (i:Operand) (ok:Bool) (C:aY) (f:Nat) (o:Oper) (ρ:Operand→V) (g:Rd):Option Eff:=match CJ C t,ρ i with
  | some (kt,e),.d k=>match aU C e,(match ρ x with
    | .d .nilm=>some []| .map l=>match g l with
     |some (.map es)=>some es|_=>none
    |_=>none),zn C kt k k with
   |some z,some es,some true=>match findKey C kt k es with
    |some (some (_,v))=>some (.val (bif ok then .tuple [v,.d (.bool true)]else v) [])|some none=>some (.val (bif ok then .tuple [.d z,.d (.bool false)]else .d z) [])|none=>none
   |_,_,_=>none
  |_,_=>none
def H7 (t:TypeId) (mp:Operand) (k:Operand) (x:Operand) (C:aY) (f:Nat) (o:Oper) (ρ:Operand→V) (g:Rd):Option Eff:=match CJ C t,ρ mp,ρ k,bH 0 g (ρ x) with
  | some (kt,_),.map l,.d k,some (v,ss)=>match g l,zn C kt k k with
    |some (.map es),some true=>match findKey C kt k es with
     |some (some (i,_))=>some (.skip (ss++[(l,.map (es.set i (k,v)))]))|some none=>some (.skip (ss++[(l,.map (es++[(k,v)]))]))|none=>none
    |_,_=>none
  |_,_,_,_=>none
def OQ (t:TypeId) (mp:Operand) (k:Operand) (C:aY) (f:Nat) (o:Oper) (ρ:Operand→V) (g:Rd):Option Eff:=match CJ C t,ρ mp,ρ k with
  | some (kt,e),.map l,.d k=>match g l,aU C e,zn C kt k k with
   |some (.map es),some z,some true=>match findKey C kt k es with
    |some (some (i,v))=>some (.val (.tuple [v,.d (.int .i64 i)]) [(l,.map (es.set i (k,v)))])|some none=>some (.val (.tuple [.d z,.d (.int .i64 es.length)]) [(l,.map (es++[(k,.d z)]))])|none=>none
   |_,_,_=>none
  |_,_,_=>none
def Gt (_:TypeId) (mp:Operand) (st:Operand) (x:Operand) (C:aY) (f:Nat) (o:Oper) (ρ:Operand→V) (g:Rd):Option Eff:=match ρ mp,ni (ρ st),bH 0 g (ρ x) with
  | .map l,some i,some (v,ss)=>match g l with
    |some (.map es)=>match es[i]? with
     |some (k,_)=>some (.skip (ss++[(l,.map (es.set i (k,v)))]))|none=>none
    |_=>none
  |_,_,_=>none
def aaQ(t:TypeId)(x:Operand)(C:aY)(f:Nat)(o:Oper)(ρ:Operand→V)(g:Rd):Option Eff:=match C.P.underlying t,ρ x with
  |some .string,.d (.str s)=>some (.new (.sit s 0) (fun l=>.ptr l 0) [])|_,_=>none
def aeJ (it:Operand) (C:aY) (f:Nat) (o:Oper) (ρ:Operand→V) (g:Rd):Option Eff:=match ρ it with
  | .ptr l 0=>match g l with
   | some (.sit s pos) =>
    match s.data[pos]? with
    |none=>some (.val (.tuple [.d (.bool false)]) [])| some b=>bif Nat.ble (b.toNat+1) 128 then
      some (.val (.tuple [.d (.bool true),.d (.int .i64 pos),.d (.int .i32 b.toNat)]) [(l,.sit s (pos+1))])
     else none
   |_=>none
  |_=>none
def ao5(args:Array Operand)(argTypes:Array TypeId)(C:aY)(f:Nat)(o:Oper)(ρ:Operand→V)(g:Rd):Option Eff:=match args.toList.map ρ,argTypes.toList with
  |[x],t::_=>match aa0 C t x g with
   |some n=>some (.val (.d (.int .i64 n)) [])|none=>none
  |_,_=>none
def WU (args:Array Operand) (argTypes:Array TypeId) (C:aY) (f:Nat) (o:Oper) (ρ:Operand→V) (g:Rd):Option Eff:=match args.toList.map ρ with
  | [s,x]=>match argTypes.toList with
   |[t,u]=>match C.P.underlying u with
    |some (.slice _)=>qm C f o.dst t s x g|some .string=>qm C f o.dst t s x g|_=>none
   |_=>none
  |_=>none
def ahp(args:Array Operand)(argTypes:Array TypeId)(C:aY)(f:Nat)(o:Oper)(ρ:Operand→V)(g:Rd):Option Eff:=match args.toList.map ρ,argTypes.toList with
  |[d,s],t::_=>match eU C t with
   |some e=>copyV C e d s g|none=>none
  |_,_=>none
def ab9 (args:Array Operand) (argTypes:Array TypeId) (C:aY) (f:Nat) (o:Oper) (ρ:Operand→V) (g:Rd):Option Eff:=match args.toList.map ρ,argTypes.toList with
  | [.sl l sz len off n],t :: _=>match eU C t,g l with
   |some e,some (.vec sz1 es false gr)=>match aU C e with
    |some z=>bif (es.length==len)&&(sz1==sz)&&(z.cells.length==sz)&&Nat.ble (off+n) len then some (.val (.tuple []) [(l,.vec sz (splice es off (List.replicate n z)) false gr)])else none|none=>none
   |_,_=>none
  |_,_=>none
def Ul(args:Array Operand)(argTypes:Array TypeId)(C:aY)(f:Nat)(o:Oper)(ρ:Operand→V)(g:Rd):Option Eff:=bif args.isEmpty then some .recov else none
def ZT(x:Operand)(C:aY)(f:Nat)(o:Oper)(ρ:Operand→V)(g:Rd):Option Eff:=match bH 1 g (ρ x)with
  |some (.d (.iface t d),[])=>some (.pan (.d (.iface t d)))|_=>none
def aav(h:Operand)(args:Array Operand)(argTypes:Array TypeId)(C:aY)(f:Nat)(o:Oper)(ρ:Operand→V)(g:Rd):Option Eff:=match ρ h with
  | .fn (.yield _) _ _=>none| .fn fn first caps=>match bH.goL 4 g (first++args.toList.map ρ++caps)with
   |some (vs,[])=>some (.dfr {f:=fn,args:=vs})|_=>none
  |_=>none
abbrev BK:=aY→bK→Nat→Oper→(Operand→V)→Rd→List O→Option Out
def oP(p:aY→(Operand→V)→Option V):BK:=fun C _ _ _ ρ _ _=>match p C ρ with
 |some v=>some (.eff (.val v []))|none=>none
def oM(m:aY→Nat→Oper→(Operand→V)→Rd→Option Eff):BK:=fun C _ f o ρ g _=>match m C f o ρ g with
 |some e=>some (.eff e)|none=>none
def oNo:BK:=fun _ _ _ _ _ _ _=>none
def aeN(fn:Operand)(args:Array Operand):BK:=fun C call _ _ ρ g hp=>
  match bH.goL (ay C (ρ fn)) g (args.toList.map ρ)with
  |some (vs,ss)=>match bH 4 g (ρ fn)with
   |some (fn,ts)=>fP (ss++ts) (call fn vs none (setH hp (ss++ts)))|none=>none
  |none=>none
def ahz(r:Operand)(name:String)(args:Array Operand):BK:=fun C call _ _ ρ g hp=>
  match bH 4 g (ρ r),bH.goL 4 g (args.toList.map ρ)with
  |some (r,ts),some (vs,ss)=>match zC C r name with
   |some (fn,r)=>fP (ts++ss) (call (.fn (.func fn) [] []) (r::vs) none (setH hp (ts++ss)))|none=>none
  |_,_=>none
def awD:Builtin→Array Operand→Array TypeId→BK
 | .max=>fun args ts=>oP (aks args ts)
 | .min=>fun args ts=>oP (alq args ts)
 | .len=>fun args ts=>oM (ao5 args ts)
 | .append=>fun args ts=>oM (WU args ts)
 | .copy=>fun args ts=>oM (ahp args ts)
 | .clear=>fun args ts=>oM (ab9 args ts)
 | .recover=>fun args ts=>oM (Ul args ts)
 |_=>fun _ _=>oNo
def Un:Callee→Array Operand→Array TypeId→BK
 | .value fn=>fun args _=>aeN fn args
 | .invoke r name=>fun args _=>ahz r name args
 | .builtin b=>awD b
def aaW(c:Call):BK:=match c with
 |⟨callee,args,ts⟩=>Un callee args ts
def ZE(c:Call):BK:=match c with
 |⟨callee,args,ts⟩=>match callee with
  | .value h=>oM (aav h args ts)|_=>oNo
def abu(fn:Fn)(first caps:Array Operand):BK:=match fn with
 | .yield _=>oNo|fn=>oM (Oa fn first caps)
def sel:Op→BK
 | .move a0=>oP (agB a0)| .assign a0=>oP (Xp a0)| .pick a0 a1 a2=>oP (aim a0 a1 a2)| .build a0 a1=>oP (abG a0 a1)| .nilCheck a0=>oP (Qs a0)| .binOp a0 a1 a2 a3 a4=>oP (abp a0 a1 a2 a3 a4)| .unOp a0 a1 a2=>oP (ahr a0 a1 a2)| .makeInterface a0 a1=>oP (zq a0 a1)| .fieldAddr a0 a1 a2=>oP (I7 a0 a1 a2)| .field a0 a1 a2=>oP (abx a0 a1 a2)| .indexAddr a0 a1 a2=>oP (JI a0 a1 a2)| .index a0 a1 a2=>oP (aaV a0 a1 a2)| .typeAssert a0 a1 a2 a3=>oP (Gz a0 a1 a2 a3)| .extract a0 a1=>oP (Uk a0 a1)| .alloc a0=>oM (aa9 a0)| .box a0 a1=>oM (ant a0 a1)| .buildSlice a0 a1 a2=>oM (Hf a0 a1 a2)| .load a0 a1=>oM (aeZ a0 a1)| .store a0 a1 a2=>oM (ab2 a0 a1 a2)| .convert a0 a1 a2=>oM (Ur a0 a1 a2)| .makeFunc fn a b=>abu fn a b| .makeMap t none=>oM (Uy t)| .makeSlice a0 a1 a2=>oM (JP a0 a1 a2)| .slice a0 a1 a2 a3 a4=>oM (aaK a0 a1 a2 a3 a4)| .lookup a0 a1 a2 a3=>oM (YW a0 a1 a2 a3)| .mapUpdate a0 a1 a2 a3=>oM (H7 a0 a1 a2 a3)| .mapEntry a0 a1 a2=>oM (OQ a0 a1 a2)| .entryStore a0 a1 a2 a3=>oM (Gt a0 a1 a2 a3)| .range a0 a1=>oM (aaQ a0 a1)| .next it true=>oM (aeJ it)| .panic a0=>oM (ZT a0)| .defer c=>ZE c| .call c=>aaW c|_=>oNo
theorem agN(C:aY)(call:bK)(f:Nat)(o:Oper)(ρ:Operand→V)(g:Rd)(hp:List O):sel o.op C call f o ρ g hp=fD C call f o ρ g hp:=by
 obtain⟨dst,op,ty,pos,after,guard⟩:=o;cases op
 case makeFunc fn a b=>cases fn<;>rfl
 case makeMap t r=>cases r<;>rfl
 case next it b=>cases b<;>rfl
 case call c=>
  obtain⟨callee,args,ts⟩:=c;cases callee with
  |builtin b=>cases b<;>rfl|_=>rfl
 case defer c=>
  obtain⟨callee,args,ts⟩:=c;cases callee<;>rfl
 all_goals rfl
abbrev Po:=aY→Nat→Oper→List Loc→St→Option (X×St×FP)
def atI(v:V)(ss:List (Loc×O)):Po:=fun _ _ o ls s=>some (.normal,put o.dst v {s with m:=s.m.sets ss},{rd:=ls,ws:=slotsOf ss,wh:=bitsOf ss})
def akO(ss:List (Loc×O)):Po:=fun _ _ o ls s=>some (.normal,put o.dst (.tuple []) {s with m:=s.m.sets ss},{rd:=ls,ws:=slotsOf ss,wh:=bitsOf ss})
def awc (ob:O) (mk:Loc→V) (ss:List (Loc × O)):Po:=fun C f o ls s=>match o.dst with
  | some t =>
   let m:=s.m.sets ss
   bif C.esc f t then
    some (.normal,{s with tm:=ins t (mk (.heap m.hp.length)) s.tm,m:={m with hp:=m.hp++[ob] } },{rd:=ls,ws:=slotsOf ss,wh:=bitsOf ss,gh:=true})
   else
    let g:=dY t m.ob
    some (.normal,{s with tm:=ins t (mk (.slot t g)) s.tm,m:={m with ob:=ins t (g,ob) m.ob} },{rd:=ls,ws:=t::slotsOf ss,wh:=bitsOf ss})
  |none=>none
def alo(e:Eff):Po:=fun C f o ls s=>aO C f o ls s (.eff e)
def aln(r:CR)(ss:List (Loc×O))(hp:List O)(wl:Nat):Po:=fun C f o ls s=>aO C f o ls s (.call r ss hp wl)
def awZ:Eff→Po
 | .val v ss=>atI v ss| .skip ss=>akO ss| .new ob mk ss=>awc ob mk ss|e=>alo e
def ame:Out→Po
 | .eff e=>awZ e| .call r ss hp wl=>aln r ss hp wl
theorem aam(out:Out)(C:aY)(f:Nat)(o:Oper)(ls:List Loc)(s:St):ame out C f o ls s=aO C f o ls s out:=by
 cases out with
 |eff e=>cases e<;>rfl|call=>rfl
def Om(C:aY)(call:bK)(f:Nat)(o:Oper)(s:St):Option (X×St×FP):=
 match sel o.op C call f o (bJ C s) (iT (fB o (bJ C s)) s.m) s.m.hp with
 |some out=>ame out C f o (fB o (bJ C s)) s|none=>none
theorem UR(C:aY)(call:bK)(f:Nat)(o:Oper)(s:St):Om C call f o s=fE C call f o s:=by
 unfold Om fE;rw[agN];cases fD C call f o (bJ C s) (iT (fB o (bJ C s)) s.m) s.m.hp with
 |none=>rfl|some out=>exact aam _ _ _ _ _ _
def Zq (C:aY) (call:bK) (f:Nat) (all:List Oper) (o:Oper) (ih:St→Option (X × St × List FP)) (s:St):Option (X × St × List FP) :=
 match gU all s o with
  | some true=>match Om C call f o s with
   |some (.normal,s,fp)=>match ih s with
    |some (x,s,fps)=>some (x,s,fp::fps)|none=>none
   |some (x,s,fp)=>some (x,s,[fp])|none=>none
  |some false=>match ih (put o.dst (.tuple []) s)with
   |some (x,s,fps)=>some (x,s,{}::fps)|none=>none
  |none=>none
noncomputable def zJ(C:aY)(call:bK)(f:Nat)(all:List Oper)(l:List Oper):St→Option (X×St×List FP):=
 List.rec (motive:=fun _=>St→Option (X×St×List FP)) (fun s=>some (.normal,s,[])) (fun o _ ih s=>Zq C call f all o ih s) l
theorem MV(C:aY)(call:bK)(f:Nat)(all:List Oper):∀(l:List Oper) (s:St),zJ C call f all l s=bg C call f all l s:=by
 intro l;induction l with
 |nil=>intro s;rfl|cons o l ih=>intro s;show Zq C call f all o (zJ C call f all l) s=_;have:zJ C call f all l=bg C call f all l:=funext ih;rw[this];unfold Zq;simp only[UR,bg];rfl
abbrev Ih:=FuncId→Code→St→Option (X×St)
abbrev Kz:=aY→bK→Ih→FuncId→St→Option (X×St)
noncomputable def Sr(id:Nat)(ops:Array Oper)(dr:Bool):Kz:=fun C call _ f s=>
   match zJ C call f ops.toList ops.toList s with
   |some (.normal,s',fps)=>bif !dr || jK s.m.hp.length fps (C.pairs f id)then some (.normal,{s' with tm:=cO (C.keep f id) s'.tm})else none
   |some (x,s',_)=>bif !dr then some (x,s')else none|none=>none
def ams(a b:Code):Kz:=fun _ _ ih f s=>match ih f a s with
   |some (.normal,s)=>ih f b s|r=>r
def adM(c:Operand)(a b:Code):Kz:=fun C _ ih f s=>match bJ C s c with
   | .d (.bool t)=>bif t then ih f a s else ih f b s|_=>none
def Yi(id:Nat)(b:Code):Kz:=fun _ _ ih f s=>match ih f b s with
   |some (.exit j,s)=>bif j==id then some (.normal,s)else some (.exit j,s)|r=>r
def acY(b:Code):Kz:=fun _ _ ih f s=>match ih f b s with
   |some (.normal,s)=>ih f (.loop b) s|r=>r
def Xg (g:Operand) (ps:Array Tmp) (a b:Code):Kz:=fun C call _ f s =>
   bif inLoop s.rnd s.m.hp then
   let l:=s.m.hp.length
   match bH 4 s.m.get (bJ C s g)with
   | some (.fn (.func gf) ga gb,[]) =>
    match call (.fn (.func gf) ga gb) [.fn (.yield l) [] []] none (s.m.hp++[.loop .ready none f (vN s.m.ob s.tm) (uf s.m.ob) ps.toList a b])with
    |some (.ret _,_,hp,wl)=>
     let s':St:={s with m:={s.m with hp:=hp.set l .dead,wl:=s.m.wl ||| wl} }
     match hp[l]? with
     |some (.loop .ready none ..)=>some (.normal,s')|some (.loop .done (some .ret) ..)=>some (.ret,s')|some (.loop .done (some (.exit id)) ..)=>some (.exit id,s')|_=>none
    |_=>none
   |_=>none
   else none
noncomputable def acL:Code→Kz
 | .skip=>fun _ _ _ _ s=>some (.normal,s)
 | .label _=>fun _ _ _ _ s=>some (.normal,s)
 | .region id ops dr=>Sr id ops dr| .seq a b=>ams a b| .cond c a b=>adM c a b| .block id b=>Yi id b| .loop b=>acY b| .scope b=>fun _ _ ih f s=>ih f b s
 | .exit id=>fun _ _ _ _ s=>some (.exit id,s)
 | .ret=>fun _ _ _ _ s=>some (.ret,s)
 | .rangeFunc g ps a b=>Xg g ps a b|_=>fun _ _ _ _ _=>none
noncomputable def EM(C:aY)(call:bK)(k:Nat):Ih:=
 Nat.rec (motive:=fun _=>Ih) (fun _ _ _=>none) (fun _ ih f c s=>acL c C call ih f s) k
theorem YN(C:aY)(call:bK):∀(k:Nat) (f:FuncId) (c:Code) (s:St),EM C call k f c s=exec C call k f c s:=by
 intro k;induction k with
 |zero=>intro f c s;rfl|succ k ih=>
  intro f c s;show acL c C call (EM C call k) f s=_;have:EM C call k=exec C call k:=funext fun f=>funext fun c=>funext fun s=>ih f c s;rw[this];cases c
  case region id ops dr=>simp only[acL,Sr,MV,exec];rfl
  all_goals (simp only[acL,ams,adM,Yi,acY,Xg,exec]<;>rfl)
abbrev aBf:=bK→Nat→bK
noncomputable def Xm(C:aY)(call:bK)(k:Nat)(g:FuncId)(vs:List V)(rc:Option (Option V))(hp:List O):Option (CR×Bool×List O×Nat):=
   match C.orc g with
   |some h=>match rc,h vs hp with
    |none,some (r,hp,wl)=>some (r,false,hp,wl)|_,_=>none
   | none=>match C.P.funcs[g]? with
    | some fn=>match fn.body with
     | some c =>
      match(match EM C call k g c {tm:=lJ vs 0,m:={ob:=[],hp:=hp,wl:=0},df:=[],rc:=rc}with
       |some (.normal,s)=>leave C call fn (C.frz g) s.df none s|some (.ret,s)=>leave C call fn (C.frz g) s.df none s|some (.pan v,s)=>leave C call fn (C.frz g) s.df (some v) s|_=>none)with
      |some (r,s)=>some (r,s.rcd,s.m.hp,s.m.wl)|none=>none
     |none=>none
    |none=>none
noncomputable def MC(C:aY)(call:bK)(k:Nat)(l:Nat)(args:List V)(hp:List O):Option (CR×Bool×List O×Nat):=
   match hp[l]? with
   | some (.loop .ready none f tm ob ps a b) =>
    bif args.length == ps.length then
     match EM C call k f a {tm:=insL ps args tm,m:={ob:=ob,hp:=hp,wl:=0},df:=[],rnd:=some l}with
     | some (.normal,s) =>
      match s.m.hp[l]? with
      | some (.loop .ready none f1 tm1 ob1 ps1 a1 b1) =>
       match EM C call k f b {s with m:={s.m with hp:=s.m.hp.set l (.loop .busy none f1 tm1 ob1 ps1 a1 b1),wl:=s.m.wl ||| (1 <<< l)} }with
       | some (x,s) =>
        match s.m.hp[l]? with
        |some (.loop .busy none f2 tm2 ob2 ps2 a2 b2)=>
         match x with
         | .normal=>some (.ret (.d (.bool true)),false,s.m.hp.set l (.loop .ready none f2 tm2 ob2 ps2 a2 b2),s.m.wl ||| (1 <<< l))| .ret=>some (.ret (.d (.bool false)),false,s.m.hp.set l (.loop .done (some .ret) f2 tm2 ob2 ps2 a2 b2),s.m.wl ||| (1 <<< l))| .exit id=>some (.ret (.d (.bool false)),false,s.m.hp.set l (.loop .done (some (.exit id)) f2 tm2 ob2 ps2 a2 b2),s.m.wl ||| (1 <<< l))|_=>none
        |_=>none
       |none=>none
      |_=>none
     |_=>none
    else none
   |_=>none
noncomputable def aK(C:aY)(k:Nat):bK:=
 Nat.rec (motive:=fun _=>bK) (fun _ _ _ _=>none) (fun k ih g args rc hp=>match g with
  | .fn (.func g) first caps=>Xm C ih k g (first++args++caps) rc hp
  | .fn (.yield l) _ _=>MC C ih k l args hp|_=>none) k
theorem wW(C:aY):∀k,aK C k=bV C k:=by
 intro k;induction k with
 |zero=>rfl| succ k ih =>
  funext g args rc hp
  show(match g with
   | .fn (.func g) first caps=>Xm C (aK C k) k g (first++args++caps) rc hp
   | .fn (.yield l) _ _=>MC C (aK C k) k l args hp|_=>none)=_
  rw[ih];simp only[bV];split<;>simp only[Xm,MC,YN]<;>rfl
end Mw
