/- DependFirst's tied card holds; no condition beyond the card's own. -/
import Derived.Orders
import Derived.Laws.World
import Derived.Laws.Cells
import Derived.Laws.Sem
set_option linter.unusedVariables false
set_option linter.unusedSimpArgs false
namespace Mw
open Go
theorem oI{α:Type _}{a b:α}:(some a=some b)=(a=b):=Option.some.injEq _ _
theorem pI{α β:Type _}{a c:α}{b d:β}:((a,b)=(c,d))=(a=c∧b=d):=Prod.mk.injEq _ _ _ _
inductive D where
 |bool (b:Bool)|int (k:IntKind) (n:Int)|str (s:ByteArray)
 |nilp|nili|nilf|nilm|nils
 |list (sz:Nat) (es:List D)|agg (cs:List D)|iface (t:TypeId) (d:D)
 deriving Inhabited
inductive Loc where
 |slot (t g:Nat)|heap (i:Nat)
 deriving DecidableEq,Inhabited
def Loc.eq:Loc→Loc→Bool
 | .slot a g,.slot b h=>a==b&&g==h| .heap a,.heap b=>a==b|_,_=>false
def Loc.isHeap:Loc→Bool
 | .heap _=>true|_=>false
inductive V where
 |d (x:D)|undef
 |ptr (l:Loc) (off:Nat)
 |ept (l:Loc) (sz len i off:Nat)
 |dptr (cs:List D) (off:Nat)
 |vptr (cs:List V) (off:Nat)
 |sl (l:Loc) (sz len off n:Nat)
 |asl (l:Loc) (off n:Nat)
 |ex (sz:Nat) (es:List D)
 |vl (es:List V)
 |map (l:Loc)
 |fn (f:Fn) (first caps:List V)
 |agg (cs:List V)|tuple (vs:List V)|iface (t:TypeId) (v:V)
 deriving Inhabited
inductive O where
 |cells (cs:List V) (ro:Bool)
 |vec (sz:Nat) (es:List D) (froz grow:Bool)
 |map (es:List (D×V))
 |sit (s:ByteArray) (pos:Nat)
 |loop (st:LoopState) (pending:Option Code) (f:FuncId) (tm:List (Nat×V)) (ob:List (Nat×Nat×O)) (params:List Tmp) (assign body:Code)
 |dead
 deriving Inhabited
def D.isCell:D→Bool
 | .agg _=>false|_=>true
def D.cells:D→List D
 | .agg cs=>cs|d=>[d]
def D.ofCells(agg:Bool)(cs:List D):Option D:=
 bif agg then some (.agg cs)else match cs with
  |[c]=>some c|_=>none
def V.cells:V→List V
 | .d x=>x.cells.map .d| .agg cs=>cs|v=>[v]
def V.isCell:V→Bool
 | .d x=>x.isCell| .undef=>false| .agg _=>false| .tuple _=>false|_=>true
def qY:List V→Option (List D)
 |[]=>some []| .d x::vs=>match qY vs with
  |some xs=>some (x::xs)|none=>none
 |_::_=>none
def rW(cs:List V):V:=match qY cs with
 |some ds=>.d (.agg ds)|none=>.agg cs
def V.ofCells(agg:Bool)(cs:List V):Option V:=
 bif agg then some (rW cs)else match cs with
  |[c]=>some c|_=>none
def V.locs:V→List Loc
 | .ptr l _=>[l]| .ept l _ _ _ _=>[l]| .sl l _ _ _ _=>[l]| .asl l _ _=>[l]| .map l=>[l]| .vptr cs _=>goL cs| .vl cs=>goL cs| .agg cs=>goL cs| .tuple cs=>goL cs| .fn (.yield l) a b=>.heap l::(goL a++goL b)| .fn _ a b=>goL a++goL b| .iface _ v=>v.locs| .d _| .undef| .dptr _ _| .ex _ _=>[]
 where goL:List V→List Loc
 |[]=>[]|v::vs=>v.locs++goL vs
def O.locs:O→List Loc
 | .cells cs _=>V.locs.goL cs| .map es=>goM es| .loop _ _ _ tm _ _ _ _=>goT tm|_=>[]
 where
 goM:List (D×V)→List Loc
  |[]=>[]|(_,v)::r=>v.locs++goM r
 goT:List (Nat×V)→List Loc
  |[]=>[]|(_,v)::r=>v.locs++goT r
 mutual
def D.ofValue:Value→Option D
 | .bool b=>some (.bool b)| .int k n=>some (.int k n)| .string s=>some (.str s)| .pointer none=>some .nilp| .nilIface=>some .nili| .nilFunc=>some .nilf| .map none=>some .nilm| .slice none 0 0=>some .nils| .agg ⟨cs⟩=>match D.ofValues cs with
  |some ds=>bif ds.all D.isCell then some (.agg ds)else none|none=>none
 | .iface t v=>match D.ofValue v with
  |some d=>some (.iface t d)|none=>none
 |_=>none
def D.ofValues:List Value→Option (List D)
 |[]=>some []|v::vs=>match D.ofValue v,D.ofValues vs with
  |some d,some ds=>some (d::ds)|_,_=>none
end
def look{α:Type}(t:Nat):List (Nat×α)→Option α
 |[]=>none|(s,v)::r=>bif s==t then some v else look t r
def ins{α:Type}(t:Nat)(v:α):List (Nat×α)→List (Nat×α)
 |[]=>[(t,v)]|(s,u)::r=>bif s==t then(t,v)::r else bif Nat.ble s t then(s,u)::ins t v r else(t,v)::(s,u)::r
def del{α:Type}(t:Nat):List (Nat×α)→List (Nat×α)
 |[]=>[]|(s,u)::r=>bif s==t then del t r else(s,u)::del t r
def cO{α:Type}(mask:Nat):List (Nat×α)→List (Nat×α)
 |[]=>[]|(s,u)::r=>bif mask.testBit s then(s,u)::cO mask r else cO mask r
structure Mem where
 ob:List (Nat×Nat×O)
 hp:List O
 wl:Nat
 deriving Inhabited
structure DR where
 f:Fn
 args:List V
 deriving Inhabited
structure St where
 tm:List (Nat×V)
 m:Mem
 df:List DR
 rc:Option (Option V):=none
 rcd:Bool:=false
 rnd:Option Nat:=none
 deriving Inhabited
inductive CR where
 |ret (v:V)
 |pan (v:V)
 deriving Inhabited
inductive X where
 |normal|exit (id:Nat)|ret|pan (v:V)
 deriving Inhabited
structure FP where
 rd:List Loc:=[]
 ws:List Nat:=[]
 wh:Nat:=0
 rh:Bool:=false
 gh:Bool:=false
 deriving Inhabited
structure aY where
 P:Program
 gl:Nat→Option (List D)
 keep:Nat→Nat→Nat
 esc:Nat→Nat→Bool
 imm:Nat→Nat→Bool
 frz:Nat→Nat
 pairs:Nat→Nat→List (Nat×Nat)
 orc:Nat→Option (List V→List O→Option (CR×List O×Nat))
section
variable(C:aY)
def aA(t:TypeId):Nat:=C.P.cellsOf t
def cu(t:TypeId):Bool:=match C.P.underlying t with
 |some (.struct _)=>true|some (.array _ _)=>true|_=>false
def aU(t:TypeId):Option D:=match C.P.info? t with
 |some i=>match i.zero with
  |some v=>D.ofValue v|none=>none
 |none=>none
def lD(t:TypeId):Option (Nat×Bool):=match C.P.underlying t with
 |some _=>some (aA C t,cu C t)|none=>none
def eU(t:TypeId):Option TypeId:=match C.P.underlying t with
 |some (.slice e)=>match C.P.underlying e with
  |some _=>some e|none=>none
 |_=>none
def wH(t:TypeId):Option (Nat×TypeId):=match C.P.underlying t with
 |some (.array n e)=>match C.P.underlying e with
  |some _=>some (n,e)|none=>none
 |_=>none
def CJ(t:TypeId):Option (TypeId×TypeId):=match C.P.underlying t with
 |some (.map k e)=>match C.P.underlying k with
  |some _=>some (k,e)|none=>none
 |_=>none
def aQ(t:TypeId)(f:Nat):Option Field:=match C.P.underlying t with
 | some (.struct fs)=>match fs[f]? with
  |some fl=>match C.P.underlying fl.type with
   |some _=>some fl|none=>none
  |none=>none
 |_=>none
def Mem.get(m:Mem):Loc→Option O
 | .slot t g=>match look t m.ob with
  |some (h,o)=>bif h==g then some o else none|none=>none
 | .heap i=>m.hp[i]?
def Mem.set(m:Mem):Loc→O→Mem
 | .slot t g,o=>{m with ob:=ins t (g,o) m.ob}| .heap i,o=>{m with hp:=m.hp.set i o,wl:=m.wl ||| (1 <<< i)}
def Mem.sets(m:Mem):List (Loc×O)→Mem
 |[]=>m|(l,o)::r=>(m.set l o).sets r
def setH(hp:List O):List (Loc×O)→List O
 |[]=>hp|(.heap i,o)::r=>setH (hp.set i o) r|_::r=>setH hp r
def dY(t:Nat)(ob:List (Nat×Nat×O)):Nat:=match look t ob with
 |some (g,_)=>g+1|none=>0
def slotsOf:List (Loc×O)→List Nat
 |[]=>[]|(.slot t _,_)::r=>t::slotsOf r|_::r=>slotsOf r
def bitsOf:List (Loc×O)→Nat
 |[]=>0|(.heap i,_)::r=>(1 <<< i) ||| bitsOf r
 |_::r=>bitsOf r
abbrev Rd:=Loc→Option O
def bH (mode:Nat) (g:Rd):V→Option (V × List (Loc × O))
 | .d x=>some (.d x,[])| .undef=>some (.undef,[])| .ptr l off=>bif l.isHeap then some (.ptr l off,[])else none| .ept l sz len i off=>bif l.isHeap then some (.ept l sz len i off,[])else none| .map l=>bif l.isHeap then some (.map l,[])else none| .dptr cs off=>some (.dptr cs off,[])| .vptr _ _=>none| .asl _ _ _=>none| .ex sz es=>bif mode==0 then some (.ex sz es,[])else some (.d (.list sz es),[])| .sl l sz len off n=>bif l.isHeap&&mode !=1 then some (.sl l sz len off n,[])else
  match g l with
  | some (.vec sz' es fr gr)=>bif (sz' == sz)&&(es.length == len)&&Nat.ble (off+n) len then
    some (.d (.list sz ((es.drop off).take n)),bif fr then[]else[(l,.vec sz es true gr)])else none
  |_=>none
 | .agg cs=>match goL cs with
  |some (cs,ss)=>some (rW cs,ss)|none=>none
 | .tuple cs=>match goL cs with
  |some (cs,ss)=>some (.tuple cs,ss)|none=>none
 | .vl cs=>match goL cs with
  |some (cs,ss)=>some (.vl cs,ss)|none=>none
 | .fn f a b=>match goL a,goL b with
  |some (a,ss),some (b,ts)=>some (.fn f a b,ss++ts)|_,_=>none
 | .iface t v=>match bH mode g v with
  |some (.d x,ss)=>some (.d (.iface t x),ss)|some (v,ss)=>some (.iface t v,ss)|none=>none
 where goL:List V→Option (List V×List (Loc×O))
 |[]=>some ([],[])|v::vs=>match bH mode g v,goL vs with
  |some (v,ss),some (vs,ts)=>some (v::vs,ss++ts)|_,_=>none
def dN(op:BinOp)(k:IntKind)(x y:Int):Option D:=
 match op with
 | .add=>some (.int k (k.wrap (x+y)))| .sub=>some (.int k (k.wrap (x-y)))| .mul=>some (.int k (k.wrap (x*y)))| .quo=>bif y==0 then none else some (.int k (k.wrap (x.tdiv y)))| .rem=>bif y==0 then none else some (.int k (x.tmod y))| .and=>some (.int k (k.wrap (BitVec.ofInt k.bits x &&& BitVec.ofInt k.bits y).toNat))| .or=>some (.int k (k.wrap (BitVec.ofInt k.bits x ||| BitVec.ofInt k.bits y).toNat))| .xor=>some (.int k (k.wrap (BitVec.ofInt k.bits x ^^^ BitVec.ofInt k.bits y).toNat))| .andNot=>some (.int k (k.wrap (BitVec.ofInt k.bits x &&& ~~~BitVec.ofInt k.bits y).toNat))| .eql=>some (.bool (x==y))| .neq=>some (.bool (x !=y))| .lss=>some (.bool (decide (x<y)))| .leq=>some (.bool (decide (x≤y)))| .gtr=>some (.bool (decide (x > y)))| .geq=>some (.bool (decide (x ≥ y)))|_=>none
def lu(op:BinOp)(k:IntKind)(x y:Int):Option D:=
 bif decide (y<0)then none else
 match op with
 | .shl=>some (.int k (k.wrap (x*2 ^ min y.toNat k.bits)))| .shr=>some (.int k (x.fdiv (2 ^ min y.toNat k.bits)))|_=>none
def iF(op:BinOp)(x y:ByteArray):Option D:=
 match op with
 | .add=>bif decide (x.size+y.size≤9223372036854775807)then some (.str (x++y))else none| .eql=>some (.bool (x.toList==y.toList))| .neq=>some (.bool !(x.toList==y.toList))| .lss=>some (.bool (Op.bytesLess x.toList y.toList))| .leq=>some (.bool (Op.bytesLess x.toList y.toList || x.toList==y.toList))| .gtr=>some (.bool !(Op.bytesLess x.toList y.toList || x.toList==y.toList))| .geq=>some (.bool !(Op.bytesLess x.toList y.toList))|_=>none
def fA(t:TypeId)(a b:D):Option Bool:=match C.P.underlying t with
 |some .bool=>match a,b with
  | .bool a,.bool b=>some (a==b)|_,_=>none
 |some (.int _)=>match a,b with
  | .int k a,.int j b=>bif k==j then some (a==b)else none|_,_=>none
 |some .string=>match a,b with
  | .str a,.str b=>some (a.toList==b.toList)|_,_=>none
 |_=>none
def eqFields:List Field→Nat→List D→List D→Option Bool
 |[],_,[],[]=>some true| f :: fs,i,a :: as,b :: bs=>bif f.name != "_"&&f.offset == i&&aA C f.type == 1 then
   (match fA C f.type a b with
   |some true=>eqFields fs (i+1) as bs|some false=>some false|none=>none)else none
 |_,_,_,_=>none
def eqItems(e:TypeId):List D→List D→Option Bool
 |[],[]=>some true|a::as,b::bs=>match fA C e a b with
  |some true=>eqItems e as bs|some false=>some false|none=>none
 |_,_=>none
def zn(t:TypeId)(a b:D):Option Bool:=match a,b with
 | .agg as,.agg bs=>match C.P.underlying t with
  |some (.struct fs)=>bif C.P.stoodInHeld t || C.P.eqGuardType C.P.depth t then none else eqFields C fs.toList 0 as bs
  |some (.array n e)=>bif !(C.P.eqGuardType C.P.depth t)&&(aA C e==1)&&(as.length==n)&&(bs.length==n)then eqItems C e as bs else none|_=>none
 |a,b=>fA C t a b
def I9(t:TypeId)(cst:Bool)(n:D)(x:V):Option Bool:=
 match C.P.underlying t with
 |some (.pointer _)=>match n,x with
  | .nilp,.d .nilp=>some true| .nilp,.ptr _ _=>some false| .nilp,.ept _ _ _ _ _=>some false| .nilp,.dptr _ _=>some false| .nilp,.vptr _ _=>some false|_,_=>none
 |some (.slice _)=>match n,x with
  | .nils,.d .nils=>some true| .nils,.d (.list _ _)=>some false| .nils,.ex _ _=>some false| .nils,.sl _ _ _ _ _=>some false| .nils,.vl _=>some false|_,_=>none
 |some (.map _ _)=>match n,x with
  | .nilm,.d .nilm=>some true| .nilm,.map _=>some false|_,_=>none
 |some (.func _ _ _)=>match n,x with
  | .nilf,.d .nilf=>some true| .nilf,.fn _ _ _=>some false|_,_=>none
 |some (.interface _)=>match n,x with
  | .nili,.d .nili=>bif cst then some true else none| .nili,.d (.iface _ _)=>some false| .nili,.iface _ _=>some false|_,_=>none
 |_=>none
def isNilD:V→Option D
 | .d .nilp=>some .nilp| .d .nilf=>some .nilf| .d .nilm=>some .nilm| .d .nils=>some .nils| .d .nili=>some .nili|_=>none
def eqV(t:TypeId)(cst:Bool)(x y:V):Option Bool:=
 match isNilD y with
 |some n=>I9 C t cst n x| none=>match isNilD x with
  |some n=>I9 C t cst n y|none=>match x,y with
   | .d a,.d b=>zn C t a b|_,_=>none
def BN(op:BinOp)(t:TypeId)(cst:Bool)(x y:V):Option V:=
 match x,y with
 | .d (.int k a),.d (.int j b)=>match op with
  | .shl=>(lu .shl k a b).map .d| .shr=>(lu .shr k a b).map .d|op=>bif k==j then(dN op k a b).map .d else none
 | .d (.str a),.d (.str b)=>(iF op a b).map .d|x,y=>match op with
  | .eql=>(eqV C t cst x y).map fun b=>.d (.bool b)
  | .neq=>(eqV C t cst x y).map fun b=>.d (.bool !b)
  |_=>none
def H8(op:UnOp):D→Option D
 | .bool b=>match op with| .not=>some (.bool !b)|_=>none
 | .int k n=>match op with
  | .neg=>some (.int k (k.wrap (0-n)))| .xor=>some (.int k (k.wrap (BitVec.ofInt k.bits (if k.signed then -1 else k.max) ^^^ BitVec.ofInt k.bits n).toNat))|_=>none
 |_=>none
def bytesOf(s:ByteArray):List D:=s.data.toList.map fun b=>.int .u8 b.toNat
def ofBytes:List D→Option (List UInt8)
 |[]=>some []| .int .u8 n::r=>(ofBytes r).map (UInt8.ofNat n.toNat::·)|_=>none
def elems(g:Rd):V→Option (Nat×List D)
 | .d (.list sz es)=>some (sz,es)| .ex sz es=>some (sz,es)| .vl es=>match qY es with
  |some ds=>some (1,ds)|none=>none
 | .d .nils=>some (0,[])| .sl l sz len off n=>match g l with
  |some (.vec sz' es _ _)=>bif (sz'==sz)&&(es.length==len)&&Nat.ble (off+n) len then some (sz,(es.drop off).take n)else none|_=>none
 |_=>none
def elems'(g:Rd):V→Option (Nat×List D)
 | .d (.str b)=>some (1,bytesOf b)|v=>elems g v
def lenV:V→Option Nat
 | .d (.list _ es)=>some es.length| .ex _ es=>some es.length| .d .nils=>some 0| .vl es=>some es.length| .sl _ _ _ _ n=>some n| .asl _ _ n=>some n|_=>none
def aa0(t:TypeId)(x:V)(g:Rd):Option Nat:=match C.P.underlying t with
 |some (.array n _)=>some n|some (.pointer a)=>match C.P.underlying a with
  |some (.array n _)=>some n|_=>none
 |some .string=>match x with
  | .d (.str s)=>some s.size|_=>none
 |some (.slice _)=>lenV x| some (.map _ _)=>match x with
  | .d .nilm=>some 0| .map l=>match g l with
   |some (.map es)=>some es.length|_=>none
  |_=>none
 |_=>none
def ni:V→Option Nat
 | .d (.int _ n)=>bif decide (0≤n)then some n.toNat else none|_=>none
def CX (t:TypeId) (a:V) (g:Rd):Option V :=
 match lD C t with
 |none=>none|some (n,ag)=>
 match a with
 | .ptr l off=>match g l with
  |some (.cells cs _)=>bif Nat.ble (off+n) cs.length then V.ofCells ag ((cs.drop off).take n)else none|_=>none
 | .ept l sz len i off=>match g l with
  | some (.vec sz' es _ _)=>bif (sz' == sz)&&(es.length == len) then (match es[i]? with
   |some e=>bif Nat.ble (off+n) e.cells.length then(match D.ofCells ag ((e.cells.drop off).take n)with
    |some d=>some (.d d)|none=>none)else none
   |none=>none)else none
  |_=>none
 | .dptr cs off=>bif Nat.ble (off+n) cs.length then(match D.ofCells ag ((cs.drop off).take n)with
  |some d=>some (.d d)|none=>none)else none
 | .vptr cs off=>bif Nat.ble (off+n) cs.length then V.ofCells ag ((cs.drop off).take n)else none|_=>none
def splice{α:Type}(l:List α)(off:Nat)(new:List α):List α:=l.take off++new++l.drop (off+new.length)
def Fa(l:Loc)(vs:List V)(g:Rd):Option (List V×List (Loc×O)):=
 bif l.isHeap then bH.goL 0 g vs else some (vs,[])
def AL (t:TypeId) (a v:V) (g:Rd):Option (List (Loc × O)) :=
 bif (v.cells.length==aA C t)&&v.cells.all V.isCell&&(C.P.info? t).isSome then
 match a with
 | .ptr l off=>match g l with
  | some (.cells cs false)=>bif Nat.ble (off+v.cells.length) cs.length then
    (match Fa l v.cells g with
    |some (vs,ss)=>some (ss++[(l,.cells (splice cs off vs) false)])|none=>none)
   else none
  |_=>none
 | .ept l sz len i off=>match g l,bH.goL 1 g v.cells with
  |some (.vec sz' es false gr),some (vs,[])=>match qY vs,es[i]? with
   | some ds,some e=>bif (sz' == sz)&&(es.length == len)&&Nat.ble (off+v.cells.length) e.cells.length then
     (match D.ofCells (match e with| .agg _=>true|_=>false) (splice e.cells off ds)with
     |some e'=>some [(l,.vec sz (es.set i e') false gr)]|none=>none)else none
   |_,_=>none
  |_,_=>none
 |_=>none
 else none
def bound(v:Option V)(n:Nat):Option Nat:=match v with
 |some v=>ni v|none=>some n
def G7(s:ByteArray)(lo hi:Option V):Option V:=
 match bound lo 0,bound hi s.size with
 |some l,some h=>bif Nat.ble l h&&Nat.ble h s.size then some (.d (.str (s.extract l h)))else none|_,_=>none
def cutV(sz:Nat)(l h:Nat):V→Option V
 | .sl loc sz' len o _=>bif sz'==sz then some (.sl loc sz' len (o+l) (h-l))else none| .d .nils=>some (.d .nils)| .ex sz' es=>bif sz'==sz then(bif h==es.length then some (.ex sz' ((es.drop l).take (h-l)))else some (.d (.list sz' ((es.drop l).take (h-l)))))else none| .d (.list sz' es)=>bif sz'==sz then some (.d (.list sz' ((es.drop l).take (h-l))))else none|_=>none
def afn(sz:Nat)(l h:Nat)(g:Rd):V→Option (V×List (Loc×O))
 | .d .nils=>some (.d .nils,[])| .ex sz' es=>bif sz'==sz then some (.ex sz' ((es.drop l).take (h-l)),[])else none|x=>match bH 1 g x with
  |some (.d (.list sz' es),ss)=>bif sz'==sz then some (.ex sz' ((es.drop l).take (h-l)),ss)else none|_=>none
def FY (sz:Nat) (x:V) (lo hi mx:Option V) (g:Rd):Option (V × List (Loc × O)) :=
 match lenV x with
 |none=>none|some n=>
 match bound lo 0,bound hi n with
 | some l,some h =>
  bif Nat.ble l h&&Nat.ble h n then
   (match mx with
   |none=>match cutV sz l h x with
    |some v=>some (v,[])|none=>none
   |some mv=>match hi,ni mv with
    |some _,some mm=>bif mm==h then afn sz l h g x else none|_,_=>none)
  else none
 |_,_=>none
def gY(t:TypeId)(n:Nat):Bool:=Nat.ble n 4294967296&&Nat.ble (n*C.P.bytesOf t) 4294967296
def gI(t:TypeId)(n:Nat):Bool:=gY C t n&&match aU C t with
 |some z=>z.cells.length==aA C t|none=>false
def lC(es:List D):List Nat→List D→List D
 |i::is,d::ds=>lC (es.set i d) is ds|_,_=>es
inductive Eff where
 |val (v:V) (ss:List (Loc×O))
 |skip (ss:List (Loc×O))
 |new (o:O) (mk:Loc→V) (ss:List (Loc×O))
 |dfr (d:DR)
 |pan (v:V)
 |recov
 deriving Inhabited
def yF(f:Nat)(dst:Option Tmp)(sz:Nat)(es:List D):Option Eff:=
 match dst with
 |none=>none|some t=>bif C.imm f t then some (.val (.d (.list sz es)) [])else some (.new (.vec sz es false true) (fun l=>.sl l sz es.length 0 es.length) [])
def isList:V→Bool
 | .d (.list _ _)=>true| .d .nils=>true| .ex _ _=>true| .sl _ _ _ _ _=>true|_=>false
def qm (f:Nat) (dst:Option Tmp) (t:TypeId) (s x:V) (g:Rd):Option Eff :=
 match eU C t,elems' g x with
 | some e,some (sz',ys) =>
  bif ys.isEmpty then(bif isList s then some (.val s [])else none)
  else bif sz' == aA C e then
   (match s with
   | .d .nils=>bif gI C e ys.length then yF C f dst (aA C e) ys else none| .ex sz0 es=>bif (sz0==aA C e)&&gI C e (es.length+ys.length)then yF C f dst (aA C e) (es++ys)else none| .sl l sz0 len off n=>match g l with
    | some (.vec sz1 es fr gr) =>
     bif (sz0==aA C e)&&(sz1==aA C e)&&(es.length==len)&&gI C e (n+ys.length)&&(off==0)then
      bif n==len then
       bif gr then some (.val (.sl l sz0 (len+ys.length) 0 (len+ys.length)) [(l,.vec sz0 (es++ys) fr gr)])
       else bif fr then none else yF C f dst sz0 (es++ys)
      else bif Nat.ble (n+ys.length) len&&!fr then
       some (.val (.sl l sz0 len 0 (n+ys.length)) [(l,.vec sz0 (splice es n ys) fr gr)])
      else none
     else none
    |_=>none
   |_=>none)
  else none
 |_,_=>none
def copyV(e:TypeId)(dst src:V)(g:Rd):Option Eff:=
 match elems' g src with
 | some (sz',ys)=>match dst with
  | .sl l sz len off n=>match g l with
   | some (.vec sz1 es false gr)=>bif (sz1 == sz)&&(es.length == len)&&(Nat.ble (off+n) len)&&((sz' == sz) || ys.isEmpty)&&(sz == aA C e) then
     some (.val (.d (.int .i64 (min ys.length n:Nat))) [(l,.vec sz (splice es off (ys.take (min ys.length n))) false gr)])else none
   |_=>none
  | .asl l off n=>match g l with
   | some (.cells cs false)=>bif Nat.ble (off+n) cs.length&&((sz' == 1) || ys.isEmpty)&&(aA C e == 1) then
     some (.val (.d (.int .i64 (min ys.length n:Nat))) [(l,.cells (splice cs off (((ys.take (min ys.length n)).flatMap D.cells).map V.d)) false)])else none
   |_=>none
  | .d .nils=>some (.val (.d (.int .i64 0)) [])| .d (.list _ [])=>some (.val (.d (.int .i64 0)) [])|_=>none
 |none=>none
def findKey(t:TypeId)(k:D):List (D×V)→Option (Option (Nat×V))
 |[]=>some none| (k',v) :: es=>match zn C t k k' with
  |some true=>some (some (0,v))|some false=>match findKey t k es with
   |some (some (i,v))=>some (some (i+1,v))|some none=>some none|none=>none
  |none=>none
def kQ(mx:Bool):D→List V→Option D
 |d,[]=>some d| .int k x,.d (.int _ y)::r=>kQ mx (.int k (bif mx then(if y > x then y else x)else(if y<x then y else x))) r|_,_=>none
def eH:Op→Bool
 | .move _| .assign _| .pick .. | .build .. | .nilCheck _| .binOp .. | .unOp .. | .makeInterface .. | .fieldAddr .. | .field .. | .indexAddr .. | .index ..
 | .typeAssert .. | .extract ..=>true| .call {callee:=.builtin .max,.. }| .call {callee:=.builtin .min,.. }=>true|_=>false
def kY(place:Nat→Option (Nat×Nat))(cs:List V):List (Nat×V)→Option (List V)
 |[]=>some cs|(i,v)::r=>match place i with
  |some (off,sz)=>bif (v.cells.length==sz)&&Nat.ble (off+sz) cs.length&&v.cells.all V.isCell then kY place (splice cs off v.cells) r else none|none=>none
def F7(t:TypeId):Option (Nat→Option (Nat×Nat)):=match C.P.underlying t with
 |some (.struct fs)=>bif fs.toList.all fun f=>(C.P.info? f.type).isSome then some (fun i=>match fs[i]? with
  |some fl=>some (fl.offset,aA C fl.type)|none=>none)else none
 |some (.array _ e)=>bif (C.P.info? e).isSome then some (fun i=>some (i*aA C e,aA C e))else none|_=>none
def dO(t:TypeId)(parts:List (Nat×V)):Option V:=
 match aU C t,F7 C t with
 |some z,some place=>match kY place (z.cells.map V.d) parts with
  |some cs=>some (rW cs)|none=>none
 |_,_=>none
def J7 (o:Oper) (ρ:Operand→V):Option V :=
 match o.op with
 | .move x=>some (ρ x)| .assign x=>some (ρ x)| .pick c a b=>match ρ c with
  | .d (.bool c)=>some (bif c then ρ a else ρ b)|_=>none
 | .build t parts=>dO C t (parts.toList.map fun p=>(p.1,ρ p.2))| .nilCheck x=>match ρ x with
  | .ptr l off=>some (.ptr l off)| .dptr cs off=>some (.dptr cs off)| .ept l sz n i off=>some (.ept l sz n i off)| .fn (.func g) a b=>some (.fn (.func g) a b)| .fn (.yield l) a b=>some (.fn (.yield l) a b)|_=>none
 | .binOp op t x y _=>BN C op t ((x matches .const _) || (y matches .const _)) (ρ x) (ρ y)| .unOp op _ x=>match ρ x with
  | .d a=>match H8 op a with
   |some v=>some (.d v)|none=>none
  |_=>none
 | .makeInterface t x=>match C.P.underlying t with
  |none=>none|some (.interface _)=>none|some _=>match ρ x with
   | .d a=>some (.d (.iface t a))|v=>some (.iface t v)
 | .fieldAddr s x i=>match aQ C s i with
  |some fl=>bif aA C fl.type==0 then none else match ρ x with
   | .ptr l off=>some (.ptr l (off+fl.offset))| .ept l sz len j off=>some (.ept l sz len j (off+fl.offset))| .dptr cs off=>some (.dptr cs (off+fl.offset))| .vptr cs off=>some (.vptr cs (off+fl.offset))|_=>none
  |none=>none
 | .field t x i=>match aQ C t i with
  |some fl=>match ρ x with
   | .d (.agg cs)=>bif Nat.ble (fl.offset+aA C fl.type) cs.length then V.ofCells (cu C fl.type) (((cs.map V.d).drop fl.offset).take (aA C fl.type))else none| .agg cs=>bif Nat.ble (fl.offset+aA C fl.type) cs.length then V.ofCells (cu C fl.type) ((cs.drop fl.offset).take (aA C fl.type))else none|_=>none
  |none=>none
 | .indexAddr t x i=>match ni (ρ i) with
  |none=>none| some i=>match eU C t with
   | some e=>match ρ x with
    | .d (.list sz es)=>match es[i]? with
     |some d=>bif sz==aA C e then some (.dptr d.cells 0)else none|none=>none
    | .ex sz es=>match es[i]? with
     |some d=>bif sz==aA C e then some (.dptr d.cells 0)else none|none=>none
    | .vl es=>bif Nat.ble (i+1) es.length&&(aA C e==1)then some (.vptr es i)else none| .sl l sz len off n=>bif Nat.ble (i+1) n&&(sz==aA C e)then some (.ept l sz len (off+i) 0)else none| .asl l off n=>bif Nat.ble (i+1) n&&(aA C e==1)then some (.ptr l (off+i))else none|_=>none
   | none=>match wH C t with
    |some (n,e)=>bif Nat.ble (i+1) n then(match ρ x with
     | .ptr l off=>some (.ptr l (off+i*aA C e))| .dptr cs off=>some (.dptr cs (off+i*aA C e))| .ept l sz len j off=>some (.ept l sz len j (off+i*aA C e))|_=>none)else none
    |none=>none
 | .index t x i=>match ni (ρ i) with
  |none=>none| some i=>match ρ x with
   | .d (.str s)=>match C.P.underlying t,s.data[i]? with
    |some .string,some b=>some (.d (.int .u8 b.toNat))|_,_=>none
   | .d (.agg cs)=>match wH C t with
    |some (n,e)=>bif Nat.ble (i+1) n&&Nat.ble (i*aA C e+aA C e) cs.length then V.ofCells (cu C e) (((cs.map V.d).drop (i*aA C e)).take (aA C e))else none|none=>none
   | .agg cs=>match wH C t with
    |some (n,e)=>bif Nat.ble (i+1) n&&Nat.ble (i*aA C e+aA C e) cs.length then V.ofCells (cu C e) ((cs.drop (i*aA C e)).take (aA C e))else none|none=>none
   |_=>none
 | .typeAssert x _ asserted ok=>match ρ x with
  | .d .nili=>bif ok then(match C.P.underlying asserted,aU C asserted with
   |some _,some z=>some (.tuple [.d z,.d (.bool false)])|_,_=>none)else none
  |_=>none
 | .extract t i=>match ρ t with
  | .tuple vs=>vs[i]?|_=>none
 | .call { callee:=.builtin .max,args,.. }=>match args.toList.map ρ with
  | .d (.int j x)::vs=>match kQ true (.int j x) vs with
   |some d=>some (.d d)|none=>none
  |_=>none
 | .call { callee:=.builtin .min,args,.. }=>match args.toList.map ρ with
  | .d (.int j x)::vs=>match kQ false (.int j x) vs with
   |some d=>some (.d d)|none=>none
  |_=>none
 |_=>none
def zB(v:Option V):Option Eff:=match v with
 |some v=>some (.val v [])|none=>none
def FB(f:Nat)(dst:Option Tmp)(sz:Nat)(es:List D)(ss:List (Loc×O)):Eff:=match dst with
 |some t=>bif C.imm f t&&((sz==1)&&es.all D.isCell)then .val (.vl (es.map .d)) ss else .val (.ex sz es) ss|none=>.val (.ex sz es) ss
def jT (f:Nat) (o:Oper) (ρ:Operand→V) (g:Rd):Option Eff :=
 match o.op with
 | .alloc t=>match aU C t with
  |some z=>some (.new (.cells (z.cells.map .d) false) (fun l=>.ptr l 0) [])|none=>none
 | .box _ x=>bif !(ρ x).cells.all V.isCell then none else match o.dst with
  |some t=>match(bif C.esc f t then bH.goL 0 g (ρ x).cells else some ((ρ x).cells,[]))with
   |some (vs,ss)=>some (.new (.cells vs false) (fun l=>.ptr l 0) ss)|none=>none
  |none=>none
 | .buildSlice t len parts =>
  match eU C t with
  | some e =>
   match aU C e,bH.goL 1 g (parts.toList.map fun p=>ρ p.2)with
   |some z,some (vs,ss)=>bif Nat.ble (len*aA C e) 16777216&&(z.cells.length==aA C e)&&(parts.toList.all fun p=>Nat.ble (p.1+1) len)then
    (match qY vs with
    |some ds=>bif ds.all fun d=>d.cells.length==aA C e then some (FB C f o.dst (aA C e) (lC (List.replicate len z) (parts.toList.map (·.1)) ds) ss)else none
    |none=>bif aA C e==1&&(parts.toList.map (·.1)==List.range len)&&vs.all V.isCell then some (.val (.vl vs) ss)else none)
    else none
   |_,_=>none
  |none=>none
 | .load t a=>zB (CX C t (ρ a) g)| .store t a x=>match AL C t (ρ a) (ρ x) g with
  |some ss=>some (.skip ss)|none=>none
 | .convert src dst x=>match C.P.underlying src,C.P.underlying dst with
  | some us,some ud=>match us,ud,ρ x with
   |_,.int k,.d (.int _ n)=>some (.val (.d (.int k (k.wrap n))) [])|_,.string,.d (.int _ n)=>bif decide (0≤n)&&decide (n<128)then some (.val (.d (.str ⟨#[UInt8.ofNat n.toNat]⟩)) [])else none|_,.string,.d (.str s)=>some (.val (.d (.str s)) [])| .slice e,.string,x=>match C.P.underlying e,elems g x with
    |some (.int .u8),some (sz,es)=>bif sz==1 then(match ofBytes es with
     |some bs=>some (.val (.d (.str ⟨bs.toArray⟩)) [])|none=>none)else none
    |_,_=>none
   |_,_,_=>none
  |_,_=>none
 | .makeFunc (.yield _) _ _=>none| .makeFunc fn first caps=>match bH.goL 4 g (first.toList.map ρ),bH.goL 4 g (caps.toList.map ρ)with
  |some (a,ss),some (b,ts)=>some (.val (.fn fn a b) (ss++ts))|_,_=>none
 | .makeMap _ none=>some (.new (.map []) (fun l=>.map l) [])| .makeSlice t len cap=>match eU C t,ni (ρ len),ni (ρ cap) with
  | some e,some n,some c=>match aU C e with
   | some z=>bif Nat.ble n c&&gY C e c&&(z.cells.length == aA C e) then
     some (.new (.vec (aA C e) (List.replicate c z) false false) (fun l=>.sl l (aA C e) c 0 n) [])
    else none
   |none=>none
  |_,_,_=>none
 | .slice t x lo hi mx=>match C.P.underlying t with
  |some (.array n e)=>match wH C t,lo,hi,mx,ρ x with
   |some _,none,none,none,.ptr l off=>bif aA C e==1 then some (.val (.asl l off n) [])else none|_,_,_,_,_=>none
  | some .string=>match mx,ρ x with
   |none,.d (.str s)=>match G7 s (lo.map ρ) (hi.map ρ)with
    |some v=>some (.val v [])|none=>none
   |_,_=>none
  | some (.slice _)=>match eU C t with
   |some e=>match FY (aA C e) (ρ x) (lo.map ρ) (hi.map ρ) (mx.map ρ) g with
    |some (v,ss)=>some (.val v ss)|none=>none
   |none=>none
  |_=>none
 | .lookup t x i ok=>match CJ C t,ρ i with
  | some (kt,e),.d k=>match aU C e,(match ρ x with
    | .d .nilm=>some []| .map l=>match g l with
     |some (.map es)=>some es|_=>none
    |_=>none),zn C kt k k with
   |some z,some es,some true=>match findKey C kt k es with
    |some (some (_,v))=>some (.val (bif ok then .tuple [v,.d (.bool true)]else v) [])|some none=>some (.val (bif ok then .tuple [.d z,.d (.bool false)]else .d z) [])|none=>none
   |_,_,_=>none
  |_,_=>none
 | .mapUpdate t mp k x=>match CJ C t,ρ mp,ρ k,bH 0 g (ρ x)with
  | some (kt,_),.map l,.d k,some (v,ss)=>match g l,zn C kt k k with
    |some (.map es),some true=>match findKey C kt k es with
     |some (some (i,_))=>some (.skip (ss++[(l,.map (es.set i (k,v)))]))|some none=>some (.skip (ss++[(l,.map (es++[(k,v)]))]))|none=>none
    |_,_=>none
  |_,_,_,_=>none
 | .mapEntry t mp k=>match CJ C t,ρ mp,ρ k with
  | some (kt,e),.map l,.d k=>match g l,aU C e,zn C kt k k with
   |some (.map es),some z,some true=>match findKey C kt k es with
    |some (some (i,v))=>some (.val (.tuple [v,.d (.int .i64 i)]) [(l,.map (es.set i (k,v)))])|some none=>some (.val (.tuple [.d z,.d (.int .i64 es.length)]) [(l,.map (es++[(k,.d z)]))])|none=>none
   |_,_,_=>none
  |_,_,_=>none
 | .entryStore _ mp st x=>match ρ mp,ni (ρ st),bH 0 g (ρ x)with
  | .map l,some i,some (v,ss)=>match g l with
    |some (.map es)=>match es[i]? with
     |some (k,_)=>some (.skip (ss++[(l,.map (es.set i (k,v)))]))|none=>none
    |_=>none
  |_,_,_=>none
 | .range t x=>match C.P.underlying t,ρ x with
  |some .string,.d (.str s)=>some (.new (.sit s 0) (fun l=>.ptr l 0) [])|_,_=>none
 | .next it true=>match ρ it with
  | .ptr l 0=>match g l with
   | some (.sit s pos) =>
    match s.data[pos]? with
    |none=>some (.val (.tuple [.d (.bool false)]) [])| some b=>bif Nat.ble (b.toNat+1) 128 then
      some (.val (.tuple [.d (.bool true),.d (.int .i64 pos),.d (.int .i32 b.toNat)]) [(l,.sit s (pos+1))])
     else none
   |_=>none
  |_=>none
 | .call { callee:=.builtin .len,args,argTypes }=>match args.toList.map ρ,argTypes.toList with
  |[x],t::_=>match aa0 C t x g with
   |some n=>some (.val (.d (.int .i64 n)) [])|none=>none
  |_,_=>none
 | .call { callee:=.builtin .append,args,argTypes }=>match args.toList.map ρ with
  | [s,x]=>match argTypes.toList with
   |[t,u]=>match C.P.underlying u with
    |some (.slice _)=>qm C f o.dst t s x g|some .string=>qm C f o.dst t s x g|_=>none
   |_=>none
  |_=>none
 | .call { callee:=.builtin .copy,args,argTypes }=>match args.toList.map ρ,argTypes.toList with
  |[d,s],t::_=>match eU C t with
   |some e=>copyV C e d s g|none=>none
  |_,_=>none
 | .call { callee:=.builtin .clear,args,argTypes }=>match args.toList.map ρ,argTypes.toList with
  | [.sl l sz len off n],t :: _=>match eU C t,g l with
   |some e,some (.vec sz1 es false gr)=>match aU C e with
    |some z=>bif (es.length==len)&&(sz1==sz)&&(z.cells.length==sz)&&Nat.ble (off+n) len then some (.val (.tuple []) [(l,.vec sz (splice es off (List.replicate n z)) false gr)])else none|none=>none
   |_,_=>none
  |_,_=>none
 | .call {callee:=.builtin .recover,args,.. }=>bif args.isEmpty then some .recov else none| .panic x=>match bH 1 g (ρ x)with
  |some (.d (.iface t d),[])=>some (.pan (.d (.iface t d)))|_=>none
 | .defer { callee:=.value h,args,.. }=>match ρ h with
  | .fn (.yield _) _ _=>none| .fn fn first caps=>match bH.goL 4 g (first++args.toList.map ρ++caps)with
   |some (vs,[])=>some (.dfr {f:=fn,args:=vs})|_=>none
  |_=>none
 |_=>none
def put(dst:Option Tmp)(v:V)(s:St):St:=match dst with
 |some t=>{s with tm:=ins t v s.tm}|none=>s
def xK(s:St)(t:Nat):V:=match look t s.tm with
 |some v=>v|none=>.undef
def bJ(s:St):Operand→V
 | .tmp t=>xK s t| .const v=>match D.ofValue v with
  |some d=>.d d|none=>.undef
 | .global g=>match C.gl g with
  |some cs=>.dptr cs 0|none=>.undef
 | .func g=>.fn (.func g) [] []
def gU (ops:List Oper) (s:St) (o:Oper):Option Bool:=match o.guard with
 |none=>some true| some (j,want)=>match ops[j]? with
  | some p=>match p.dst with
   |some d=>match xK s d with
    | .d (.bool b)=>some (b==want)| .tuple []=>some false|_=>none
   |none=>none
  |none=>none
abbrev bK:=V→List V→Option (Option V)→List O→Option (CR×Bool×List O×Nat)
def zC (recv:V) (name:String):Option (FuncId × V) :=
 match(match recv with
  | .iface t v=>some (t,v)| .d (.iface t d)=>some (t,.d d)|_=>none)with
 | some (t,v)=>match C.P.info? t with
  | some i=>match i.methods.find? (·.name == name) with
   |some mt=>match mt.path.isEmpty,mt.func with
    |true,some (g,p)=>bif (C.P.underlying t).isSome&&(p==(match C.P.underlying t with|some (.pointer _)=>true|_=>false))then some (g,v)else none|_,_=>none
   |none=>none
  |none=>none
 |none=>none
def ay(g:V):Nat:=match g with
 | .fn (.func g) _ _=>match C.orc g with
  |some _=>0|none=>4
 |_=>4
inductive Out where
 |eff (e:Eff)
 |call (r:CR) (ss:List (Loc×O)) (hp:List O) (wl:Nat)
 deriving Inhabited
def fP(ss:List (Loc×O))(r:Option (CR×Bool×List O×Nat)):Option Out:=match r with
 |some (r,_,hp,wl)=>some (.call r ss hp wl)|none=>none
def fD(call:bK)(f:Nat)(o:Oper)(ρ:Operand→V)(g:Rd)(hp:List O):Option Out:=
 bif eH o.op then
  match J7 C o ρ with
  |some v=>some (.eff (.val v []))|none=>none
 else match o.op with
 | .call { callee:=.value fn,args,.. } =>
  match bH.goL (ay C (ρ fn)) g (args.toList.map ρ)with
  |some (vs,ss)=>match bH 4 g (ρ fn)with
   |some (fn,ts)=>fP (ss++ts) (call fn vs none (setH hp (ss++ts)))|none=>none
  |none=>none
 | .call { callee:=.invoke r name,args,.. } =>
  match bH 4 g (ρ r),bH.goL 4 g (args.toList.map ρ)with
  |some (r,ts),some (vs,ss)=>match zC C r name with
   |some (fn,r)=>fP (ts++ss) (call (.fn (.func fn) [] []) (r::vs) none (setH hp (ts++ss)))|none=>none
  |_,_=>none
 |_=>match jT C f o ρ g with
  |some e=>some (.eff e)|none=>none
def fB(o:Oper)(ρ:Operand→V):List Loc:=bif eH o.op then[]else V.locs.goL (o.op.operands.toList.map ρ)
def iT(ls:List Loc)(m:Mem):Rd:=fun l=>bif ls.any (Loc.eq l)then m.get l else none
def aO (f:Nat) (o:Oper) (ls:List Loc) (s:St):Out→Option (X × St × FP)
 | .eff (.val v ss)=>some (.normal,put o.dst v {s with m:=s.m.sets ss},{rd:=ls,ws:=slotsOf ss,wh:=bitsOf ss})| .eff (.skip ss)=>some (.normal,put o.dst (.tuple []) {s with m:=s.m.sets ss},{rd:=ls,ws:=slotsOf ss,wh:=bitsOf ss})| .eff (.new ob mk ss)=>match o.dst with
  | some t =>
   let m:=s.m.sets ss
   bif C.esc f t then
    some (.normal,{s with tm:=ins t (mk (.heap m.hp.length)) s.tm,m:={m with hp:=m.hp++[ob] } },{rd:=ls,ws:=slotsOf ss,wh:=bitsOf ss,gh:=true})
   else
    let g:=dY t m.ob
    some (.normal,{s with tm:=ins t (mk (.slot t g)) s.tm,m:={m with ob:=ins t (g,ob) m.ob} },{rd:=ls,ws:=t::slotsOf ss,wh:=bitsOf ss})
  |none=>none
 | .eff (.dfr d)=>match s.rnd with
  |some _=>none|none=>some (.normal,put o.dst (.tuple []) {s with df:=d::s.df},{rd:=ls,rh:=true,gh:=true})
 | .eff (.pan v)=>some (.pan v,s,{rd:=ls})| .eff .recov=>match s.rc with
  |some (some v)=>some (.normal,put o.dst v {s with rc:=some none,rcd:=true},{rd:=ls,rh:=true,gh:=true})|some none=>some (.normal,put o.dst (.d .nili) s,{rd:=ls,rh:=true,gh:=true})|none=>none
 | .call r ss hp wl=>
  let m:=s.m.sets ss;let s':St:={s with m:={m with hp:=hp,wl:=m.wl ||| wl} }
  let fp:FP:={rd:=ls,ws:=slotsOf ss,wh:=bitsOf ss ||| wl,rh:=true,gh:=!(hp.length==m.hp.length)}
  match r with
  | .ret v=>some (.normal,put o.dst v s',fp)| .pan v=>some (.pan v,s',fp)
def fE(call:bK)(f:Nat)(o:Oper)(s:St):Option (X×St×FP):=
 match fD C call f o (bJ C s) (iT (fB o (bJ C s)) s.m) s.m.hp with
 |some out=>aO C f o (fB o (bJ C s)) s out|none=>none
def bg (call:bK) (f:Nat) (all:List Oper):List Oper→St→Option (X × St × List FP)
 |[],s=>some (.normal,s,[])| o :: r,s=>match gU all s o with
  | some true=>match fE C call f o s with
   |some (.normal,s,fp)=>match bg call f all r s with
    |some (x,s,fps)=>some (x,s,fp::fps)|none=>none
   |some (x,s,fp)=>some (x,s,[fp])|none=>none
  |some false=>match bg call f all r (put o.dst (.tuple []) s)with
   |some (x,s,fps)=>some (x,s,{}::fps)|none=>none
  |none=>none
def FP.touches(n:Nat)(a:FP):Loc→Bool
 | .slot t _=>a.ws.contains t| .heap i=>a.wh.testBit i || (a.gh&&Nat.ble n i)
def FP.reads(a:FP):Bool:=a.ws.isEmpty&&a.wh==0&&!a.rh&&!a.gh
def FP.local(a:FP):Bool:=a.wh==0&&!a.rh&&!a.gh
def FP.meets(n:Nat)(a b:FP):Bool:=
 !((a.reads&&!a.rd.any (b.touches n)) || (b.reads&&!b.rd.any (a.touches n)) ||
  (a.local&&!a.rd.any (b.touches n)&&!b.rd.any (a.touches n)&&!a.ws.any b.ws.contains) ||
  (b.local&&!a.rd.any (b.touches n)&&!b.rd.any (a.touches n)&&!b.ws.any a.ws.contains))
def jK(n:Nat)(fps:List FP):List (Nat×Nat)→Bool
 |[]=>true|(i,j)::r=>(match fps[i]?,fps[j]? with
  |some a,some b=>!FP.meets n a b|_,_=>false)&&jK n fps r
def Tm:O→O
 | .cells cs _=>.cells cs true|_=>.dead
def Ux(ob:List (Nat×Nat×O)):V→V
 | .sl (.slot u g) sz len off n=>match look u ob with
  |some (g',.vec sz' es true _)=>bif (g'==g)&&(sz'==sz)&&(es.length==len)&&Nat.ble (off+n) len then .d (.list sz ((es.drop off).take n))else .undef|_=>.undef
 |v=>v
def vN(ob:List (Nat×Nat×O)):List (Nat×V)→List (Nat×V)
 |[]=>[]|(t,v)::r=>(t,Ux ob v)::vN ob r
def uf:List (Nat×Nat×O)→List (Nat×Nat×O)
 |[]=>[]|(t,g,o)::r=>(t,g,Tm o)::uf r
def inLoop(rnd:Option Nat)(hp:List O):Bool:=match rnd with
 |none=>true|some l=>match hp[l]? with
  |some (.loop ..)=>true|_=>false
def exec (call:bK):Nat→FuncId→Code→St→Option (X × St)
 |0,_,_,_=>none| k+1,f,c,s=>match c with
  | .skip=>some (.normal,s)| .label _=>some (.normal,s)| .region id ops dr=>
   match bg C call f ops.toList ops.toList s with
   |some (.normal,s',fps)=>bif !dr || jK s.m.hp.length fps (C.pairs f id)then some (.normal,{s' with tm:=cO (C.keep f id) s'.tm})else none
   |some (x,s',fps)=>bif !dr then some (x,s')else none|none=>none
  | .seq a b=>match exec call k f a s with
   |some (.normal,s)=>exec call k f b s|r=>r
  | .cond c a b=>match bJ C s c with
   | .d (.bool t)=>bif t then exec call k f a s else exec call k f b s|_=>none
  | .block id b=>match exec call k f b s with
   |some (.exit j,s)=>bif j==id then some (.normal,s)else some (.exit j,s)|r=>r
  | .loop b=>match exec call k f b s with
   |some (.normal,s)=>exec call k f (.loop b) s|r=>r
  | .scope b=>exec call k f b s| .exit id=>some (.exit id,s)| .ret=>some (.ret,s)| .rangeFunc g ps a b =>
   bif inLoop s.rnd s.m.hp then
   let l:=s.m.hp.length
   match bH 4 s.m.get (bJ C s g)with
   | some (.fn (.func gf) ga gb,[]) =>
    match call (.fn (.func gf) ga gb) [.fn (.yield l) [] []] none (s.m.hp++[.loop .ready none f (vN s.m.ob s.tm) (uf s.m.ob) ps.toList a b])with
    |some (.ret _,_,hp,wl)=>
     let s':St:={s with m:={s.m with hp:=hp.set l .dead,wl:=s.m.wl ||| wl} }
     match hp[l]? with
     |some (.loop .ready none ..)=>some (.normal,s')|some (.loop .done (some .ret) ..)=>some (.ret,s')|some (.loop .done (some (.exit id)) ..)=>some (.exit id,s')|_=>none
    |_=>none
   |_=>none
   else none
  |_=>none
def resV(s:St):ResultVar→Option V
 | .tmp t=>some (xK s t)| .cell a t=>CX C t (xK s a) s.m.get
def G9(s:St):List ResultVar→Option (List V)
 |[]=>some []|r::rs=>match resV C s r,G9 s rs with
  |some v,some vs=>some (v::vs)|_,_=>none
def leave(call:bK)(fn:Func)(frz:Nat):List DR→Option V→St→Option (CR×St)
 | [],none,s=>match G9 C s fn.results.toList with
  |some vs=>match bH.goL frz s.m.get vs with
   |some (vs,ss)=>some (.ret (match vs with|[v]=>v|vs=>.tuple vs),{s with m:=s.m.sets ss})|none=>none
  |none=>none
 |[],some v,s=>some (.pan v,s)|d::ds,pv,s=>match call (.fn d.f [] []) d.args (some pv) s.m.hp with
  |some (.ret _,rcd,hp,wl)=>leave call fn frz ds (bif rcd then none else pv) {s with m:={s.m with hp:=hp,wl:=s.m.wl ||| wl} }|_=>none
def lJ(vs:List V)(i:Nat):List (Nat×V):=match vs with
 |[]=>[]|v::r=>(i,v)::lJ r (i+1)
def insL:List Nat→List V→List (Nat×V)→List (Nat×V)
 |p::ps,v::vs,tm=>insL ps vs (ins p v tm)|_,_,tm=>tm
def bV:Nat→bK
 |0,_,_,_,_=>none| k+1,g,args,rc,hp=>match g with
  | .fn (.func g) first caps =>
   match C.orc g with
   |some h=>match rc,h (first++args++caps) hp with
    |none,some (r,hp,wl)=>some (r,false,hp,wl)|_,_=>none
   | none=>match C.P.funcs[g]? with
    | some fn=>match fn.body with
     | some c =>
      match(match exec C (bV k) k g c {tm:=lJ (first++args++caps) 0,m:={ob:=[],hp:=hp,wl:=0},df:=[],rc:=rc}with
       |some (.normal,s)=>leave C (bV k) fn (C.frz g) s.df none s|some (.ret,s)=>leave C (bV k) fn (C.frz g) s.df none s|some (.pan v,s)=>leave C (bV k) fn (C.frz g) s.df (some v) s|_=>none)with
      |some (r,s)=>some (r,s.rcd,s.m.hp,s.m.wl)|none=>none
     |none=>none
    |none=>none
  | .fn (.yield l) _ _ =>
   match hp[l]? with
   | some (.loop .ready none f tm ob ps a b) =>
    bif args.length == ps.length then
     match exec C (bV k) k f a {tm:=insL ps args tm,m:={ob:=ob,hp:=hp,wl:=0},df:=[],rnd:=some l}with
     | some (.normal,s) =>
      match s.m.hp[l]? with
      | some (.loop .ready none f1 tm1 ob1 ps1 a1 b1) =>
       match exec C (bV k) k f b {s with m:={s.m with hp:=s.m.hp.set l (.loop .busy none f1 tm1 ob1 ps1 a1 b1),wl:=s.m.wl ||| (1 <<< l)} }with
       | some (x,s) =>
        match s.m.hp[l]? with
        |some (.loop .busy none f2 tm2 ob2 ps2 a2 b2)=>
         match x with
         | .normal=>some (.ret (.d (.bool true)),false,s.m.hp.set l (.loop .ready none f2 tm2 ob2 ps2 a2 b2),s.m.wl ||| (1 <<< l))| .ret=>some (.ret (.d (.bool false)),false,s.m.hp.set l (.loop .done (some .ret) f2 tm2 ob2 ps2 a2 b2),s.m.wl ||| (1 <<< l))| .exit id=>some (.ret (.d (.bool false)),false,s.m.hp.set l (.loop .done (some (.exit id)) f2 tm2 ob2 ps2 a2 b2),s.m.wl ||| (1 <<< l))|_=>none
        |_=>none
       |none=>none
      |_=>none
     |_=>none
    else none
   |_=>none
  |_=>none
def nM (args:List V) (hp:List O):Option (CR × List O × Nat):=match args with
 | [.sl (.heap l) 1 len off n,.d (.int .i64 i),.vl [.d y]]=>match hp[l]? with
  | some (.vec sz es false true)=>bif (sz == 1)&&(es.length == len)&&(n == len)&&(off == 0)&&decide (i=0)&&Nat.ble 1 len&&Nat.ble len 100000000 then
    some (.ret (.sl (.heap l) 1 (len+1) 0 (len+1)),hp.set l (.vec 1 (y::es) false true),1 <<< l)
   else none
  |_=>none
 |_=>none
end
def FI (ops:Array Oper) (b:Array Nat) (ps:List (Nat × Nat)):Bool :=
 (List.range ops.size).all fun i=>match ops[i]? with
  |none=>false| some o=>(o.after.toList.all fun e=>!Region.binds .any e || Nat.blt e.on i)&&(List.range i).all fun j =>
   bif (b.getD i 0).testBit j then o.after.toList.any fun e=>Region.binds .any e&&((e.on==j) || (Nat.blt e.on i&&Nat.blt j e.on&&(b.getD e.on 0).testBit j))
   else match ops[j]? with
    |none=>false|some p=>Oper.apart ops p o&&(eH p.op || eH o.op || ps.contains (j,i))
def wE(C:aY)(nt f id:Nat)(ops:Array Oper)(dr:Bool):Bool:=
 (ops.toList.all fun o=>match o.dst with
  |some d=>Nat.blt d nt|none=>true)&&(!dr || FI ops (Region.before ops) (C.pairs f id))
def codeOk(C:aY)(nt f:Nat):Code→Bool
 | .region id ops dr=>wE C nt f id ops dr| .seq a b=>codeOk C nt f a&&codeOk C nt f b| .cond _ a b=>codeOk C nt f a&&codeOk C nt f b| .block _ b=>codeOk C nt f b| .loop b=>codeOk C nt f b| .scope b=>codeOk C nt f b| .rangeFunc _ ps a b=>(ps.toList.all fun p=>Nat.blt p nt)&&codeOk C nt f a&&codeOk C nt f b|_=>true
def sO(C:aY)(f:FuncId)(ps:List Tmp)(a b:Code)(n:Nat):Prop:=
 ∃fn,C.P.funcs[f]?=some fn∧codeOk C fn.ntmps f a=true∧codeOk C fn.ntmps f b=true∧(∀p∈ps,p<fn.ntmps)∧fn.ntmps≤n
structure aY.Ok(C:aY):Prop where
 mixed:C.P.follows .mixedOrders=true
 code:∀f fn c,C.P.funcs[f]?=some fn→fn.body=some c→codeOk C fn.ntmps f c=true∧(fn.name== "runtime.NumGoroutine")=false
end Mw
namespace Mw
open Go
def flat(es:List D):List D:=es.flatMap D.cells
inductive RD (G:Nat→Nat→Option Value):D→Value→Prop
 |bool (b:Bool):RD G (.bool b) (.bool b)
 |int (k:IntKind) (n:Int):RD G (.int k n) (.int k n)
 |str (s:ByteArray):RD G (.str s) (.string s)
 |nilp:RD G .nilp (.pointer none)
 |nili:RD G .nili .nilIface
 |nilf:RD G .nilf .nilFunc
 |nilm:RD G .nilm (.map none)
 |nils:RD G .nils (.slice none 0 0)
 | list (sz:Nat) (es:List D) (b o cap:Nat) (xs:Nat→Value) (hc:es.length≤cap) (hs:∀ e∈es,e.cells.length=sz)
   (hG:∀q c,(flat es)[q]?=some c→G b (o+q)=some (xs q)) (hR:∀q c,(flat es)[q]?=some c→RD G c (xs q))
   (hC:∀c∈flat es,c.isCell=true):
   RD G (.list sz es) (.slice (some ⟨b,o,none⟩) es.length cap)
 | agg (ds:List D) (xs:Array Value) (hl:xs.size=ds.length) (hR:∀ (i:Nat) (d:D) (x:Value),ds[i]?=some d→xs[i]?=some x→RD G d x)
   (hC:∀d∈ds,d.isCell=true):RD G (.agg ds) (.agg xs)
 |iface (t:TypeId) (d:D) (x:Value) (h:RD G d x):RD G (.iface t d) (.iface t x)
def cellV:Value→Bool
 | .agg _=>false| .tuple _=>false|_=>true
theorem RD.cell{G:Nat→Nat→Option Value}{d:D}{x:Value}(h:RD G d x)(hc:d.isCell=true):cellV x=true:=by cases h<;>first|rfl|simp[D.isCell]at hc
theorem RD.cells_isCell{G:Nat→Nat→Option Value}{d:D}{x:Value}(h:RD G d x):∀c∈d.cells,c.isCell=true:=by
 cases h with
 |agg ds xs hl hR hC=>exact hC|_=>intro c hc;simp[D.cells]at hc;subst hc;rfl
theorem RD.cells{G:Nat→Nat→Option Value}{d:D}{x:Value}(h:RD G d x) :
  x.cells.size=d.cells.length∧∀(i:Nat) (c:D) (y:Value),d.cells[i]?=some c→x.cells[i]?=some y→RD G c y:=by
 cases h with
 |agg ds xs hl hR hC=>exact⟨hl,hR⟩|_=>
  refine⟨rfl,fun i c y hc hy=>?_⟩;simp only[D.cells,Value.cells]at hc hy;cases i with
  |zero=>simp at hc hy;subst hc;subst hy;constructor<;>assumption|succ i=>simp at hc
theorem RD.mono{G G':Nat→Nat→Option Value}(hG:∀b i x,G b i=some x→G' b i=some x){d:D}{x:Value}(h:RD G d x):RD G' d x:=by
 induction h with
 |list sz es b o cap xs hc hs hg hR hC ih=>exact .list sz es b o cap xs hc hs (fun q c h=>hG _ _ _ (hg q c h)) ih hC|agg ds xs hl hR hC ih=>exact .agg ds xs hl ih hC|iface t d x h ih=>exact .iface t d x ih|_=>constructor
structure Env where
 G:Nat→Nat→Option Value
 k:Loc→Nat→Option (Nat×Nat)
 kl:Nat→Nat→Nat→Nat→Option (Nat×Nat)
inductive RV (E:Env):V→Value→Prop
 |d (x:D) (v:Value) (h:RD E.G x v):RV E (.d x) v
 |undef (v:Value):RV E .undef v
 |ptr (l:Loc) (off b c:Nat) (hk:E.k l 0=some (b,c)):RV E (.ptr l off) (.pointer (some ⟨b,off,none⟩))
 |ept (l:Loc) (sz len i off b c:Nat) (hk:E.k l len=some (b,c)):RV E (.ept l sz len i off) (.pointer (some ⟨b,i*sz+off,none⟩))
 | dptr (cs:List D) (off b o:Nat) (xs:Nat→Value) (hG:∀ q c,cs[q]?=some c→E.G b (o+q)=some (xs q)) (hR:∀ q c,cs[q]?=some c→RD E.G c (xs q))
   (hC:∀c∈cs,c.isCell=true):RV E (.dptr cs off) (.pointer (some ⟨b,o+off,none⟩))
 | vptr (cs:List V) (off b o:Nat) (xs:Nat→Value) (hG:∀ q c,cs[q]?=some c→E.G b (o+q)=some (xs q)) (hR:∀ q c,cs[q]?=some c→RV E c (xs q))
   (hC:∀c∈cs,c.isCell=true):RV E (.vptr cs off) (.pointer (some ⟨b,o+off,none⟩))
 | sl (l:Loc) (sz len off n b c a cap:Nat) (hk:E.k l len=some (b,c)) (ha:n=0∨a=off * sz) (h0:off=0→a=0∧cap=c) (hn:n≤cap) :
   RV E (.sl l sz len off n) (.slice (some ⟨b,a,none⟩) n cap)
 |asl (l:Loc) (off n b c cap:Nat) (hk:E.k l 0=some (b,c)) (hn:n≤cap):RV E (.asl l off n) (.slice (some ⟨b,off,none⟩) n cap)
 |ex (sz:Nat) (es:List D) (a:Option Addr) (h:RD E.G (.list sz es) (.slice a es.length es.length)):RV E (.ex sz es) (.slice a es.length es.length)
 | vl (es:List V) (b o cap:Nat) (xs:Nat→Value) (hc:es.length≤cap) (hG:∀ q c,es[q]?=some c→E.G b (o+q)=some (xs q))
   (hR:∀q c,es[q]?=some c→RV E c (xs q)) (hC:∀c∈es,c.isCell=true) (hF:∃i,E.G b i=some (.tuple #[])):RV E (.vl es) (.slice (some ⟨b,o,none⟩) es.length cap)
 |map (l:Loc) (b c:Nat) (hk:E.k l 0=some (b,c)):RV E (.map l) (.map (some b))
 | fn (f:Fn) (a b:List V) (a' b':Array Value) (hf:∀ l,f≠.yield l) (ha:a'.size=a.length) (hb:b'.size=b.length)
   (hA:∀(i:Nat) (v:V) (x:Value),a[i]?=some v→a'[i]?=some x→RV E v x) (hB:∀(i:Nat) (v:V) (x:Value),b[i]?=some v→b'[i]?=some x→RV E v x):
   RV E (.fn f a b) (.func f a' b')
 |yield (l b c:Nat) (hk:E.k (.heap l) 0=some (b,c)):RV E (.fn (.yield l) [] []) (.func (.yield b) #[] #[])
 | agg (vs:List V) (xs:Array Value) (hl:xs.size=vs.length) (hR:∀ (i:Nat) (v:V) (x:Value),vs[i]?=some v→xs[i]?=some x→RV E v x)
   (hC:∀v∈vs,v.isCell=true):RV E (.agg vs) (.agg xs)
 | tuple (vs:List V) (xs:Array Value) (hl:xs.size=vs.length) (hR:∀ (i:Nat) (v:V) (x:Value),vs[i]?=some v→xs[i]?=some x→RV E v x) :
   RV E (.tuple vs) (.tuple xs)
 |iface (t:TypeId) (v:V) (x:Value) (h:RV E v x):RV E (.iface t v) (.iface t x)
theorem RV.cell{E:Env}{v:V}{x:Value}(h:RV E v x)(hc:v.isCell=true):cellV x=true:=by
 cases h with
 |d y x hd=>exact hd.cell hc|undef=>simp[V.isCell]at hc|agg=>simp[V.isCell]at hc|tuple=>simp[V.isCell]at hc|_=>rfl
theorem mM{α:Type}{l:List α}{i:Nat}{a:α}(h:l[i]?=some a):a∈l:=List.mem_of_getElem? h
structure Env.Le(E E':Env):Prop where
 G:∀b i x,E.G b i=some x→E'.G b i=some x
 k:∀l n p,E.k l n=some p→E'.k l n=some p
theorem Env.Le.refl(E:Env):E.Le E:=⟨fun _ _ _ h=>h,fun _ _ _ h=>h⟩
theorem Env.Le.trans{E1 E2 E3:Env}(h:E1.Le E2)(h':E2.Le E3):E1.Le E3:=⟨fun _ _ _ x=>h'.G _ _ _ (h.G _ _ _ x),fun _ _ _ x=>h'.k _ _ _ (h.k _ _ _ x)⟩
theorem RV.mono{E E':Env}(hE:E.Le E'){v:V}{x:Value}(h:RV E v x):RV E' v x:=by
 induction h with
 |d x v h=>exact .d x v (h.mono hE.G)|undef v=>exact .undef v|ptr l off b c h=>exact .ptr l off b c (hE.k _ _ _ h)|ept l sz len i off b c h=>exact .ept l sz len i off b c (hE.k _ _ _ h)|dptr cs off b o xs h1 h2 h3=>exact .dptr cs off b o xs (fun q c h=>hE.G _ _ _ (h1 q c h)) (fun q c h=>(h2 q c h).mono hE.G) h3|vptr cs off b o xs h1 h2 h3 ih=>exact .vptr cs off b o xs (fun q c h=>hE.G _ _ _ (h1 q c h)) ih h3|sl l sz len off n b c a cap h ha h0 hn=>exact .sl l sz len off n b c a cap (hE.k _ _ _ h) ha h0 hn|asl l off n b c cap h hn=>exact .asl l off n b c cap (hE.k _ _ _ h) hn|ex sz es a h=>exact .ex sz es a (h.mono hE.G)|vl es b o cap xs hc h1 h2 h3 hF ih=>exact .vl es b o cap xs hc (fun q c h=>hE.G _ _ _ (h1 q c h)) ih h3 (hF.imp fun i h=>hE.G _ _ _ h)|map l b c h=>exact .map l b c (hE.k _ _ _ h)|fn f a b a' b' hf ha hb h1 h2 ih1 ih2=>exact .fn f a b a' b' hf ha hb ih1 ih2|yield l b c h=>exact .yield l b c (hE.k _ _ _ h)|agg vs xs hl h1 hC ih=>exact .agg vs xs hl ih hC|tuple vs xs hl h1 ih=>exact .tuple vs xs hl ih|iface t v x h ih=>exact .iface t v x ih
def dS(E:Env)(vs:List V)(xs:List Value):Prop:=xs.length=vs.length∧∀(i:Nat) (v:V) (x:Value),vs[i]?=some v→xs[i]?=some x→RV E v x
theorem RV.cells{E:Env}{v:V}{x:Value}(h:RV E v x)(hu:v.cells.all V.isCell=true):dS E v.cells x.cells.toList:=by
 cases h with
 |d d x h=>obtain⟨h1,h2⟩:=h.cells;refine⟨by simp[V.cells,h1],fun i v y hv hy=>?_⟩;simp only[V.cells,List.getElem?_map,Option.map_eq_some_iff]at hv;obtain⟨c,hc,rfl⟩:=hv;exact .d c y (h2 i c y hc (by simpa using hy))
 |undef=>simp[V.cells,V.isCell]at hu|tuple=>simp[V.cells,V.isCell]at hu|agg vs xs hl hR hC=>exact⟨by simp[V.cells,Value.cells,hl],fun i v y hv hy=>hR i v y (by simpa[V.cells]using hv) (by simpa[Value.cells]using hy)⟩|_=>
  refine⟨rfl,fun i v y hv hy=>?_⟩;simp only[V.cells,Value.cells]at hv hy;cases i with
  |zero=>simp at hv hy;subst hv;subst hy;constructor<;>assumption|succ i=>simp at hv
 mutual
theorem jC(G:Nat→Nat→Option Value):∀(v:Value) (d:D),D.ofValue v=some d→RD G d v
 | .bool b,d,h=>by simp[D.ofValue]at h;subst h;constructor| .int k n,d,h=>by simp[D.ofValue]at h;subst h;constructor| .string s,d,h=>by simp[D.ofValue]at h;subst h;constructor| .pointer none,d,h=>by simp[D.ofValue]at h;subst h;constructor| .pointer (some a),d,h=>by simp[D.ofValue]at h| .nilIface,d,h=>by simp[D.ofValue]at h;subst h;constructor| .nilFunc,d,h=>by simp[D.ofValue]at h;subst h;constructor| .map none,d,h=>by simp[D.ofValue]at h;subst h;constructor| .map (some r),d,h=>by simp[D.ofValue]at h| .slice none n c,d,h=>by rcases n with _|n<;>rcases c with _|c<;>simp[D.ofValue]at h;subst h;constructor
 | .slice (some a) n c,d,h=>by simp[D.ofValue]at h| .agg ⟨cs⟩,d,h=>by
  simp only[D.ofValue]at h;cases hc:D.ofValues cs with
  |none=>simp[hc]at h| some ds =>
   simp only[hc]at h;cases ha:ds.all D.isCell with
   |false=>simp[ha]at h|true=>simp[ha]at h;subst h;obtain⟨hl,hr⟩:=wX G cs ds hc;exact .agg ds ⟨cs⟩ (by simp[hl]) (fun i d x hd hx=>hr i d x hd (by simpa using hx)) (by simpa using ha)
 | .iface t v,d,h=>by
  simp only[D.ofValue]at h;cases hv:D.ofValue v with
  |none=>simp[hv]at h|some x=>simp[hv]at h;subst h;exact .iface t x v (jC G v x hv)
 | .float k b,d,h=>by simp[D.ofValue]at h| .complex k a b,d,h=>by simp[D.ofValue]at h| .chan r,d,h=>by simp[D.ofValue]at h| .func f a b,d,h=>by simp[D.ofValue]at h| .tuple vs,d,h=>by simp[D.ofValue]at h
theorem wX(G:Nat→Nat→Option Value):∀(vs:List Value) (ds:List D),D.ofValues vs=some ds→
  ds.length=vs.length∧∀(i:Nat) (d:D) (x:Value),ds[i]?=some d→vs[i]?=some x→RD G d x
 |[],ds,h=>by simp[D.ofValues]at h;subst h;simp| v :: vs,ds,h=>by
  simp only[D.ofValues]at h;cases hv:D.ofValue v with
  |none=>simp[hv]at h| some d =>
   cases hvs:D.ofValues vs with
   |none=>simp[hv,hvs]at h|some ds'=>
    simp[hv,hvs]at h;subst h;obtain⟨hl,hr⟩:=wX G vs ds' hvs;refine⟨by simp[hl],fun i e x he hx=>?_⟩;cases i with
    |zero=>simp at he hx;subst he;subst hx;exact jC G v d hv|succ i=>exact hr i e x (by simpa using he) (by simpa using hx)
end
section
variable{P:Program}{w:World}
theorem info_of_underlying{t:TypeId}{d:TypeDesc}(h:P.underlying t=some d):∃i,P.info? t=some i:=by unfold Program.underlying at h;split at h<;>first|exact⟨_,by assumption⟩|cases h
theorem iq{t:TypeId}{i:TypeInfo}(h:P.info? t=some i):(typeInfo t).run P w=.ok i w:=by simp[typeInfo,h]
theorem ak{t:TypeId}{d:TypeDesc}(h:P.underlying t=some d):(underlying t).run P w=.ok d w:=by simp[underlying,h]
theorem dh{t:TypeId}{d:TypeDesc}(h:P.underlying t=some d):(Go.sizeOf t).run P w=.ok (P.cellsOf t) w:=by obtain⟨i,hi⟩:=info_of_underlying h;simp[Go.sizeOf,iq hi,Program.cellsOf,hi]
theorem pJ{C:aY}{t:TypeId}{d:TypeDesc}(h:C.P.underlying t=some d):(isAgg t).run C.P w=.ok (cu C t) w:=by simp only[isAgg,Sem.run_bind,ak h,Result.andThen_ok,cu,h];cases d<;>rfl
theorem iO{C:aY}{t:TypeId}{z:D}(G:Nat→Nat→Option Value)(h:aU C t=some z) :
  ∃v,(zeroValue t).run C.P w=.ok v w∧RD G z v:=by
 unfold aU at h;cases hi:C.P.info? t with
 |none=>simp[hi]at h|some i=>
  simp only[hi]at h;cases hz:i.zero with
  |none=>simp[hz]at h|some v=>simp only[hz]at h;exact⟨v,by simp[zeroValue,iq hi,hz],jC G v z h⟩
end
theorem VT{C:aY}{t:TypeId}{n:Nat}{ag:Bool}(h:lD C t=some (n,ag)):(∃d,C.P.underlying t=some d)∧n=C.P.cellsOf t∧ag=cu C t:=by
 unfold lD at h;cases hu:C.P.underlying t with
 |none=>simp[hu]at h|some d=>simp[hu]at h;exact⟨⟨d,rfl⟩,h.1.symm,h.2.symm⟩
theorem jm{C:aY}{t e:TypeId}(h:eU C t=some e):C.P.underlying t=some (.slice e)∧∃d,C.P.underlying e=some d:=by
 unfold eU at h;split at h
 ·rename_i e' hu;split at h
  ·rename_i d hd;simp at h;subst h;exact⟨hu,d,hd⟩
  ·cases h
 ·cases h
theorem tK{C:aY}{t e:TypeId}{n:Nat}(h:wH C t=some (n,e)):C.P.underlying t=some (.array n e)∧∃d,C.P.underlying e=some d:=by
 unfold wH at h;split at h
 ·rename_i n' e' hu;split at h
  ·rename_i d hd;simp at h;obtain⟨rfl,rfl⟩:=h;exact⟨hu,d,hd⟩
  ·cases h
 ·cases h
theorem xq{C:aY}{t:TypeId}{i:Nat}{fl:Field}(h:aQ C t i=some fl) :
  (∃fs,C.P.underlying t=some (.struct fs)∧fs[i]?=some fl)∧∃d,C.P.underlying fl.type=some d:=by
 unfold aQ at h;split at h
 ·rename_i fs hu;split at h
  ·rename_i fl' hf;split at h
   ·rename_i d hd;simp at h;subst h;exact⟨⟨fs,hu,hf⟩,d,hd⟩
   ·cases h
  ·cases h
 ·cases h
theorem jo{E:Env}{v:V}{x:Value}{n:Nat}(h:ni v=some n)(hv:RV E v x):∃k,x=.int k (n:Int):=by
 unfold ni at h;split at h
 ·rename_i k m;cases hv with
  | d _ _ hd =>
   cases hd;by_cases hm:0≤m
   ·simp[hm]at h;exact⟨k,by rw[←h,Int.toNat_of_nonneg hm]⟩
   ·simp[hm]at h
 ·cases h
theorem RV.of_d{E:Env}{d:D}{x:Value}(h:RV E (.d d) x):RD E.G d x:=by cases h;assumption
theorem RV.ofCells{E:Env}{vs:List V}{xs:List Value}{ag:Bool}{v:V}(h:dS E vs xs)(hc:∀u∈vs,u.isCell=true)(hv:V.ofCells ag vs=some v) :
  ag=true∧RV E v (.agg xs.toArray)∨ag=false∧∃x,xs=[x]∧RV E v x:=by
 cases ag with
 | true =>
  simp[V.ofCells]at hv;subst hv;refine .inl ⟨rfl,?_⟩;unfold rW;cases ha:qY vs with
  |none=>exact .agg vs xs.toArray (by simp[h.1]) (fun i v x hv hx=>h.2 i v x hv (by simpa using hx)) hc| some ds =>
   have key:∀(vs:List V) (ds:List D),qY vs=some ds→vs=ds.map V.d:=by
    intro vs;induction vs with
    |nil=>intro ds h;simp[qY]at h;subst h;rfl|cons v vs ih=>
     intro ds h;cases v<;>simp[qY]at h;rename_i y;cases hh:qY vs with
     |none=>simp[hh]at h|some ds'=>simp[hh]at h;subst h;simp[ih ds' hh]
   have hvs:=key vs ds ha;subst hvs;refine .d _ _ (.agg ds xs.toArray (by simpa using h.1) (fun i d x hd hx=>?_) (fun d hd=>?_))
   ·exact(h.2 i (.d d) x (by simp[hd]) (by simpa using hx)).of_d
   ·exact hc (.d d) (by simp[hd])
 | false =>
  simp only[V.ofCells]at hv;split at hv
  ·rename_i c;simp at hv;subst hv;obtain⟨hl,hr⟩:=h
   match xs,hl with
   |[x],_=>exact .inr ⟨rfl,x,rfl,hr 0 c x rfl rfl⟩
  ·cases hv
theorem GK:∀(vs:List V) (ds:List D),qY vs=some ds→vs=ds.map V.d:=by
 intro vs;induction vs with
 |nil=>intro ds h;simp[qY]at h;subst h;rfl|cons v vs ih=>
  intro ds h;cases v<;>simp[qY]at h;rename_i y;cases hh:qY vs with
  |none=>simp[hh]at h|some ds'=>simp[hh]at h;subst h;simp[ih ds' hh]
theorem dS.drop{E:Env}{vs:List V}{xs:List Value}(h:dS E vs xs)(n:Nat):dS E (vs.drop n) (xs.drop n):=
 ⟨by simp[h.1],fun i v x hv hx=>h.2 (n+i) v x (by simpa[List.getElem?_drop]using hv) (by simpa[List.getElem?_drop]using hx)⟩
theorem dS.take{E:Env}{vs:List V}{xs:List Value}(h:dS E vs xs)(n:Nat):dS E (vs.take n) (xs.take n):=
 ⟨by simp[h.1],fun i v x hv hx=>by
  have hi:i<n:=by
   rcases Nat.lt_or_ge i n with h|h
   ·exact h
   ·simp[List.getElem?_take,Nat.not_lt.2 h]at hv
  exact h.2 i v x (by simpa[List.getElem?_take,hi]using hv) (by simpa[List.getElem?_take,hi]using hx)⟩
theorem dS.append{E:Env}{vs us:List V}{xs ys:List Value}(h:dS E vs xs)(h':dS E us ys):dS E (vs++us) (xs++ys):=
 ⟨by simp[h.1,h'.1],fun i v x hv hx=>by
  rcases Nat.lt_or_ge i vs.length with hi|hi
  ·exact h.2 i v x (by simpa[List.getElem?_append_left hi]using hv) (by rw[List.getElem?_append_left (by have:=h.1;omega)]at hx;exact hx)
  ·refine h'.2 (i-vs.length) v x (by simpa[List.getElem?_append_right hi]using hv) ?_;rw[List.getElem?_append_right (by have:=h.1;omega),h.1]at hx
   exact hx⟩
theorem dS.mono{E E':Env}(hE:E.Le E'){vs:List V}{xs:List Value}(h:dS E vs xs):dS E' vs xs:=
 ⟨h.1,fun i v x hv hx=>(h.2 i v x hv hx).mono hE⟩
end Mw
