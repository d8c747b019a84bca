/- DependLevels answers true for every list of numbers: its tied card holds; no condition beyond the card's own. -/
import Derived.Test.YtdjnccgeajpegaaGreatDoorMwO
set_option linter.unusedVariables false
set_option linter.unusedSimpArgs false
namespace Mw
open Go
def p_move (x:Operand) (C:Cfg) (ρ:Operand→V):Option V:=some (ρ x)
def p_assign (x:Operand) (C:Cfg) (ρ:Operand→V):Option V:=some (ρ x)
def p_pick (c:Operand) (a:Operand) (b:Operand) (C:Cfg) (ρ:Operand→V):Option V:=match ρ c with
  | .d (.bool c)=>some (bif c then ρ a else ρ b)
  | _=>none
def p_build (t:TypeId) (parts:Array (Nat × Operand)) (C:Cfg) (ρ:Operand→V):Option V:=buildV C t (parts.toList.map fun p=>(p.1,ρ p.2))
def p_nilCheck (x:Operand) (C:Cfg) (ρ:Operand→V):Option V:=match ρ x with
  | .ptr l off=>some (.ptr l off)
  | .dptr cs off=>some (.dptr cs off)
  | .ept l sz n i off=>some (.ept l sz n i off)
  | .fn (.func g) a b=>some (.fn (.func g) a b)
  | .fn (.yield l) a b=>some (.fn (.yield l) a b)
  | _=>none
def p_binOp (op:BinOp) (t:TypeId) (x:Operand) (y:Operand) (_:TypeId) (C:Cfg) (ρ:Operand→V):Option V:=binOpV C op t ((x matches .const _) || (y matches .const _)) (ρ x) (ρ y)
def p_unOp (op:UnOp) (_:TypeId) (x:Operand) (C:Cfg) (ρ:Operand→V):Option V:=match ρ x with
  | .d a=>match unOpD op a with
   | some v=>some (.d v)
   | none=>none
  | _=>none
def p_makeInterface (t:TypeId) (x:Operand) (C:Cfg) (ρ:Operand→V):Option V:=match C.P.underlying t with
  | none=>none
  | some (.interface _)=>none
  | some _=>match ρ x with
   | .d a=>some (.d (.iface t a))
   | v=>some (.iface t v)
def p_fieldAddr (s:TypeId) (x:Operand) (i:Nat) (C:Cfg) (ρ:Operand→V):Option V:=match fieldOf C s i with
  | some fl=>bif sizeT C fl.type == 0 then none else match ρ x with
   | .ptr l off=>some (.ptr l (off+fl.offset))
   | .ept l sz len j off=>some (.ept l sz len j (off+fl.offset))
   | .dptr cs off=>some (.dptr cs (off+fl.offset))
   | .vptr cs off=>some (.vptr cs (off+fl.offset))
   | _=>none
  | none=>none
def p_field (t:TypeId) (x:Operand) (i:Nat) (C:Cfg) (ρ:Operand→V):Option V:=match fieldOf C t i with
  | some fl=>match ρ x with
   | .d (.agg cs)=>bif Nat.ble (fl.offset+sizeT C fl.type) cs.length then V.ofCells (aggT C fl.type) (((cs.map V.d).drop fl.offset).take (sizeT C fl.type)) else none
   | .agg cs=>bif Nat.ble (fl.offset+sizeT C fl.type) cs.length then V.ofCells (aggT C fl.type) ((cs.drop fl.offset).take (sizeT C fl.type)) else none
   | _=>none
  | none=>none
def p_indexAddr (t:TypeId) (x:Operand) (i:Operand) (C:Cfg) (ρ:Operand→V):Option V:=match natOf (ρ i) with
  | none=>none
  | some i=>match elemT C t with
   | some e=>match ρ x with
    | .d (.list sz es)=>match es[i]? with
     | some d=>bif sz == sizeT C e then some (.dptr d.cells 0) else none
     | none=>none
    | .ex sz es=>match es[i]? with
     | some d=>bif sz == sizeT C e then some (.dptr d.cells 0) else none
     | none=>none
    | .vl es=>bif Nat.ble (i+1) es.length&&(sizeT C e == 1) then some (.vptr es i) else none
    | .sl l sz len off n=>bif Nat.ble (i+1) n&&(sz == sizeT C e) then some (.ept l sz len (off+i) 0) else none
    | .asl l off n=>bif Nat.ble (i+1) n&&(sizeT C e == 1) then some (.ptr l (off+i)) else none
    | _=>none
   | none=>match arrT C t with
    | some (n,e)=>bif Nat.ble (i+1) n then (match ρ x with
     | .ptr l off=>some (.ptr l (off+i * sizeT C e))
     | .dptr cs off=>some (.dptr cs (off+i * sizeT C e))
     | .ept l sz len j off=>some (.ept l sz len j (off+i * sizeT C e))
     | _=>none) else none
    | none=>none
def p_index (t:TypeId) (x:Operand) (i:Operand) (C:Cfg) (ρ:Operand→V):Option V:=match natOf (ρ i) with
  | none=>none
  | some i=>match ρ x with
   | .d (.str s)=>match C.P.underlying t,s.data[i]? with
    | some .string,some b=>some (.d (.int .u8 b.toNat))
    | _,_=>none
   | .d (.agg cs)=>match arrT C t with
    | some (n,e)=>bif Nat.ble (i+1) n&&Nat.ble (i * sizeT C e+sizeT C e) cs.length then V.ofCells (aggT C e) (((cs.map V.d).drop (i * sizeT C e)).take (sizeT C e)) else none
    | none=>none
   | .agg cs=>match arrT C t with
    | some (n,e)=>bif Nat.ble (i+1) n&&Nat.ble (i * sizeT C e+sizeT C e) cs.length then V.ofCells (aggT C e) ((cs.drop (i * sizeT C e)).take (sizeT C e)) else none
    | none=>none
   | _=>none
def p_typeAssert (x:Operand) (_:TypeId) (asserted:TypeId) (ok:Bool) (C:Cfg) (ρ:Operand→V):Option V:=match ρ x with
  | .d .nili=>bif ok then (match C.P.underlying asserted,zeroT C asserted with
   | some _,some z=>some (.tuple [.d z,.d (.bool false)])
   | _,_=>none) else none
  | _=>none
def p_extract (t:Operand) (i:Nat) (C:Cfg) (ρ:Operand→V):Option V:=match ρ t with
  | .tuple vs=>vs[i]?
  | _=>none
def p_max (args:Array Operand) (argTypes:Array TypeId) (C:Cfg) (ρ:Operand→V):Option V:=match args.toList.map ρ with
  | .d (.int j x) :: vs=>match minmax true (.int j x) vs with
   | some d=>some (.d d)
   | none=>none
  | _=>none
def p_min (args:Array Operand) (argTypes:Array TypeId) (C:Cfg) (ρ:Operand→V):Option V:=match args.toList.map ρ with
  | .d (.int j x) :: vs=>match minmax false (.int j x) vs with
   | some d=>some (.d d)
   | none=>none
  | _=>none
def m_alloc (t:TypeId) (C:Cfg) (f:Nat) (o:Oper) (ρ:Operand→V) (g:Rd):Option Eff:=match zeroT C t with
  | some z=>some (.new (.cells (z.cells.map .d) false) (fun l=>.ptr l 0) [])
  | none=>none
def m_box (_:TypeId) (x:Operand) (C:Cfg) (f:Nat) (o:Oper) (ρ:Operand→V) (g:Rd):Option Eff:=bif !(ρ x).cells.all V.isCell then none else match o.dst with
  | some t=>match (bif C.esc f t then expo.goL 0 g (ρ x).cells else some ((ρ x).cells,[])) with
   | some (vs,ss)=>some (.new (.cells vs false) (fun l=>.ptr l 0) ss)
   | none=>none
  | none=>none
def m_buildSlice (t:TypeId) (len:Nat) (parts:Array (Nat × Operand)) (C:Cfg) (f:Nat) (o:Oper) (ρ:Operand→V) (g:Rd):Option Eff :=
  match elemT C t with
  | some e =>
   match zeroT C e,expo.goL 1 g (parts.toList.map fun p=>ρ p.2) with
   | some z,some (vs,ss)=>bif Nat.ble (len * sizeT C e) 16777216&&(z.cells.length == sizeT C e)&&(parts.toList.all fun p=>Nat.ble (p.1+1) len) then
    (match allD vs with
    | some ds=>bif ds.all fun d=>d.cells.length == sizeT C e then some (builtL C f o.dst (sizeT C e) (setsD (List.replicate len z) (parts.toList.map (·.1)) ds) ss) else none
    | none=>bif sizeT C e == 1&&(parts.toList.map (·.1) == List.range len)&&vs.all V.isCell then some (.val (.vl vs) ss) else none)
    else none
   | _,_=>none
  | none=>none
def m_load (t:TypeId) (a:Operand) (C:Cfg) (f:Nat) (o:Oper) (ρ:Operand→V) (g:Rd):Option Eff:=boolAct (loadV C t (ρ a) g)
def m_store (t:TypeId) (a:Operand) (x:Operand) (C:Cfg) (f:Nat) (o:Oper) (ρ:Operand→V) (g:Rd):Option Eff:=match storeV C t (ρ a) (ρ x) g with
  | some ss=>some (.skip ss)
  | none=>none
def m_convert (src:TypeId) (dst:TypeId) (x:Operand) (C:Cfg) (f:Nat) (o:Oper) (ρ:Operand→V) (g:Rd):Option Eff:=match C.P.underlying src,C.P.underlying dst with
  | some us,some ud=>match us,ud,ρ x with
   | _,.int k,.d (.int _ n)=>some (.val (.d (.int k (k.wrap n))) [])
   | _,.string,.d (.int _ n)=>bif decide (0≤n)&&decide (n < 128) then some (.val (.d (.str ⟨#[UInt8.ofNat n.toNat]⟩)) []) else none
   | _,.string,.d (.str s)=>some (.val (.d (.str s)) [])
   | .slice e,.string,x=>match C.P.underlying e,elems g x with
    | some (.int .u8),some (sz,es)=>bif sz == 1 then (match ofBytes es with
     | some bs=>some (.val (.d (.str ⟨bs.toArray⟩)) [])
     | none=>none) else none
    | _,_=>none
   | _,_,_=>none
  | _,_=>none
def m_makeFunc (fn:Fn) (first:Array Operand) (caps:Array Operand) (C:Cfg) (f:Nat) (o:Oper) (ρ:Operand→V) (g:Rd):Option Eff:=match expo.goL 4 g (first.toList.map ρ),expo.goL 4 g (caps.toList.map ρ) with
  | some (a,ss),some (b,ts)=>some (.val (.fn fn a b) (ss++ts))
  | _,_=>none
def m_makeMap (_:TypeId) (C:Cfg) (f:Nat) (o:Oper) (ρ:Operand→V) (g:Rd):Option Eff:=some (.new (.map []) (fun l=>.map l) [])
def m_makeSlice (t:TypeId) (len:Operand) (cap:Operand) (C:Cfg) (f:Nat) (o:Oper) (ρ:Operand→V) (g:Rd):Option Eff:=match elemT C t,natOf (ρ len),natOf (ρ cap) with
  | some e,some n,some c=>match zeroT C e with
   | some z=>bif Nat.ble n c&&roomOk C e c&&(z.cells.length == sizeT C e) then
     some (.new (.vec (sizeT C e) (List.replicate c z) false false) (fun l=>.sl l (sizeT C e) c 0 n) [])
    else none
   | none=>none
  | _,_,_=>none
def m_slice (t:TypeId) (x:Operand) (lo:Option Operand) (hi:Option Operand) (mx:Option Operand) (C:Cfg) (f:Nat) (o:Oper) (ρ:Operand→V) (g:Rd):Option Eff:=match C.P.underlying t with
  | some (.array n e)=>match arrT C t,lo,hi,mx,ρ x with
   | some _,none,none,none,.ptr l off=>bif sizeT C e == 1 then some (.val (.asl l off n) []) else none
   | _,_,_,_,_=>none
  | some .string=>match mx,ρ x with
   | none,.d (.str s)=>match sliceS s (lo.map ρ) (hi.map ρ) with
    | some v=>some (.val v [])
    | none=>none
   | _,_=>none
  | some (.slice _)=>match elemT C t with
   | some e=>match sliceV (sizeT C e) (ρ x) (lo.map ρ) (hi.map ρ) (mx.map ρ) g with
    | some (v,ss)=>some (.val v ss)
    | none=>none
   | none=>none
  | _=>none
def m_lookup (t:TypeId) (x:Operand) (i:Operand) (ok:Bool) (C:Cfg) (f:Nat) (o:Oper) (ρ:Operand→V) (g:Rd):Option Eff:=match keyT C t,ρ i with
  | some (kt,e),.d k=>match zeroT C e,(match ρ x with
    | .d .nilm=>some []
    | .map l=>match g l with
     | some (.map es)=>some es
     | _=>none
    | _=>none),eqT C kt k k with
   | some z,some es,some true=>match findKey C kt k es with
    | some (some (_,v))=>some (.val (bif ok then .tuple [v,.d (.bool true)] else v) [])
    | some none=>some (.val (bif ok then .tuple [.d z,.d (.bool false)] else .d z) [])
    | none=>none
   | _,_,_=>none
  | _,_=>none
def m_mapUpdate (t:TypeId) (mp:Operand) (k:Operand) (x:Operand) (C:Cfg) (f:Nat) (o:Oper) (ρ:Operand→V) (g:Rd):Option Eff:=match keyT C t,ρ mp,ρ k,expo 0 g (ρ x) with
  | some (kt,_),.map l,.d k,some (v,ss)=>match g l,eqT C kt k k with
    | some (.map es),some true=>match findKey C kt k es with
     | some (some (i,_))=>some (.skip (ss++[(l,.map (es.set i (k,v)))]))
     | some none=>some (.skip (ss++[(l,.map (es++[(k,v)]))]))
     | none=>none
    | _,_=>none
  | _,_,_,_=>none
def m_mapEntry (t:TypeId) (mp:Operand) (k:Operand) (C:Cfg) (f:Nat) (o:Oper) (ρ:Operand→V) (g:Rd):Option Eff:=match keyT C t,ρ mp,ρ k with
  | some (kt,e),.map l,.d k=>match g l,zeroT C e,eqT C kt k k with
   | some (.map es),some z,some true=>match findKey C kt k es with
    | some (some (i,v))=>some (.val (.tuple [v,.d (.int .i64 i)]) [(l,.map (es.set i (k,v)))])
    | some none=>some (.val (.tuple [.d z,.d (.int .i64 es.length)]) [(l,.map (es++[(k,.d z)]))])
    | none=>none
   | _,_,_=>none
  | _,_,_=>none
def m_entryStore (_:TypeId) (mp:Operand) (st:Operand) (x:Operand) (C:Cfg) (f:Nat) (o:Oper) (ρ:Operand→V) (g:Rd):Option Eff:=match ρ mp,natOf (ρ st),expo 0 g (ρ x) with
  | .map l,some i,some (v,ss)=>match g l with
    | some (.map es)=>match es[i]? with
     | some (k,_)=>some (.skip (ss++[(l,.map (es.set i (k,v)))]))
     | none=>none
    | _=>none
  | _,_,_=>none
def m_range (t:TypeId) (x:Operand) (C:Cfg) (f:Nat) (o:Oper) (ρ:Operand→V) (g:Rd):Option Eff:=match C.P.underlying t,ρ x with
  | some .string,.d (.str s)=>some (.new (.sit s 0) (fun l=>.ptr l 0) [])
  | _,_=>none
def m_next (it:Operand) (C:Cfg) (f:Nat) (o:Oper) (ρ:Operand→V) (g:Rd):Option Eff:=match ρ it with
  | .ptr l 0=>match g l with
   | some (.sit s pos) =>
    match s.data[pos]? with
    | none=>some (.val (.tuple [.d (.bool false)]) [])
    | some b=>bif Nat.ble (b.toNat+1) 128 then
      some (.val (.tuple [.d (.bool true),.d (.int .i64 pos),.d (.int .i32 b.toNat)]) [(l,.sit s (pos+1))])
     else none
   | _=>none
  | _=>none
def m_len (args:Array Operand) (argTypes:Array TypeId) (C:Cfg) (f:Nat) (o:Oper) (ρ:Operand→V) (g:Rd):Option Eff:=match args.toList.map ρ,argTypes.toList with
  | [x],t :: _=>match lenT C t x g with
   | some n=>some (.val (.d (.int .i64 n)) [])
   | none=>none
  | _,_=>none
def m_append (args:Array Operand) (argTypes:Array TypeId) (C:Cfg) (f:Nat) (o:Oper) (ρ:Operand→V) (g:Rd):Option Eff:=match args.toList.map ρ with
  | [s,x]=>match argTypes.toList with
   | [t,u]=>match C.P.underlying u with
    | some (.slice _)=>appendV C f o.dst t s x g
    | some .string=>appendV C f o.dst t s x g
    | _=>none
   | _=>none
  | _=>none
def m_copy (args:Array Operand) (argTypes:Array TypeId) (C:Cfg) (f:Nat) (o:Oper) (ρ:Operand→V) (g:Rd):Option Eff:=match args.toList.map ρ,argTypes.toList with
  | [d,s],t :: _=>match elemT C t with
   | some e=>copyV C e d s g
   | none=>none
  | _,_=>none
def m_clear (args:Array Operand) (argTypes:Array TypeId) (C:Cfg) (f:Nat) (o:Oper) (ρ:Operand→V) (g:Rd):Option Eff:=match args.toList.map ρ,argTypes.toList with
  | [.sl l sz len off n],t :: _=>match elemT C t,g l with
   | some e,some (.vec sz1 es false gr)=>match zeroT C e with
    | some z=>bif (es.length == len)&&(sz1 == sz)&&(z.cells.length == sz)&&Nat.ble (off+n) len then some (.val (.tuple []) [(l,.vec sz (splice es off (List.replicate n z)) false gr)]) else none
    | none=>none
   | _,_=>none
  | _,_=>none
def m_recover (args:Array Operand) (argTypes:Array TypeId) (C:Cfg) (f:Nat) (o:Oper) (ρ:Operand→V) (g:Rd):Option Eff:=bif args.isEmpty then some .recov else none
def m_panic (x:Operand) (C:Cfg) (f:Nat) (o:Oper) (ρ:Operand→V) (g:Rd):Option Eff:=match expo 1 g (ρ x) with
  | some (.d (.iface t d),[])=>some (.pan (.d (.iface t d)))
  | _=>none
def m_defer (h:Operand) (args:Array Operand) (argTypes:Array TypeId) (C:Cfg) (f:Nat) (o:Oper) (ρ:Operand→V) (g:Rd):Option Eff:=match ρ h with
  | .fn (.yield _) _ _=>none
  | .fn fn first caps=>match expo.goL 4 g (first++args.toList.map ρ++caps) with
   | some (vs,[])=>some (.dfr { f:=fn,args:=vs })
   | _=>none
  | _=>none
abbrev SelO:=Cfg→CallF→Nat→Oper→(Operand→V)→Rd→List O→Option Out
def oP (p:Cfg→(Operand→V)→Option V):SelO:=fun C _ _ _ ρ _ _=>match p C ρ with
 | some v=>some (.eff (.val v []))
 | none=>none
def oM (m:Cfg→Nat→Oper→(Operand→V)→Rd→Option Eff):SelO:=fun C _ f o ρ g _=>match m C f o ρ g with
 | some e=>some (.eff e)
 | none=>none
def oNo:SelO:=fun _ _ _ _ _ _ _=>none
def oCallV (fn:Operand) (args:Array Operand):SelO:=fun C call _ _ ρ g hp =>
  match expo.goL (argMode C (ρ fn)) g (args.toList.map ρ) with
  | some (vs,ss)=>match expo 4 g (ρ fn) with
   | some (fn,ts)=>callOut (ss++ts) (call fn vs none (setH hp (ss++ts)))
   | none=>none
  | none=>none
def oCallI (r:Operand) (name:String) (args:Array Operand):SelO:=fun C call _ _ ρ g hp =>
  match expo 4 g (ρ r),expo.goL 4 g (args.toList.map ρ) with
  | some (r,ts),some (vs,ss)=>match methodV C r name with
   | some (fn,r)=>callOut (ts++ss) (call (.fn (.func fn) [] []) (r :: vs) none (setH hp (ts++ss)))
   | none=>none
  | _,_=>none
def selB:Builtin→Array Operand→Array TypeId→SelO
 | .max=>fun args ts=>oP (p_max args ts)
 | .min=>fun args ts=>oP (p_min args ts)
 | .len=>fun args ts=>oM (m_len args ts)
 | .append=>fun args ts=>oM (m_append args ts)
 | .copy=>fun args ts=>oM (m_copy args ts)
 | .clear=>fun args ts=>oM (m_clear args ts)
 | .recover=>fun args ts=>oM (m_recover args ts)
 | _=>fun _ _=>oNo
def selCallee:Callee→Array Operand→Array TypeId→SelO
 | .value fn=>fun args _=>oCallV fn args
 | .invoke r name=>fun args _=>oCallI r name args
 | .builtin b=>selB b
def selCall (c:Call):SelO:=match c with
 | ⟨callee,args,ts⟩=>selCallee callee args ts
def selDefer (c:Call):SelO:=match c with
 | ⟨callee,args,ts⟩=>match callee with
  | .value h=>oM (m_defer h args ts)
  | _=>oNo
def selFunc (fn:Fn) (first caps:Array Operand):SelO:=match fn with
 | .yield _=>oNo
 | fn=>oM (m_makeFunc fn first caps)
def sel:Op→SelO
 | .move a0=>oP (p_move a0)
 | .assign a0=>oP (p_assign a0)
 | .pick a0 a1 a2=>oP (p_pick a0 a1 a2)
 | .build a0 a1=>oP (p_build a0 a1)
 | .nilCheck a0=>oP (p_nilCheck a0)
 | .binOp a0 a1 a2 a3 a4=>oP (p_binOp a0 a1 a2 a3 a4)
 | .unOp a0 a1 a2=>oP (p_unOp a0 a1 a2)
 | .makeInterface a0 a1=>oP (p_makeInterface a0 a1)
 | .fieldAddr a0 a1 a2=>oP (p_fieldAddr a0 a1 a2)
 | .field a0 a1 a2=>oP (p_field a0 a1 a2)
 | .indexAddr a0 a1 a2=>oP (p_indexAddr a0 a1 a2)
 | .index a0 a1 a2=>oP (p_index a0 a1 a2)
 | .typeAssert a0 a1 a2 a3=>oP (p_typeAssert a0 a1 a2 a3)
 | .extract a0 a1=>oP (p_extract a0 a1)
 | .alloc a0=>oM (m_alloc a0)
 | .box a0 a1=>oM (m_box a0 a1)
 | .buildSlice a0 a1 a2=>oM (m_buildSlice a0 a1 a2)
 | .load a0 a1=>oM (m_load a0 a1)
 | .store a0 a1 a2=>oM (m_store a0 a1 a2)
 | .convert a0 a1 a2=>oM (m_convert a0 a1 a2)
 | .makeFunc fn a b=>selFunc fn a b
 | .makeMap t none=>oM (m_makeMap t)
 | .makeSlice a0 a1 a2=>oM (m_makeSlice a0 a1 a2)
 | .slice a0 a1 a2 a3 a4=>oM (m_slice a0 a1 a2 a3 a4)
 | .lookup a0 a1 a2 a3=>oM (m_lookup a0 a1 a2 a3)
 | .mapUpdate a0 a1 a2 a3=>oM (m_mapUpdate a0 a1 a2 a3)
 | .mapEntry a0 a1 a2=>oM (m_mapEntry a0 a1 a2)
 | .entryStore a0 a1 a2 a3=>oM (m_entryStore a0 a1 a2 a3)
 | .range a0 a1=>oM (m_range a0 a1)
 | .next it true=>oM (m_next it)
 | .panic a0=>oM (m_panic a0)
 | .defer c=>selDefer c
 | .call c=>selCall c
 | _=>oNo
theorem sel_eq (C:Cfg) (call:CallF) (f:Nat) (o:Oper) (ρ:Operand→V) (g:Rd) (hp:List O):sel o.op C call f o ρ g hp=opOut C call f o ρ g hp:=by
 obtain ⟨dst,op,ty,pos,after,guard⟩:=o
 cases op
 case makeFunc fn a b=>cases fn<;>rfl
 case makeMap t r=>cases r<;>rfl
 case next it b=>cases b<;>rfl
 case call c =>
  obtain ⟨callee,args,ts⟩:=c
  cases callee with
  | builtin b=>cases b<;>rfl
  | _=>rfl
 case defer c =>
  obtain ⟨callee,args,ts⟩:=c
  cases callee<;>rfl
 all_goals rfl
end Mw
namespace Mw
open Go
abbrev SelA:=Cfg→Nat→Oper→List Loc→St→Option (X × St × FP)
def aVal (v:V) (ss:List (Loc × O)):SelA:=fun _ _ o ls s=>some (.normal,put o.dst v { s with m:=s.m.sets ss },{ rd:=ls,ws:=slotsOf ss,wh:=bitsOf ss })
def aSkip (ss:List (Loc × O)):SelA:=fun _ _ o ls s=>some (.normal,put o.dst (.tuple []) { s with m:=s.m.sets ss },{ rd:=ls,ws:=slotsOf ss,wh:=bitsOf ss })
def aNew (ob:O) (mk:Loc→V) (ss:List (Loc × O)):SelA:=fun C f o ls s=>match o.dst with
  | some t =>
   let m:=s.m.sets ss
   bif C.esc f t then
    some (.normal,{ s with tm:=ins t (mk (.heap m.hp.length)) s.tm,m:={ m with hp:=m.hp++[ob] } },{ rd:=ls,ws:=slotsOf ss,wh:=bitsOf ss,gh:=true })
   else
    let g:=genOf t m.ob
    some (.normal,{ s with tm:=ins t (mk (.slot t g)) s.tm,m:={ m with ob:=ins t (g,ob) m.ob } },{ rd:=ls,ws:=t :: slotsOf ss,wh:=bitsOf ss })
  | none=>none
def aRest (e:Eff):SelA:=fun C f o ls s=>applyOut C f o ls s (.eff e)
def aCall (r:CR) (ss:List (Loc × O)) (hp:List O) (wl:Nat):SelA:=fun C f o ls s=>applyOut C f o ls s (.call r ss hp wl)
def selE:Eff→SelA
 | .val v ss=>aVal v ss
 | .skip ss=>aSkip ss
 | .new ob mk ss=>aNew ob mk ss
 | e=>aRest e
def selA:Out→SelA
 | .eff e=>selE e
 | .call r ss hp wl=>aCall r ss hp wl
theorem selA_eq (out:Out) (C:Cfg) (f:Nat) (o:Oper) (ls:List Loc) (s:St):selA out C f o ls s=applyOut C f o ls s out:=by
 cases out with
 | eff e=>cases e<;>rfl
 | call=>rfl
def opRunE (C:Cfg) (call:CallF) (f:Nat) (o:Oper) (s:St):Option (X × St × FP) :=
 match sel o.op C call f o (evalV C s) (onlyAt (opLocs o (evalV C s)) s.m) s.m.hp with
 | some out=>selA out C f o (opLocs o (evalV C s)) s
 | none=>none
theorem opRunE_eq (C:Cfg) (call:CallF) (f:Nat) (o:Oper) (s:St):opRunE C call f o s=opRun C call f o s:=by
 unfold opRunE opRun
 rw [sel_eq]
 cases opOut C call f o (evalV C s) (onlyAt (opLocs o (evalV C s)) s.m) s.m.hp with
 | none=>rfl
 | some out=>exact selA_eq _ _ _ _ _ _
def stepE (C:Cfg) (call:CallF) (f:Nat) (all:List Oper) (o:Oper) (ih:St→Option (X × St × List FP)) (s:St):Option (X × St × List FP) :=
 match wantedV all s o with
  | some true=>match opRunE C call f o s with
   | some (.normal,s,fp)=>match ih s with
    | some (x,s,fps)=>some (x,s,fp :: fps)
    | none=>none
   | some (x,s,fp)=>some (x,s,[fp])
   | none=>none
  | some false=>match ih (put o.dst (.tuple []) s) with
   | some (x,s,fps)=>some (x,s,{} :: fps)
   | none=>none
  | none=>none
noncomputable def opsRunE (C:Cfg) (call:CallF) (f:Nat) (all:List Oper) (l:List Oper):St→Option (X × St × List FP) :=
 List.rec (motive:=fun _=>St→Option (X × St × List FP)) (fun s=>some (.normal,s,[])) (fun o _ ih s=>stepE C call f all o ih s) l
theorem opsRunE_eq (C:Cfg) (call:CallF) (f:Nat) (all:List Oper):∀ (l:List Oper) (s:St),opsRunE C call f all l s=opsRun C call f all l s:=by
 intro l
 induction l with
 | nil=>intro s; rfl
 | cons o l ih =>
  intro s
  show stepE C call f all o (opsRunE C call f all l) s=_
  have:opsRunE C call f all l=opsRun C call f all l:=funext ih
  rw [this]
  unfold stepE
  simp only [opRunE_eq,opsRun]
  rfl
abbrev Ih:=FuncId→Code→St→Option (X × St)
abbrev SelX:=Cfg→CallF→Ih→FuncId→St→Option (X × St)
noncomputable def xRegion (id:Nat) (ops:Array Oper) (dr:Bool):SelX:=fun C call _ f s =>
   match opsRunE C call f ops.toList ops.toList s with
   | some (.normal,s',fps)=>bif !dr || pairsOk s.m.hp.length fps (C.pairs f id) then some (.normal,{ s' with tm:=keepMask (C.keep f id) s'.tm }) else none
   | some (x,s',_)=>bif !dr then some (x,s') else none
   | none=>none
def xSeq (a b:Code):SelX:=fun _ _ ih f s=>match ih f a s with
   | some (.normal,s)=>ih f b s
   | r=>r
def xCond (c:Operand) (a b:Code):SelX:=fun C _ ih f s=>match evalV C s c with
   | .d (.bool t)=>bif t then ih f a s else ih f b s
   | _=>none
def xBlock (id:Nat) (b:Code):SelX:=fun _ _ ih f s=>match ih f b s with
   | some (.exit j,s)=>bif j == id then some (.normal,s) else some (.exit j,s)
   | r=>r
def xLoop (b:Code):SelX:=fun _ _ ih f s=>match ih f b s with
   | some (.normal,s)=>ih f (.loop b) s
   | r=>r
def xRange (g:Operand) (ps:Array Tmp) (a b:Code):SelX:=fun C call _ f s =>
   bif inLoop s.rnd s.m.hp then
   let l:=s.m.hp.length
   match expo 4 s.m.get (evalV C s g) with
   | some (.fn (.func gf) ga gb,[]) =>
    match call (.fn (.func gf) ga gb) [.fn (.yield l) [] []] none (s.m.hp++[.loop .ready none f (roT s.m.ob s.tm) (roL s.m.ob) ps.toList a b]) with
    | some (.ret _,_,hp,wl) =>
     let s':St:={ s with m:={ s.m with hp:=hp.set l .dead,wl:=s.m.wl ||| wl } }
     match hp[l]? with
     | some (.loop .ready none ..)=>some (.normal,s')
     | some (.loop .done (some .ret) ..)=>some (.ret,s')
     | some (.loop .done (some (.exit id)) ..)=>some (.exit id,s')
     | _=>none
    | _=>none
   | _=>none
   else none
noncomputable def selX:Code→SelX
 | .skip=>fun _ _ _ _ s=>some (.normal,s)
 | .label _=>fun _ _ _ _ s=>some (.normal,s)
 | .region id ops dr=>xRegion id ops dr
 | .seq a b=>xSeq a b
 | .cond c a b=>xCond c a b
 | .block id b=>xBlock id b
 | .loop b=>xLoop b
 | .scope b=>fun _ _ ih f s=>ih f b s
 | .exit id=>fun _ _ _ _ s=>some (.exit id,s)
 | .ret=>fun _ _ _ _ s=>some (.ret,s)
 | .rangeFunc g ps a b=>xRange g ps a b
 | _=>fun _ _ _ _ _=>none
noncomputable def execE (C:Cfg) (call:CallF) (k:Nat):Ih :=
 Nat.rec (motive:=fun _=>Ih) (fun _ _ _=>none) (fun _ ih f c s=>selX c C call ih f s) k
theorem execE_eq (C:Cfg) (call:CallF):∀ (k:Nat) (f:FuncId) (c:Code) (s:St),execE C call k f c s=exec C call k f c s:=by
 intro k
 induction k with
 | zero=>intro f c s; rfl
 | succ k ih =>
  intro f c s
  show selX c C call (execE C call k) f s=_
  have:execE C call k=exec C call k:=funext fun f=>funext fun c=>funext fun s=>ih f c s
  rw [this]
  cases c
  case region id ops dr=>simp only [selX,xRegion,opsRunE_eq,exec]; rfl
  all_goals (simp only [selX,xSeq,xCond,xBlock,xLoop,xRange,exec]<;>rfl)
abbrev CallI:=CallF→Nat→CallF
noncomputable def cFunc (C:Cfg) (call:CallF) (k:Nat) (g:FuncId) (vs:List V) (rc:Option (Option V)) (hp:List O):Option (CR × Bool × List O × Nat) :=
   match C.orc g with
   | some h=>match rc,h vs hp with
    | none,some (r,hp,wl)=>some (r,false,hp,wl)
    | _,_=>none
   | none=>match C.P.funcs[g]? with
    | some fn=>match fn.body with
     | some c =>
      match (match execE C call k g c { tm:=zipI vs 0,m:={ ob:=[],hp:=hp,wl:=0 },df:=[],rc:=rc } with
       | some (.normal,s)=>leave C call fn (C.frz g) s.df none s
       | some (.ret,s)=>leave C call fn (C.frz g) s.df none s
       | some (.pan v,s)=>leave C call fn (C.frz g) s.df (some v) s
       | _=>none) with
      | some (r,s)=>some (r,s.rcd,s.m.hp,s.m.wl)
      | none=>none
     | none=>none
    | none=>none
noncomputable def cYield (C:Cfg) (call:CallF) (k:Nat) (l:Nat) (args:List V) (hp:List O):Option (CR × Bool × List O × Nat) :=
   match hp[l]? with
   | some (.loop .ready none f tm ob ps a b) =>
    bif args.length == ps.length then
     match execE C call k f a { tm:=insL ps args tm,m:={ ob:=ob,hp:=hp,wl:=0 },df:=[],rnd:=some l } with
     | some (.normal,s) =>
      match s.m.hp[l]? with
      | some (.loop .ready none f1 tm1 ob1 ps1 a1 b1) =>
       match execE C call k f b { s with m:={ s.m with hp:=s.m.hp.set l (.loop .busy none f1 tm1 ob1 ps1 a1 b1),wl:=s.m.wl ||| (1 <<< l) } } with
       | some (x,s) =>
        match s.m.hp[l]? with
        | some (.loop .busy none f2 tm2 ob2 ps2 a2 b2) =>
         match x with
         | .normal=>some (.ret (.d (.bool true)),false,s.m.hp.set l (.loop .ready none f2 tm2 ob2 ps2 a2 b2),s.m.wl ||| (1 <<< l))
         | .ret=>some (.ret (.d (.bool false)),false,s.m.hp.set l (.loop .done (some .ret) f2 tm2 ob2 ps2 a2 b2),s.m.wl ||| (1 <<< l))
         | .exit id=>some (.ret (.d (.bool false)),false,s.m.hp.set l (.loop .done (some (.exit id)) f2 tm2 ob2 ps2 a2 b2),s.m.wl ||| (1 <<< l))
         | _=>none
        | _=>none
       | none=>none
      | _=>none
     | _=>none
    else none
   | _=>none
noncomputable def callE (C:Cfg) (k:Nat):CallF :=
 Nat.rec (motive:=fun _=>CallF) (fun _ _ _ _=>none) (fun k ih g args rc hp=>match g with
  | .fn (.func g) first caps=>cFunc C ih k g (first++args++caps) rc hp
  | .fn (.yield l) _ _=>cYield C ih k l args hp
  | _=>none) k
theorem callE_eq (C:Cfg):∀ k,callE C k=callV C k:=by
 intro k
 induction k with
 | zero=>rfl
 | succ k ih =>
  funext g args rc hp
  show (match g with
   | .fn (.func g) first caps=>cFunc C (callE C k) k g (first++args++caps) rc hp
   | .fn (.yield l) _ _=>cYield C (callE C k) k l args hp
   | _=>none)=_
  rw [ih]
  simp only [callV]
  split<;>simp only [cFunc,cYield,execE_eq]<;>rfl
end Mw
