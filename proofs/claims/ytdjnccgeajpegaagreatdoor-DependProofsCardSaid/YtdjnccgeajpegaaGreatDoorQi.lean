/- DependProofs answers true for every list of numbers: its tied card holds; no condition beyond the card's own. -/
import Derived.Test.YtdjnccgeajpegaaGreatDoorQh
import Derived.Test.YtdjnccgeajpegaaGreatDoorXc
set_option linter.unusedVariables false
set_option linter.unusedSimpArgs false
set_option maxRecDepth 10000
set_option maxHeartbeats 4000000
namespace Mw
open Go Go.Proofs
def S85 (T s u:Nat) (k k2 len:Int) (xs ys:List D) (v:V) (i:Int) (o:List (Nat × Nat × O)) (hp:List O) (w:Nat):St :=
 St.mk [(0,.ptr (.heap T) 0),(1,.d (.int .i64 (s:Nat))),(3,.d (.int .i64 (u:Nat))),(11,v),(12,.ptr (.slot 12 0) 0),(13,.ptr (.slot 13 0) 0),(30,.d (.int .i64 len)),(31,.d (.int .i64 i))] (Mem.mk ((12,0,.cells [.d (.int .i64 k),.d (.list 2 xs)] false) :: (13,0,.cells [.d (.int .i64 k2),.d (.list 2 ys)] false) :: o) hp w) [] none false none
def G85 (hp:List O) (T s u:Nat) (all:List D) (x y:Stp) (zx zy:D):Prop:=(∃ rest ro,hp[T]?=some (.cells (.d (.list 2 arrsD) :: .d (.list 10 all) :: rest) ro))∧all[s]?=some (encS x)∧all[u]?=some (encS y)∧szD x.ss=zx∧szD y.ss=zy
abbrev vv (n:Nat):V:=.sl (.slot 118 0) 2 n 0 n
abbrev oo (l:List D):Nat × Nat × O:=(118,0,.vec 2 l false true)
theorem gI {α:Type} {l:List α} {i:Nat} {a:α} (h:l[i]?=some a):∃ h:i < l.length,l[i]=a:=gS.1 h
theorem w85_1 {T s u a b:Nat} {k k2:Int} {p q e0:D} {X:List (Nat × Nat × O)} {hp:List O} {w:Nat}
 (e1:CK 150 [.ptr (.heap T) 0,.d (.int .i64 s),.d (.int .i64 a)] hp (.d (.agg [.int .i64 k,.list 2 [p]])) hp 0)
 (e2:CK 150 [.ptr (.heap T) 0,.d (.int .i64 u),.d (.int .i64 b)] hp (.d (.agg [.int .i64 k2,.list 2 [q]])) hp 0)
 (f0:execL K 85 l85_2 (S85 T s u k k2 1 [p] [q] (.d .nils) 0 [] hp 0)=some (.normal,S85 T s u k k2 1 [p] [q] (vv 1) 1 X hp w)) (hX:look 118 X=some (0,.vec 2 [e0] false true)) :
 ∃ w,callL K (.fn (.func 85) [] []) [.ptr (.heap T) 0,.d (.int .i64 s),.d (.int .i64 a),.d (.int .i64 u),.d (.int .i64 b)] none hp=some (.ret (.d (.list 2 [e0])),false,hp,w):=by
 have lp:execL K 85 (.loop l85_2) (S85 T s u k k2 1 [p] [q] (.d .nils) 0 [] hp 0)=some (.exit 0,{ S85 T s u k k2 1 [p] [q] (vv 1) 1 X hp w with tm:=(S85 T s u k k2 1 [p] [q] (vv 1) 1 X hp w).tm++[(32,.d (.bool false))] }):=by
  rw [execL_loop,f0]
  show execL K 85 (.loop l85_2) _=_
  rw [execL_loop]
  simp [S85,u85_2,x85_4,r85_4]
 simp only [S85,List.cons_append,List.nil_append] at lp
 rw [k85]
 simp [c85,x85_0,r85_0,x85_1,r85_1,x85_2,r85_2,x85_3,r85_3,x85_19,r85_19,e1,e2,lp,hX]
theorem w85_2 {T s u a b:Nat} {k k2:Int} {p p' q q' e0 e3:D} {X Y:List (Nat × Nat × O)} {hp:List O} {w w':Nat}
 (e1:CK 150 [.ptr (.heap T) 0,.d (.int .i64 s),.d (.int .i64 a)] hp (.d (.agg [.int .i64 k,.list 2 [p,p']])) hp 0)
 (e2:CK 150 [.ptr (.heap T) 0,.d (.int .i64 u),.d (.int .i64 b)] hp (.d (.agg [.int .i64 k2,.list 2 [q,q']])) hp 0)
 (f0:execL K 85 l85_2 (S85 T s u k k2 2 [p,p'] [q,q'] (.d .nils) 0 [] hp 0)=some (.normal,S85 T s u k k2 2 [p,p'] [q,q'] (vv 1) 1 X hp w))
 (f1:execL K 85 l85_2 (S85 T s u k k2 2 [p,p'] [q,q'] (vv 1) 1 X hp w)=some (.normal,S85 T s u k k2 2 [p,p'] [q,q'] (vv 2) 2 Y hp w')) (hY:look 118 Y=some (0,.vec 2 [e0,e3] false true)) :
 ∃ w,callL K (.fn (.func 85) [] []) [.ptr (.heap T) 0,.d (.int .i64 s),.d (.int .i64 a),.d (.int .i64 u),.d (.int .i64 b)] none hp=some (.ret (.d (.list 2 [e0,e3])),false,hp,w):=by
 have lp:execL K 85 (.loop l85_2) (S85 T s u k k2 2 [p,p'] [q,q'] (.d .nils) 0 [] hp 0)=some (.exit 0,{ S85 T s u k k2 2 [p,p'] [q,q'] (vv 2) 2 Y hp w' with tm:=(S85 T s u k k2 2 [p,p'] [q,q'] (vv 2) 2 Y hp w').tm++[(32,.d (.bool false))] }):=by
  rw [execL_loop,f0]
  show execL K 85 (.loop l85_2) _=_
  rw [execL_loop,f1]
  show execL K 85 (.loop l85_2) _=_
  rw [execL_loop]
  simp [S85,u85_2,x85_4,r85_4]
 simp only [S85,List.cons_append,List.nil_append] at lp
 rw [k85]
 simp [c85,x85_0,r85_0,x85_1,r85_1,x85_2,r85_2,x85_3,r85_3,x85_19,r85_19,e1,e2,lp,hY]
theorem it85_0_0_0 {T s u w:Nat} {k k2 len c d :Int} {xs ys all:List D} {x y:Stp} {hp:List O} {o o2:O} {e0:D} (hi:0 < len) (h:G85 hp T s u all x y .nils .nils)
 (hx:xs[0]?=some (.agg [.int .i64 c,.list 1 []])) (hy:ys[0]?=some (.agg [.int .i64 d,.list 1 []]))
 (hcd:wr .i64 (c - d)=c - d) :
 ∃ w' o',execL K 85 l85_2 (S85 T s u k k2 len xs ys (.d .nils) 0 [] hp w)=some (.normal,S85 T s u k k2 len xs ys (vv 1) 1 [(15,0,o'),oo [.agg [.int .i64 (c - d),.nils]]] hp w'):=by
 obtain ⟨⟨rest,ro,hT⟩,hs,hu,hzx,hzy⟩:=h
 obtain ⟨hsl,hs2⟩:=gI hs
 obtain ⟨hul,hu2⟩:=gI hu
 obtain ⟨hxl,hx2⟩:=gI hx
 obtain ⟨hyl,hy2⟩:=gI hy
 simp [S85,u85_2,x85_4,r85_4,x85_5,r85_5,x85_6,r85_6,x85_7,r85_7,x85_8,r85_8,x85_9,r85_9,x85_10,r85_10,x85_11,r85_11,x85_12,r85_12,x85_13,r85_13,x85_14,r85_14,x85_15,r85_15,x85_16,r85_16,x85_17,r85_17,x85_18,r85_18,execL_loop,u85_0,u85_1,hi,hT,hs,hu,hs2,hu2,hsl,hul,hx,hy,hx2,hy2,hxl,hyl,encS,hzx,hzy,hcd,w0,w1,w2,w3]
theorem it85_0_1_0 {T s u w:Nat} {k k2 len c d v0 b0:Int} {xs ys all:List D} {x y:Stp} {hp:List O} {o o2:O} {e0:D} (hi:0 < len) (h:G85 hp T s u all x y .nils (.list 1 [.int .i64 b0]))
 (hx:xs[0]?=some (.agg [.int .i64 c,.list 1 []])) (hy:ys[0]?=some (.agg [.int .i64 d,.list 1 [.int .i64 v0]]))
 (hcd:wr .i64 (c - d)=c - d) (hb0:wr .i64 (b0 - 1)=b0 - 1) (hv0:wr .i64 (-v0)=-v0) :
 ∃ w' o' o'2,execL K 85 l85_2 (S85 T s u k k2 len xs ys (.d .nils) 0 [] hp w)=some (.normal,S85 T s u k k2 len xs ys (vv 1) 1 [(15,0,o'),(112,0,o'2),oo [.agg [.int .i64 (c - d),.list 2 [.agg [.int .i64 (-v0),.int .i64 (b0 - 1)]]]]] hp w'):=by
 obtain ⟨⟨rest,ro,hT⟩,hs,hu,hzx,hzy⟩:=h
 obtain ⟨hsl,hs2⟩:=gI hs
 obtain ⟨hul,hu2⟩:=gI hu
 obtain ⟨hxl,hx2⟩:=gI hx
 obtain ⟨hyl,hy2⟩:=gI hy
 simp [S85,u85_2,x85_4,r85_4,x85_5,r85_5,x85_6,r85_6,x85_7,r85_7,x85_8,r85_8,x85_9,r85_9,x85_10,r85_10,x85_11,r85_11,x85_12,r85_12,x85_13,r85_13,x85_14,r85_14,x85_15,r85_15,x85_16,r85_16,x85_17,r85_17,x85_18,r85_18,execL_loop,u85_0,u85_1,hi,hT,hs,hu,hs2,hu2,hsl,hul,hx,hy,hx2,hy2,hxl,hyl,encS,hzx,hzy,hcd,w0,w1,w2,w3,hb0,hv0]
theorem it85_0_2_0 {T s u w:Nat} {k k2 len c d v0 b0 v1 b1:Int} {xs ys all:List D} {x y:Stp} {hp:List O} {o o2:O} {e0:D} (hi:0 < len) (h:G85 hp T s u all x y .nils (.list 1 [.int .i64 b0,.int .i64 b1]))
 (hx:xs[0]?=some (.agg [.int .i64 c,.list 1 []])) (hy:ys[0]?=some (.agg [.int .i64 d,.list 1 [.int .i64 v0,.int .i64 v1]]))
 (hcd:wr .i64 (c - d)=c - d) (hb0:wr .i64 (b0 - 1)=b0 - 1) (hv0:wr .i64 (-v0)=-v0) (hb1:wr .i64 (b1 - 1)=b1 - 1) (hv1:wr .i64 (-v1)=-v1) :
 ∃ w' o' o'2,execL K 85 l85_2 (S85 T s u k k2 len xs ys (.d .nils) 0 [] hp w)=some (.normal,S85 T s u k k2 len xs ys (vv 1) 1 [(15,0,o'),(112,0,o'2),oo [.agg [.int .i64 (c - d),.list 2 [.agg [.int .i64 (-v0),.int .i64 (b0 - 1)],.agg [.int .i64 (-v1),.int .i64 (b1 - 1)]]]]] hp w'):=by
 obtain ⟨⟨rest,ro,hT⟩,hs,hu,hzx,hzy⟩:=h
 obtain ⟨hsl,hs2⟩:=gI hs
 obtain ⟨hul,hu2⟩:=gI hu
 obtain ⟨hxl,hx2⟩:=gI hx
 obtain ⟨hyl,hy2⟩:=gI hy
 simp [S85,u85_2,x85_4,r85_4,x85_5,r85_5,x85_6,r85_6,x85_7,r85_7,x85_8,r85_8,x85_9,r85_9,x85_10,r85_10,x85_11,r85_11,x85_12,r85_12,x85_13,r85_13,x85_14,r85_14,x85_15,r85_15,x85_16,r85_16,x85_17,r85_17,x85_18,r85_18,execL_loop,u85_0,u85_1,hi,hT,hs,hu,hs2,hu2,hsl,hul,hx,hy,hx2,hy2,hxl,hyl,encS,hzx,hzy,hcd,w0,w1,w2,w3,hb0,hv0,hb1,hv1]
theorem it85_0_0_1 {T s u w:Nat} {k k2 len c d :Int} {xs ys all:List D} {x y:Stp} {hp:List O} {o o2:O} {e0 q1 q2:D} (hi:1 < len) (h:G85 hp T s u all x y .nils .nils)
 (hx:xs[1]?=some (.agg [.int .i64 c,.list 1 []])) (hy:ys[1]?=some (.agg [.int .i64 d,.list 1 []]))
 (hcd:wr .i64 (c - d)=c - d) (hcell:D.cells e0=[q1,q2]) :
 ∃ w' o',execL K 85 l85_2 (S85 T s u k k2 len xs ys (vv 1) 1 [(15,0,o),oo [e0]] hp w)=some (.normal,S85 T s u k k2 len xs ys (vv 2) 2 [(15,1,o'),oo [e0,.agg [.int .i64 (c - d),.nils]]] hp w'):=by
 obtain ⟨⟨rest,ro,hT⟩,hs,hu,hzx,hzy⟩:=h
 obtain ⟨hsl,hs2⟩:=gI hs
 obtain ⟨hul,hu2⟩:=gI hu
 obtain ⟨hxl,hx2⟩:=gI hx
 obtain ⟨hyl,hy2⟩:=gI hy
 simp only [D.cells] at hcell
 simp [S85,u85_2,x85_4,r85_4,x85_5,r85_5,x85_6,r85_6,x85_7,r85_7,x85_8,r85_8,x85_9,r85_9,x85_10,r85_10,x85_11,r85_11,x85_12,r85_12,x85_13,r85_13,x85_14,r85_14,x85_15,r85_15,x85_16,r85_16,x85_17,r85_17,x85_18,r85_18,execL_loop,u85_0,u85_1,hi,hT,hs,hu,hs2,hu2,hsl,hul,hx,hy,hx2,hy2,hxl,hyl,encS,hzx,hzy,hcd,w0,w1,w2,w3,hcell]
theorem it85_0_1_1 {T s u w:Nat} {k k2 len c d v0 b0:Int} {xs ys all:List D} {x y:Stp} {hp:List O} {o o2:O} {e0 q1 q2:D} (hi:1 < len) (h:G85 hp T s u all x y .nils (.list 1 [.int .i64 b0]))
 (hx:xs[1]?=some (.agg [.int .i64 c,.list 1 []])) (hy:ys[1]?=some (.agg [.int .i64 d,.list 1 [.int .i64 v0]]))
 (hcd:wr .i64 (c - d)=c - d) (hb0:wr .i64 (b0 - 1)=b0 - 1) (hv0:wr .i64 (-v0)=-v0) (hcell:D.cells e0=[q1,q2]) :
 ∃ w' o' o'2,execL K 85 l85_2 (S85 T s u k k2 len xs ys (vv 1) 1 [(15,0,o),(112,0,o2),oo [e0]] hp w)=some (.normal,S85 T s u k k2 len xs ys (vv 2) 2 [(15,1,o'),(112,1,o'2),oo [e0,.agg [.int .i64 (c - d),.list 2 [.agg [.int .i64 (-v0),.int .i64 (b0 - 1)]]]]] hp w'):=by
 obtain ⟨⟨rest,ro,hT⟩,hs,hu,hzx,hzy⟩:=h
 obtain ⟨hsl,hs2⟩:=gI hs
 obtain ⟨hul,hu2⟩:=gI hu
 obtain ⟨hxl,hx2⟩:=gI hx
 obtain ⟨hyl,hy2⟩:=gI hy
 simp only [D.cells] at hcell
 simp [S85,u85_2,x85_4,r85_4,x85_5,r85_5,x85_6,r85_6,x85_7,r85_7,x85_8,r85_8,x85_9,r85_9,x85_10,r85_10,x85_11,r85_11,x85_12,r85_12,x85_13,r85_13,x85_14,r85_14,x85_15,r85_15,x85_16,r85_16,x85_17,r85_17,x85_18,r85_18,execL_loop,u85_0,u85_1,hi,hT,hs,hu,hs2,hu2,hsl,hul,hx,hy,hx2,hy2,hxl,hyl,encS,hzx,hzy,hcd,w0,w1,w2,w3,hb0,hv0,hcell]
theorem it85_0_2_1 {T s u w:Nat} {k k2 len c d v0 b0 v1 b1:Int} {xs ys all:List D} {x y:Stp} {hp:List O} {o o2:O} {e0 q1 q2:D} (hi:1 < len) (h:G85 hp T s u all x y .nils (.list 1 [.int .i64 b0,.int .i64 b1]))
 (hx:xs[1]?=some (.agg [.int .i64 c,.list 1 []])) (hy:ys[1]?=some (.agg [.int .i64 d,.list 1 [.int .i64 v0,.int .i64 v1]]))
 (hcd:wr .i64 (c - d)=c - d) (hb0:wr .i64 (b0 - 1)=b0 - 1) (hv0:wr .i64 (-v0)=-v0) (hb1:wr .i64 (b1 - 1)=b1 - 1) (hv1:wr .i64 (-v1)=-v1) (hcell:D.cells e0=[q1,q2]) :
 ∃ w' o' o'2,execL K 85 l85_2 (S85 T s u k k2 len xs ys (vv 1) 1 [(15,0,o),(112,0,o2),oo [e0]] hp w)=some (.normal,S85 T s u k k2 len xs ys (vv 2) 2 [(15,1,o'),(112,1,o'2),oo [e0,.agg [.int .i64 (c - d),.list 2 [.agg [.int .i64 (-v0),.int .i64 (b0 - 1)],.agg [.int .i64 (-v1),.int .i64 (b1 - 1)]]]]] hp w'):=by
 obtain ⟨⟨rest,ro,hT⟩,hs,hu,hzx,hzy⟩:=h
 obtain ⟨hsl,hs2⟩:=gI hs
 obtain ⟨hul,hu2⟩:=gI hu
 obtain ⟨hxl,hx2⟩:=gI hx
 obtain ⟨hyl,hy2⟩:=gI hy
 simp only [D.cells] at hcell
 simp [S85,u85_2,x85_4,r85_4,x85_5,r85_5,x85_6,r85_6,x85_7,r85_7,x85_8,r85_8,x85_9,r85_9,x85_10,r85_10,x85_11,r85_11,x85_12,r85_12,x85_13,r85_13,x85_14,r85_14,x85_15,r85_15,x85_16,r85_16,x85_17,r85_17,x85_18,r85_18,execL_loop,u85_0,u85_1,hi,hT,hs,hu,hs2,hu2,hsl,hul,hx,hy,hx2,hy2,hxl,hyl,encS,hzx,hzy,hcd,w0,w1,w2,w3,hb0,hv0,hb1,hv1,hcell]
theorem it85_1_0_0 {T s u w:Nat} {k k2 len c d u0 a0:Int} {xs ys all:List D} {x y:Stp} {hp:List O} {o o2:O} {e0:D} (hi:0 < len) (h:G85 hp T s u all x y (.list 1 [.int .i64 a0]) .nils)
 (hx:xs[0]?=some (.agg [.int .i64 c,.list 1 [.int .i64 u0]])) (hy:ys[0]?=some (.agg [.int .i64 d,.list 1 []]))
 (hcd:wr .i64 (c - d)=c - d) (ha0:wr .i64 (a0 - 1)=a0 - 1) :
 ∃ w' o' o'2,execL K 85 l85_2 (S85 T s u k k2 len xs ys (.d .nils) 0 [] hp w)=some (.normal,S85 T s u k k2 len xs ys (vv 1) 1 [(15,0,o'),(78,0,o'2),oo [.agg [.int .i64 (c - d),.list 2 [.agg [.int .i64 u0,.int .i64 (a0 - 1)]]]]] hp w'):=by
 obtain ⟨⟨rest,ro,hT⟩,hs,hu,hzx,hzy⟩:=h
 obtain ⟨hsl,hs2⟩:=gI hs
 obtain ⟨hul,hu2⟩:=gI hu
 obtain ⟨hxl,hx2⟩:=gI hx
 obtain ⟨hyl,hy2⟩:=gI hy
 simp [S85,u85_2,x85_4,r85_4,x85_5,r85_5,x85_6,r85_6,x85_7,r85_7,x85_8,r85_8,x85_9,r85_9,x85_10,r85_10,x85_11,r85_11,x85_12,r85_12,x85_13,r85_13,x85_14,r85_14,x85_15,r85_15,x85_16,r85_16,x85_17,r85_17,x85_18,r85_18,execL_loop,u85_0,u85_1,hi,hT,hs,hu,hs2,hu2,hsl,hul,hx,hy,hx2,hy2,hxl,hyl,encS,hzx,hzy,hcd,w0,w1,w2,w3,ha0]
theorem it85_1_1_0 {T s u w:Nat} {k k2 len c d u0 a0 v0 b0:Int} {xs ys all:List D} {x y:Stp} {hp:List O} {o o2:O} {e0:D} (hi:0 < len) (h:G85 hp T s u all x y (.list 1 [.int .i64 a0]) (.list 1 [.int .i64 b0]))
 (hx:xs[0]?=some (.agg [.int .i64 c,.list 1 [.int .i64 u0]])) (hy:ys[0]?=some (.agg [.int .i64 d,.list 1 [.int .i64 v0]]))
 (hcd:wr .i64 (c - d)=c - d) (ha0:wr .i64 (a0 - 1)=a0 - 1) (hb0:wr .i64 (b0 - 1)=b0 - 1) (hv0:wr .i64 (-v0)=-v0) :
 ∃ w' o' o'2,execL K 85 l85_2 (S85 T s u k k2 len xs ys (.d .nils) 0 [] hp w)=some (.normal,S85 T s u k k2 len xs ys (vv 1) 1 [(15,0,o'),(78,0,o'2),oo [.agg [.int .i64 (c - d),.list 2 [.agg [.int .i64 u0,.int .i64 (a0 - 1)],.agg [.int .i64 (-v0),.int .i64 (b0 - 1)]]]]] hp w'):=by
 obtain ⟨⟨rest,ro,hT⟩,hs,hu,hzx,hzy⟩:=h
 obtain ⟨hsl,hs2⟩:=gI hs
 obtain ⟨hul,hu2⟩:=gI hu
 obtain ⟨hxl,hx2⟩:=gI hx
 obtain ⟨hyl,hy2⟩:=gI hy
 simp [S85,u85_2,x85_4,r85_4,x85_5,r85_5,x85_6,r85_6,x85_7,r85_7,x85_8,r85_8,x85_9,r85_9,x85_10,r85_10,x85_11,r85_11,x85_12,r85_12,x85_13,r85_13,x85_14,r85_14,x85_15,r85_15,x85_16,r85_16,x85_17,r85_17,x85_18,r85_18,execL_loop,u85_0,u85_1,hi,hT,hs,hu,hs2,hu2,hsl,hul,hx,hy,hx2,hy2,hxl,hyl,encS,hzx,hzy,hcd,w0,w1,w2,w3,ha0,hb0,hv0]
theorem it85_1_2_0 {T s u w:Nat} {k k2 len c d u0 a0 v0 b0 v1 b1:Int} {xs ys all:List D} {x y:Stp} {hp:List O} {o o2:O} {e0:D} (hi:0 < len) (h:G85 hp T s u all x y (.list 1 [.int .i64 a0]) (.list 1 [.int .i64 b0,.int .i64 b1]))
 (hx:xs[0]?=some (.agg [.int .i64 c,.list 1 [.int .i64 u0]])) (hy:ys[0]?=some (.agg [.int .i64 d,.list 1 [.int .i64 v0,.int .i64 v1]]))
 (hcd:wr .i64 (c - d)=c - d) (ha0:wr .i64 (a0 - 1)=a0 - 1) (hb0:wr .i64 (b0 - 1)=b0 - 1) (hv0:wr .i64 (-v0)=-v0) (hb1:wr .i64 (b1 - 1)=b1 - 1) (hv1:wr .i64 (-v1)=-v1) :
 ∃ w' o' o'2,execL K 85 l85_2 (S85 T s u k k2 len xs ys (.d .nils) 0 [] hp w)=some (.normal,S85 T s u k k2 len xs ys (vv 1) 1 [(15,0,o'),(78,0,o'2),oo [.agg [.int .i64 (c - d),.list 2 [.agg [.int .i64 u0,.int .i64 (a0 - 1)],.agg [.int .i64 (-v0),.int .i64 (b0 - 1)],.agg [.int .i64 (-v1),.int .i64 (b1 - 1)]]]]] hp w'):=by
 obtain ⟨⟨rest,ro,hT⟩,hs,hu,hzx,hzy⟩:=h
 obtain ⟨hsl,hs2⟩:=gI hs
 obtain ⟨hul,hu2⟩:=gI hu
 obtain ⟨hxl,hx2⟩:=gI hx
 obtain ⟨hyl,hy2⟩:=gI hy
 simp [S85,u85_2,x85_4,r85_4,x85_5,r85_5,x85_6,r85_6,x85_7,r85_7,x85_8,r85_8,x85_9,r85_9,x85_10,r85_10,x85_11,r85_11,x85_12,r85_12,x85_13,r85_13,x85_14,r85_14,x85_15,r85_15,x85_16,r85_16,x85_17,r85_17,x85_18,r85_18,execL_loop,u85_0,u85_1,hi,hT,hs,hu,hs2,hu2,hsl,hul,hx,hy,hx2,hy2,hxl,hyl,encS,hzx,hzy,hcd,w0,w1,w2,w3,ha0,hb0,hv0,hb1,hv1]
theorem it85_1_0_1 {T s u w:Nat} {k k2 len c d u0 a0:Int} {xs ys all:List D} {x y:Stp} {hp:List O} {o o2:O} {e0 q1 q2:D} (hi:1 < len) (h:G85 hp T s u all x y (.list 1 [.int .i64 a0]) .nils)
 (hx:xs[1]?=some (.agg [.int .i64 c,.list 1 [.int .i64 u0]])) (hy:ys[1]?=some (.agg [.int .i64 d,.list 1 []]))
 (hcd:wr .i64 (c - d)=c - d) (ha0:wr .i64 (a0 - 1)=a0 - 1) (hcell:D.cells e0=[q1,q2]) :
 ∃ w' o' o'2,execL K 85 l85_2 (S85 T s u k k2 len xs ys (vv 1) 1 [(15,0,o),(78,0,o2),oo [e0]] hp w)=some (.normal,S85 T s u k k2 len xs ys (vv 2) 2 [(15,1,o'),(78,1,o'2),oo [e0,.agg [.int .i64 (c - d),.list 2 [.agg [.int .i64 u0,.int .i64 (a0 - 1)]]]]] hp w'):=by
 obtain ⟨⟨rest,ro,hT⟩,hs,hu,hzx,hzy⟩:=h
 obtain ⟨hsl,hs2⟩:=gI hs
 obtain ⟨hul,hu2⟩:=gI hu
 obtain ⟨hxl,hx2⟩:=gI hx
 obtain ⟨hyl,hy2⟩:=gI hy
 simp only [D.cells] at hcell
 simp [S85,u85_2,x85_4,r85_4,x85_5,r85_5,x85_6,r85_6,x85_7,r85_7,x85_8,r85_8,x85_9,r85_9,x85_10,r85_10,x85_11,r85_11,x85_12,r85_12,x85_13,r85_13,x85_14,r85_14,x85_15,r85_15,x85_16,r85_16,x85_17,r85_17,x85_18,r85_18,execL_loop,u85_0,u85_1,hi,hT,hs,hu,hs2,hu2,hsl,hul,hx,hy,hx2,hy2,hxl,hyl,encS,hzx,hzy,hcd,w0,w1,w2,w3,ha0,hcell]
theorem it85_1_1_1 {T s u w:Nat} {k k2 len c d u0 a0 v0 b0:Int} {xs ys all:List D} {x y:Stp} {hp:List O} {o o2:O} {e0 q1 q2:D} (hi:1 < len) (h:G85 hp T s u all x y (.list 1 [.int .i64 a0]) (.list 1 [.int .i64 b0]))
 (hx:xs[1]?=some (.agg [.int .i64 c,.list 1 [.int .i64 u0]])) (hy:ys[1]?=some (.agg [.int .i64 d,.list 1 [.int .i64 v0]]))
 (hcd:wr .i64 (c - d)=c - d) (ha0:wr .i64 (a0 - 1)=a0 - 1) (hb0:wr .i64 (b0 - 1)=b0 - 1) (hv0:wr .i64 (-v0)=-v0) (hcell:D.cells e0=[q1,q2]) :
 ∃ w' o' o'2,execL K 85 l85_2 (S85 T s u k k2 len xs ys (vv 1) 1 [(15,0,o),(78,0,o2),oo [e0]] hp w)=some (.normal,S85 T s u k k2 len xs ys (vv 2) 2 [(15,1,o'),(78,1,o'2),oo [e0,.agg [.int .i64 (c - d),.list 2 [.agg [.int .i64 u0,.int .i64 (a0 - 1)],.agg [.int .i64 (-v0),.int .i64 (b0 - 1)]]]]] hp w'):=by
 obtain ⟨⟨rest,ro,hT⟩,hs,hu,hzx,hzy⟩:=h
 obtain ⟨hsl,hs2⟩:=gI hs
 obtain ⟨hul,hu2⟩:=gI hu
 obtain ⟨hxl,hx2⟩:=gI hx
 obtain ⟨hyl,hy2⟩:=gI hy
 simp only [D.cells] at hcell
 simp [S85,u85_2,x85_4,r85_4,x85_5,r85_5,x85_6,r85_6,x85_7,r85_7,x85_8,r85_8,x85_9,r85_9,x85_10,r85_10,x85_11,r85_11,x85_12,r85_12,x85_13,r85_13,x85_14,r85_14,x85_15,r85_15,x85_16,r85_16,x85_17,r85_17,x85_18,r85_18,execL_loop,u85_0,u85_1,hi,hT,hs,hu,hs2,hu2,hsl,hul,hx,hy,hx2,hy2,hxl,hyl,encS,hzx,hzy,hcd,w0,w1,w2,w3,ha0,hb0,hv0,hcell]
theorem it85_1_2_1 {T s u w:Nat} {k k2 len c d u0 a0 v0 b0 v1 b1:Int} {xs ys all:List D} {x y:Stp} {hp:List O} {o o2:O} {e0 q1 q2:D} (hi:1 < len) (h:G85 hp T s u all x y (.list 1 [.int .i64 a0]) (.list 1 [.int .i64 b0,.int .i64 b1]))
 (hx:xs[1]?=some (.agg [.int .i64 c,.list 1 [.int .i64 u0]])) (hy:ys[1]?=some (.agg [.int .i64 d,.list 1 [.int .i64 v0,.int .i64 v1]]))
 (hcd:wr .i64 (c - d)=c - d) (ha0:wr .i64 (a0 - 1)=a0 - 1) (hb0:wr .i64 (b0 - 1)=b0 - 1) (hv0:wr .i64 (-v0)=-v0) (hb1:wr .i64 (b1 - 1)=b1 - 1) (hv1:wr .i64 (-v1)=-v1) (hcell:D.cells e0=[q1,q2]) :
 ∃ w' o' o'2,execL K 85 l85_2 (S85 T s u k k2 len xs ys (vv 1) 1 [(15,0,o),(78,0,o2),oo [e0]] hp w)=some (.normal,S85 T s u k k2 len xs ys (vv 2) 2 [(15,1,o'),(78,1,o'2),oo [e0,.agg [.int .i64 (c - d),.list 2 [.agg [.int .i64 u0,.int .i64 (a0 - 1)],.agg [.int .i64 (-v0),.int .i64 (b0 - 1)],.agg [.int .i64 (-v1),.int .i64 (b1 - 1)]]]]] hp w'):=by
 obtain ⟨⟨rest,ro,hT⟩,hs,hu,hzx,hzy⟩:=h
 obtain ⟨hsl,hs2⟩:=gI hs
 obtain ⟨hul,hu2⟩:=gI hu
 obtain ⟨hxl,hx2⟩:=gI hx
 obtain ⟨hyl,hy2⟩:=gI hy
 simp only [D.cells] at hcell
 simp [S85,u85_2,x85_4,r85_4,x85_5,r85_5,x85_6,r85_6,x85_7,r85_7,x85_8,r85_8,x85_9,r85_9,x85_10,r85_10,x85_11,r85_11,x85_12,r85_12,x85_13,r85_13,x85_14,r85_14,x85_15,r85_15,x85_16,r85_16,x85_17,r85_17,x85_18,r85_18,execL_loop,u85_0,u85_1,hi,hT,hs,hu,hs2,hu2,hsl,hul,hx,hy,hx2,hy2,hxl,hyl,encS,hzx,hzy,hcd,w0,w1,w2,w3,ha0,hb0,hv0,hb1,hv1,hcell]
theorem it85_2_0_0 {T s u w:Nat} {k k2 len c d u0 a0 u1 a1:Int} {xs ys all:List D} {x y:Stp} {hp:List O} {o o2:O} {e0:D} (hi:0 < len) (h:G85 hp T s u all x y (.list 1 [.int .i64 a0,.int .i64 a1]) .nils)
 (hx:xs[0]?=some (.agg [.int .i64 c,.list 1 [.int .i64 u0,.int .i64 u1]])) (hy:ys[0]?=some (.agg [.int .i64 d,.list 1 []]))
 (hcd:wr .i64 (c - d)=c - d) (ha0:wr .i64 (a0 - 1)=a0 - 1) (ha1:wr .i64 (a1 - 1)=a1 - 1) :
 ∃ w' o' o'2,execL K 85 l85_2 (S85 T s u k k2 len xs ys (.d .nils) 0 [] hp w)=some (.normal,S85 T s u k k2 len xs ys (vv 1) 1 [(15,0,o'),(78,0,o'2),oo [.agg [.int .i64 (c - d),.list 2 [.agg [.int .i64 u0,.int .i64 (a0 - 1)],.agg [.int .i64 u1,.int .i64 (a1 - 1)]]]]] hp w'):=by
 obtain ⟨⟨rest,ro,hT⟩,hs,hu,hzx,hzy⟩:=h
 obtain ⟨hsl,hs2⟩:=gI hs
 obtain ⟨hul,hu2⟩:=gI hu
 obtain ⟨hxl,hx2⟩:=gI hx
 obtain ⟨hyl,hy2⟩:=gI hy
 simp [S85,u85_2,x85_4,r85_4,x85_5,r85_5,x85_6,r85_6,x85_7,r85_7,x85_8,r85_8,x85_9,r85_9,x85_10,r85_10,x85_11,r85_11,x85_12,r85_12,x85_13,r85_13,x85_14,r85_14,x85_15,r85_15,x85_16,r85_16,x85_17,r85_17,x85_18,r85_18,execL_loop,u85_0,u85_1,hi,hT,hs,hu,hs2,hu2,hsl,hul,hx,hy,hx2,hy2,hxl,hyl,encS,hzx,hzy,hcd,w0,w1,w2,w3,ha0,ha1]
theorem it85_2_1_0 {T s u w:Nat} {k k2 len c d u0 a0 u1 a1 v0 b0:Int} {xs ys all:List D} {x y:Stp} {hp:List O} {o o2:O} {e0:D} (hi:0 < len) (h:G85 hp T s u all x y (.list 1 [.int .i64 a0,.int .i64 a1]) (.list 1 [.int .i64 b0]))
 (hx:xs[0]?=some (.agg [.int .i64 c,.list 1 [.int .i64 u0,.int .i64 u1]])) (hy:ys[0]?=some (.agg [.int .i64 d,.list 1 [.int .i64 v0]]))
 (hcd:wr .i64 (c - d)=c - d) (ha0:wr .i64 (a0 - 1)=a0 - 1) (ha1:wr .i64 (a1 - 1)=a1 - 1) (hb0:wr .i64 (b0 - 1)=b0 - 1) (hv0:wr .i64 (-v0)=-v0) :
 ∃ w' o' o'2,execL K 85 l85_2 (S85 T s u k k2 len xs ys (.d .nils) 0 [] hp w)=some (.normal,S85 T s u k k2 len xs ys (vv 1) 1 [(15,0,o'),(78,0,o'2),oo [.agg [.int .i64 (c - d),.list 2 [.agg [.int .i64 u0,.int .i64 (a0 - 1)],.agg [.int .i64 u1,.int .i64 (a1 - 1)],.agg [.int .i64 (-v0),.int .i64 (b0 - 1)]]]]] hp w'):=by
 obtain ⟨⟨rest,ro,hT⟩,hs,hu,hzx,hzy⟩:=h
 obtain ⟨hsl,hs2⟩:=gI hs
 obtain ⟨hul,hu2⟩:=gI hu
 obtain ⟨hxl,hx2⟩:=gI hx
 obtain ⟨hyl,hy2⟩:=gI hy
 simp [S85,u85_2,x85_4,r85_4,x85_5,r85_5,x85_6,r85_6,x85_7,r85_7,x85_8,r85_8,x85_9,r85_9,x85_10,r85_10,x85_11,r85_11,x85_12,r85_12,x85_13,r85_13,x85_14,r85_14,x85_15,r85_15,x85_16,r85_16,x85_17,r85_17,x85_18,r85_18,execL_loop,u85_0,u85_1,hi,hT,hs,hu,hs2,hu2,hsl,hul,hx,hy,hx2,hy2,hxl,hyl,encS,hzx,hzy,hcd,w0,w1,w2,w3,ha0,ha1,hb0,hv0]
theorem it85_2_2_0 {T s u w:Nat} {k k2 len c d u0 a0 u1 a1 v0 b0 v1 b1:Int} {xs ys all:List D} {x y:Stp} {hp:List O} {o o2:O} {e0:D} (hi:0 < len) (h:G85 hp T s u all x y (.list 1 [.int .i64 a0,.int .i64 a1]) (.list 1 [.int .i64 b0,.int .i64 b1]))
 (hx:xs[0]?=some (.agg [.int .i64 c,.list 1 [.int .i64 u0,.int .i64 u1]])) (hy:ys[0]?=some (.agg [.int .i64 d,.list 1 [.int .i64 v0,.int .i64 v1]]))
 (hcd:wr .i64 (c - d)=c - d) (ha0:wr .i64 (a0 - 1)=a0 - 1) (ha1:wr .i64 (a1 - 1)=a1 - 1) (hb0:wr .i64 (b0 - 1)=b0 - 1) (hv0:wr .i64 (-v0)=-v0) (hb1:wr .i64 (b1 - 1)=b1 - 1) (hv1:wr .i64 (-v1)=-v1) :
 ∃ w' o' o'2,execL K 85 l85_2 (S85 T s u k k2 len xs ys (.d .nils) 0 [] hp w)=some (.normal,S85 T s u k k2 len xs ys (vv 1) 1 [(15,0,o'),(78,0,o'2),oo [.agg [.int .i64 (c - d),.list 2 [.agg [.int .i64 u0,.int .i64 (a0 - 1)],.agg [.int .i64 u1,.int .i64 (a1 - 1)],.agg [.int .i64 (-v0),.int .i64 (b0 - 1)],.agg [.int .i64 (-v1),.int .i64 (b1 - 1)]]]]] hp w'):=by
 obtain ⟨⟨rest,ro,hT⟩,hs,hu,hzx,hzy⟩:=h
 obtain ⟨hsl,hs2⟩:=gI hs
 obtain ⟨hul,hu2⟩:=gI hu
 obtain ⟨hxl,hx2⟩:=gI hx
 obtain ⟨hyl,hy2⟩:=gI hy
 simp [S85,u85_2,x85_4,r85_4,x85_5,r85_5,x85_6,r85_6,x85_7,r85_7,x85_8,r85_8,x85_9,r85_9,x85_10,r85_10,x85_11,r85_11,x85_12,r85_12,x85_13,r85_13,x85_14,r85_14,x85_15,r85_15,x85_16,r85_16,x85_17,r85_17,x85_18,r85_18,execL_loop,u85_0,u85_1,hi,hT,hs,hu,hs2,hu2,hsl,hul,hx,hy,hx2,hy2,hxl,hyl,encS,hzx,hzy,hcd,w0,w1,w2,w3,ha0,ha1,hb0,hv0,hb1,hv1]
theorem it85_2_0_1 {T s u w:Nat} {k k2 len c d u0 a0 u1 a1:Int} {xs ys all:List D} {x y:Stp} {hp:List O} {o o2:O} {e0 q1 q2:D} (hi:1 < len) (h:G85 hp T s u all x y (.list 1 [.int .i64 a0,.int .i64 a1]) .nils)
 (hx:xs[1]?=some (.agg [.int .i64 c,.list 1 [.int .i64 u0,.int .i64 u1]])) (hy:ys[1]?=some (.agg [.int .i64 d,.list 1 []]))
 (hcd:wr .i64 (c - d)=c - d) (ha0:wr .i64 (a0 - 1)=a0 - 1) (ha1:wr .i64 (a1 - 1)=a1 - 1) (hcell:D.cells e0=[q1,q2]) :
 ∃ w' o' o'2,execL K 85 l85_2 (S85 T s u k k2 len xs ys (vv 1) 1 [(15,0,o),(78,0,o2),oo [e0]] hp w)=some (.normal,S85 T s u k k2 len xs ys (vv 2) 2 [(15,1,o'),(78,1,o'2),oo [e0,.agg [.int .i64 (c - d),.list 2 [.agg [.int .i64 u0,.int .i64 (a0 - 1)],.agg [.int .i64 u1,.int .i64 (a1 - 1)]]]]] hp w'):=by
 obtain ⟨⟨rest,ro,hT⟩,hs,hu,hzx,hzy⟩:=h
 obtain ⟨hsl,hs2⟩:=gI hs
 obtain ⟨hul,hu2⟩:=gI hu
 obtain ⟨hxl,hx2⟩:=gI hx
 obtain ⟨hyl,hy2⟩:=gI hy
 simp only [D.cells] at hcell
 simp [S85,u85_2,x85_4,r85_4,x85_5,r85_5,x85_6,r85_6,x85_7,r85_7,x85_8,r85_8,x85_9,r85_9,x85_10,r85_10,x85_11,r85_11,x85_12,r85_12,x85_13,r85_13,x85_14,r85_14,x85_15,r85_15,x85_16,r85_16,x85_17,r85_17,x85_18,r85_18,execL_loop,u85_0,u85_1,hi,hT,hs,hu,hs2,hu2,hsl,hul,hx,hy,hx2,hy2,hxl,hyl,encS,hzx,hzy,hcd,w0,w1,w2,w3,ha0,ha1,hcell]
theorem it85_2_1_1 {T s u w:Nat} {k k2 len c d u0 a0 u1 a1 v0 b0:Int} {xs ys all:List D} {x y:Stp} {hp:List O} {o o2:O} {e0 q1 q2:D} (hi:1 < len) (h:G85 hp T s u all x y (.list 1 [.int .i64 a0,.int .i64 a1]) (.list 1 [.int .i64 b0]))
 (hx:xs[1]?=some (.agg [.int .i64 c,.list 1 [.int .i64 u0,.int .i64 u1]])) (hy:ys[1]?=some (.agg [.int .i64 d,.list 1 [.int .i64 v0]]))
 (hcd:wr .i64 (c - d)=c - d) (ha0:wr .i64 (a0 - 1)=a0 - 1) (ha1:wr .i64 (a1 - 1)=a1 - 1) (hb0:wr .i64 (b0 - 1)=b0 - 1) (hv0:wr .i64 (-v0)=-v0) (hcell:D.cells e0=[q1,q2]) :
 ∃ w' o' o'2,execL K 85 l85_2 (S85 T s u k k2 len xs ys (vv 1) 1 [(15,0,o),(78,0,o2),oo [e0]] hp w)=some (.normal,S85 T s u k k2 len xs ys (vv 2) 2 [(15,1,o'),(78,1,o'2),oo [e0,.agg [.int .i64 (c - d),.list 2 [.agg [.int .i64 u0,.int .i64 (a0 - 1)],.agg [.int .i64 u1,.int .i64 (a1 - 1)],.agg [.int .i64 (-v0),.int .i64 (b0 - 1)]]]]] hp w'):=by
 obtain ⟨⟨rest,ro,hT⟩,hs,hu,hzx,hzy⟩:=h
 obtain ⟨hsl,hs2⟩:=gI hs
 obtain ⟨hul,hu2⟩:=gI hu
 obtain ⟨hxl,hx2⟩:=gI hx
 obtain ⟨hyl,hy2⟩:=gI hy
 simp only [D.cells] at hcell
 simp [S85,u85_2,x85_4,r85_4,x85_5,r85_5,x85_6,r85_6,x85_7,r85_7,x85_8,r85_8,x85_9,r85_9,x85_10,r85_10,x85_11,r85_11,x85_12,r85_12,x85_13,r85_13,x85_14,r85_14,x85_15,r85_15,x85_16,r85_16,x85_17,r85_17,x85_18,r85_18,execL_loop,u85_0,u85_1,hi,hT,hs,hu,hs2,hu2,hsl,hul,hx,hy,hx2,hy2,hxl,hyl,encS,hzx,hzy,hcd,w0,w1,w2,w3,ha0,ha1,hb0,hv0,hcell]
theorem it85_2_2_1 {T s u w:Nat} {k k2 len c d u0 a0 u1 a1 v0 b0 v1 b1:Int} {xs ys all:List D} {x y:Stp} {hp:List O} {o o2:O} {e0 q1 q2:D} (hi:1 < len) (h:G85 hp T s u all x y (.list 1 [.int .i64 a0,.int .i64 a1]) (.list 1 [.int .i64 b0,.int .i64 b1]))
 (hx:xs[1]?=some (.agg [.int .i64 c,.list 1 [.int .i64 u0,.int .i64 u1]])) (hy:ys[1]?=some (.agg [.int .i64 d,.list 1 [.int .i64 v0,.int .i64 v1]]))
 (hcd:wr .i64 (c - d)=c - d) (ha0:wr .i64 (a0 - 1)=a0 - 1) (ha1:wr .i64 (a1 - 1)=a1 - 1) (hb0:wr .i64 (b0 - 1)=b0 - 1) (hv0:wr .i64 (-v0)=-v0) (hb1:wr .i64 (b1 - 1)=b1 - 1) (hv1:wr .i64 (-v1)=-v1) (hcell:D.cells e0=[q1,q2]) :
 ∃ w' o' o'2,execL K 85 l85_2 (S85 T s u k k2 len xs ys (vv 1) 1 [(15,0,o),(78,0,o2),oo [e0]] hp w)=some (.normal,S85 T s u k k2 len xs ys (vv 2) 2 [(15,1,o'),(78,1,o'2),oo [e0,.agg [.int .i64 (c - d),.list 2 [.agg [.int .i64 u0,.int .i64 (a0 - 1)],.agg [.int .i64 u1,.int .i64 (a1 - 1)],.agg [.int .i64 (-v0),.int .i64 (b0 - 1)],.agg [.int .i64 (-v1),.int .i64 (b1 - 1)]]]]] hp w'):=by
 obtain ⟨⟨rest,ro,hT⟩,hs,hu,hzx,hzy⟩:=h
 obtain ⟨hsl,hs2⟩:=gI hs
 obtain ⟨hul,hu2⟩:=gI hu
 obtain ⟨hxl,hx2⟩:=gI hx
 obtain ⟨hyl,hy2⟩:=gI hy
 simp only [D.cells] at hcell
 simp [S85,u85_2,x85_4,r85_4,x85_5,r85_5,x85_6,r85_6,x85_7,r85_7,x85_8,r85_8,x85_9,r85_9,x85_10,r85_10,x85_11,r85_11,x85_12,r85_12,x85_13,r85_13,x85_14,r85_14,x85_15,r85_15,x85_16,r85_16,x85_17,r85_17,x85_18,r85_18,execL_loop,u85_0,u85_1,hi,hT,hs,hu,hs2,hu2,hsl,hul,hx,hy,hx2,hy2,hxl,hyl,encS,hzx,hzy,hcd,w0,w1,w2,w3,ha0,ha1,hb0,hv0,hb1,hv1,hcell]
theorem rem_p1 (a:Int):binInt .rem .i64 a 1=some (.int .i64 0):=by simp [binInt]
theorem rem_m1 (a:Int):binInt .rem .i64 a (-1)=some (.int .i64 0):=by simp [binInt]
theorem s151_0_0 (hp:List O):callL K (.fn (.func 151) [] []) [.d (.int .i64 0),.d (.int .i64 (0))] none hp=some (.ret (.d (.int .i64 0)),false,hp,0):=by
 have w2:wr .i64 (-1)=-1:=wrap_id (by omega) (by omega)
 rw [k151]
 simp [c151,x151_0,r151_0,x151_1,r151_1,x151_2,r151_2,x151_3,r151_3,execL_loop,u151_0,rem_p1,rem_m1,w0,w1,w2,minmax]
theorem s151_0_1 (hp:List O):callL K (.fn (.func 151) [] []) [.d (.int .i64 0),.d (.int .i64 (1))] none hp=some (.ret (.d (.int .i64 1)),false,hp,0):=by
 have w2:wr .i64 (-1)=-1:=wrap_id (by omega) (by omega)
 rw [k151]
 simp [c151,x151_0,r151_0,x151_1,r151_1,x151_2,r151_2,x151_3,r151_3,execL_loop,u151_0,rem_p1,rem_m1,w0,w1,w2,minmax]
theorem s151_0_3 (hp:List O):callL K (.fn (.func 151) [] []) [.d (.int .i64 0),.d (.int .i64 (-1))] none hp=some (.ret (.d (.int .i64 1)),false,hp,0):=by
 have w2:wr .i64 (-1)=-1:=wrap_id (by omega) (by omega)
 rw [k151]
 simp [c151,x151_0,r151_0,x151_1,r151_1,x151_2,r151_2,x151_3,r151_3,execL_loop,u151_0,rem_p1,rem_m1,w0,w1,w2,minmax]
theorem s151_1_0 (hp:List O):callL K (.fn (.func 151) [] []) [.d (.int .i64 1),.d (.int .i64 (0))] none hp=some (.ret (.d (.int .i64 1)),false,hp,0):=by
 have w2:wr .i64 (-1)=-1:=wrap_id (by omega) (by omega)
 rw [k151]
 simp [c151,x151_0,r151_0,x151_1,r151_1,x151_2,r151_2,x151_3,r151_3,execL_loop,u151_0,rem_p1,rem_m1,w0,w1,w2,minmax]
theorem s151_1_1 (hp:List O):callL K (.fn (.func 151) [] []) [.d (.int .i64 1),.d (.int .i64 (1))] none hp=some (.ret (.d (.int .i64 1)),false,hp,0):=by
 have w2:wr .i64 (-1)=-1:=wrap_id (by omega) (by omega)
 rw [k151]
 simp [c151,x151_0,r151_0,x151_1,r151_1,x151_2,r151_2,x151_3,r151_3,execL_loop,u151_0,rem_p1,rem_m1,w0,w1,w2,minmax]
theorem s151_1_3 (hp:List O):callL K (.fn (.func 151) [] []) [.d (.int .i64 1),.d (.int .i64 (-1))] none hp=some (.ret (.d (.int .i64 1)),false,hp,0):=by
 have w2:wr .i64 (-1)=-1:=wrap_id (by omega) (by omega)
 rw [k151]
 simp [c151,x151_0,r151_0,x151_1,r151_1,x151_2,r151_2,x151_3,r151_3,execL_loop,u151_0,rem_p1,rem_m1,w0,w1,w2,minmax]
def gc (d b:Int):Int:=if d=0∧b=0 then 0 else 1
theorem s151 {d b:Int} (hd:d=0∨d=1) (hb:b=0∨b=1∨b=-1) (hp:List O):callL K (.fn (.func 151) [] []) [.d (.int .i64 d),.d (.int .i64 b)] none hp=some (.ret (.d (.int .i64 (gc d b))),false,hp,0):=by
 rcases hd with rfl | rfl<;>rcases hb with rfl | rfl | rfl
 ·exact s151_0_0 hp
 ·exact s151_0_1 hp
 ·exact s151_0_3 hp
 ·exact s151_1_0 hp
 ·exact s151_1_1 hp
 ·exact s151_1_3 hp
theorem gc01 (d b:Int):gc d b=0∨gc d b=1:=by unfold gc; split<;>simp
theorem w86_0 {hp:List O} {c  :Int}
 : ∃ J w,callL K (.fn (.func 86) [] []) [.d (.agg [.int .i64 c,.nils])] none hp=some (.ret (.tuple [.d (.int .i64 0),.d (.bool (decide (0=0∧c≠0)))]),false,hp++J,w):=by
 have e:=k86 [] [] [.d (.agg [.int .i64 c,.nils])] none hp
 by_cases hc:c=0<;>simp [c86,x86_0,r86_0,x86_1,r86_1,x86_2,r86_2,x86_3,r86_3,x86_4,r86_4,x86_5,r86_5,x86_6,r86_6,x86_7,r86_7,x86_8,r86_8,x86_9,r86_9,execL_loop,u86_0,rem_p1,w0,w1,w2,w3,w4,hc] at e<;>exact ⟨[],_,by simpa [hc] using e⟩
theorem w86_1 {hp:List O} {c b0 m0 d1:Int}
 (e0:∀ hp,callL K (.fn (.func 151) [] []) [.d (.int .i64 0),.d (.int .i64 b0)] none hp=some (.ret (.d (.int .i64 d1)),false,hp,0))
 (hd:d1=0∨d1=1)
 : ∃ J w,callL K (.fn (.func 86) [] []) [.d (.agg [.int .i64 c,.list 2 [.agg [.int .i64 b0,.int .i64 m0]]])] none hp=some (.ret (.tuple [.d (.int .i64 d1),.d (.bool (decide (d1=0∧c≠0)))]),false,hp++J,w):=by
 have e:=k86 [] [] [.d (.agg [.int .i64 c,.list 2 [.agg [.int .i64 b0,.int .i64 m0]]])] none hp
 rcases hd with hd | hd
 ·subst hd
  by_cases hc:c=0<;>simp [c86,x86_0,r86_0,x86_1,r86_1,x86_2,r86_2,x86_3,r86_3,x86_4,r86_4,x86_5,r86_5,x86_6,r86_6,x86_7,r86_7,x86_8,r86_8,x86_9,r86_9,execL_loop,u86_0,rem_p1,w0,w1,w2,w3,w4,e0,hc] at e<;>exact ⟨[],_,by simpa [hc] using e⟩
 ·subst hd
  simp [c86,x86_0,r86_0,x86_1,r86_1,x86_2,r86_2,x86_3,r86_3,x86_4,r86_4,x86_5,r86_5,x86_6,r86_6,x86_7,r86_7,x86_8,r86_8,x86_9,r86_9,execL_loop,u86_0,rem_p1,w0,w1,w2,w3,w4,e0] at e
  exact ⟨[],_,by simpa using e⟩
theorem w86_2 {hp:List O} {c b0 m0 b1 m1 d1 d2:Int}
 (e0:∀ hp,callL K (.fn (.func 151) [] []) [.d (.int .i64 0),.d (.int .i64 b0)] none hp=some (.ret (.d (.int .i64 d1)),false,hp,0))
 (e1:∀ hp,callL K (.fn (.func 151) [] []) [.d (.int .i64 d1),.d (.int .i64 b1)] none hp=some (.ret (.d (.int .i64 d2)),false,hp,0))
 (hd:d2=0∨d2=1)
 : ∃ J w,callL K (.fn (.func 86) [] []) [.d (.agg [.int .i64 c,.list 2 [.agg [.int .i64 b0,.int .i64 m0],.agg [.int .i64 b1,.int .i64 m1]]])] none hp=some (.ret (.tuple [.d (.int .i64 d2),.d (.bool (decide (d2=0∧c≠0)))]),false,hp++J,w):=by
 have e:=k86 [] [] [.d (.agg [.int .i64 c,.list 2 [.agg [.int .i64 b0,.int .i64 m0],.agg [.int .i64 b1,.int .i64 m1]]])] none hp
 rcases hd with hd | hd
 ·subst hd
  by_cases hc:c=0<;>simp [c86,x86_0,r86_0,x86_1,r86_1,x86_2,r86_2,x86_3,r86_3,x86_4,r86_4,x86_5,r86_5,x86_6,r86_6,x86_7,r86_7,x86_8,r86_8,x86_9,r86_9,execL_loop,u86_0,rem_p1,w0,w1,w2,w3,w4,e0,e1,hc] at e<;>exact ⟨[],_,by simpa [hc] using e⟩
 ·subst hd
  simp [c86,x86_0,r86_0,x86_1,r86_1,x86_2,r86_2,x86_3,r86_3,x86_4,r86_4,x86_5,r86_5,x86_6,r86_6,x86_7,r86_7,x86_8,r86_8,x86_9,r86_9,execL_loop,u86_0,rem_p1,w0,w1,w2,w3,w4,e0,e1] at e
  exact ⟨[],_,by simpa using e⟩
theorem w86_3 {hp:List O} {c b0 m0 b1 m1 b2 m2 d1 d2 d3:Int}
 (e0:∀ hp,callL K (.fn (.func 151) [] []) [.d (.int .i64 0),.d (.int .i64 b0)] none hp=some (.ret (.d (.int .i64 d1)),false,hp,0))
 (e1:∀ hp,callL K (.fn (.func 151) [] []) [.d (.int .i64 d1),.d (.int .i64 b1)] none hp=some (.ret (.d (.int .i64 d2)),false,hp,0))
 (e2:∀ hp,callL K (.fn (.func 151) [] []) [.d (.int .i64 d2),.d (.int .i64 b2)] none hp=some (.ret (.d (.int .i64 d3)),false,hp,0))
 (hd:d3=0∨d3=1)
 : ∃ J w,callL K (.fn (.func 86) [] []) [.d (.agg [.int .i64 c,.list 2 [.agg [.int .i64 b0,.int .i64 m0],.agg [.int .i64 b1,.int .i64 m1],.agg [.int .i64 b2,.int .i64 m2]]])] none hp=some (.ret (.tuple [.d (.int .i64 d3),.d (.bool (decide (d3=0∧c≠0)))]),false,hp++J,w):=by
 have e:=k86 [] [] [.d (.agg [.int .i64 c,.list 2 [.agg [.int .i64 b0,.int .i64 m0],.agg [.int .i64 b1,.int .i64 m1],.agg [.int .i64 b2,.int .i64 m2]]])] none hp
 rcases hd with hd | hd
 ·subst hd
  by_cases hc:c=0<;>simp [c86,x86_0,r86_0,x86_1,r86_1,x86_2,r86_2,x86_3,r86_3,x86_4,r86_4,x86_5,r86_5,x86_6,r86_6,x86_7,r86_7,x86_8,r86_8,x86_9,r86_9,execL_loop,u86_0,rem_p1,w0,w1,w2,w3,w4,e0,e1,e2,hc] at e<;>exact ⟨[],_,by simpa [hc] using e⟩
 ·subst hd
  simp [c86,x86_0,r86_0,x86_1,r86_1,x86_2,r86_2,x86_3,r86_3,x86_4,r86_4,x86_5,r86_5,x86_6,r86_6,x86_7,r86_7,x86_8,r86_8,x86_9,r86_9,execL_loop,u86_0,rem_p1,w0,w1,w2,w3,w4,e0,e1,e2] at e
  exact ⟨[],_,by simpa using e⟩
theorem w86_4 {hp:List O} {c b0 m0 b1 m1 b2 m2 b3 m3 d1 d2 d3 d4:Int}
 (e0:∀ hp,callL K (.fn (.func 151) [] []) [.d (.int .i64 0),.d (.int .i64 b0)] none hp=some (.ret (.d (.int .i64 d1)),false,hp,0))
 (e1:∀ hp,callL K (.fn (.func 151) [] []) [.d (.int .i64 d1),.d (.int .i64 b1)] none hp=some (.ret (.d (.int .i64 d2)),false,hp,0))
 (e2:∀ hp,callL K (.fn (.func 151) [] []) [.d (.int .i64 d2),.d (.int .i64 b2)] none hp=some (.ret (.d (.int .i64 d3)),false,hp,0))
 (e3:∀ hp,callL K (.fn (.func 151) [] []) [.d (.int .i64 d3),.d (.int .i64 b3)] none hp=some (.ret (.d (.int .i64 d4)),false,hp,0))
 (hd:d4=0∨d4=1)
 : ∃ J w,callL K (.fn (.func 86) [] []) [.d (.agg [.int .i64 c,.list 2 [.agg [.int .i64 b0,.int .i64 m0],.agg [.int .i64 b1,.int .i64 m1],.agg [.int .i64 b2,.int .i64 m2],.agg [.int .i64 b3,.int .i64 m3]]])] none hp=some (.ret (.tuple [.d (.int .i64 d4),.d (.bool (decide (d4=0∧c≠0)))]),false,hp++J,w):=by
 have e:=k86 [] [] [.d (.agg [.int .i64 c,.list 2 [.agg [.int .i64 b0,.int .i64 m0],.agg [.int .i64 b1,.int .i64 m1],.agg [.int .i64 b2,.int .i64 m2],.agg [.int .i64 b3,.int .i64 m3]]])] none hp
 rcases hd with hd | hd
 ·subst hd
  by_cases hc:c=0<;>simp [c86,x86_0,r86_0,x86_1,r86_1,x86_2,r86_2,x86_3,r86_3,x86_4,r86_4,x86_5,r86_5,x86_6,r86_6,x86_7,r86_7,x86_8,r86_8,x86_9,r86_9,execL_loop,u86_0,rem_p1,w0,w1,w2,w3,w4,e0,e1,e2,e3,hc] at e<;>exact ⟨[],_,by simpa [hc] using e⟩
 ·subst hd
  simp [c86,x86_0,r86_0,x86_1,r86_1,x86_2,r86_2,x86_3,r86_3,x86_4,r86_4,x86_5,r86_5,x86_6,r86_6,x86_7,r86_7,x86_8,r86_8,x86_9,r86_9,execL_loop,u86_0,rem_p1,w0,w1,w2,w3,w4,e0,e1,e2,e3] at e
  exact ⟨[],_,by simpa using e⟩
theorem w89_0 {hp:List O} {c  :Int}
 : ∃ J w,callL K (.fn (.func 89) [] []) [.d (.agg [.int .i64 c,.nils])] none hp=some (.ret (.tuple [.d (.int .i64 c),.d (.int .i64 c)]),false,hp++J,w):=by
 have e:=k89 [] [] [.d (.agg [.int .i64 c,.nils])] none hp
 simp [c89,x89_0,r89_0,x89_1,r89_1,x89_2,r89_2,x89_3,r89_3,x89_4,r89_4,x89_5,r89_5,x89_6,r89_6,x89_7,r89_7,execL_loop,u89_0,w0,w1,w2,w3,w4,minmax] at e
 exact ⟨[],_,by simpa using e⟩
theorem w89_1 {hp:List O} {c b0 m0 p0 l1 h1:Int}
 (hp0:wr .i64 (b0 * m0)=p0) (hl0:wr .i64 (c+(if p0 < 0 then p0 else 0))=l1) (hh0:wr .i64 (c+(if 0 < p0 then p0 else 0))=h1)
 : ∃ J w,callL K (.fn (.func 89) [] []) [.d (.agg [.int .i64 c,.list 2 [.agg [.int .i64 b0,.int .i64 m0]]])] none hp=some (.ret (.tuple [.d (.int .i64 l1),.d (.int .i64 h1)]),false,hp++J,w):=by
 have e:=k89 [] [] [.d (.agg [.int .i64 c,.list 2 [.agg [.int .i64 b0,.int .i64 m0]]])] none hp
 simp [c89,x89_0,r89_0,x89_1,r89_1,x89_2,r89_2,x89_3,r89_3,x89_4,r89_4,x89_5,r89_5,x89_6,r89_6,x89_7,r89_7,execL_loop,u89_0,w0,w1,w2,w3,w4,minmax,hp0,hl0,hh0] at e
 exact ⟨[],_,by simpa using e⟩
theorem w89_2 {hp:List O} {c b0 m0 b1 m1 p0 l1 h1 p1 l2 h2:Int}
 (hp0:wr .i64 (b0 * m0)=p0) (hl0:wr .i64 (c+(if p0 < 0 then p0 else 0))=l1) (hh0:wr .i64 (c+(if 0 < p0 then p0 else 0))=h1)
 (hp1:wr .i64 (b1 * m1)=p1) (hl1:wr .i64 (l1+(if p1 < 0 then p1 else 0))=l2) (hh1:wr .i64 (h1+(if 0 < p1 then p1 else 0))=h2)
 : ∃ J w,callL K (.fn (.func 89) [] []) [.d (.agg [.int .i64 c,.list 2 [.agg [.int .i64 b0,.int .i64 m0],.agg [.int .i64 b1,.int .i64 m1]]])] none hp=some (.ret (.tuple [.d (.int .i64 l2),.d (.int .i64 h2)]),false,hp++J,w):=by
 have e:=k89 [] [] [.d (.agg [.int .i64 c,.list 2 [.agg [.int .i64 b0,.int .i64 m0],.agg [.int .i64 b1,.int .i64 m1]]])] none hp
 simp [c89,x89_0,r89_0,x89_1,r89_1,x89_2,r89_2,x89_3,r89_3,x89_4,r89_4,x89_5,r89_5,x89_6,r89_6,x89_7,r89_7,execL_loop,u89_0,w0,w1,w2,w3,w4,minmax,hp0,hl0,hh0,hp1,hl1,hh1] at e
 exact ⟨[],_,by simpa using e⟩
theorem w89_3 {hp:List O} {c b0 m0 b1 m1 b2 m2 p0 l1 h1 p1 l2 h2 p2 l3 h3:Int}
 (hp0:wr .i64 (b0 * m0)=p0) (hl0:wr .i64 (c+(if p0 < 0 then p0 else 0))=l1) (hh0:wr .i64 (c+(if 0 < p0 then p0 else 0))=h1)
 (hp1:wr .i64 (b1 * m1)=p1) (hl1:wr .i64 (l1+(if p1 < 0 then p1 else 0))=l2) (hh1:wr .i64 (h1+(if 0 < p1 then p1 else 0))=h2)
 (hp2:wr .i64 (b2 * m2)=p2) (hl2:wr .i64 (l2+(if p2 < 0 then p2 else 0))=l3) (hh2:wr .i64 (h2+(if 0 < p2 then p2 else 0))=h3)
 : ∃ J w,callL K (.fn (.func 89) [] []) [.d (.agg [.int .i64 c,.list 2 [.agg [.int .i64 b0,.int .i64 m0],.agg [.int .i64 b1,.int .i64 m1],.agg [.int .i64 b2,.int .i64 m2]]])] none hp=some (.ret (.tuple [.d (.int .i64 l3),.d (.int .i64 h3)]),false,hp++J,w):=by
 have e:=k89 [] [] [.d (.agg [.int .i64 c,.list 2 [.agg [.int .i64 b0,.int .i64 m0],.agg [.int .i64 b1,.int .i64 m1],.agg [.int .i64 b2,.int .i64 m2]]])] none hp
 simp [c89,x89_0,r89_0,x89_1,r89_1,x89_2,r89_2,x89_3,r89_3,x89_4,r89_4,x89_5,r89_5,x89_6,r89_6,x89_7,r89_7,execL_loop,u89_0,w0,w1,w2,w3,w4,minmax,hp0,hl0,hh0,hp1,hl1,hh1,hp2,hl2,hh2] at e
 exact ⟨[],_,by simpa using e⟩
theorem w89_4 {hp:List O} {c b0 m0 b1 m1 b2 m2 b3 m3 p0 l1 h1 p1 l2 h2 p2 l3 h3 p3 l4 h4:Int}
 (hp0:wr .i64 (b0 * m0)=p0) (hl0:wr .i64 (c+(if p0 < 0 then p0 else 0))=l1) (hh0:wr .i64 (c+(if 0 < p0 then p0 else 0))=h1)
 (hp1:wr .i64 (b1 * m1)=p1) (hl1:wr .i64 (l1+(if p1 < 0 then p1 else 0))=l2) (hh1:wr .i64 (h1+(if 0 < p1 then p1 else 0))=h2)
 (hp2:wr .i64 (b2 * m2)=p2) (hl2:wr .i64 (l2+(if p2 < 0 then p2 else 0))=l3) (hh2:wr .i64 (h2+(if 0 < p2 then p2 else 0))=h3)
 (hp3:wr .i64 (b3 * m3)=p3) (hl3:wr .i64 (l3+(if p3 < 0 then p3 else 0))=l4) (hh3:wr .i64 (h3+(if 0 < p3 then p3 else 0))=h4)
 : ∃ J w,callL K (.fn (.func 89) [] []) [.d (.agg [.int .i64 c,.list 2 [.agg [.int .i64 b0,.int .i64 m0],.agg [.int .i64 b1,.int .i64 m1],.agg [.int .i64 b2,.int .i64 m2],.agg [.int .i64 b3,.int .i64 m3]]])] none hp=some (.ret (.tuple [.d (.int .i64 l4),.d (.int .i64 h4)]),false,hp++J,w):=by
 have e:=k89 [] [] [.d (.agg [.int .i64 c,.list 2 [.agg [.int .i64 b0,.int .i64 m0],.agg [.int .i64 b1,.int .i64 m1],.agg [.int .i64 b2,.int .i64 m2],.agg [.int .i64 b3,.int .i64 m3]]])] none hp
 simp [c89,x89_0,r89_0,x89_1,r89_1,x89_2,r89_2,x89_3,r89_3,x89_4,r89_4,x89_5,r89_5,x89_6,r89_6,x89_7,r89_7,execL_loop,u89_0,w0,w1,w2,w3,w4,minmax,hp0,hl0,hh0,hp1,hl1,hh1,hp2,hl2,hh2,hp3,hl3,hh3] at e
 exact ⟨[],_,by simpa using e⟩
end Mw
