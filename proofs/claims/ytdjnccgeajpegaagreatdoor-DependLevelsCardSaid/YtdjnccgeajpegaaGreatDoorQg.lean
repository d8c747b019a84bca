/- DependLevels answers true for every list of numbers: its tied card holds; no condition beyond the card's own. -/
import Derived.Test.YtdjnccgeajpegaaGreatDoorQf
import Derived.Test.YtdjnccgeajpegaaGreatDoorXb
set_option linter.unusedVariables false
set_option linter.unusedSimpArgs false
set_option maxRecDepth 10000
set_option maxHeartbeats 4000000
namespace Mw
open Go Go.Proofs
theorem r64_1_0 {H Hb:List O} {l T g:Nat} {k tn pa0 pb0 pa1 pb1 n0:Int} {sz tx stp at0 x0:D} {v21 v22 v23 v30 y5 y6 y7 y8 y9 y10:V} {c1:List V}
 (hl:H[l]?=some (.loop .ready none 64 [(2,.d .nilp),(3,.d (.int .i64 0)),(5,.ptr (.slot 5 0) 0),(6,.ptr (.slot 6 g) 0),(7,.ptr (.slot 7 g) 0),(21,v21),(22,v22),(23,v23),(30,v30)] [(1,0,.cells c1 true),(5,0,.cells [.ptr (.heap T) 0] true),(6,g,.cells [.d (.int .i64 k)] true),(7,g,.cells [.d sz,.d (.int .i64 tn),.d tx,.d (.list 2 [.agg [.int .i64 n0,x0]]),y5,y6,y7,y8,y9,y10] true)] [31] a64_1 d64_1)) (hT:H[T]?=some (.cells [.d (.list 2 arrsD),.d stp,.d .nils] false)) (hne:l≠T) (hHb:Hb=H.set l (.loop .busy none 64 [(2,.d .nilp),(3,.d (.int .i64 0)),(5,.ptr (.slot 5 0) 0),(6,.ptr (.slot 6 g) 0),(7,.ptr (.slot 7 g) 0),(21,v21),(22,v22),(23,v23),(30,v30)] [(1,0,.cells c1 true),(5,0,.cells [.ptr (.heap T) 0] true),(6,g,.cells [.d (.int .i64 k)] true),(7,g,.cells [.d sz,.d (.int .i64 tn),.d tx,.d (.list 2 [.agg [.int .i64 n0,x0]]),y5,y6,y7,y8,y9,y10] true)] [31] a64_1 d64_1))
 (e0:CK 133 [.ptr (.heap T) 0,.d (.agg [.int .i64 tn,tx]),.d at0] Hb (.d (.agg [.int .i64 pa0,.int .i64 pb0])) Hb 0)
 (e1:CK 133 [.ptr (.heap T) 0,.d (.agg [.int .i64 n0,x0]),.d at0] Hb (.d (.agg [.int .i64 pa1,.int .i64 pb1])) Hb 0)
 (ctx:D.isCell tx=true) (cat0:D.isCell at0=true) (cx0:D.isCell x0=true)
 : ∃ w,callL K (.fn (.yield l) [] []) [.d at0] none H=some (.ret (.d (.bool true)),false,(H.set T (.cells [.d (.list 2 arrsD),.d stp,.sl (.heap H.length) 4 1 0 1] false)++[.vec 4 [.agg [.int .i64 k,.int .i64 0,at0,.list 2 [.agg [.int .i64 pa0,.int .i64 pb0],.agg [.int .i64 pa1,.int .i64 pb1]]]] false true]),w):=by
 subst hHb
 have kat0:D.cells at0=[at0]:=cellsD_of cat0
 simp only [D.cells] at kat0
 simp only [D.isCell] at ctx cat0 cx0
 have hll:l < H.length:=(gS.1 hl).1
 have hTl:T < H.length:=(gS.1 hT).1
 have hne':¬ T=l:=fun h=>hne h.symm
 have hl2:=hl
 have hT2:=hT
 rw [List.getElem?_eq_getElem hll] at hl2
 rw [List.getElem?_eq_getElem hTl] at hT2
 simp only [Option.some.injEq] at hl2 hT2
 rw [callL_yield]
 unfold roundL
 rw [hl]
 simp [ua64,ud64,x64_9,x64_10,x64_11,x64_12,x64_13,x64_14,x64_15,x64_16,execL_loop,u64_0,endR,insL,hl2,hT2,hne,hne',hll,hTl,w0,w1,w2,w3,kat0,List.getElem?_append_left,List.set_append_left,e0,e1,ctx,cat0,cx0]
 exact back1 hl hne
theorem r64_1_1 {H Hb:List O} {l T L g:Nat} {k tn pa0 pb0 pa1 pb1 n0:Int} {sz tx stp at0 x0:D} {v21 v22 v23 v30 y5 y6 y7 y8 y9 y10:V} {c1:List V} {es:List D}
 (hl:H[l]?=some (.loop .ready none 64 [(2,.d .nilp),(3,.d (.int .i64 0)),(5,.ptr (.slot 5 0) 0),(6,.ptr (.slot 6 g) 0),(7,.ptr (.slot 7 g) 0),(21,v21),(22,v22),(23,v23),(30,v30)] [(1,0,.cells c1 true),(5,0,.cells [.ptr (.heap T) 0] true),(6,g,.cells [.d (.int .i64 k)] true),(7,g,.cells [.d sz,.d (.int .i64 tn),.d tx,.d (.list 2 [.agg [.int .i64 n0,x0]]),y5,y6,y7,y8,y9,y10] true)] [31] a64_1 d64_1)) (hT:H[T]?=some (.cells [.d (.list 2 arrsD),.d stp,.sl (.heap L) 4 es.length 0 es.length] false)) (hne:l≠T) (hHb:Hb=H.set l (.loop .busy none 64 [(2,.d .nilp),(3,.d (.int .i64 0)),(5,.ptr (.slot 5 0) 0),(6,.ptr (.slot 6 g) 0),(7,.ptr (.slot 7 g) 0),(21,v21),(22,v22),(23,v23),(30,v30)] [(1,0,.cells c1 true),(5,0,.cells [.ptr (.heap T) 0] true),(6,g,.cells [.d (.int .i64 k)] true),(7,g,.cells [.d sz,.d (.int .i64 tn),.d tx,.d (.list 2 [.agg [.int .i64 n0,x0]]),y5,y6,y7,y8,y9,y10] true)] [31] a64_1 d64_1))
 (hL:H[L]?=some (.vec 4 es false true)) (hne2:l≠L) (hne3:T≠L) (hes:es.length≤1000)
 (e0:CK 133 [.ptr (.heap T) 0,.d (.agg [.int .i64 tn,tx]),.d at0] Hb (.d (.agg [.int .i64 pa0,.int .i64 pb0])) Hb 0)
 (e1:CK 133 [.ptr (.heap T) 0,.d (.agg [.int .i64 n0,x0]),.d at0] Hb (.d (.agg [.int .i64 pa1,.int .i64 pb1])) Hb 0)
 (ctx:D.isCell tx=true) (cat0:D.isCell at0=true) (cx0:D.isCell x0=true)
 : ∃ w,callL K (.fn (.yield l) [] []) [.d at0] none H=some (.ret (.d (.bool true)),false,((H.set L (.vec 4 (es++[.agg [.int .i64 k,.int .i64 es.length,at0,.list 2 [.agg [.int .i64 pa0,.int .i64 pb0],.agg [.int .i64 pa1,.int .i64 pb1]]]]) false true)).set T (.cells [.d (.list 2 arrsD),.d stp,.sl (.heap L) 4 (es.length+1) 0 (es.length+1)] false)),w):=by
 subst hHb
 have kat0:D.cells at0=[at0]:=cellsD_of cat0
 simp only [D.cells] at kat0
 simp only [D.isCell] at ctx cat0 cx0
 have hll:l < H.length:=(gS.1 hl).1
 have hTl:T < H.length:=(gS.1 hT).1
 have hne':¬ T=l:=fun h=>hne h.symm
 have hLl:L < H.length:=(gS.1 hL).1
 have hne2':¬ L=l:=fun h=>hne2 h.symm
 have hne3':¬ L=T:=fun h=>hne3 h.symm
 have hg1:es.length+1≤4294967296:=by omega
 have hg2:(es.length+1) * 64≤4294967296:=by omega
 have hl2:=hl
 have hT2:=hT
 rw [List.getElem?_eq_getElem hll] at hl2
 rw [List.getElem?_eq_getElem hTl] at hT2
 simp only [Option.some.injEq] at hl2 hT2
 have hL2:=hL
 rw [List.getElem?_eq_getElem hLl] at hL2
 simp only [Option.some.injEq] at hL2
 rw [callL_yield]
 unfold roundL
 rw [hl]
 simp [ua64,ud64,x64_9,x64_10,x64_11,x64_12,x64_13,x64_14,x64_15,x64_16,execL_loop,u64_0,endR,insL,hl2,hT2,hne,hne',hll,hTl,w0,w1,w2,w3,kat0,List.getElem?_append_left,List.set_append_left,hL2,hne2,hne2',hne3,hne3',hLl,hg1,hg2,e0,e1,ctx,cat0,cx0]
 exact back2 hl hne hne2
theorem r64_2_0 {H Hb:List O} {l T g:Nat} {k tn pa0 pb0 pa1 pb1 pa2 pb2 n0 n1:Int} {sz tx stp at0 x0 x1:D} {v21 v22 v23 v30 y5 y6 y7 y8 y9 y10:V} {c1:List V}
 (hl:H[l]?=some (.loop .ready none 64 [(2,.d .nilp),(3,.d (.int .i64 0)),(5,.ptr (.slot 5 0) 0),(6,.ptr (.slot 6 g) 0),(7,.ptr (.slot 7 g) 0),(21,v21),(22,v22),(23,v23),(30,v30)] [(1,0,.cells c1 true),(5,0,.cells [.ptr (.heap T) 0] true),(6,g,.cells [.d (.int .i64 k)] true),(7,g,.cells [.d sz,.d (.int .i64 tn),.d tx,.d (.list 2 [.agg [.int .i64 n0,x0],.agg [.int .i64 n1,x1]]),y5,y6,y7,y8,y9,y10] true)] [31] a64_1 d64_1)) (hT:H[T]?=some (.cells [.d (.list 2 arrsD),.d stp,.d .nils] false)) (hne:l≠T) (hHb:Hb=H.set l (.loop .busy none 64 [(2,.d .nilp),(3,.d (.int .i64 0)),(5,.ptr (.slot 5 0) 0),(6,.ptr (.slot 6 g) 0),(7,.ptr (.slot 7 g) 0),(21,v21),(22,v22),(23,v23),(30,v30)] [(1,0,.cells c1 true),(5,0,.cells [.ptr (.heap T) 0] true),(6,g,.cells [.d (.int .i64 k)] true),(7,g,.cells [.d sz,.d (.int .i64 tn),.d tx,.d (.list 2 [.agg [.int .i64 n0,x0],.agg [.int .i64 n1,x1]]),y5,y6,y7,y8,y9,y10] true)] [31] a64_1 d64_1))
 (e0:CK 133 [.ptr (.heap T) 0,.d (.agg [.int .i64 tn,tx]),.d at0] Hb (.d (.agg [.int .i64 pa0,.int .i64 pb0])) Hb 0)
 (e1:CK 133 [.ptr (.heap T) 0,.d (.agg [.int .i64 n0,x0]),.d at0] Hb (.d (.agg [.int .i64 pa1,.int .i64 pb1])) Hb 0)
 (e2:CK 133 [.ptr (.heap T) 0,.d (.agg [.int .i64 n1,x1]),.d at0] Hb (.d (.agg [.int .i64 pa2,.int .i64 pb2])) Hb 0)
 (ctx:D.isCell tx=true) (cat0:D.isCell at0=true) (cx0:D.isCell x0=true) (cx1:D.isCell x1=true)
 : ∃ w,callL K (.fn (.yield l) [] []) [.d at0] none H=some (.ret (.d (.bool true)),false,(H.set T (.cells [.d (.list 2 arrsD),.d stp,.sl (.heap H.length) 4 1 0 1] false)++[.vec 4 [.agg [.int .i64 k,.int .i64 0,at0,.list 2 [.agg [.int .i64 pa0,.int .i64 pb0],.agg [.int .i64 pa1,.int .i64 pb1],.agg [.int .i64 pa2,.int .i64 pb2]]]] false true]),w):=by
 subst hHb
 have kat0:D.cells at0=[at0]:=cellsD_of cat0
 simp only [D.cells] at kat0
 simp only [D.isCell] at ctx cat0 cx0 cx1
 have hll:l < H.length:=(gS.1 hl).1
 have hTl:T < H.length:=(gS.1 hT).1
 have hne':¬ T=l:=fun h=>hne h.symm
 have hl2:=hl
 have hT2:=hT
 rw [List.getElem?_eq_getElem hll] at hl2
 rw [List.getElem?_eq_getElem hTl] at hT2
 simp only [Option.some.injEq] at hl2 hT2
 rw [callL_yield]
 unfold roundL
 rw [hl]
 simp [ua64,ud64,x64_9,x64_10,x64_11,x64_12,x64_13,x64_14,x64_15,x64_16,execL_loop,u64_0,endR,insL,hl2,hT2,hne,hne',hll,hTl,w0,w1,w2,w3,kat0,List.getElem?_append_left,List.set_append_left,e0,e1,e2,ctx,cat0,cx0,cx1]
 exact back1 hl hne
theorem r64_2_1 {H Hb:List O} {l T L g:Nat} {k tn pa0 pb0 pa1 pb1 pa2 pb2 n0 n1:Int} {sz tx stp at0 x0 x1:D} {v21 v22 v23 v30 y5 y6 y7 y8 y9 y10:V} {c1:List V} {es:List D}
 (hl:H[l]?=some (.loop .ready none 64 [(2,.d .nilp),(3,.d (.int .i64 0)),(5,.ptr (.slot 5 0) 0),(6,.ptr (.slot 6 g) 0),(7,.ptr (.slot 7 g) 0),(21,v21),(22,v22),(23,v23),(30,v30)] [(1,0,.cells c1 true),(5,0,.cells [.ptr (.heap T) 0] true),(6,g,.cells [.d (.int .i64 k)] true),(7,g,.cells [.d sz,.d (.int .i64 tn),.d tx,.d (.list 2 [.agg [.int .i64 n0,x0],.agg [.int .i64 n1,x1]]),y5,y6,y7,y8,y9,y10] true)] [31] a64_1 d64_1)) (hT:H[T]?=some (.cells [.d (.list 2 arrsD),.d stp,.sl (.heap L) 4 es.length 0 es.length] false)) (hne:l≠T) (hHb:Hb=H.set l (.loop .busy none 64 [(2,.d .nilp),(3,.d (.int .i64 0)),(5,.ptr (.slot 5 0) 0),(6,.ptr (.slot 6 g) 0),(7,.ptr (.slot 7 g) 0),(21,v21),(22,v22),(23,v23),(30,v30)] [(1,0,.cells c1 true),(5,0,.cells [.ptr (.heap T) 0] true),(6,g,.cells [.d (.int .i64 k)] true),(7,g,.cells [.d sz,.d (.int .i64 tn),.d tx,.d (.list 2 [.agg [.int .i64 n0,x0],.agg [.int .i64 n1,x1]]),y5,y6,y7,y8,y9,y10] true)] [31] a64_1 d64_1))
 (hL:H[L]?=some (.vec 4 es false true)) (hne2:l≠L) (hne3:T≠L) (hes:es.length≤1000)
 (e0:CK 133 [.ptr (.heap T) 0,.d (.agg [.int .i64 tn,tx]),.d at0] Hb (.d (.agg [.int .i64 pa0,.int .i64 pb0])) Hb 0)
 (e1:CK 133 [.ptr (.heap T) 0,.d (.agg [.int .i64 n0,x0]),.d at0] Hb (.d (.agg [.int .i64 pa1,.int .i64 pb1])) Hb 0)
 (e2:CK 133 [.ptr (.heap T) 0,.d (.agg [.int .i64 n1,x1]),.d at0] Hb (.d (.agg [.int .i64 pa2,.int .i64 pb2])) Hb 0)
 (ctx:D.isCell tx=true) (cat0:D.isCell at0=true) (cx0:D.isCell x0=true) (cx1:D.isCell x1=true)
 : ∃ w,callL K (.fn (.yield l) [] []) [.d at0] none H=some (.ret (.d (.bool true)),false,((H.set L (.vec 4 (es++[.agg [.int .i64 k,.int .i64 es.length,at0,.list 2 [.agg [.int .i64 pa0,.int .i64 pb0],.agg [.int .i64 pa1,.int .i64 pb1],.agg [.int .i64 pa2,.int .i64 pb2]]]]) false true)).set T (.cells [.d (.list 2 arrsD),.d stp,.sl (.heap L) 4 (es.length+1) 0 (es.length+1)] false)),w):=by
 subst hHb
 have kat0:D.cells at0=[at0]:=cellsD_of cat0
 simp only [D.cells] at kat0
 simp only [D.isCell] at ctx cat0 cx0 cx1
 have hll:l < H.length:=(gS.1 hl).1
 have hTl:T < H.length:=(gS.1 hT).1
 have hne':¬ T=l:=fun h=>hne h.symm
 have hLl:L < H.length:=(gS.1 hL).1
 have hne2':¬ L=l:=fun h=>hne2 h.symm
 have hne3':¬ L=T:=fun h=>hne3 h.symm
 have hg1:es.length+1≤4294967296:=by omega
 have hg2:(es.length+1) * 64≤4294967296:=by omega
 have hl2:=hl
 have hT2:=hT
 rw [List.getElem?_eq_getElem hll] at hl2
 rw [List.getElem?_eq_getElem hTl] at hT2
 simp only [Option.some.injEq] at hl2 hT2
 have hL2:=hL
 rw [List.getElem?_eq_getElem hLl] at hL2
 simp only [Option.some.injEq] at hL2
 rw [callL_yield]
 unfold roundL
 rw [hl]
 simp [ua64,ud64,x64_9,x64_10,x64_11,x64_12,x64_13,x64_14,x64_15,x64_16,execL_loop,u64_0,endR,insL,hl2,hT2,hne,hne',hll,hTl,w0,w1,w2,w3,kat0,List.getElem?_append_left,List.set_append_left,hL2,hne2,hne2',hne3,hne3',hLl,hg1,hg2,e0,e1,e2,ctx,cat0,cx0,cx1]
 exact back2 hl hne hne2
theorem r64_3_0 {H Hb:List O} {l T g:Nat} {k tn pa0 pb0 pa1 pb1 pa2 pb2 pa3 pb3 n0 n1 n2:Int} {sz tx stp at0 x0 x1 x2:D} {v21 v22 v23 v30 y5 y6 y7 y8 y9 y10:V} {c1:List V}
 (hl:H[l]?=some (.loop .ready none 64 [(2,.d .nilp),(3,.d (.int .i64 0)),(5,.ptr (.slot 5 0) 0),(6,.ptr (.slot 6 g) 0),(7,.ptr (.slot 7 g) 0),(21,v21),(22,v22),(23,v23),(30,v30)] [(1,0,.cells c1 true),(5,0,.cells [.ptr (.heap T) 0] true),(6,g,.cells [.d (.int .i64 k)] true),(7,g,.cells [.d sz,.d (.int .i64 tn),.d tx,.d (.list 2 [.agg [.int .i64 n0,x0],.agg [.int .i64 n1,x1],.agg [.int .i64 n2,x2]]),y5,y6,y7,y8,y9,y10] true)] [31] a64_1 d64_1)) (hT:H[T]?=some (.cells [.d (.list 2 arrsD),.d stp,.d .nils] false)) (hne:l≠T) (hHb:Hb=H.set l (.loop .busy none 64 [(2,.d .nilp),(3,.d (.int .i64 0)),(5,.ptr (.slot 5 0) 0),(6,.ptr (.slot 6 g) 0),(7,.ptr (.slot 7 g) 0),(21,v21),(22,v22),(23,v23),(30,v30)] [(1,0,.cells c1 true),(5,0,.cells [.ptr (.heap T) 0] true),(6,g,.cells [.d (.int .i64 k)] true),(7,g,.cells [.d sz,.d (.int .i64 tn),.d tx,.d (.list 2 [.agg [.int .i64 n0,x0],.agg [.int .i64 n1,x1],.agg [.int .i64 n2,x2]]),y5,y6,y7,y8,y9,y10] true)] [31] a64_1 d64_1))
 (e0:CK 133 [.ptr (.heap T) 0,.d (.agg [.int .i64 tn,tx]),.d at0] Hb (.d (.agg [.int .i64 pa0,.int .i64 pb0])) Hb 0)
 (e1:CK 133 [.ptr (.heap T) 0,.d (.agg [.int .i64 n0,x0]),.d at0] Hb (.d (.agg [.int .i64 pa1,.int .i64 pb1])) Hb 0)
 (e2:CK 133 [.ptr (.heap T) 0,.d (.agg [.int .i64 n1,x1]),.d at0] Hb (.d (.agg [.int .i64 pa2,.int .i64 pb2])) Hb 0)
 (e3:CK 133 [.ptr (.heap T) 0,.d (.agg [.int .i64 n2,x2]),.d at0] Hb (.d (.agg [.int .i64 pa3,.int .i64 pb3])) Hb 0)
 (ctx:D.isCell tx=true) (cat0:D.isCell at0=true) (cx0:D.isCell x0=true) (cx1:D.isCell x1=true) (cx2:D.isCell x2=true)
 : ∃ w,callL K (.fn (.yield l) [] []) [.d at0] none H=some (.ret (.d (.bool true)),false,(H.set T (.cells [.d (.list 2 arrsD),.d stp,.sl (.heap H.length) 4 1 0 1] false)++[.vec 4 [.agg [.int .i64 k,.int .i64 0,at0,.list 2 [.agg [.int .i64 pa0,.int .i64 pb0],.agg [.int .i64 pa1,.int .i64 pb1],.agg [.int .i64 pa2,.int .i64 pb2],.agg [.int .i64 pa3,.int .i64 pb3]]]] false true]),w):=by
 subst hHb
 have kat0:D.cells at0=[at0]:=cellsD_of cat0
 simp only [D.cells] at kat0
 simp only [D.isCell] at ctx cat0 cx0 cx1 cx2
 have hll:l < H.length:=(gS.1 hl).1
 have hTl:T < H.length:=(gS.1 hT).1
 have hne':¬ T=l:=fun h=>hne h.symm
 have hl2:=hl
 have hT2:=hT
 rw [List.getElem?_eq_getElem hll] at hl2
 rw [List.getElem?_eq_getElem hTl] at hT2
 simp only [Option.some.injEq] at hl2 hT2
 rw [callL_yield]
 unfold roundL
 rw [hl]
 simp [ua64,ud64,x64_9,x64_10,x64_11,x64_12,x64_13,x64_14,x64_15,x64_16,execL_loop,u64_0,endR,insL,hl2,hT2,hne,hne',hll,hTl,w0,w1,w2,w3,kat0,List.getElem?_append_left,List.set_append_left,e0,e1,e2,e3,ctx,cat0,cx0,cx1,cx2]
 exact back1 hl hne
theorem r64_3_1 {H Hb:List O} {l T L g:Nat} {k tn pa0 pb0 pa1 pb1 pa2 pb2 pa3 pb3 n0 n1 n2:Int} {sz tx stp at0 x0 x1 x2:D} {v21 v22 v23 v30 y5 y6 y7 y8 y9 y10:V} {c1:List V} {es:List D}
 (hl:H[l]?=some (.loop .ready none 64 [(2,.d .nilp),(3,.d (.int .i64 0)),(5,.ptr (.slot 5 0) 0),(6,.ptr (.slot 6 g) 0),(7,.ptr (.slot 7 g) 0),(21,v21),(22,v22),(23,v23),(30,v30)] [(1,0,.cells c1 true),(5,0,.cells [.ptr (.heap T) 0] true),(6,g,.cells [.d (.int .i64 k)] true),(7,g,.cells [.d sz,.d (.int .i64 tn),.d tx,.d (.list 2 [.agg [.int .i64 n0,x0],.agg [.int .i64 n1,x1],.agg [.int .i64 n2,x2]]),y5,y6,y7,y8,y9,y10] true)] [31] a64_1 d64_1)) (hT:H[T]?=some (.cells [.d (.list 2 arrsD),.d stp,.sl (.heap L) 4 es.length 0 es.length] false)) (hne:l≠T) (hHb:Hb=H.set l (.loop .busy none 64 [(2,.d .nilp),(3,.d (.int .i64 0)),(5,.ptr (.slot 5 0) 0),(6,.ptr (.slot 6 g) 0),(7,.ptr (.slot 7 g) 0),(21,v21),(22,v22),(23,v23),(30,v30)] [(1,0,.cells c1 true),(5,0,.cells [.ptr (.heap T) 0] true),(6,g,.cells [.d (.int .i64 k)] true),(7,g,.cells [.d sz,.d (.int .i64 tn),.d tx,.d (.list 2 [.agg [.int .i64 n0,x0],.agg [.int .i64 n1,x1],.agg [.int .i64 n2,x2]]),y5,y6,y7,y8,y9,y10] true)] [31] a64_1 d64_1))
 (hL:H[L]?=some (.vec 4 es false true)) (hne2:l≠L) (hne3:T≠L) (hes:es.length≤1000)
 (e0:CK 133 [.ptr (.heap T) 0,.d (.agg [.int .i64 tn,tx]),.d at0] Hb (.d (.agg [.int .i64 pa0,.int .i64 pb0])) Hb 0)
 (e1:CK 133 [.ptr (.heap T) 0,.d (.agg [.int .i64 n0,x0]),.d at0] Hb (.d (.agg [.int .i64 pa1,.int .i64 pb1])) Hb 0)
 (e2:CK 133 [.ptr (.heap T) 0,.d (.agg [.int .i64 n1,x1]),.d at0] Hb (.d (.agg [.int .i64 pa2,.int .i64 pb2])) Hb 0)
 (e3:CK 133 [.ptr (.heap T) 0,.d (.agg [.int .i64 n2,x2]),.d at0] Hb (.d (.agg [.int .i64 pa3,.int .i64 pb3])) Hb 0)
 (ctx:D.isCell tx=true) (cat0:D.isCell at0=true) (cx0:D.isCell x0=true) (cx1:D.isCell x1=true) (cx2:D.isCell x2=true)
 : ∃ w,callL K (.fn (.yield l) [] []) [.d at0] none H=some (.ret (.d (.bool true)),false,((H.set L (.vec 4 (es++[.agg [.int .i64 k,.int .i64 es.length,at0,.list 2 [.agg [.int .i64 pa0,.int .i64 pb0],.agg [.int .i64 pa1,.int .i64 pb1],.agg [.int .i64 pa2,.int .i64 pb2],.agg [.int .i64 pa3,.int .i64 pb3]]]]) false true)).set T (.cells [.d (.list 2 arrsD),.d stp,.sl (.heap L) 4 (es.length+1) 0 (es.length+1)] false)),w):=by
 subst hHb
 have kat0:D.cells at0=[at0]:=cellsD_of cat0
 simp only [D.cells] at kat0
 simp only [D.isCell] at ctx cat0 cx0 cx1 cx2
 have hll:l < H.length:=(gS.1 hl).1
 have hTl:T < H.length:=(gS.1 hT).1
 have hne':¬ T=l:=fun h=>hne h.symm
 have hLl:L < H.length:=(gS.1 hL).1
 have hne2':¬ L=l:=fun h=>hne2 h.symm
 have hne3':¬ L=T:=fun h=>hne3 h.symm
 have hg1:es.length+1≤4294967296:=by omega
 have hg2:(es.length+1) * 64≤4294967296:=by omega
 have hl2:=hl
 have hT2:=hT
 rw [List.getElem?_eq_getElem hll] at hl2
 rw [List.getElem?_eq_getElem hTl] at hT2
 simp only [Option.some.injEq] at hl2 hT2
 have hL2:=hL
 rw [List.getElem?_eq_getElem hLl] at hL2
 simp only [Option.some.injEq] at hL2
 rw [callL_yield]
 unfold roundL
 rw [hl]
 simp [ua64,ud64,x64_9,x64_10,x64_11,x64_12,x64_13,x64_14,x64_15,x64_16,execL_loop,u64_0,endR,insL,hl2,hT2,hne,hne',hll,hTl,w0,w1,w2,w3,kat0,List.getElem?_append_left,List.set_append_left,hL2,hne2,hne2',hne3,hne3',hLl,hg1,hg2,e0,e1,e2,e3,ctx,cat0,cx0,cx1,cx2]
 exact back2 hl hne hne2
@[simp] theorem zero_49:zeroT K 49=some .nilf:=by kernel_rfl
@[simp] theorem info_49:(K.P.info? 49).isSome=true:=by kernel_rfl
theorem s190 {H H':List O} {B l w:Nat} (e1:callL K (.fn (.func 191) [] [.ptr (.heap B) 0,.ptr (.heap H.length) 0,.ptr (.heap (H.length+1)) 0]) [.d .nils] none (H++[.cells [.fn (.yield l) [] []] false,.cells [.fn (.func 191) [] [.ptr (.heap B) 0,.ptr (.heap H.length) 0,.ptr (.heap (H.length+1)) 0]] false])=some (.ret (.d (.bool true)),false,H',w)) :
  ∃ w',callL K (.fn (.func 190) [] [.ptr (.heap B) 0]) [.fn (.yield l) [] []] none H=some (.ret (.tuple []),false,H',w'):=by
 have e:=k190 [] [.ptr (.heap B) 0] [.fn (.yield l) [] []] none H
 simp [c190,x190_0,x190_1,x190_2,x190_3,e1] at e
 exact ⟨_,e⟩
theorem s132 (H:List O) (ss:List Int):∃ w,callL K (.fn (.func 132) [] []) [.d (szD ss)] none H=some (.ret (.fn (.func 190) [] [.ptr (.heap H.length) 0]),false,H++[.cells [.d (szD ss)] false],w):=by
 have e:=k132 [] [] [.d (szD ss)] none H
 cases ss<;>simp [c132,szD,x132_0,x132_1] at e<;>exact ⟨_,e⟩
noncomputable def recO (T g k B:Nat) (c1 all:List D) (s:Stp):O :=
 .loop .ready none 64 [(2,.d .nilp),(3,.d (.int .i64 0)),(5,.ptr (.slot 5 0) 0),(6,.ptr (.slot 6 g) 0),(7,.ptr (.slot 7 g) 0),(21,.d (.list 10 all)),(22,.d (.int .i64 all.length)),(23,.d (.int .i64 k)),(30,.fn (.func 190) [] [.ptr (.heap B) 0])]
  [(1,0,.cells (c1.map .d) true),(5,0,.cells [.ptr (.heap T) 0] true),(6,g,.cells [.d (.int .i64 k)] true),(7,g,.cells [.d (szD s.ss),.d (.int .i64 s.to.1),.d (atD s.to.2),.d (frD s.fr),.d (.int .i64 s.op),.d (.str s.num),.d (.str s.den),.d (.str s.name),.d (.int .i64 s.size),.d s.args] true)] [31] a64_1 d64_1
theorem rng64 (B:Nat) {tm:List (Nat × V)} {m:Mem} (h:look 30 tm=some (.fn (.func 190) [] [.ptr (.heap B) 0])) :
  execL K 64 (.rangeFunc (.tmp 30) #[31] a64_1 d64_1) (St.mk tm m [] none false none)=rangeR (St.mk tm m [] none false none) m.hp.length (callL K (.fn (.func 190) [] [.ptr (.heap B) 0]) [.fn (.yield m.hp.length) [] []] none (m.hp++[.loop .ready none 64 (roT m.ob tm) (roL m.ob) [31] a64_1 d64_1])) :=
 execL_range rfl (by simp [h,expo])
theorem t64_0 (T k w w1 w2:Nat) (s:Stp) (hs:StpOk s) {all c1:List D} (hk:all[k]?=some (encS s)) (h27:all.length≤1000) {hp H':List O}
  (e2:callL K (.fn (.func 190) [] [.ptr (.heap hp.length) 0]) [.fn (.yield (hp.length+1)) [] []] none (hp++[.cells [.d (szD s.ss)] false,recO T 0 k hp.length c1 all s])=some (.ret (.tuple []),false,H',w2))
  (hl:H'[hp.length+1]?=some (recO T 0 k hp.length c1 all s)) :
  ∃ w',execL K 64 l64_2 (St.mk [(2,.d .nilp),(3,.d (.int .i64 0)),(5,.ptr (.slot 5 0) 0),(21,.d (.list 10 all)),(22,.d (.int .i64 all.length)),(23,.d (.int .i64 k))]
  (Mem.mk [(1,0,.cells (c1.map .d) false),(5,0,.cells [.ptr (.heap T) 0] false)] hp w) [] none false none)=some (.normal,St.mk [(2,.d .nilp),(3,.d (.int .i64 0)),(5,.ptr (.slot 5 0) 0),(21,.d (.list 10 all)),(22,.d (.int .i64 all.length)),(23,.d (.int .i64 (k+1:Nat)))]
  (Mem.mk [(1,0,.cells (c1.map .d) false),(5,0,.cells [.ptr (.heap T) 0] false),(6,0,.cells [.d (.int .i64 k)] false),(7,0,.cells [.d (szD s.ss),.d (.int .i64 s.to.1),.d (atD s.to.2),.d (frD s.fr),.d (.int .i64 s.op),.d (.str s.num),.d (.str s.den),.d (.str s.name),.d (.int .i64 s.size),.d s.args] false)] (H'.set (hp.length+1) .dead) w') [] none false none):=by
 have hlt:k < all.length:=(gS.1 hk).1
 have hk2:=hk
 rw [List.getElem?_eq_getElem hlt] at hk2
 simp only [Option.some.injEq] at hk2
 have ca:D.isCell s.args=true:=by rcases hs.body.args with h | ⟨l,h⟩<;>rw [h]<;>rfl
 have cz:D.isCell (szD s.ss)=true:=by cases s.ss<;>rfl
 have ct:D.isCell (atD s.to.2)=true:=by cases s.to.2<;>rfl
 have cf:D.isCell (frD s.fr)=true:=by cases s.fr<;>rfl
 simp only [D.isCell] at ca cz ct cf
 obtain ⟨w0,e0⟩:=s132 hp s.ss
 have hw:wr .i64 ((k:Int)+1)=(k:Int)+1:=wrap_id (by omega) (by omega)
 simp only [recO] at hl e2
 have hll:=(gS.1 hl).1
 have hl2:=hl
 rw [List.getElem?_eq_getElem hll] at hl2
 simp only [Option.some.injEq] at hl2
 simp [u64_2,x64_6,x64_7,x64_8,x64_17,hk,hk2,hlt,encS,ca,cz,ct,cf,e0,rng64 hp.length,roT,roL,roO,roV,e2,rangeR,hl,hll,hl2,hw]
theorem t64_1 (T k g w w1 w2:Nat) (s:Stp) (hs:StpOk s) {all c1:List D} (hk:all[k]?=some (encS s)) (h27:all.length≤1000) {hp H':List O} (o6 o7:O)
  (e2:callL K (.fn (.func 190) [] [.ptr (.heap hp.length) 0]) [.fn (.yield (hp.length+1)) [] []] none (hp++[.cells [.d (szD s.ss)] false,recO T (g+1) k hp.length c1 all s])=some (.ret (.tuple []),false,H',w2))
  (hl:H'[hp.length+1]?=some (recO T (g+1) k hp.length c1 all s)) :
  ∃ w',execL K 64 l64_2 (St.mk [(2,.d .nilp),(3,.d (.int .i64 0)),(5,.ptr (.slot 5 0) 0),(21,.d (.list 10 all)),(22,.d (.int .i64 all.length)),(23,.d (.int .i64 k))]
  (Mem.mk [(1,0,.cells (c1.map .d) false),(5,0,.cells [.ptr (.heap T) 0] false),(6,g,o6),(7,g,o7)] hp w) [] none false none)=some (.normal,St.mk [(2,.d .nilp),(3,.d (.int .i64 0)),(5,.ptr (.slot 5 0) 0),(21,.d (.list 10 all)),(22,.d (.int .i64 all.length)),(23,.d (.int .i64 (k+1:Nat)))]
  (Mem.mk [(1,0,.cells (c1.map .d) false),(5,0,.cells [.ptr (.heap T) 0] false),(6,g+1,.cells [.d (.int .i64 k)] false),(7,g+1,.cells [.d (szD s.ss),.d (.int .i64 s.to.1),.d (atD s.to.2),.d (frD s.fr),.d (.int .i64 s.op),.d (.str s.num),.d (.str s.den),.d (.str s.name),.d (.int .i64 s.size),.d s.args] false)] (H'.set (hp.length+1) .dead) w') [] none false none):=by
 have hlt:k < all.length:=(gS.1 hk).1
 have hk2:=hk
 rw [List.getElem?_eq_getElem hlt] at hk2
 simp only [Option.some.injEq] at hk2
 have ca:D.isCell s.args=true:=by rcases hs.body.args with h | ⟨l,h⟩<;>rw [h]<;>rfl
 have cz:D.isCell (szD s.ss)=true:=by cases s.ss<;>rfl
 have ct:D.isCell (atD s.to.2)=true:=by cases s.to.2<;>rfl
 have cf:D.isCell (frD s.fr)=true:=by cases s.fr<;>rfl
 simp only [D.isCell] at ca cz ct cf
 obtain ⟨w0,e0⟩:=s132 hp s.ss
 have hw:wr .i64 ((k:Int)+1)=(k:Int)+1:=wrap_id (by omega) (by omega)
 simp only [recO] at hl e2
 have hll:=(gS.1 hl).1
 have hl2:=hl
 rw [List.getElem?_eq_getElem hll] at hl2
 simp only [Option.some.injEq] at hl2
 simp [u64_2,x64_6,x64_7,x64_8,x64_17,hk,hk2,hlt,encS,ca,cz,ct,cf,e0,rng64 hp.length,roT,roL,roO,roV,e2,rangeR,hl,hll,hl2,hw]
def placeD (c:Nat × List (Int × List Int)) (p:List Int):D:=.agg [.int .i64 c.1,.int .i64 (numC c.1 c.2 p)]
def touchD (s:Stp) (p:List Int):List D:=placeD s.to p :: s.fr.map (placeD · p)
def instD (n:Nat) (x:Nat × Stp × List Int):D:=.agg [.int .i64 x.1,.int .i64 n,atV x.2.2,.list 2 (touchD x.2.1 x.2.2)]
def encI:Nat→List (Nat × Stp × List Int)→List D
 | _,[]=>[]
 | n,x :: r=>instD n x :: encI (n+1) r
theorem encI_len (n:Nat) (l:List (Nat × Stp × List Int)):(encI n l).length=l.length:=by
 induction l generalizing n with
 | nil=>rfl
 | cons x r ih=>simp [encI,ih]
theorem encI_app (n:Nat) (a b:List (Nat × Stp × List Int)):encI n (a++b)=encI n a++encI (n+a.length) b:=by
 induction a generalizing n with
 | nil=>rfl
 | cons x r ih=>simp [encI,ih,Nat.add_assoc,Nat.add_comm 1]
def allI:Nat→List Stp→List (Nat × Stp × List Int)
 | _,[]=>[]
 | k,s :: r=>(allAt s.ss).map (fun p=>(k,s,p))++allI (k+1) r
def LAt (b T:Nat) (stp:D) (H:List O) (es:List D):Prop :=
 (es=[]∧H[T]?=some (.cells [.d (.list 2 arrsD),.d stp,.d .nils] false)) ∨
 (∃ L,b≤L∧es≠[]∧H[T]?=some (.cells [.d (.list 2 arrsD),.d stp,.sl (.heap L) 4 es.length 0 es.length] false)∧H[L]?=some (.vec 4 es false true))
def Keep (b T:Nat) (H H':List O):Prop:=∀ i o,H[i]?=some o→i≠T→(i < b∨∀ t e x y,o≠.vec t e x y)→H'[i]?=some o
theorem Keep.refl (b T:Nat) (H:List O):Keep b T H H:=fun _ _ h _ _=>h
theorem Keep.trans {b T:Nat} {H H' J:List O} (h:Keep b T H H') (g:Keep b T H' J):Keep b T H J:=fun i o a e c=>g i o (h i o a e c) e c
theorem hAt (p:List Int):(V.d (atV p)=.d (.list 1 (ints p))∨(V.d (atV p)=.d .nils∧p=[])):=by
 cases p with
 | nil=>right; exact ⟨rfl,rfl⟩
 | cons x xs=>left; rfl
theorem cAt (p:List Int):D.isCell (atV p)=true:=by cases p<;>rfl
theorem cAtD (x:List (Int × List Int)):D.isCell (atD x)=true:=by cases x<;>rfl
theorem keep0 {b T:Nat} {H:List O} {a:O} {J:List O}:Keep b T H (H.set T a++J):=by
 intro i o h1 h2 _
 have hi:=(gS.1 h1).1
 rw [List.getElem?_append_left (by simpa using hi),List.getElem?_set_ne (Ne.symm h2)]
 exact h1
theorem keep1 {b T L t:Nat} {H:List O} {a c:O} {es:List D} {x y:Bool} (hb:b≤L) (hL:H[L]?=some (.vec t es x y)):Keep b T H ((H.set L c).set T a):=by
 intro i o h1 h2 h3
 have hne:i≠L:=by
  rintro rfl
  rcases h3 with h3 | h3
  ·omega
  ·rw [hL] at h1; exact h3 _ _ _ _ (Option.some.inj h1).symm
 rw [List.getElem?_set_ne (Ne.symm h2),List.getElem?_set_ne (Ne.symm hne)]
 exact h1
theorem r64 {b T l g k B:Nat} {c1 all:List D} {s:Stp} (hs:StpOk s) {p:List Int} (hp:AtOk p s.ss) {H:List O} {es:List D} {stp:D} (hb:b≤T) (hl:H[l]?=some (recO T g k B c1 all s)) (hT:LAt b T stp H es) (hes:es.length≤1000) :
  ∃ H' w,callL K (.fn (.yield l) [] []) [.d (atV p)] none H=some (.ret (.d (.bool true)),false,H',w)∧LAt b T stp H' (es++[instD es.length (k,s,p)])∧Keep b T H H':=by
 rcases hT with ⟨he,hT⟩ | ⟨L,hbL,hne0,hT,hL⟩
 ·subst he
  have hne:l≠T:=by rintro rfl; rw [hl] at hT; simp [recO] at hT
  have hTl:T < H.length:=(gS.1 hT).1
  have e:∀ c:Nat × List (Int × List Int),CellOk c.1 c.2 s.ss→∀ o,callL K (.fn (.func 133) [] []) [.ptr (.heap T) 0,.d (encC c.1 c.2),.d (atV p)] none (H.set l o)=some (.ret (.d (placeD c p)),false,H.set l o,0):=fun c hc o=>s133 _ T (by rw [List.getElem?_set_ne hne]; exact hT) hc hs.sz hp (.d (atV p)) (hAt p)
  have fin:∀ fr,fr=s.fr→∀ X:List D,X=touchD s p→LAt b T stp (H.set T (.cells [.d (.list 2 arrsD),.d stp,.sl (.heap H.length) 4 1 0 1] false)++[.vec 4 [.agg [.int .i64 k,.int .i64 0,atV p,.list 2 X]] false true]) ([]++[instD ([]:List D).length (k,s,p)]):=by
   rintro _ _ X rfl
   refine .inr ⟨H.length,by omega,by simp,?_,?_⟩
   ·rw [List.getElem?_append_left (by simpa using hTl),List.getElem?_set_self hTl]
    rfl
   ·rw [List.getElem?_append_right (by simp)]
    simp [instD]
  obtain ⟨ss,to,fr,op,num,den,name,size,args⟩:=s
  have hfew:=hs.few
  have e0:=e to hs.to
  match fr,hfew,hs,hl,fin with
  | [],_,hs,hl,fin =>
   obtain ⟨w,f⟩:=r64_0_0 hl hT hne rfl (e0 _) (cAtD _) (cAt p)
   exact ⟨_,w,f,fin _ rfl _ rfl,keep0⟩
  | [x],_,hs,hl,fin =>
   obtain ⟨w,f⟩:=r64_1_0 hl hT hne rfl (e0 _) (e x (hs.fr x (by simp)) _) (cAtD _) (cAt p) (cAtD _)
   exact ⟨_,w,f,fin _ rfl _ rfl,keep0⟩
  | [x,y],_,hs,hl,fin =>
   obtain ⟨w,f⟩:=r64_2_0 hl hT hne rfl (e0 _) (e x (hs.fr x (by simp)) _) (e y (hs.fr y (by simp)) _) (cAtD _) (cAt p) (cAtD _) (cAtD _)
   exact ⟨_,w,f,fin _ rfl _ rfl,keep0⟩
  | [x,y,z],_,hs,hl,fin =>
   obtain ⟨w,f⟩:=r64_3_0 hl hT hne rfl (e0 _) (e x (hs.fr x (by simp)) _) (e y (hs.fr y (by simp)) _) (e z (hs.fr z (by simp)) _) (cAtD _) (cAt p) (cAtD _) (cAtD _) (cAtD _)
   exact ⟨_,w,f,fin _ rfl _ rfl,keep0⟩
  | _ :: _ :: _ :: _ :: _,hfew,_,_,_=>simp at hfew
 ·have hne:l≠T:=by rintro rfl; rw [hl] at hT; simp [recO] at hT
  have hne2:l≠L:=by rintro rfl; rw [hl] at hL; simp [recO] at hL
  have hne3:T≠L:=by rintro rfl; rw [hL] at hT; simp at hT
  have hTl:T < H.length:=(gS.1 hT).1
  have hLl:L < H.length:=(gS.1 hL).1
  have e:∀ c:Nat × List (Int × List Int),CellOk c.1 c.2 s.ss→∀ o,callL K (.fn (.func 133) [] []) [.ptr (.heap T) 0,.d (encC c.1 c.2),.d (atV p)] none (H.set l o)=some (.ret (.d (placeD c p)),false,H.set l o,0):=fun c hc o=>s133 _ T (by rw [List.getElem?_set_ne hne]; exact hT) hc hs.sz hp (.d (atV p)) (hAt p)
  have fin:∀ fr,fr=s.fr→∀ X:List D,X=touchD s p→LAt b T stp ((H.set L (.vec 4 (es++[.agg [.int .i64 k,.int .i64 es.length,atV p,.list 2 X]]) false true)).set T (.cells [.d (.list 2 arrsD),.d stp,.sl (.heap L) 4 (es.length+1) 0 (es.length+1)] false)) (es++[instD es.length (k,s,p)]):=by
   rintro _ _ X rfl
   refine .inr ⟨L,hbL,by simp,?_,?_⟩
   ·rw [List.getElem?_set_self (by simpa using hTl)]
    simp
   ·rw [List.getElem?_set_ne hne3,List.getElem?_set_self hLl]
    rfl
  obtain ⟨ss,to,fr,op,num,den,name,size,args⟩:=s
  have hfew:=hs.few
  have e0:=e to hs.to
  match fr,hfew,hs,hl,fin with
  | [],_,hs,hl,fin =>
   obtain ⟨w,f⟩:=r64_0_1 hl hT hne rfl hL hne2 hne3 hes (e0 _) (cAtD _) (cAt p)
   exact ⟨_,w,f,fin _ rfl _ rfl,keep1 hbL hL⟩
  | [x],_,hs,hl,fin =>
   obtain ⟨w,f⟩:=r64_1_1 hl hT hne rfl hL hne2 hne3 hes (e0 _) (e x (hs.fr x (by simp)) _) (cAtD _) (cAt p) (cAtD _)
   exact ⟨_,w,f,fin _ rfl _ rfl,keep1 hbL hL⟩
  | [x,y],_,hs,hl,fin =>
   obtain ⟨w,f⟩:=r64_2_1 hl hT hne rfl hL hne2 hne3 hes (e0 _) (e x (hs.fr x (by simp)) _) (e y (hs.fr y (by simp)) _) (cAtD _) (cAt p) (cAtD _) (cAtD _)
   exact ⟨_,w,f,fin _ rfl _ rfl,keep1 hbL hL⟩
  | [x,y,z],_,hs,hl,fin =>
   obtain ⟨w,f⟩:=r64_3_1 hl hT hne rfl hL hne2 hne3 hes (e0 _) (e x (hs.fr x (by simp)) _) (e y (hs.fr y (by simp)) _) (e z (hs.fr z (by simp)) _) (cAtD _) (cAt p) (cAtD _) (cAtD _) (cAtD _)
   exact ⟨_,w,f,fin _ rfl _ rfl,keep1 hbL hL⟩
  | _ :: _ :: _ :: _ :: _,hfew,_,_,_=>simp at hfew
theorem Keep.at {b T:Nat} {H H':List O} (h:Keep b T H H') {i:Nat} {o:O} (h1:H[i]?=some o) (h2:i≠T) (h3:∀ t e x y,o≠.vec t e x y):H'[i]?=some o:=h i o h1 h2 (.inr h3)
theorem g64 {b T g k:Nat} {c1 all:List D} {s:Stp} (hs:StpOk s) {hp:List O} {done:List (Nat × Stp × List Int)} {stp:D} (hb:b≤T) (hT:LAt b T stp hp (encI 0 done)) (hn:done.length+(allAt s.ss).length≤1000) :
  ∃ H' w,callL K (.fn (.func 190) [] [.ptr (.heap hp.length) 0]) [.fn (.yield (hp.length+1)) [] []] none (hp++[.cells [.d (szD s.ss)] false,recO T g k hp.length c1 all s])=some (.ret (.tuple []),false,H',w) ∧
   H'[hp.length+1]?=some (recO T g k hp.length c1 all s)∧LAt b T stp H' (encI 0 (done++(allAt s.ss).map (fun p=>(k,s,p))))∧Keep b T hp H':=by
 have hTl:T < hp.length:=by rcases hT with ⟨_,h⟩ | ⟨_,_,_,h,_⟩<;>exact (gS.1 h).1
 let H1:=hp++[.cells [.d (szD s.ss)] false,recO T g k hp.length c1 all s]
 have hH1:H1.length=hp.length+2:=by simp [H1]
 let H2:=H1++[.cells [.fn (.yield (hp.length+1)) [] []] false,.cells [.fn (.func 191) [] [.ptr (.heap hp.length) 0,.ptr (.heap H1.length) 0,.ptr (.heap (H1.length+1)) 0]] false]
 let Inv:List (List Int)→List O→Prop:=fun d H=>LAt b T stp H (encI 0 (done++d.map (fun p=>(k,s,p))))∧Keep b T H2 H
 have hB:H2[hp.length]?=some (.cells [.d (szD s.ss)] false):=by simp [H2,H1]
 have hR:H2[hp.length+1]?=some (recO T g k hp.length c1 all s):=by simp [H2,H1]
 have hY:H2[H1.length]?=some (.cells [.fn (.yield (hp.length+1)) [] []] false):=by
  simp only [H2]; rw [List.getElem?_append_right (by omega)]; simp
 have hG:H2[H1.length+1]?=some (.cells [.fn (.func 191) [] [.ptr (.heap hp.length) 0,.ptr (.heap H1.length) 0,.ptr (.heap (H1.length+1)) 0]] false):=by
  simp only [H2]; rw [List.getElem?_append_right (by omega)]; simp
 have R:Rounds s.ss hp.length H1.length (H1.length+1) (hp.length+1) (allAt s.ss).length Inv:=by
  refine ⟨?_,?_,?_,?_⟩
  ·exact fun d H h=>⟨false,h.2.at hB (by omega) (by simp)⟩
  ·exact fun d H h=>⟨false,h.2.at hY (by omega) (by simp)⟩
  ·exact fun d H h=>⟨false,h.2.at hG (by omega) (by simp)⟩
  ·intro d H p h hp' hd
   have hr:=h.2.at hR (by omega) (by simp [recO])
   obtain ⟨H',w,e,hL,hK⟩:=r64 hs hp' hb hr h.1 (by rw [encI_len]; simp; omega)
   refine ⟨H',w,e,?_,h.2.trans hK⟩
   have:encI 0 (done++List.map (fun p=>(k,s,p)) (d++[p]))=encI 0 (done++d.map (fun p=>(k,s,p)))++[instD (encI 0 (done++d.map (fun p=>(k,s,p)))).length (k,s,p)]:=by
    rw [encI_len,List.map_append,← List.append_assoc,encI_app]
    simp [encI]
   rw [this]
   exact hL
 have hI0:Inv [] H2:=by
  refine ⟨?_,Keep.refl _ _ _⟩
  have hap:∀ (i:Nat) (o:O),hp[i]?=some o→H2[i]?=some o:=fun i o h=>by
   have hi:=(gS.1 h).1
   simp only [H2,H1]
   rw [List.append_assoc,List.getElem?_append_left hi]
   exact h
  simp only [List.map_nil,List.append_nil]
  rcases hT with ⟨h1,h2⟩ | ⟨L,h1,h2,h3,h4⟩
  ·exact .inl ⟨h1,hap _ _ h2⟩
  ·exact .inr ⟨L,h1,h2,hap _ _ h3,hap _ _ h4⟩
 obtain ⟨H',w,e,hI⟩:=s191 R hs.sz s.ss [] [] rfl .nil [] H2 hI0 (by simp)
 obtain ⟨w',e'⟩:=s190 (H:=H1) (B:=hp.length) (l:=hp.length+1) e
 refine ⟨H',w',e',hI.2.at hR (by omega) (by simp [recO]),by simpa using hI.1,?_⟩
 refine Keep.trans ?_ hI.2
 intro i o h1 h2 _
 have hi:=(gS.1 h1).1
 simp only [H2,H1]
 rw [List.append_assoc,List.getElem?_append_left hi]
 exact h1
theorem Keep.dead {b T:Nat} {H H':List O} {l:Nat} (h:Keep b T H H') (hl:H.length≤l):Keep b T H (H'.set l .dead):=by
 intro i o h1 h2 h3
 have hi:=(gS.1 h1).1
 rw [List.getElem?_set_ne (by omega)]
 exact h i o h1 h2 h3
theorem LAt.dead {b T:Nat} {stp:D} {H:List O} {es:List D} {l:Nat} {o:O} (h:LAt b T stp H es) (hl:H[l]?=some o) (ho:∀ cs ro,o≠.cells cs ro) (hv:∀ t e x y,o≠.vec t e x y):LAt b T stp (H.set l .dead) es:=by
 have hne:∀ {i:Nat} {cs:List V} {ro:Bool},H[i]?=some (.cells cs ro)→(H.set l .dead)[i]?=some (.cells cs ro):=fun {i cs ro} h=>by
  have:l≠i:=by rintro rfl; rw [h] at hl; exact ho _ _ (Option.some.inj hl).symm
  rw [List.getElem?_set_ne this]; exact h
 have hnv:∀ {i t:Nat} {cs:List D} {x y:Bool},H[i]?=some (.vec t cs x y)→(H.set l .dead)[i]?=some (.vec t cs x y):=fun {i t cs x y} h=>by
  have:l≠i:=by rintro rfl; rw [h] at hl; exact hv _ _ _ _ (Option.some.inj hl).symm
  rw [List.getElem?_set_ne this]; exact h
 rcases h with ⟨h1,h2⟩ | ⟨L,h1,h2,h3,h4⟩
 ·exact .inl ⟨h1,hne h2⟩
 ·exact .inr ⟨L,h1,h2,hne h3,hnv h4⟩
theorem allAt_len {ss:List Int} (h:SzOk ss):(allAt ss).length≤16:=by
 obtain ⟨h1,h2⟩:=h
 match ss,h1,h2 with
 | [],_,_=>simp [allAt]
 | [a],h1,_ =>
  have:=h1 a (by simp)
  simp [allAt,List.map_const',List.length_flatMap]
  omega
 | [a,c],h1,_ =>
  have:=h1 a (by simp)
  have:=h1 c (by simp)
  obtain rfl | rfl | rfl | rfl:a=1∨a=2∨a=3∨a=4:=by omega
  all_goals obtain rfl | rfl | rfl | rfl:c=1∨c=2∨c=3∨c=4:=by omega
  all_goals decide
 | _ :: _ :: _ :: _,_,h2=>simp at h2
theorem loop64 {b T:Nat} {c1 all:List D} {ts:List Stp} (hall:all=ts.map encS) (h3:ts.length≤3) (ht:∀ s∈ts,StpOk s) {stp:D} (hb:b≤T) :
  ∀ (rs:List Stp) (k:Nat) (o:List (Nat × Nat × O)),k+rs.length=ts.length→(∀ i (h:i < rs.length),ts[k+i]?=some rs[i])→(o=[]∨∃ g o6 o7,o=[(6,g,o6),(7,g,o7)]) →
  ∀ (hp:List O) (w:Nat) (done:List (Nat × Stp × List Int)),LAt b T stp hp (encI 0 done)→done.length≤16 * k →
  ∃ H' w' o',execL K 64 (.loop l64_2) (St.mk [(2,.d .nilp),(3,.d (.int .i64 0)),(5,.ptr (.slot 5 0) 0),(21,.d (.list 10 all)),(22,.d (.int .i64 all.length)),(23,.d (.int .i64 k))]
   (Mem.mk ([(1,0,.cells (c1.map .d) false),(5,0,.cells [.ptr (.heap T) 0] false)]++o) hp w) [] none false none)=some (.exit 0,St.mk [(2,.d .nilp),(3,.d (.int .i64 0)),(5,.ptr (.slot 5 0) 0),(21,.d (.list 10 all)),(22,.d (.int .i64 all.length)),(23,.d (.int .i64 ts.length)),(24,.d (.bool false))]
   (Mem.mk ([(1,0,.cells (c1.map .d) false),(5,0,.cells [.ptr (.heap T) 0] false)]++o') H' w') [] none false none) ∧
   (o'=[]∨∃ g o6 o7,o'=[(6,g,o6),(7,g,o7)])∧LAt b T stp H' (encI 0 (done++allI k rs))∧Keep b T hp H':=by
 intro rs
 induction rs with
 | nil =>
  intro k o hk _ ho hp w done hT _
  simp only [List.length_nil,Nat.add_zero] at hk
  refine ⟨hp,w,o,?_,ho,by simpa [allI] using hT,Keep.refl _ _ _⟩
  have hal:all.length=ts.length:=by rw [hall]; simp
  rw [execL_loop]
  rcases ho with rfl | ⟨g,o6,o7,rfl⟩<;>simp [u64_2,x64_6,hk,hal]
 | cons s rs ih =>
  intro k o hk hat ho hp w done hT hd
  have hs0:=hat 0 (by simp)
  simp only [Nat.add_zero,List.getElem_cons_zero] at hs0
  have hkl:all[k]?=some (encS s):=by rw [hall,List.getElem?_map,hs0]; rfl
  have hso:StpOk s:=ht s (List.mem_of_getElem? hs0)
  have hal:=allAt_len hso.sz
  simp only [List.length_cons] at hk
  have hln:all.length≤1000:=by rw [hall]; simp; omega
  have main:∃ g H1 w1 o6 o7,execL K 64 l64_2 (St.mk [(2,.d .nilp),(3,.d (.int .i64 0)),(5,.ptr (.slot 5 0) 0),(21,.d (.list 10 all)),(22,.d (.int .i64 all.length)),(23,.d (.int .i64 k))]
   (Mem.mk ([(1,0,.cells (c1.map .d) false),(5,0,.cells [.ptr (.heap T) 0] false)]++o) hp w) [] none false none)=some (.normal,St.mk [(2,.d .nilp),(3,.d (.int .i64 0)),(5,.ptr (.slot 5 0) 0),(21,.d (.list 10 all)),(22,.d (.int .i64 all.length)),(23,.d (.int .i64 (k+1:Nat)))]
   (Mem.mk ([(1,0,.cells (c1.map .d) false),(5,0,.cells [.ptr (.heap T) 0] false)]++[(6,g,o6),(7,g,o7)]) H1 w1) [] none false none)∧LAt b T stp H1 (encI 0 (done++(allAt s.ss).map (fun p=>(k,s,p))))∧Keep b T hp H1:=by
   rcases ho with rfl | ⟨g,o6,o7,rfl⟩
   ·obtain ⟨H',w2,e2,hl,hL,hK⟩:=g64 (g:=0) (k:=k) (c1:=c1) (all:=all) hso hb hT (by omega)
    obtain ⟨w',e⟩:=t64_0 T k w 0 w2 s hso hkl hln e2 hl
    exact ⟨0,_,w',_,_,e,hL.dead hl (by simp [recO]) (by simp [recO]),hK.dead (by omega)⟩
   ·obtain ⟨H',w2,e2,hl,hL,hK⟩:=g64 (g:=g+1) (k:=k) (c1:=c1) (all:=all) hso hb hT (by omega)
    obtain ⟨w',e⟩:=t64_1 T k g w 0 w2 s hso hkl hln o6 o7 e2 hl
    exact ⟨g+1,_,w',_,_,e,hL.dead hl (by simp [recO]) (by simp [recO]),hK.dead (by omega)⟩
  obtain ⟨g,H1,w1,o6,o7,e1,hL1,hK1⟩:=main
  obtain ⟨H2,w2,o',e2,ho',hL2,hK2⟩:=ih (k+1) [(6,g,o6),(7,g,o7)] (by omega) (fun i h=>by
   have:=hat (i+1) (by simp; omega)
   simpa [Nat.add_assoc,Nat.add_comm 1] using this) (.inr ⟨g,o6,o7,rfl⟩) H1 w1 _ hL1 (by simp; omega)
  refine ⟨H2,w2,o',?_,ho',by simpa [allI] using hL2,hK1.trans hK2⟩
  rw [execL_loop,e1]
  exact e2
def stpsD (t:List Stp):D:=.list 10 (t.map encS)
theorem s64 {t:List Stp} (ht:TaskOk t) (h3:t.length≤3) (hp:List O) :
  ∃ H' w T,callL K (.fn (.func 64) [] []) [.d (encT t)] none hp=some (.ret (.tuple [.ptr (.heap T) 0,.d (.int .i64 0)]),false,H',w) ∧
   hp.length≤T∧LAt hp.length T (stpsD t) H' (encI 0 (allI 0 t))∧Keep hp.length T hp H':=by
 obtain ⟨J,w1,e1⟩:=s120 hp ht h3
 have hlen:(hp++J).length=hp.length+J.length:=by simp
 obtain ⟨H',w2,o',e2,ho',hL,hK⟩:=loop64 (b:=hp.length) (T:=(hp++J).length) (c1:=[.list 2 arrsD,stpsD t]) (all:=t.map encS) (ts:=t) rfl h3 ht.ok (stp:=stpsD t) (by omega) t 0 [] (by simp) (fun i h=>by simp [h]) (.inl rfl)
  (hp++J++[.cells [.d (.list 2 arrsD),.d (stpsD t),.d .nils] false]) w1 [] (.inl ⟨rfl,by simp⟩) (by simp)
 refine ⟨H',w2,(hp++J).length,?_,by omega,by simpa using hL,?_⟩
 ·have e:=k64 [] [] [.d (encT t)] none hp
  have hp0:t≠[]:=by have:=ht.pos; intro h; simp [h] at this
  simp only [encT] at e1 ⊢
  simp [stpsD] at e2
  simp [c64,x64_0,x64_1,x64_2,x64_3,x64_4,x64_5,x64_18,encT,stpsD,e1,e2] at e
  rw [hlen]; exact e
 ·refine Keep.trans ?_ hK
  intro i o h1 h2 _
  have hi:=(gS.1 h1).1
  rw [List.append_assoc,List.getElem?_append_left hi]
  exact h1
end Mw
