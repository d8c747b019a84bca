/- DependProofs answers true for every list of numbers: its tied card holds; no condition beyond the card's own. -/
import Derived.Test.YtdjnccgeajpegaaGreatDoorXc
import Derived.Test.YtdjnccgeajpegaaGreatDoorQf
set_option linter.unusedVariables false
set_option linter.unusedSimpArgs false
set_option maxRecDepth 10000
set_option maxHeartbeats 4000000
namespace Mw
open Go Go.Proofs
theorem ua64 (s:St):execL K 64 a64_1 s=execL K 64 (.region 9 (opsAt K.P 64 9) false) s:=rfl
theorem ud64 (s:St):execL K 64 d64_1 s=execL K 64 (.block 3 (.seq (.region 10 (opsAt K.P 64 10) true) (.seq (.seq (.region 11 (opsAt K.P 64 11) false) (.block 4 (.loop l64_0))) (.region 16 (opsAt K.P 64 16) true)))) s:=rfl
theorem cellsD_of {d:D} (h:D.isCell d=true):D.cells d=[d]:=by
 cases d<;>first | rfl | simp [D.isCell] at h
theorem set_id {H:List O} {l:Nat} {a:O} (h:H[l]?=some a):H.set l a=H:=by
 have hl:l < H.length:=(List.getElem?_eq_some_iff.1 h).1
 have h2:H[l]=a:=(List.getElem?_eq_some_iff.1 h).2
 rw [← h2]; exact List.set_getElem_self hl
theorem back1 {H:List O} {l T:Nat} {a b c:O} (h:H[l]?=some a) (hne:l≠T):((H.set l c).set T b).set l a=H.set T b:=by
 rw [List.set_comm b a (Ne.symm hne),List.set_set,set_id h]
theorem back2 {H:List O} {l T L:Nat} {a b c d:O} (h:H[l]?=some a) (hne:l≠T) (hne2:l≠L):(((H.set l c).set L d).set T b).set l a=(H.set L d).set T b:=by
 rw [List.set_comm b a (Ne.symm hne),back1 h hne2]
theorem r64_0_0 {H Hb:List O} {l T g:Nat} {k tn pa0 pb0:Int} {sz tx stp at0 :D} {v21 v22 v23 v30 y5 y6 y7 y8 y9 y10:V} {c1:List V}
 (hl:H[l]?=some (.loop .ready none 64 [(2,.d .nilp),(3,.d (.int .i64 0)),(5,.ptr (.slot 5 0) 0),(6,.ptr (.slot 6 g) 0),(7,.ptr (.slot 7 g) 0),(21,v21),(22,v22),(23,v23),(30,v30)] [(1,0,.cells c1 true),(5,0,.cells [.ptr (.heap T) 0] true),(6,g,.cells [.d (.int .i64 k)] true),(7,g,.cells [.d sz,.d (.int .i64 tn),.d tx,.d (.nils),y5,y6,y7,y8,y9,y10] true)] [31] a64_1 d64_1)) (hT:H[T]?=some (.cells [.d (.list 2 arrsD),.d stp,.d .nils] false)) (hne:l≠T) (hHb:Hb=H.set l (.loop .busy none 64 [(2,.d .nilp),(3,.d (.int .i64 0)),(5,.ptr (.slot 5 0) 0),(6,.ptr (.slot 6 g) 0),(7,.ptr (.slot 7 g) 0),(21,v21),(22,v22),(23,v23),(30,v30)] [(1,0,.cells c1 true),(5,0,.cells [.ptr (.heap T) 0] true),(6,g,.cells [.d (.int .i64 k)] true),(7,g,.cells [.d sz,.d (.int .i64 tn),.d tx,.d (.nils),y5,y6,y7,y8,y9,y10] true)] [31] a64_1 d64_1))
 (e0:CK 133 [.ptr (.heap T) 0,.d (.agg [.int .i64 tn,tx]),.d at0] Hb (.d (.agg [.int .i64 pa0,.int .i64 pb0])) Hb 0)
 (ctx:D.isCell tx=true) (cat0:D.isCell at0=true)
 : ∃ w,callL K (.fn (.yield l) [] []) [.d at0] none H=some (.ret (.d (.bool true)),false,(H.set T (.cells [.d (.list 2 arrsD),.d stp,.sl (.heap H.length) 4 1 0 1] false)++[.vec 4 [.agg [.int .i64 k,.int .i64 0,at0,.list 2 [.agg [.int .i64 pa0,.int .i64 pb0]]]] false true]),w):=by
 subst hHb
 have kat0:D.cells at0=[at0]:=cellsD_of cat0
 simp only [D.cells] at kat0
 simp only [D.isCell] at ctx cat0
 have hll:l < H.length:=(gS.1 hl).1
 have hTl:T < H.length:=(gS.1 hT).1
 have hne':¬ T=l:=fun h=>hne h.symm
 have hl2:=hl
 have hT2:=hT
 rw [List.getElem?_eq_getElem hll] at hl2
 rw [List.getElem?_eq_getElem hTl] at hT2
 simp only [Option.some.injEq] at hl2 hT2
 rw [callL_yield]
 unfold roundL
 rw [hl]
 simp [ua64,ud64,x64_9,r64_9,x64_10,r64_10,x64_11,r64_11,x64_12,r64_12,x64_13,r64_13,x64_14,r64_14,x64_15,r64_15,x64_16,r64_16,execL_loop,u64_0,endR,insL,hl2,hT2,hne,hne',hll,hTl,w0,w1,w2,w3,kat0,List.getElem?_append_left,List.set_append_left,e0,ctx,cat0]
 exact back1 hl hne
theorem r64_0_1 {H Hb:List O} {l T L g:Nat} {k tn pa0 pb0:Int} {sz tx stp at0 :D} {v21 v22 v23 v30 y5 y6 y7 y8 y9 y10:V} {c1:List V} {es:List D}
 (hl:H[l]?=some (.loop .ready none 64 [(2,.d .nilp),(3,.d (.int .i64 0)),(5,.ptr (.slot 5 0) 0),(6,.ptr (.slot 6 g) 0),(7,.ptr (.slot 7 g) 0),(21,v21),(22,v22),(23,v23),(30,v30)] [(1,0,.cells c1 true),(5,0,.cells [.ptr (.heap T) 0] true),(6,g,.cells [.d (.int .i64 k)] true),(7,g,.cells [.d sz,.d (.int .i64 tn),.d tx,.d (.nils),y5,y6,y7,y8,y9,y10] true)] [31] a64_1 d64_1)) (hT:H[T]?=some (.cells [.d (.list 2 arrsD),.d stp,.sl (.heap L) 4 es.length 0 es.length] false)) (hne:l≠T) (hHb:Hb=H.set l (.loop .busy none 64 [(2,.d .nilp),(3,.d (.int .i64 0)),(5,.ptr (.slot 5 0) 0),(6,.ptr (.slot 6 g) 0),(7,.ptr (.slot 7 g) 0),(21,v21),(22,v22),(23,v23),(30,v30)] [(1,0,.cells c1 true),(5,0,.cells [.ptr (.heap T) 0] true),(6,g,.cells [.d (.int .i64 k)] true),(7,g,.cells [.d sz,.d (.int .i64 tn),.d tx,.d (.nils),y5,y6,y7,y8,y9,y10] true)] [31] a64_1 d64_1))
 (hL:H[L]?=some (.vec 4 es false true)) (hne2:l≠L) (hne3:T≠L) (hes:es.length≤1000)
 (e0:CK 133 [.ptr (.heap T) 0,.d (.agg [.int .i64 tn,tx]),.d at0] Hb (.d (.agg [.int .i64 pa0,.int .i64 pb0])) Hb 0)
 (ctx:D.isCell tx=true) (cat0:D.isCell at0=true)
 : ∃ w,callL K (.fn (.yield l) [] []) [.d at0] none H=some (.ret (.d (.bool true)),false,((H.set L (.vec 4 (es++[.agg [.int .i64 k,.int .i64 es.length,at0,.list 2 [.agg [.int .i64 pa0,.int .i64 pb0]]]]) false true)).set T (.cells [.d (.list 2 arrsD),.d stp,.sl (.heap L) 4 (es.length+1) 0 (es.length+1)] false)),w):=by
 subst hHb
 have kat0:D.cells at0=[at0]:=cellsD_of cat0
 simp only [D.cells] at kat0
 simp only [D.isCell] at ctx cat0
 have hll:l < H.length:=(gS.1 hl).1
 have hTl:T < H.length:=(gS.1 hT).1
 have hne':¬ T=l:=fun h=>hne h.symm
 have hLl:L < H.length:=(gS.1 hL).1
 have hne2':¬ L=l:=fun h=>hne2 h.symm
 have hne3':¬ L=T:=fun h=>hne3 h.symm
 have hg1:es.length+1≤4294967296:=by omega
 have hg2:(es.length+1) * 64≤4294967296:=by omega
 have hl2:=hl
 have hT2:=hT
 rw [List.getElem?_eq_getElem hll] at hl2
 rw [List.getElem?_eq_getElem hTl] at hT2
 simp only [Option.some.injEq] at hl2 hT2
 have hL2:=hL
 rw [List.getElem?_eq_getElem hLl] at hL2
 simp only [Option.some.injEq] at hL2
 rw [callL_yield]
 unfold roundL
 rw [hl]
 simp [ua64,ud64,x64_9,r64_9,x64_10,r64_10,x64_11,r64_11,x64_12,r64_12,x64_13,r64_13,x64_14,r64_14,x64_15,r64_15,x64_16,r64_16,execL_loop,u64_0,endR,insL,hl2,hT2,hne,hne',hll,hTl,w0,w1,w2,w3,kat0,List.getElem?_append_left,List.set_append_left,hL2,hne2,hne2',hne3,hne3',hLl,hg1,hg2,e0,ctx,cat0]
 exact back2 hl hne hne2
theorem r64_1_0 {H Hb:List O} {l T g:Nat} {k tn pa0 pb0 pa1 pb1 n0:Int} {sz tx stp at0 x0:D} {v21 v22 v23 v30 y5 y6 y7 y8 y9 y10:V} {c1:List V}
 (hl:H[l]?=some (.loop .ready none 64 [(2,.d .nilp),(3,.d (.int .i64 0)),(5,.ptr (.slot 5 0) 0),(6,.ptr (.slot 6 g) 0),(7,.ptr (.slot 7 g) 0),(21,v21),(22,v22),(23,v23),(30,v30)] [(1,0,.cells c1 true),(5,0,.cells [.ptr (.heap T) 0] true),(6,g,.cells [.d (.int .i64 k)] true),(7,g,.cells [.d sz,.d (.int .i64 tn),.d tx,.d (.list 2 [.agg [.int .i64 n0,x0]]),y5,y6,y7,y8,y9,y10] true)] [31] a64_1 d64_1)) (hT:H[T]?=some (.cells [.d (.list 2 arrsD),.d stp,.d .nils] false)) (hne:l≠T) (hHb:Hb=H.set l (.loop .busy none 64 [(2,.d .nilp),(3,.d (.int .i64 0)),(5,.ptr (.slot 5 0) 0),(6,.ptr (.slot 6 g) 0),(7,.ptr (.slot 7 g) 0),(21,v21),(22,v22),(23,v23),(30,v30)] [(1,0,.cells c1 true),(5,0,.cells [.ptr (.heap T) 0] true),(6,g,.cells [.d (.int .i64 k)] true),(7,g,.cells [.d sz,.d (.int .i64 tn),.d tx,.d (.list 2 [.agg [.int .i64 n0,x0]]),y5,y6,y7,y8,y9,y10] true)] [31] a64_1 d64_1))
 (e0:CK 133 [.ptr (.heap T) 0,.d (.agg [.int .i64 tn,tx]),.d at0] Hb (.d (.agg [.int .i64 pa0,.int .i64 pb0])) Hb 0)
 (e1:CK 133 [.ptr (.heap T) 0,.d (.agg [.int .i64 n0,x0]),.d at0] Hb (.d (.agg [.int .i64 pa1,.int .i64 pb1])) Hb 0)
 (ctx:D.isCell tx=true) (cat0:D.isCell at0=true) (cx0:D.isCell x0=true)
 : ∃ w,callL K (.fn (.yield l) [] []) [.d at0] none H=some (.ret (.d (.bool true)),false,(H.set T (.cells [.d (.list 2 arrsD),.d stp,.sl (.heap H.length) 4 1 0 1] false)++[.vec 4 [.agg [.int .i64 k,.int .i64 0,at0,.list 2 [.agg [.int .i64 pa0,.int .i64 pb0],.agg [.int .i64 pa1,.int .i64 pb1]]]] false true]),w):=by
 subst hHb
 have kat0:D.cells at0=[at0]:=cellsD_of cat0
 simp only [D.cells] at kat0
 simp only [D.isCell] at ctx cat0 cx0
 have hll:l < H.length:=(gS.1 hl).1
 have hTl:T < H.length:=(gS.1 hT).1
 have hne':¬ T=l:=fun h=>hne h.symm
 have hl2:=hl
 have hT2:=hT
 rw [List.getElem?_eq_getElem hll] at hl2
 rw [List.getElem?_eq_getElem hTl] at hT2
 simp only [Option.some.injEq] at hl2 hT2
 rw [callL_yield]
 unfold roundL
 rw [hl]
 simp [ua64,ud64,x64_9,r64_9,x64_10,r64_10,x64_11,r64_11,x64_12,r64_12,x64_13,r64_13,x64_14,r64_14,x64_15,r64_15,x64_16,r64_16,execL_loop,u64_0,endR,insL,hl2,hT2,hne,hne',hll,hTl,w0,w1,w2,w3,kat0,List.getElem?_append_left,List.set_append_left,e0,e1,ctx,cat0,cx0]
 exact back1 hl hne
theorem r64_1_1 {H Hb:List O} {l T L g:Nat} {k tn pa0 pb0 pa1 pb1 n0:Int} {sz tx stp at0 x0:D} {v21 v22 v23 v30 y5 y6 y7 y8 y9 y10:V} {c1:List V} {es:List D}
 (hl:H[l]?=some (.loop .ready none 64 [(2,.d .nilp),(3,.d (.int .i64 0)),(5,.ptr (.slot 5 0) 0),(6,.ptr (.slot 6 g) 0),(7,.ptr (.slot 7 g) 0),(21,v21),(22,v22),(23,v23),(30,v30)] [(1,0,.cells c1 true),(5,0,.cells [.ptr (.heap T) 0] true),(6,g,.cells [.d (.int .i64 k)] true),(7,g,.cells [.d sz,.d (.int .i64 tn),.d tx,.d (.list 2 [.agg [.int .i64 n0,x0]]),y5,y6,y7,y8,y9,y10] true)] [31] a64_1 d64_1)) (hT:H[T]?=some (.cells [.d (.list 2 arrsD),.d stp,.sl (.heap L) 4 es.length 0 es.length] false)) (hne:l≠T) (hHb:Hb=H.set l (.loop .busy none 64 [(2,.d .nilp),(3,.d (.int .i64 0)),(5,.ptr (.slot 5 0) 0),(6,.ptr (.slot 6 g) 0),(7,.ptr (.slot 7 g) 0),(21,v21),(22,v22),(23,v23),(30,v30)] [(1,0,.cells c1 true),(5,0,.cells [.ptr (.heap T) 0] true),(6,g,.cells [.d (.int .i64 k)] true),(7,g,.cells [.d sz,.d (.int .i64 tn),.d tx,.d (.list 2 [.agg [.int .i64 n0,x0]]),y5,y6,y7,y8,y9,y10] true)] [31] a64_1 d64_1))
 (hL:H[L]?=some (.vec 4 es false true)) (hne2:l≠L) (hne3:T≠L) (hes:es.length≤1000)
 (e0:CK 133 [.ptr (.heap T) 0,.d (.agg [.int .i64 tn,tx]),.d at0] Hb (.d (.agg [.int .i64 pa0,.int .i64 pb0])) Hb 0)
 (e1:CK 133 [.ptr (.heap T) 0,.d (.agg [.int .i64 n0,x0]),.d at0] Hb (.d (.agg [.int .i64 pa1,.int .i64 pb1])) Hb 0)
 (ctx:D.isCell tx=true) (cat0:D.isCell at0=true) (cx0:D.isCell x0=true)
 : ∃ w,callL K (.fn (.yield l) [] []) [.d at0] none H=some (.ret (.d (.bool true)),false,((H.set L (.vec 4 (es++[.agg [.int .i64 k,.int .i64 es.length,at0,.list 2 [.agg [.int .i64 pa0,.int .i64 pb0],.agg [.int .i64 pa1,.int .i64 pb1]]]]) false true)).set T (.cells [.d (.list 2 arrsD),.d stp,.sl (.heap L) 4 (es.length+1) 0 (es.length+1)] false)),w):=by
 subst hHb
 have kat0:D.cells at0=[at0]:=cellsD_of cat0
 simp only [D.cells] at kat0
 simp only [D.isCell] at ctx cat0 cx0
 have hll:l < H.length:=(gS.1 hl).1
 have hTl:T < H.length:=(gS.1 hT).1
 have hne':¬ T=l:=fun h=>hne h.symm
 have hLl:L < H.length:=(gS.1 hL).1
 have hne2':¬ L=l:=fun h=>hne2 h.symm
 have hne3':¬ L=T:=fun h=>hne3 h.symm
 have hg1:es.length+1≤4294967296:=by omega
 have hg2:(es.length+1) * 64≤4294967296:=by omega
 have hl2:=hl
 have hT2:=hT
 rw [List.getElem?_eq_getElem hll] at hl2
 rw [List.getElem?_eq_getElem hTl] at hT2
 simp only [Option.some.injEq] at hl2 hT2
 have hL2:=hL
 rw [List.getElem?_eq_getElem hLl] at hL2
 simp only [Option.some.injEq] at hL2
 rw [callL_yield]
 unfold roundL
 rw [hl]
 simp [ua64,ud64,x64_9,r64_9,x64_10,r64_10,x64_11,r64_11,x64_12,r64_12,x64_13,r64_13,x64_14,r64_14,x64_15,r64_15,x64_16,r64_16,execL_loop,u64_0,endR,insL,hl2,hT2,hne,hne',hll,hTl,w0,w1,w2,w3,kat0,List.getElem?_append_left,List.set_append_left,hL2,hne2,hne2',hne3,hne3',hLl,hg1,hg2,e0,e1,ctx,cat0,cx0]
 exact back2 hl hne hne2
theorem r64_2_0 {H Hb:List O} {l T g:Nat} {k tn pa0 pb0 pa1 pb1 pa2 pb2 n0 n1:Int} {sz tx stp at0 x0 x1:D} {v21 v22 v23 v30 y5 y6 y7 y8 y9 y10:V} {c1:List V}
 (hl:H[l]?=some (.loop .ready none 64 [(2,.d .nilp),(3,.d (.int .i64 0)),(5,.ptr (.slot 5 0) 0),(6,.ptr (.slot 6 g) 0),(7,.ptr (.slot 7 g) 0),(21,v21),(22,v22),(23,v23),(30,v30)] [(1,0,.cells c1 true),(5,0,.cells [.ptr (.heap T) 0] true),(6,g,.cells [.d (.int .i64 k)] true),(7,g,.cells [.d sz,.d (.int .i64 tn),.d tx,.d (.list 2 [.agg [.int .i64 n0,x0],.agg [.int .i64 n1,x1]]),y5,y6,y7,y8,y9,y10] true)] [31] a64_1 d64_1)) (hT:H[T]?=some (.cells [.d (.list 2 arrsD),.d stp,.d .nils] false)) (hne:l≠T) (hHb:Hb=H.set l (.loop .busy none 64 [(2,.d .nilp),(3,.d (.int .i64 0)),(5,.ptr (.slot 5 0) 0),(6,.ptr (.slot 6 g) 0),(7,.ptr (.slot 7 g) 0),(21,v21),(22,v22),(23,v23),(30,v30)] [(1,0,.cells c1 true),(5,0,.cells [.ptr (.heap T) 0] true),(6,g,.cells [.d (.int .i64 k)] true),(7,g,.cells [.d sz,.d (.int .i64 tn),.d tx,.d (.list 2 [.agg [.int .i64 n0,x0],.agg [.int .i64 n1,x1]]),y5,y6,y7,y8,y9,y10] true)] [31] a64_1 d64_1))
 (e0:CK 133 [.ptr (.heap T) 0,.d (.agg [.int .i64 tn,tx]),.d at0] Hb (.d (.agg [.int .i64 pa0,.int .i64 pb0])) Hb 0)
 (e1:CK 133 [.ptr (.heap T) 0,.d (.agg [.int .i64 n0,x0]),.d at0] Hb (.d (.agg [.int .i64 pa1,.int .i64 pb1])) Hb 0)
 (e2:CK 133 [.ptr (.heap T) 0,.d (.agg [.int .i64 n1,x1]),.d at0] Hb (.d (.agg [.int .i64 pa2,.int .i64 pb2])) Hb 0)
 (ctx:D.isCell tx=true) (cat0:D.isCell at0=true) (cx0:D.isCell x0=true) (cx1:D.isCell x1=true)
 : ∃ w,callL K (.fn (.yield l) [] []) [.d at0] none H=some (.ret (.d (.bool true)),false,(H.set T (.cells [.d (.list 2 arrsD),.d stp,.sl (.heap H.length) 4 1 0 1] false)++[.vec 4 [.agg [.int .i64 k,.int .i64 0,at0,.list 2 [.agg [.int .i64 pa0,.int .i64 pb0],.agg [.int .i64 pa1,.int .i64 pb1],.agg [.int .i64 pa2,.int .i64 pb2]]]] false true]),w):=by
 subst hHb
 have kat0:D.cells at0=[at0]:=cellsD_of cat0
 simp only [D.cells] at kat0
 simp only [D.isCell] at ctx cat0 cx0 cx1
 have hll:l < H.length:=(gS.1 hl).1
 have hTl:T < H.length:=(gS.1 hT).1
 have hne':¬ T=l:=fun h=>hne h.symm
 have hl2:=hl
 have hT2:=hT
 rw [List.getElem?_eq_getElem hll] at hl2
 rw [List.getElem?_eq_getElem hTl] at hT2
 simp only [Option.some.injEq] at hl2 hT2
 rw [callL_yield]
 unfold roundL
 rw [hl]
 simp [ua64,ud64,x64_9,r64_9,x64_10,r64_10,x64_11,r64_11,x64_12,r64_12,x64_13,r64_13,x64_14,r64_14,x64_15,r64_15,x64_16,r64_16,execL_loop,u64_0,endR,insL,hl2,hT2,hne,hne',hll,hTl,w0,w1,w2,w3,kat0,List.getElem?_append_left,List.set_append_left,e0,e1,e2,ctx,cat0,cx0,cx1]
 exact back1 hl hne
theorem r64_2_1 {H Hb:List O} {l T L g:Nat} {k tn pa0 pb0 pa1 pb1 pa2 pb2 n0 n1:Int} {sz tx stp at0 x0 x1:D} {v21 v22 v23 v30 y5 y6 y7 y8 y9 y10:V} {c1:List V} {es:List D}
 (hl:H[l]?=some (.loop .ready none 64 [(2,.d .nilp),(3,.d (.int .i64 0)),(5,.ptr (.slot 5 0) 0),(6,.ptr (.slot 6 g) 0),(7,.ptr (.slot 7 g) 0),(21,v21),(22,v22),(23,v23),(30,v30)] [(1,0,.cells c1 true),(5,0,.cells [.ptr (.heap T) 0] true),(6,g,.cells [.d (.int .i64 k)] true),(7,g,.cells [.d sz,.d (.int .i64 tn),.d tx,.d (.list 2 [.agg [.int .i64 n0,x0],.agg [.int .i64 n1,x1]]),y5,y6,y7,y8,y9,y10] true)] [31] a64_1 d64_1)) (hT:H[T]?=some (.cells [.d (.list 2 arrsD),.d stp,.sl (.heap L) 4 es.length 0 es.length] false)) (hne:l≠T) (hHb:Hb=H.set l (.loop .busy none 64 [(2,.d .nilp),(3,.d (.int .i64 0)),(5,.ptr (.slot 5 0) 0),(6,.ptr (.slot 6 g) 0),(7,.ptr (.slot 7 g) 0),(21,v21),(22,v22),(23,v23),(30,v30)] [(1,0,.cells c1 true),(5,0,.cells [.ptr (.heap T) 0] true),(6,g,.cells [.d (.int .i64 k)] true),(7,g,.cells [.d sz,.d (.int .i64 tn),.d tx,.d (.list 2 [.agg [.int .i64 n0,x0],.agg [.int .i64 n1,x1]]),y5,y6,y7,y8,y9,y10] true)] [31] a64_1 d64_1))
 (hL:H[L]?=some (.vec 4 es false true)) (hne2:l≠L) (hne3:T≠L) (hes:es.length≤1000)
 (e0:CK 133 [.ptr (.heap T) 0,.d (.agg [.int .i64 tn,tx]),.d at0] Hb (.d (.agg [.int .i64 pa0,.int .i64 pb0])) Hb 0)
 (e1:CK 133 [.ptr (.heap T) 0,.d (.agg [.int .i64 n0,x0]),.d at0] Hb (.d (.agg [.int .i64 pa1,.int .i64 pb1])) Hb 0)
 (e2:CK 133 [.ptr (.heap T) 0,.d (.agg [.int .i64 n1,x1]),.d at0] Hb (.d (.agg [.int .i64 pa2,.int .i64 pb2])) Hb 0)
 (ctx:D.isCell tx=true) (cat0:D.isCell at0=true) (cx0:D.isCell x0=true) (cx1:D.isCell x1=true)
 : ∃ w,callL K (.fn (.yield l) [] []) [.d at0] none H=some (.ret (.d (.bool true)),false,((H.set L (.vec 4 (es++[.agg [.int .i64 k,.int .i64 es.length,at0,.list 2 [.agg [.int .i64 pa0,.int .i64 pb0],.agg [.int .i64 pa1,.int .i64 pb1],.agg [.int .i64 pa2,.int .i64 pb2]]]]) false true)).set T (.cells [.d (.list 2 arrsD),.d stp,.sl (.heap L) 4 (es.length+1) 0 (es.length+1)] false)),w):=by
 subst hHb
 have kat0:D.cells at0=[at0]:=cellsD_of cat0
 simp only [D.cells] at kat0
 simp only [D.isCell] at ctx cat0 cx0 cx1
 have hll:l < H.length:=(gS.1 hl).1
 have hTl:T < H.length:=(gS.1 hT).1
 have hne':¬ T=l:=fun h=>hne h.symm
 have hLl:L < H.length:=(gS.1 hL).1
 have hne2':¬ L=l:=fun h=>hne2 h.symm
 have hne3':¬ L=T:=fun h=>hne3 h.symm
 have hg1:es.length+1≤4294967296:=by omega
 have hg2:(es.length+1) * 64≤4294967296:=by omega
 have hl2:=hl
 have hT2:=hT
 rw [List.getElem?_eq_getElem hll] at hl2
 rw [List.getElem?_eq_getElem hTl] at hT2
 simp only [Option.some.injEq] at hl2 hT2
 have hL2:=hL
 rw [List.getElem?_eq_getElem hLl] at hL2
 simp only [Option.some.injEq] at hL2
 rw [callL_yield]
 unfold roundL
 rw [hl]
 simp [ua64,ud64,x64_9,r64_9,x64_10,r64_10,x64_11,r64_11,x64_12,r64_12,x64_13,r64_13,x64_14,r64_14,x64_15,r64_15,x64_16,r64_16,execL_loop,u64_0,endR,insL,hl2,hT2,hne,hne',hll,hTl,w0,w1,w2,w3,kat0,List.getElem?_append_left,List.set_append_left,hL2,hne2,hne2',hne3,hne3',hLl,hg1,hg2,e0,e1,e2,ctx,cat0,cx0,cx1]
 exact back2 hl hne hne2
theorem r64_3_0 {H Hb:List O} {l T g:Nat} {k tn pa0 pb0 pa1 pb1 pa2 pb2 pa3 pb3 n0 n1 n2:Int} {sz tx stp at0 x0 x1 x2:D} {v21 v22 v23 v30 y5 y6 y7 y8 y9 y10:V} {c1:List V}
 (hl:H[l]?=some (.loop .ready none 64 [(2,.d .nilp),(3,.d (.int .i64 0)),(5,.ptr (.slot 5 0) 0),(6,.ptr (.slot 6 g) 0),(7,.ptr (.slot 7 g) 0),(21,v21),(22,v22),(23,v23),(30,v30)] [(1,0,.cells c1 true),(5,0,.cells [.ptr (.heap T) 0] true),(6,g,.cells [.d (.int .i64 k)] true),(7,g,.cells [.d sz,.d (.int .i64 tn),.d tx,.d (.list 2 [.agg [.int .i64 n0,x0],.agg [.int .i64 n1,x1],.agg [.int .i64 n2,x2]]),y5,y6,y7,y8,y9,y10] true)] [31] a64_1 d64_1)) (hT:H[T]?=some (.cells [.d (.list 2 arrsD),.d stp,.d .nils] false)) (hne:l≠T) (hHb:Hb=H.set l (.loop .busy none 64 [(2,.d .nilp),(3,.d (.int .i64 0)),(5,.ptr (.slot 5 0) 0),(6,.ptr (.slot 6 g) 0),(7,.ptr (.slot 7 g) 0),(21,v21),(22,v22),(23,v23),(30,v30)] [(1,0,.cells c1 true),(5,0,.cells [.ptr (.heap T) 0] true),(6,g,.cells [.d (.int .i64 k)] true),(7,g,.cells [.d sz,.d (.int .i64 tn),.d tx,.d (.list 2 [.agg [.int .i64 n0,x0],.agg [.int .i64 n1,x1],.agg [.int .i64 n2,x2]]),y5,y6,y7,y8,y9,y10] true)] [31] a64_1 d64_1))
 (e0:CK 133 [.ptr (.heap T) 0,.d (.agg [.int .i64 tn,tx]),.d at0] Hb (.d (.agg [.int .i64 pa0,.int .i64 pb0])) Hb 0)
 (e1:CK 133 [.ptr (.heap T) 0,.d (.agg [.int .i64 n0,x0]),.d at0] Hb (.d (.agg [.int .i64 pa1,.int .i64 pb1])) Hb 0)
 (e2:CK 133 [.ptr (.heap T) 0,.d (.agg [.int .i64 n1,x1]),.d at0] Hb (.d (.agg [.int .i64 pa2,.int .i64 pb2])) Hb 0)
 (e3:CK 133 [.ptr (.heap T) 0,.d (.agg [.int .i64 n2,x2]),.d at0] Hb (.d (.agg [.int .i64 pa3,.int .i64 pb3])) Hb 0)
 (ctx:D.isCell tx=true) (cat0:D.isCell at0=true) (cx0:D.isCell x0=true) (cx1:D.isCell x1=true) (cx2:D.isCell x2=true)
 : ∃ w,callL K (.fn (.yield l) [] []) [.d at0] none H=some (.ret (.d (.bool true)),false,(H.set T (.cells [.d (.list 2 arrsD),.d stp,.sl (.heap H.length) 4 1 0 1] false)++[.vec 4 [.agg [.int .i64 k,.int .i64 0,at0,.list 2 [.agg [.int .i64 pa0,.int .i64 pb0],.agg [.int .i64 pa1,.int .i64 pb1],.agg [.int .i64 pa2,.int .i64 pb2],.agg [.int .i64 pa3,.int .i64 pb3]]]] false true]),w):=by
 subst hHb
 have kat0:D.cells at0=[at0]:=cellsD_of cat0
 simp only [D.cells] at kat0
 simp only [D.isCell] at ctx cat0 cx0 cx1 cx2
 have hll:l < H.length:=(gS.1 hl).1
 have hTl:T < H.length:=(gS.1 hT).1
 have hne':¬ T=l:=fun h=>hne h.symm
 have hl2:=hl
 have hT2:=hT
 rw [List.getElem?_eq_getElem hll] at hl2
 rw [List.getElem?_eq_getElem hTl] at hT2
 simp only [Option.some.injEq] at hl2 hT2
 rw [callL_yield]
 unfold roundL
 rw [hl]
 simp [ua64,ud64,x64_9,r64_9,x64_10,r64_10,x64_11,r64_11,x64_12,r64_12,x64_13,r64_13,x64_14,r64_14,x64_15,r64_15,x64_16,r64_16,execL_loop,u64_0,endR,insL,hl2,hT2,hne,hne',hll,hTl,w0,w1,w2,w3,kat0,List.getElem?_append_left,List.set_append_left,e0,e1,e2,e3,ctx,cat0,cx0,cx1,cx2]
 exact back1 hl hne
theorem r64_3_1 {H Hb:List O} {l T L g:Nat} {k tn pa0 pb0 pa1 pb1 pa2 pb2 pa3 pb3 n0 n1 n2:Int} {sz tx stp at0 x0 x1 x2:D} {v21 v22 v23 v30 y5 y6 y7 y8 y9 y10:V} {c1:List V} {es:List D}
 (hl:H[l]?=some (.loop .ready none 64 [(2,.d .nilp),(3,.d (.int .i64 0)),(5,.ptr (.slot 5 0) 0),(6,.ptr (.slot 6 g) 0),(7,.ptr (.slot 7 g) 0),(21,v21),(22,v22),(23,v23),(30,v30)] [(1,0,.cells c1 true),(5,0,.cells [.ptr (.heap T) 0] true),(6,g,.cells [.d (.int .i64 k)] true),(7,g,.cells [.d sz,.d (.int .i64 tn),.d tx,.d (.list 2 [.agg [.int .i64 n0,x0],.agg [.int .i64 n1,x1],.agg [.int .i64 n2,x2]]),y5,y6,y7,y8,y9,y10] true)] [31] a64_1 d64_1)) (hT:H[T]?=some (.cells [.d (.list 2 arrsD),.d stp,.sl (.heap L) 4 es.length 0 es.length] false)) (hne:l≠T) (hHb:Hb=H.set l (.loop .busy none 64 [(2,.d .nilp),(3,.d (.int .i64 0)),(5,.ptr (.slot 5 0) 0),(6,.ptr (.slot 6 g) 0),(7,.ptr (.slot 7 g) 0),(21,v21),(22,v22),(23,v23),(30,v30)] [(1,0,.cells c1 true),(5,0,.cells [.ptr (.heap T) 0] true),(6,g,.cells [.d (.int .i64 k)] true),(7,g,.cells [.d sz,.d (.int .i64 tn),.d tx,.d (.list 2 [.agg [.int .i64 n0,x0],.agg [.int .i64 n1,x1],.agg [.int .i64 n2,x2]]),y5,y6,y7,y8,y9,y10] true)] [31] a64_1 d64_1))
 (hL:H[L]?=some (.vec 4 es false true)) (hne2:l≠L) (hne3:T≠L) (hes:es.length≤1000)
 (e0:CK 133 [.ptr (.heap T) 0,.d (.agg [.int .i64 tn,tx]),.d at0] Hb (.d (.agg [.int .i64 pa0,.int .i64 pb0])) Hb 0)
 (e1:CK 133 [.ptr (.heap T) 0,.d (.agg [.int .i64 n0,x0]),.d at0] Hb (.d (.agg [.int .i64 pa1,.int .i64 pb1])) Hb 0)
 (e2:CK 133 [.ptr (.heap T) 0,.d (.agg [.int .i64 n1,x1]),.d at0] Hb (.d (.agg [.int .i64 pa2,.int .i64 pb2])) Hb 0)
 (e3:CK 133 [.ptr (.heap T) 0,.d (.agg [.int .i64 n2,x2]),.d at0] Hb (.d (.agg [.int .i64 pa3,.int .i64 pb3])) Hb 0)
 (ctx:D.isCell tx=true) (cat0:D.isCell at0=true) (cx0:D.isCell x0=true) (cx1:D.isCell x1=true) (cx2:D.isCell x2=true)
 : ∃ w,callL K (.fn (.yield l) [] []) [.d at0] none H=some (.ret (.d (.bool true)),false,((H.set L (.vec 4 (es++[.agg [.int .i64 k,.int .i64 es.length,at0,.list 2 [.agg [.int .i64 pa0,.int .i64 pb0],.agg [.int .i64 pa1,.int .i64 pb1],.agg [.int .i64 pa2,.int .i64 pb2],.agg [.int .i64 pa3,.int .i64 pb3]]]]) false true)).set T (.cells [.d (.list 2 arrsD),.d stp,.sl (.heap L) 4 (es.length+1) 0 (es.length+1)] false)),w):=by
 subst hHb
 have kat0:D.cells at0=[at0]:=cellsD_of cat0
 simp only [D.cells] at kat0
 simp only [D.isCell] at ctx cat0 cx0 cx1 cx2
 have hll:l < H.length:=(gS.1 hl).1
 have hTl:T < H.length:=(gS.1 hT).1
 have hne':¬ T=l:=fun h=>hne h.symm
 have hLl:L < H.length:=(gS.1 hL).1
 have hne2':¬ L=l:=fun h=>hne2 h.symm
 have hne3':¬ L=T:=fun h=>hne3 h.symm
 have hg1:es.length+1≤4294967296:=by omega
 have hg2:(es.length+1) * 64≤4294967296:=by omega
 have hl2:=hl
 have hT2:=hT
 rw [List.getElem?_eq_getElem hll] at hl2
 rw [List.getElem?_eq_getElem hTl] at hT2
 simp only [Option.some.injEq] at hl2 hT2
 have hL2:=hL
 rw [List.getElem?_eq_getElem hLl] at hL2
 simp only [Option.some.injEq] at hL2
 rw [callL_yield]
 unfold roundL
 rw [hl]
 simp [ua64,ud64,x64_9,r64_9,x64_10,r64_10,x64_11,r64_11,x64_12,r64_12,x64_13,r64_13,x64_14,r64_14,x64_15,r64_15,x64_16,r64_16,execL_loop,u64_0,endR,insL,hl2,hT2,hne,hne',hll,hTl,w0,w1,w2,w3,kat0,List.getElem?_append_left,List.set_append_left,hL2,hne2,hne2',hne3,hne3',hLl,hg1,hg2,e0,e1,e2,e3,ctx,cat0,cx0,cx1,cx2]
 exact back2 hl hne hne2
end Mw
