/- DependLevels answers true for every list of numbers: its tied card holds; no condition beyond the card's own. -/
import Derived.Test.YtdjnccgeajpegaaGreatDoorQc
import Derived.Test.YtdjnccgeajpegaaGreatDoorXb
set_option linter.unusedVariables false
set_option linter.unusedSimpArgs false
set_option maxRecDepth 10000
set_option maxHeartbeats 2000000
namespace Mw
open Go Go.Proofs
theorem p63_1_0_0 {h0 h1 h2 h3 h4 h5 h6 h7:List O} {l:Nat} {w1 w2 w3 w4 w5 w6 w7:Nat} {ta tn o z s0:Int} {tx a:D} {p q n:ByteArray}
 (eP:CK 58 [.ptr (.heap l) 0,.d (.list 1 [.int .i64 0,.int .i64 1,.int .i64 1,.int .i64 2,.int .i64 2])] h0 (.d (.int .i64 1)) h1 w1)
 (eS0:CK 21 [.ptr (.heap l) 0,.d (.int .i64 1),.d (.int .i64 4)] h1 (.d (.int .i64 s0)) h2 w2)
 (eA:CK 20 [.ptr (.heap l) 0,.d (.int .i64 2)] h2 (.d (.int .i64 ta)) h3 w3)
 (eT:CK 128 [.ptr (.heap l) 0,.d (.list 2 arrsD),.d (.list 1 [.int .i64 s0]),.d (.int .i64 ta)] h3 (.d (.agg [.int .i64 tn,tx])) h4 w4)
 (eM:CK 20 [.ptr (.heap l) 0,.d (.int .i64 2)] h4 (.d (.int .i64 0)) h5 w5)
 (eO:CK 129 [.ptr (.heap l) 0,.d (.int .i64 3)] h5 (.d (.bool false)) h6 w6)
 (eB:CK 131 [.ptr (.heap l) 0,.d (.int .i64 0),.d (.int .i64 1)] h6 (.d (.agg [.int .i64 o,.str p,.str q,.str n,.int .i64 z,a])) h7 w7)
 (xtx:(tx).isCell=true) (xa:(a).isCell=true) :
 ∃ w,callL K (.fn (.func 63) [] []) [.ptr (.heap l) 0,.d (.list 2 arrsD)] none h0=some (.ret (.d (.agg [.list 1 [.int .i64 s0],.int .i64 tn,tx,.nils,.int .i64 o,.str p,.str q,.str n,.int .i64 z,a])),false,h7,w):=by
 simp only [D.isCell] at xtx xa
 have e:=k63 [] [] [.ptr (.heap l) 0,.d (.list 2 arrsD)] none h0
 have hA:arrsD.length=3:=rfl
 simp [c63,x63_0,x63_1,x63_2,x63_3,x63_4,x63_5,x63_6,x63_7,x63_8,x63_9,x63_10,x63_11,x63_12,x63_13,x63_14,x63_15,execL_loop,u63_0,u63_1,hA,hw0,hw1,hw2,eP,eS0,eA,eT,eM,eO,eB,xtx,xa] at e
 exact ⟨_,e⟩
theorem p63_1_0_1 {h0 h1 h2 h3 h4 h5 h6 h7:List O} {l:Nat} {w1 w2 w3 w4 w5 w6 w7:Nat} {ta tn o z s0:Int} {tx a:D} {p q n:ByteArray}
 (eP:CK 58 [.ptr (.heap l) 0,.d (.list 1 [.int .i64 0,.int .i64 1,.int .i64 1,.int .i64 2,.int .i64 2])] h0 (.d (.int .i64 1)) h1 w1)
 (eS0:CK 21 [.ptr (.heap l) 0,.d (.int .i64 1),.d (.int .i64 4)] h1 (.d (.int .i64 s0)) h2 w2)
 (eA:CK 20 [.ptr (.heap l) 0,.d (.int .i64 2)] h2 (.d (.int .i64 ta)) h3 w3)
 (eT:CK 128 [.ptr (.heap l) 0,.d (.list 2 arrsD),.d (.list 1 [.int .i64 s0]),.d (.int .i64 ta)] h3 (.d (.agg [.int .i64 tn,tx])) h4 w4)
 (eM:CK 20 [.ptr (.heap l) 0,.d (.int .i64 2)] h4 (.d (.int .i64 0)) h5 w5)
 (eO:CK 129 [.ptr (.heap l) 0,.d (.int .i64 3)] h5 (.d (.bool true)) h6 w6)
 (eK:∀ hp,callL K (.fn (.func 130) [] []) [.d (.agg [.int .i64 tn,tx])] none hp=some (.ret (.d (.agg [.int .i64 tn,tx])),false,hp,0))
 (eB:CK 131 [.ptr (.heap l) 0,.d (.int .i64 1),.d (.int .i64 1)] h6 (.d (.agg [.int .i64 o,.str p,.str q,.str n,.int .i64 z,a])) h7 w7)
 (xtx:(tx).isCell=true) (xa:(a).isCell=true) :
 ∃ w,callL K (.fn (.func 63) [] []) [.ptr (.heap l) 0,.d (.list 2 arrsD)] none h0=some (.ret (.d (.agg [.list 1 [.int .i64 s0],.int .i64 tn,tx,.list 2 [.agg [.int .i64 tn,tx]],.int .i64 o,.str p,.str q,.str n,.int .i64 z,a])),false,h7,w):=by
 simp only [D.isCell] at xtx xa
 have e:=k63 [] [] [.ptr (.heap l) 0,.d (.list 2 arrsD)] none h0
 have hA:arrsD.length=3:=rfl
 simp [c63,x63_0,x63_1,x63_2,x63_3,x63_4,x63_5,x63_6,x63_7,x63_8,x63_9,x63_10,x63_11,x63_12,x63_13,x63_14,x63_15,execL_loop,u63_0,u63_1,hA,hw0,hw1,hw2,eP,eS0,eA,eT,eM,eO,eK,eB,xtx,xa] at e
 exact ⟨_,e⟩
theorem p63_1_1_0 {h0 h1 h2 h3 h4 h5 h6 h7 h8 h9:List O} {l:Nat} {w1 w2 w3 w4 w5 w6 w7 w8 w9:Nat} {ta tn o z s0 fa0 fn0:Int} {tx a fx0:D} {p q n:ByteArray}
 (eP:CK 58 [.ptr (.heap l) 0,.d (.list 1 [.int .i64 0,.int .i64 1,.int .i64 1,.int .i64 2,.int .i64 2])] h0 (.d (.int .i64 1)) h1 w1)
 (eS0:CK 21 [.ptr (.heap l) 0,.d (.int .i64 1),.d (.int .i64 4)] h1 (.d (.int .i64 s0)) h2 w2)
 (eA:CK 20 [.ptr (.heap l) 0,.d (.int .i64 2)] h2 (.d (.int .i64 ta)) h3 w3)
 (eT:CK 128 [.ptr (.heap l) 0,.d (.list 2 arrsD),.d (.list 1 [.int .i64 s0]),.d (.int .i64 ta)] h3 (.d (.agg [.int .i64 tn,tx])) h4 w4)
 (eM:CK 20 [.ptr (.heap l) 0,.d (.int .i64 2)] h4 (.d (.int .i64 1)) h5 w5)
 (eF0:CK 20 [.ptr (.heap l) 0,.d (.int .i64 2)] h5 (.d (.int .i64 fa0)) h6 w6)
 (eC0:CK 128 [.ptr (.heap l) 0,.d (.list 2 arrsD),.d (.list 1 [.int .i64 s0]),.d (.int .i64 fa0)] h6 (.d (.agg [.int .i64 fn0,fx0])) h7 w7)
 (eO:CK 129 [.ptr (.heap l) 0,.d (.int .i64 3)] h7 (.d (.bool false)) h8 w8)
 (eB:CK 131 [.ptr (.heap l) 0,.d (.int .i64 1),.d (.int .i64 1)] h8 (.d (.agg [.int .i64 o,.str p,.str q,.str n,.int .i64 z,a])) h9 w9)
 (xtx:(tx).isCell=true) (xa:(a).isCell=true) (xfx0:(fx0).isCell=true) :
 ∃ w,callL K (.fn (.func 63) [] []) [.ptr (.heap l) 0,.d (.list 2 arrsD)] none h0=some (.ret (.d (.agg [.list 1 [.int .i64 s0],.int .i64 tn,tx,.list 2 [.agg [.int .i64 fn0,fx0]],.int .i64 o,.str p,.str q,.str n,.int .i64 z,a])),false,h9,w):=by
 simp only [D.isCell] at xtx xa xfx0
 have e:=k63 [] [] [.ptr (.heap l) 0,.d (.list 2 arrsD)] none h0
 have hA:arrsD.length=3:=rfl
 simp [c63,x63_0,x63_1,x63_2,x63_3,x63_4,x63_5,x63_6,x63_7,x63_8,x63_9,x63_10,x63_11,x63_12,x63_13,x63_14,x63_15,execL_loop,u63_0,u63_1,hA,hw0,hw1,hw2,eP,eS0,eA,eT,eM,eF0,eC0,eO,eB,xtx,xa,xfx0] at e
 exact ⟨_,e⟩
theorem p63_1_1_1 {h0 h1 h2 h3 h4 h5 h6 h7 h8 h9:List O} {l:Nat} {w1 w2 w3 w4 w5 w6 w7 w8 w9:Nat} {ta tn o z s0 fa0 fn0:Int} {tx a fx0:D} {p q n:ByteArray}
 (eP:CK 58 [.ptr (.heap l) 0,.d (.list 1 [.int .i64 0,.int .i64 1,.int .i64 1,.int .i64 2,.int .i64 2])] h0 (.d (.int .i64 1)) h1 w1)
 (eS0:CK 21 [.ptr (.heap l) 0,.d (.int .i64 1),.d (.int .i64 4)] h1 (.d (.int .i64 s0)) h2 w2)
 (eA:CK 20 [.ptr (.heap l) 0,.d (.int .i64 2)] h2 (.d (.int .i64 ta)) h3 w3)
 (eT:CK 128 [.ptr (.heap l) 0,.d (.list 2 arrsD),.d (.list 1 [.int .i64 s0]),.d (.int .i64 ta)] h3 (.d (.agg [.int .i64 tn,tx])) h4 w4)
 (eM:CK 20 [.ptr (.heap l) 0,.d (.int .i64 2)] h4 (.d (.int .i64 1)) h5 w5)
 (eF0:CK 20 [.ptr (.heap l) 0,.d (.int .i64 2)] h5 (.d (.int .i64 fa0)) h6 w6)
 (eC0:CK 128 [.ptr (.heap l) 0,.d (.list 2 arrsD),.d (.list 1 [.int .i64 s0]),.d (.int .i64 fa0)] h6 (.d (.agg [.int .i64 fn0,fx0])) h7 w7)
 (eO:CK 129 [.ptr (.heap l) 0,.d (.int .i64 3)] h7 (.d (.bool true)) h8 w8)
 (eK:∀ hp,callL K (.fn (.func 130) [] []) [.d (.agg [.int .i64 tn,tx])] none hp=some (.ret (.d (.agg [.int .i64 tn,tx])),false,hp,0))
 (eB:CK 131 [.ptr (.heap l) 0,.d (.int .i64 2),.d (.int .i64 1)] h8 (.d (.agg [.int .i64 o,.str p,.str q,.str n,.int .i64 z,a])) h9 w9)
 (xtx:(tx).isCell=true) (xa:(a).isCell=true) (xfx0:(fx0).isCell=true) :
 ∃ w,callL K (.fn (.func 63) [] []) [.ptr (.heap l) 0,.d (.list 2 arrsD)] none h0=some (.ret (.d (.agg [.list 1 [.int .i64 s0],.int .i64 tn,tx,.list 2 [.agg [.int .i64 fn0,fx0],.agg [.int .i64 tn,tx]],.int .i64 o,.str p,.str q,.str n,.int .i64 z,a])),false,h9,w):=by
 simp only [D.isCell] at xtx xa xfx0
 have e:=k63 [] [] [.ptr (.heap l) 0,.d (.list 2 arrsD)] none h0
 have hA:arrsD.length=3:=rfl
 simp [c63,x63_0,x63_1,x63_2,x63_3,x63_4,x63_5,x63_6,x63_7,x63_8,x63_9,x63_10,x63_11,x63_12,x63_13,x63_14,x63_15,execL_loop,u63_0,u63_1,hA,hw0,hw1,hw2,eP,eS0,eA,eT,eM,eF0,eC0,eO,eK,eB,xtx,xa,xfx0] at e
 exact ⟨_,e⟩
theorem p63_1_2_0 {h0 h1 h2 h3 h4 h5 h6 h7 h8 h9 h10 h11:List O} {l:Nat} {w1 w2 w3 w4 w5 w6 w7 w8 w9 w10 w11:Nat} {ta tn o z s0 fa0 fa1 fn0 fn1:Int} {tx a fx0 fx1:D} {p q n:ByteArray}
 (eP:CK 58 [.ptr (.heap l) 0,.d (.list 1 [.int .i64 0,.int .i64 1,.int .i64 1,.int .i64 2,.int .i64 2])] h0 (.d (.int .i64 1)) h1 w1)
 (eS0:CK 21 [.ptr (.heap l) 0,.d (.int .i64 1),.d (.int .i64 4)] h1 (.d (.int .i64 s0)) h2 w2)
 (eA:CK 20 [.ptr (.heap l) 0,.d (.int .i64 2)] h2 (.d (.int .i64 ta)) h3 w3)
 (eT:CK 128 [.ptr (.heap l) 0,.d (.list 2 arrsD),.d (.list 1 [.int .i64 s0]),.d (.int .i64 ta)] h3 (.d (.agg [.int .i64 tn,tx])) h4 w4)
 (eM:CK 20 [.ptr (.heap l) 0,.d (.int .i64 2)] h4 (.d (.int .i64 2)) h5 w5)
 (eF0:CK 20 [.ptr (.heap l) 0,.d (.int .i64 2)] h5 (.d (.int .i64 fa0)) h6 w6)
 (eC0:CK 128 [.ptr (.heap l) 0,.d (.list 2 arrsD),.d (.list 1 [.int .i64 s0]),.d (.int .i64 fa0)] h6 (.d (.agg [.int .i64 fn0,fx0])) h7 w7)
 (eF1:CK 20 [.ptr (.heap l) 0,.d (.int .i64 2)] h7 (.d (.int .i64 fa1)) h8 w8)
 (eC1:CK 128 [.ptr (.heap l) 0,.d (.list 2 arrsD),.d (.list 1 [.int .i64 s0]),.d (.int .i64 fa1)] h8 (.d (.agg [.int .i64 fn1,fx1])) h9 w9)
 (eO:CK 129 [.ptr (.heap l) 0,.d (.int .i64 3)] h9 (.d (.bool false)) h10 w10)
 (eB:CK 131 [.ptr (.heap l) 0,.d (.int .i64 2),.d (.int .i64 1)] h10 (.d (.agg [.int .i64 o,.str p,.str q,.str n,.int .i64 z,a])) h11 w11)
 (xtx:(tx).isCell=true) (xa:(a).isCell=true) (xfx0:(fx0).isCell=true) (xfx1:(fx1).isCell=true) :
 ∃ w,callL K (.fn (.func 63) [] []) [.ptr (.heap l) 0,.d (.list 2 arrsD)] none h0=some (.ret (.d (.agg [.list 1 [.int .i64 s0],.int .i64 tn,tx,.list 2 [.agg [.int .i64 fn0,fx0],.agg [.int .i64 fn1,fx1]],.int .i64 o,.str p,.str q,.str n,.int .i64 z,a])),false,h11,w):=by
 simp only [D.isCell] at xtx xa xfx0 xfx1
 have e:=k63 [] [] [.ptr (.heap l) 0,.d (.list 2 arrsD)] none h0
 have hA:arrsD.length=3:=rfl
 simp [c63,x63_0,x63_1,x63_2,x63_3,x63_4,x63_5,x63_6,x63_7,x63_8,x63_9,x63_10,x63_11,x63_12,x63_13,x63_14,x63_15,execL_loop,u63_0,u63_1,hA,hw0,hw1,hw2,eP,eS0,eA,eT,eM,eF0,eC0,eF1,eC1,eO,eB,xtx,xa,xfx0,xfx1] at e
 exact ⟨_,e⟩
theorem p63_1_2_1 {h0 h1 h2 h3 h4 h5 h6 h7 h8 h9 h10 h11:List O} {l:Nat} {w1 w2 w3 w4 w5 w6 w7 w8 w9 w10 w11:Nat} {ta tn o z s0 fa0 fa1 fn0 fn1:Int} {tx a fx0 fx1:D} {p q n:ByteArray}
 (eP:CK 58 [.ptr (.heap l) 0,.d (.list 1 [.int .i64 0,.int .i64 1,.int .i64 1,.int .i64 2,.int .i64 2])] h0 (.d (.int .i64 1)) h1 w1)
 (eS0:CK 21 [.ptr (.heap l) 0,.d (.int .i64 1),.d (.int .i64 4)] h1 (.d (.int .i64 s0)) h2 w2)
 (eA:CK 20 [.ptr (.heap l) 0,.d (.int .i64 2)] h2 (.d (.int .i64 ta)) h3 w3)
 (eT:CK 128 [.ptr (.heap l) 0,.d (.list 2 arrsD),.d (.list 1 [.int .i64 s0]),.d (.int .i64 ta)] h3 (.d (.agg [.int .i64 tn,tx])) h4 w4)
 (eM:CK 20 [.ptr (.heap l) 0,.d (.int .i64 2)] h4 (.d (.int .i64 2)) h5 w5)
 (eF0:CK 20 [.ptr (.heap l) 0,.d (.int .i64 2)] h5 (.d (.int .i64 fa0)) h6 w6)
 (eC0:CK 128 [.ptr (.heap l) 0,.d (.list 2 arrsD),.d (.list 1 [.int .i64 s0]),.d (.int .i64 fa0)] h6 (.d (.agg [.int .i64 fn0,fx0])) h7 w7)
 (eF1:CK 20 [.ptr (.heap l) 0,.d (.int .i64 2)] h7 (.d (.int .i64 fa1)) h8 w8)
 (eC1:CK 128 [.ptr (.heap l) 0,.d (.list 2 arrsD),.d (.list 1 [.int .i64 s0]),.d (.int .i64 fa1)] h8 (.d (.agg [.int .i64 fn1,fx1])) h9 w9)
 (eO:CK 129 [.ptr (.heap l) 0,.d (.int .i64 3)] h9 (.d (.bool true)) h10 w10)
 (eK:∀ hp,callL K (.fn (.func 130) [] []) [.d (.agg [.int .i64 tn,tx])] none hp=some (.ret (.d (.agg [.int .i64 tn,tx])),false,hp,0))
 (eB:CK 131 [.ptr (.heap l) 0,.d (.int .i64 3),.d (.int .i64 1)] h10 (.d (.agg [.int .i64 o,.str p,.str q,.str n,.int .i64 z,a])) h11 w11)
 (xtx:(tx).isCell=true) (xa:(a).isCell=true) (xfx0:(fx0).isCell=true) (xfx1:(fx1).isCell=true) :
 ∃ w,callL K (.fn (.func 63) [] []) [.ptr (.heap l) 0,.d (.list 2 arrsD)] none h0=some (.ret (.d (.agg [.list 1 [.int .i64 s0],.int .i64 tn,tx,.list 2 [.agg [.int .i64 fn0,fx0],.agg [.int .i64 fn1,fx1],.agg [.int .i64 tn,tx]],.int .i64 o,.str p,.str q,.str n,.int .i64 z,a])),false,h11,w):=by
 simp only [D.isCell] at xtx xa xfx0 xfx1
 have e:=k63 [] [] [.ptr (.heap l) 0,.d (.list 2 arrsD)] none h0
 have hA:arrsD.length=3:=rfl
 simp [c63,x63_0,x63_1,x63_2,x63_3,x63_4,x63_5,x63_6,x63_7,x63_8,x63_9,x63_10,x63_11,x63_12,x63_13,x63_14,x63_15,execL_loop,u63_0,u63_1,hA,hw0,hw1,hw2,eP,eS0,eA,eT,eM,eF0,eC0,eF1,eC1,eO,eK,eB,xtx,xa,xfx0,xfx1] at e
 exact ⟨_,e⟩
theorem p63_2_0_0 {h0 h1 h2 h3 h4 h5 h6 h7 h8:List O} {l:Nat} {w1 w2 w3 w4 w5 w6 w7 w8:Nat} {ta tn o z s0 s1:Int} {tx a:D} {p q n:ByteArray}
 (eP:CK 58 [.ptr (.heap l) 0,.d (.list 1 [.int .i64 0,.int .i64 1,.int .i64 1,.int .i64 2,.int .i64 2])] h0 (.d (.int .i64 2)) h1 w1)
 (eS0:CK 21 [.ptr (.heap l) 0,.d (.int .i64 1),.d (.int .i64 4)] h1 (.d (.int .i64 s0)) h2 w2)
 (eS1:CK 21 [.ptr (.heap l) 0,.d (.int .i64 1),.d (.int .i64 4)] h2 (.d (.int .i64 s1)) h3 w3)
 (eA:CK 20 [.ptr (.heap l) 0,.d (.int .i64 2)] h3 (.d (.int .i64 ta)) h4 w4)
 (eT:CK 128 [.ptr (.heap l) 0,.d (.list 2 arrsD),.d (.list 1 [.int .i64 s0,.int .i64 s1]),.d (.int .i64 ta)] h4 (.d (.agg [.int .i64 tn,tx])) h5 w5)
 (eM:CK 20 [.ptr (.heap l) 0,.d (.int .i64 2)] h5 (.d (.int .i64 0)) h6 w6)
 (eO:CK 129 [.ptr (.heap l) 0,.d (.int .i64 3)] h6 (.d (.bool false)) h7 w7)
 (eB:CK 131 [.ptr (.heap l) 0,.d (.int .i64 0),.d (.int .i64 2)] h7 (.d (.agg [.int .i64 o,.str p,.str q,.str n,.int .i64 z,a])) h8 w8)
 (xtx:(tx).isCell=true) (xa:(a).isCell=true) :
 ∃ w,callL K (.fn (.func 63) [] []) [.ptr (.heap l) 0,.d (.list 2 arrsD)] none h0=some (.ret (.d (.agg [.list 1 [.int .i64 s0,.int .i64 s1],.int .i64 tn,tx,.nils,.int .i64 o,.str p,.str q,.str n,.int .i64 z,a])),false,h8,w):=by
 simp only [D.isCell] at xtx xa
 have e:=k63 [] [] [.ptr (.heap l) 0,.d (.list 2 arrsD)] none h0
 have hA:arrsD.length=3:=rfl
 simp [c63,x63_0,x63_1,x63_2,x63_3,x63_4,x63_5,x63_6,x63_7,x63_8,x63_9,x63_10,x63_11,x63_12,x63_13,x63_14,x63_15,execL_loop,u63_0,u63_1,hA,hw0,hw1,hw2,eP,eS0,eS1,eA,eT,eM,eO,eB,xtx,xa] at e
 exact ⟨_,e⟩
theorem p63_2_0_1 {h0 h1 h2 h3 h4 h5 h6 h7 h8:List O} {l:Nat} {w1 w2 w3 w4 w5 w6 w7 w8:Nat} {ta tn o z s0 s1:Int} {tx a:D} {p q n:ByteArray}
 (eP:CK 58 [.ptr (.heap l) 0,.d (.list 1 [.int .i64 0,.int .i64 1,.int .i64 1,.int .i64 2,.int .i64 2])] h0 (.d (.int .i64 2)) h1 w1)
 (eS0:CK 21 [.ptr (.heap l) 0,.d (.int .i64 1),.d (.int .i64 4)] h1 (.d (.int .i64 s0)) h2 w2)
 (eS1:CK 21 [.ptr (.heap l) 0,.d (.int .i64 1),.d (.int .i64 4)] h2 (.d (.int .i64 s1)) h3 w3)
 (eA:CK 20 [.ptr (.heap l) 0,.d (.int .i64 2)] h3 (.d (.int .i64 ta)) h4 w4)
 (eT:CK 128 [.ptr (.heap l) 0,.d (.list 2 arrsD),.d (.list 1 [.int .i64 s0,.int .i64 s1]),.d (.int .i64 ta)] h4 (.d (.agg [.int .i64 tn,tx])) h5 w5)
 (eM:CK 20 [.ptr (.heap l) 0,.d (.int .i64 2)] h5 (.d (.int .i64 0)) h6 w6)
 (eO:CK 129 [.ptr (.heap l) 0,.d (.int .i64 3)] h6 (.d (.bool true)) h7 w7)
 (eK:∀ hp,callL K (.fn (.func 130) [] []) [.d (.agg [.int .i64 tn,tx])] none hp=some (.ret (.d (.agg [.int .i64 tn,tx])),false,hp,0))
 (eB:CK 131 [.ptr (.heap l) 0,.d (.int .i64 1),.d (.int .i64 2)] h7 (.d (.agg [.int .i64 o,.str p,.str q,.str n,.int .i64 z,a])) h8 w8)
 (xtx:(tx).isCell=true) (xa:(a).isCell=true) :
 ∃ w,callL K (.fn (.func 63) [] []) [.ptr (.heap l) 0,.d (.list 2 arrsD)] none h0=some (.ret (.d (.agg [.list 1 [.int .i64 s0,.int .i64 s1],.int .i64 tn,tx,.list 2 [.agg [.int .i64 tn,tx]],.int .i64 o,.str p,.str q,.str n,.int .i64 z,a])),false,h8,w):=by
 simp only [D.isCell] at xtx xa
 have e:=k63 [] [] [.ptr (.heap l) 0,.d (.list 2 arrsD)] none h0
 have hA:arrsD.length=3:=rfl
 simp [c63,x63_0,x63_1,x63_2,x63_3,x63_4,x63_5,x63_6,x63_7,x63_8,x63_9,x63_10,x63_11,x63_12,x63_13,x63_14,x63_15,execL_loop,u63_0,u63_1,hA,hw0,hw1,hw2,eP,eS0,eS1,eA,eT,eM,eO,eK,eB,xtx,xa] at e
 exact ⟨_,e⟩
theorem p63_2_1_0 {h0 h1 h2 h3 h4 h5 h6 h7 h8 h9 h10:List O} {l:Nat} {w1 w2 w3 w4 w5 w6 w7 w8 w9 w10:Nat} {ta tn o z s0 s1 fa0 fn0:Int} {tx a fx0:D} {p q n:ByteArray}
 (eP:CK 58 [.ptr (.heap l) 0,.d (.list 1 [.int .i64 0,.int .i64 1,.int .i64 1,.int .i64 2,.int .i64 2])] h0 (.d (.int .i64 2)) h1 w1)
 (eS0:CK 21 [.ptr (.heap l) 0,.d (.int .i64 1),.d (.int .i64 4)] h1 (.d (.int .i64 s0)) h2 w2)
 (eS1:CK 21 [.ptr (.heap l) 0,.d (.int .i64 1),.d (.int .i64 4)] h2 (.d (.int .i64 s1)) h3 w3)
 (eA:CK 20 [.ptr (.heap l) 0,.d (.int .i64 2)] h3 (.d (.int .i64 ta)) h4 w4)
 (eT:CK 128 [.ptr (.heap l) 0,.d (.list 2 arrsD),.d (.list 1 [.int .i64 s0,.int .i64 s1]),.d (.int .i64 ta)] h4 (.d (.agg [.int .i64 tn,tx])) h5 w5)
 (eM:CK 20 [.ptr (.heap l) 0,.d (.int .i64 2)] h5 (.d (.int .i64 1)) h6 w6)
 (eF0:CK 20 [.ptr (.heap l) 0,.d (.int .i64 2)] h6 (.d (.int .i64 fa0)) h7 w7)
 (eC0:CK 128 [.ptr (.heap l) 0,.d (.list 2 arrsD),.d (.list 1 [.int .i64 s0,.int .i64 s1]),.d (.int .i64 fa0)] h7 (.d (.agg [.int .i64 fn0,fx0])) h8 w8)
 (eO:CK 129 [.ptr (.heap l) 0,.d (.int .i64 3)] h8 (.d (.bool false)) h9 w9)
 (eB:CK 131 [.ptr (.heap l) 0,.d (.int .i64 1),.d (.int .i64 2)] h9 (.d (.agg [.int .i64 o,.str p,.str q,.str n,.int .i64 z,a])) h10 w10)
 (xtx:(tx).isCell=true) (xa:(a).isCell=true) (xfx0:(fx0).isCell=true) :
 ∃ w,callL K (.fn (.func 63) [] []) [.ptr (.heap l) 0,.d (.list 2 arrsD)] none h0=some (.ret (.d (.agg [.list 1 [.int .i64 s0,.int .i64 s1],.int .i64 tn,tx,.list 2 [.agg [.int .i64 fn0,fx0]],.int .i64 o,.str p,.str q,.str n,.int .i64 z,a])),false,h10,w):=by
 simp only [D.isCell] at xtx xa xfx0
 have e:=k63 [] [] [.ptr (.heap l) 0,.d (.list 2 arrsD)] none h0
 have hA:arrsD.length=3:=rfl
 simp [c63,x63_0,x63_1,x63_2,x63_3,x63_4,x63_5,x63_6,x63_7,x63_8,x63_9,x63_10,x63_11,x63_12,x63_13,x63_14,x63_15,execL_loop,u63_0,u63_1,hA,hw0,hw1,hw2,eP,eS0,eS1,eA,eT,eM,eF0,eC0,eO,eB,xtx,xa,xfx0] at e
 exact ⟨_,e⟩
theorem p63_2_1_1 {h0 h1 h2 h3 h4 h5 h6 h7 h8 h9 h10:List O} {l:Nat} {w1 w2 w3 w4 w5 w6 w7 w8 w9 w10:Nat} {ta tn o z s0 s1 fa0 fn0:Int} {tx a fx0:D} {p q n:ByteArray}
 (eP:CK 58 [.ptr (.heap l) 0,.d (.list 1 [.int .i64 0,.int .i64 1,.int .i64 1,.int .i64 2,.int .i64 2])] h0 (.d (.int .i64 2)) h1 w1)
 (eS0:CK 21 [.ptr (.heap l) 0,.d (.int .i64 1),.d (.int .i64 4)] h1 (.d (.int .i64 s0)) h2 w2)
 (eS1:CK 21 [.ptr (.heap l) 0,.d (.int .i64 1),.d (.int .i64 4)] h2 (.d (.int .i64 s1)) h3 w3)
 (eA:CK 20 [.ptr (.heap l) 0,.d (.int .i64 2)] h3 (.d (.int .i64 ta)) h4 w4)
 (eT:CK 128 [.ptr (.heap l) 0,.d (.list 2 arrsD),.d (.list 1 [.int .i64 s0,.int .i64 s1]),.d (.int .i64 ta)] h4 (.d (.agg [.int .i64 tn,tx])) h5 w5)
 (eM:CK 20 [.ptr (.heap l) 0,.d (.int .i64 2)] h5 (.d (.int .i64 1)) h6 w6)
 (eF0:CK 20 [.ptr (.heap l) 0,.d (.int .i64 2)] h6 (.d (.int .i64 fa0)) h7 w7)
 (eC0:CK 128 [.ptr (.heap l) 0,.d (.list 2 arrsD),.d (.list 1 [.int .i64 s0,.int .i64 s1]),.d (.int .i64 fa0)] h7 (.d (.agg [.int .i64 fn0,fx0])) h8 w8)
 (eO:CK 129 [.ptr (.heap l) 0,.d (.int .i64 3)] h8 (.d (.bool true)) h9 w9)
 (eK:∀ hp,callL K (.fn (.func 130) [] []) [.d (.agg [.int .i64 tn,tx])] none hp=some (.ret (.d (.agg [.int .i64 tn,tx])),false,hp,0))
 (eB:CK 131 [.ptr (.heap l) 0,.d (.int .i64 2),.d (.int .i64 2)] h9 (.d (.agg [.int .i64 o,.str p,.str q,.str n,.int .i64 z,a])) h10 w10)
 (xtx:(tx).isCell=true) (xa:(a).isCell=true) (xfx0:(fx0).isCell=true) :
 ∃ w,callL K (.fn (.func 63) [] []) [.ptr (.heap l) 0,.d (.list 2 arrsD)] none h0=some (.ret (.d (.agg [.list 1 [.int .i64 s0,.int .i64 s1],.int .i64 tn,tx,.list 2 [.agg [.int .i64 fn0,fx0],.agg [.int .i64 tn,tx]],.int .i64 o,.str p,.str q,.str n,.int .i64 z,a])),false,h10,w):=by
 simp only [D.isCell] at xtx xa xfx0
 have e:=k63 [] [] [.ptr (.heap l) 0,.d (.list 2 arrsD)] none h0
 have hA:arrsD.length=3:=rfl
 simp [c63,x63_0,x63_1,x63_2,x63_3,x63_4,x63_5,x63_6,x63_7,x63_8,x63_9,x63_10,x63_11,x63_12,x63_13,x63_14,x63_15,execL_loop,u63_0,u63_1,hA,hw0,hw1,hw2,eP,eS0,eS1,eA,eT,eM,eF0,eC0,eO,eK,eB,xtx,xa,xfx0] at e
 exact ⟨_,e⟩
theorem p63_2_2_0 {h0 h1 h2 h3 h4 h5 h6 h7 h8 h9 h10 h11 h12:List O} {l:Nat} {w1 w2 w3 w4 w5 w6 w7 w8 w9 w10 w11 w12:Nat} {ta tn o z s0 s1 fa0 fa1 fn0 fn1:Int} {tx a fx0 fx1:D} {p q n:ByteArray}
 (eP:CK 58 [.ptr (.heap l) 0,.d (.list 1 [.int .i64 0,.int .i64 1,.int .i64 1,.int .i64 2,.int .i64 2])] h0 (.d (.int .i64 2)) h1 w1)
 (eS0:CK 21 [.ptr (.heap l) 0,.d (.int .i64 1),.d (.int .i64 4)] h1 (.d (.int .i64 s0)) h2 w2)
 (eS1:CK 21 [.ptr (.heap l) 0,.d (.int .i64 1),.d (.int .i64 4)] h2 (.d (.int .i64 s1)) h3 w3)
 (eA:CK 20 [.ptr (.heap l) 0,.d (.int .i64 2)] h3 (.d (.int .i64 ta)) h4 w4)
 (eT:CK 128 [.ptr (.heap l) 0,.d (.list 2 arrsD),.d (.list 1 [.int .i64 s0,.int .i64 s1]),.d (.int .i64 ta)] h4 (.d (.agg [.int .i64 tn,tx])) h5 w5)
 (eM:CK 20 [.ptr (.heap l) 0,.d (.int .i64 2)] h5 (.d (.int .i64 2)) h6 w6)
 (eF0:CK 20 [.ptr (.heap l) 0,.d (.int .i64 2)] h6 (.d (.int .i64 fa0)) h7 w7)
 (eC0:CK 128 [.ptr (.heap l) 0,.d (.list 2 arrsD),.d (.list 1 [.int .i64 s0,.int .i64 s1]),.d (.int .i64 fa0)] h7 (.d (.agg [.int .i64 fn0,fx0])) h8 w8)
 (eF1:CK 20 [.ptr (.heap l) 0,.d (.int .i64 2)] h8 (.d (.int .i64 fa1)) h9 w9)
 (eC1:CK 128 [.ptr (.heap l) 0,.d (.list 2 arrsD),.d (.list 1 [.int .i64 s0,.int .i64 s1]),.d (.int .i64 fa1)] h9 (.d (.agg [.int .i64 fn1,fx1])) h10 w10)
 (eO:CK 129 [.ptr (.heap l) 0,.d (.int .i64 3)] h10 (.d (.bool false)) h11 w11)
 (eB:CK 131 [.ptr (.heap l) 0,.d (.int .i64 2),.d (.int .i64 2)] h11 (.d (.agg [.int .i64 o,.str p,.str q,.str n,.int .i64 z,a])) h12 w12)
 (xtx:(tx).isCell=true) (xa:(a).isCell=true) (xfx0:(fx0).isCell=true) (xfx1:(fx1).isCell=true) :
 ∃ w,callL K (.fn (.func 63) [] []) [.ptr (.heap l) 0,.d (.list 2 arrsD)] none h0=some (.ret (.d (.agg [.list 1 [.int .i64 s0,.int .i64 s1],.int .i64 tn,tx,.list 2 [.agg [.int .i64 fn0,fx0],.agg [.int .i64 fn1,fx1]],.int .i64 o,.str p,.str q,.str n,.int .i64 z,a])),false,h12,w):=by
 simp only [D.isCell] at xtx xa xfx0 xfx1
 have e:=k63 [] [] [.ptr (.heap l) 0,.d (.list 2 arrsD)] none h0
 have hA:arrsD.length=3:=rfl
 simp [c63,x63_0,x63_1,x63_2,x63_3,x63_4,x63_5,x63_6,x63_7,x63_8,x63_9,x63_10,x63_11,x63_12,x63_13,x63_14,x63_15,execL_loop,u63_0,u63_1,hA,hw0,hw1,hw2,eP,eS0,eS1,eA,eT,eM,eF0,eC0,eF1,eC1,eO,eB,xtx,xa,xfx0,xfx1] at e
 exact ⟨_,e⟩
theorem p63_2_2_1 {h0 h1 h2 h3 h4 h5 h6 h7 h8 h9 h10 h11 h12:List O} {l:Nat} {w1 w2 w3 w4 w5 w6 w7 w8 w9 w10 w11 w12:Nat} {ta tn o z s0 s1 fa0 fa1 fn0 fn1:Int} {tx a fx0 fx1:D} {p q n:ByteArray}
 (eP:CK 58 [.ptr (.heap l) 0,.d (.list 1 [.int .i64 0,.int .i64 1,.int .i64 1,.int .i64 2,.int .i64 2])] h0 (.d (.int .i64 2)) h1 w1)
 (eS0:CK 21 [.ptr (.heap l) 0,.d (.int .i64 1),.d (.int .i64 4)] h1 (.d (.int .i64 s0)) h2 w2)
 (eS1:CK 21 [.ptr (.heap l) 0,.d (.int .i64 1),.d (.int .i64 4)] h2 (.d (.int .i64 s1)) h3 w3)
 (eA:CK 20 [.ptr (.heap l) 0,.d (.int .i64 2)] h3 (.d (.int .i64 ta)) h4 w4)
 (eT:CK 128 [.ptr (.heap l) 0,.d (.list 2 arrsD),.d (.list 1 [.int .i64 s0,.int .i64 s1]),.d (.int .i64 ta)] h4 (.d (.agg [.int .i64 tn,tx])) h5 w5)
 (eM:CK 20 [.ptr (.heap l) 0,.d (.int .i64 2)] h5 (.d (.int .i64 2)) h6 w6)
 (eF0:CK 20 [.ptr (.heap l) 0,.d (.int .i64 2)] h6 (.d (.int .i64 fa0)) h7 w7)
 (eC0:CK 128 [.ptr (.heap l) 0,.d (.list 2 arrsD),.d (.list 1 [.int .i64 s0,.int .i64 s1]),.d (.int .i64 fa0)] h7 (.d (.agg [.int .i64 fn0,fx0])) h8 w8)
 (eF1:CK 20 [.ptr (.heap l) 0,.d (.int .i64 2)] h8 (.d (.int .i64 fa1)) h9 w9)
 (eC1:CK 128 [.ptr (.heap l) 0,.d (.list 2 arrsD),.d (.list 1 [.int .i64 s0,.int .i64 s1]),.d (.int .i64 fa1)] h9 (.d (.agg [.int .i64 fn1,fx1])) h10 w10)
 (eO:CK 129 [.ptr (.heap l) 0,.d (.int .i64 3)] h10 (.d (.bool true)) h11 w11)
 (eK:∀ hp,callL K (.fn (.func 130) [] []) [.d (.agg [.int .i64 tn,tx])] none hp=some (.ret (.d (.agg [.int .i64 tn,tx])),false,hp,0))
 (eB:CK 131 [.ptr (.heap l) 0,.d (.int .i64 3),.d (.int .i64 2)] h11 (.d (.agg [.int .i64 o,.str p,.str q,.str n,.int .i64 z,a])) h12 w12)
 (xtx:(tx).isCell=true) (xa:(a).isCell=true) (xfx0:(fx0).isCell=true) (xfx1:(fx1).isCell=true) :
 ∃ w,callL K (.fn (.func 63) [] []) [.ptr (.heap l) 0,.d (.list 2 arrsD)] none h0=some (.ret (.d (.agg [.list 1 [.int .i64 s0,.int .i64 s1],.int .i64 tn,tx,.list 2 [.agg [.int .i64 fn0,fx0],.agg [.int .i64 fn1,fx1],.agg [.int .i64 tn,tx]],.int .i64 o,.str p,.str q,.str n,.int .i64 z,a])),false,h12,w):=by
 simp only [D.isCell] at xtx xa xfx0 xfx1
 have e:=k63 [] [] [.ptr (.heap l) 0,.d (.list 2 arrsD)] none h0
 have hA:arrsD.length=3:=rfl
 simp [c63,x63_0,x63_1,x63_2,x63_3,x63_4,x63_5,x63_6,x63_7,x63_8,x63_9,x63_10,x63_11,x63_12,x63_13,x63_14,x63_15,execL_loop,u63_0,u63_1,hA,hw0,hw1,hw2,eP,eS0,eS1,eA,eT,eM,eF0,eC0,eF1,eC1,eO,eK,eB,xtx,xa,xfx0,xfx1] at e
 exact ⟨_,e⟩
end Mw
