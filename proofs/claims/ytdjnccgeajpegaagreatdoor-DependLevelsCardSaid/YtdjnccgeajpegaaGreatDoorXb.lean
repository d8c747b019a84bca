/- DependLevels answers true for every list of numbers: its tied card holds; no condition beyond the card's own. -/
import Derived.Test.YtdjnccgeajpegaaGreatDoorKc
set_option linter.unusedVariables false
set_option linter.unusedSimpArgs false
/-! The code of metewand/loop.checkBody$1. -/
namespace Mw
open Go Go.Proofs
set_option maxRecDepth 100000
noncomputable section
@[simp] theorem esc244 (t:Nat):K.esc 244 t=false:=by kernel_rfl
theorem x244_0:XF 244 0 44 [bx 5 45 1,oa 6 (.assign (.const (.int .i64 (0))))]:=.mk
theorem x244_1:XF 244 1 64 [ld 7 45 5,ld 8 3 2,ld 9 3 3,oa 10 (.call ⟨.value (.func 211),#[.tmp 7,.tmp 8,.tmp 9],#[45,3,3]⟩),sg 6 10]:=.mk
def c244:Code:=.seq (rg 244 0) (.seq (rg 244 1) (.ret))
theorem k244:KF 244 [.tmp 6] 1 c244:=.mk
end
end Mw
/-! The code of metewand/loop.first[metewand/api.Expr]. -/
namespace Mw
open Go Go.Proofs
set_option maxRecDepth 100000
noncomputable section
@[simp] theorem esc243 (t:Nat):K.esc 243 t=false:=by kernel_rfl
theorem x243_0:XF 243 0 3 [oa 4 (.assign (.const (.int .i64 (0))))]:=.mk
theorem x243_1:XF 243 1 1794 [mv 8 0,oa 9 (.call ⟨.builtin .len,#[.tmp 8],#[43]⟩),oa 10 (.move (.const (.int .i64 (0))))]:=.mk
theorem x243_2:XF 243 2 3842 [bo 11 .lss 3 10 9]:=.mk
theorem x243_3:XF 243 3 1890 [mv 12 10,ia 13 43 8 10,ld 14 45 13,aq 6 45,sg 5 12,so 45 6 14]:=.mk
theorem x243_4:XF 243 4 1922 [mv 15 1,mv 16 5,ld 17 45 6,oa 18 (.call ⟨.value (.tmp 15),#[.tmp 16,.tmp 17],#[3,45]⟩),sg 7 18]:=.mk
theorem x243_5:XF 243 5 1050498 [mv 19 7,bk 20 .neq 30 19 0]:=.mk
theorem x243_6:XF 243 6 16 [mv 21 7,sg 4 21]:=.mk
theorem x243_7:XF 243 7 1794 [bk 22 .add 3 10 1,mv 10 22]:=.mk
theorem x243_8:XF 243 8 16 [oa 4 (.assign (.const (.int .i64 (0))))]:=.mk
def l243_0:Code:=.seq (rg 243 2) (.seq (.cond (.tmp 11) (.skip) (.exit 0)) (.seq (.block 1 (.seq (rg 243 3) (.seq (rg 243 4) (.seq (rg 243 5) (.cond (.tmp 20) (.seq (rg 243 6) (.ret)) (.skip)))))) (rg 243 7)))
theorem u243_0 (s:St):execL K 243 l243_0 s=execL K 243 (.seq (rg 243 2) (.seq (.cond (.tmp 11) (.skip) (.exit 0)) (.seq (.block 1 (.seq (rg 243 3) (.seq (rg 243 4) (.seq (rg 243 5) (.cond (.tmp 20) (.seq (rg 243 6) (.ret)) (.skip)))))) (rg 243 7)))) s:=rfl
def c243:Code:=.seq (rg 243 0) (.seq (.seq (rg 243 1) (.block 0 (.loop l243_0))) (.seq (rg 243 8) (.ret)))
theorem k243:KF 243 [.tmp 4] 1 c243:=.mk
end
end Mw
/-! The code of metewand/read.walk. -/
namespace Mw
open Go Go.Proofs
set_option maxRecDepth 100000
noncomputable section
@[simp] theorem esc205 (t:Nat):K.esc 205 t=false:=by kernel_rfl
theorem x205_0:XF 205 0 6 [bx 2 45 0]:=.mk
theorem x205_1:XF 205 1 6 [mv 6 1,bk 7 .geq 3 6 30,oa 8 (.call ⟨.value (.func 236),#[.tmp 7,.const (.int .i64 (7))],#[4,30]⟩)]:=.mk
theorem x205_2:XF 205 2 6 [ld 9 45 2,oa 10 (.call ⟨.value (.func 237),#[.tmp 9],#[45]⟩)]:=.mk
theorem x205_3:XF 205 3 28674 [fa 11 45 2 4,ld 12 43 11,oa 13 (.call ⟨.builtin .len,#[.tmp 12],#[43]⟩),oa 14 (.move (.const (.int .i64 (0))))]:=.mk
theorem x205_4:XF 205 4 61442 [bo 15 .lss 3 14 13]:=.mk
theorem x205_5:XF 205 5 28706 [ia 16 43 12 14,ld 17 45 16,aq 5 45,so 45 5 17]:=.mk
theorem x205_6:XF 205 6 28674 [ld 18 45 5,mv 19 1,bk 20 .add 3 19 1,oa 21 (.call ⟨.value (.func 205),#[.tmp 18,.tmp 20],#[45,3]⟩)]:=.mk
theorem x205_7:XF 205 7 28674 [bk 22 .add 3 14 1,mv 14 22]:=.mk
def l205_0:Code:=.seq (rg 205 4) (.seq (.cond (.tmp 15) (.skip) (.exit 0)) (.seq (.block 1 (.seq (rg 205 5) (rg 205 6))) (rg 205 7)))
theorem u205_0 (s:St):execL K 205 l205_0 s=execL K 205 (.seq (rg 205 4) (.seq (.cond (.tmp 15) (.skip) (.exit 0)) (.seq (.block 1 (.seq (rg 205 5) (rg 205 6))) (rg 205 7)))) s:=rfl
def c205:Code:=.seq (rg 205 0) (.seq (rg 205 1) (.seq (rg 205 2) (.seq (rg 205 3) (.block 0 (.loop l205_0)))))
theorem k205:KF 205 [] 1 c205:=.mk
end
end Mw
/-! The code of metewand/read.fail. -/
namespace Mw
open Go Go.Proofs
set_option maxRecDepth 100000
noncomputable section
theorem x236_0:XF 236 0 18 [mv 4 0]:=.mk
theorem x236_1:XF 236 1 0 [mv 5 1,oa 6 (.build 274 #[(0,.tmp 5)]),oa 7 (.makeInterface 274 (.tmp 6)),on (.panic (.tmp 7))]:=.mk
def c236:Code:=.seq (rg 236 0) (.cond (.tmp 4) (rg 236 1) (.skip))
theorem k236:KF 236 [] 1 c236:=.mk
end
end Mw
/-! The code of metewand/read.look. -/
namespace Mw
open Go Go.Proofs
set_option maxRecDepth 100000
noncomputable section
@[simp] theorem esc237 (t:Nat):K.esc 237 t=false:=by kernel_rfl
theorem x237_0:XF 237 0 2 [bx 1 45 0]:=.mk
theorem x237_1:XF 237 1 2 [fa 4 45 1 0,ld 5 3 4,oa 6 (.call ⟨.value (.func 264),#[.tmp 5,.const (.int .i64 (0)),.const (.int .i64 (14))],#[3,3,3]⟩),oa 7 (.unOp .not 4 (.tmp 6)),oa 8 (.call ⟨.value (.func 236),#[.tmp 7,.const (.int .i64 (9))],#[4,30]⟩)]:=.mk
theorem x237_2:XF 237 2 6 [fa 9 45 1 0,ld 10 3 9,oa 11 (.call ⟨.value (.func 265),#[.tmp 10],#[3]⟩),aq 2 309,so 309 2 11]:=.mk
theorem x237_3:XF 237 3 6 [fa 12 45 1 4,ld 13 43 12,oa 14 (.call ⟨.builtin .len,#[.tmp 13],#[43]⟩),oa 15 (.indexAddr 309 (.tmp 2) (.const (.int .i64 (0)))),ld 16 3 15,bo 17 .lss 3 14 16,oa 18 (.call ⟨.value (.func 236),#[.tmp 17,.const (.int .i64 (8))],#[4,30]⟩)]:=.mk
theorem x237_4:XF 237 4 6 [fa 19 45 1 4,ld 20 43 19,oa 21 (.call ⟨.builtin .len,#[.tmp 20],#[43]⟩),oa 22 (.indexAddr 309 (.tmp 2) (.const (.int .i64 (1)))),ld 23 3 22,bo 24 .gtr 3 21 23,oa 25 (.call ⟨.value (.func 236),#[.tmp 24,.const (.int .i64 (7))],#[4,30]⟩)]:=.mk
theorem x237_5:XF 237 5 268435462 [fa 26 45 1 0,ld 27 3 26,bk 28 .eql 3 27 0]:=.mk
theorem x237_6:XF 237 6 14 [fa 29 45 1 1,ld 30 42 29,oa 31 (.call ⟨.value (.func 266),#[.tmp 30],#[42]⟩),sg 3 31]:=.mk
theorem x237_7:XF 237 7 6 [mv 32 3,bk 33 .neq 30 32 0,mv 34 3,oa 35 (.call ⟨.value (.func 236),#[.tmp 33,.tmp 34],#[4,30]⟩)]:=.mk
theorem x237_8:XF 237 8 6 [fa 36 45 1 1,fa 37 42 36 0,ld 38 9 37,oa 39 (.index 9 (.tmp 38) (.const (.int .i64 (0)))),oa 40 (.binOp .eql 5 (.tmp 39) (.const (.int .u8 (45))) 5),oa 41 (.call ⟨.value (.func 236),#[.tmp 40,.const (.int .i64 (2))],#[4,30]⟩)]:=.mk
theorem x237_9:XF 237 9 6 [fa 42 45 1 1,ld 43 42 42,oa 44 (.build 42 #[]),bo 45 .neq 42 43 44,oa 46 (.call ⟨.value (.func 236),#[.tmp 45,.const (.int .i64 (1))],#[4,30]⟩)]:=.mk
theorem x237_10:XF 237 10 281474976710662 [fa 47 45 1 0,ld 48 3 47]:=.mk
theorem x237_12:XF 237 12 9288674231451654 [bk 54 .eql 3 48 0,sg 53 54]:=.mk
theorem x237_13:XF 237 13 6 [fa 55 45 1 2,ld 56 9 55,oa 57 (.binOp .neq 9 (.tmp 56) (.const (.string ⟨#[]⟩)) 9),mv 58 57,og 59 3 true (.fieldAddr 45 (.tmp 1) 2),og 60 3 true (.load 9 (.tmp 59)),og 61 3 true (.call ⟨.value (.func 267),#[.tmp 60],#[9]⟩),og 62 3 true (.unOp .not 4 (.tmp 61)),oa 63 (.pick (.tmp 58) (.tmp 62) (.const (.bool false))),oa 64 (.call ⟨.value (.func 236),#[.tmp 63,.const (.int .i64 (4))],#[4,30]⟩)]:=.mk
theorem x237_14:XF 237 14 36893769622395813894 [bk 66 .eql 3 48 1,sg 65 66]:=.mk
theorem x237_15:XF 237 15 36893769622395813894 [bk 67 .eql 3 48 10,sg 65 67]:=.mk
theorem x237_16:XF 237 16 36893769622395813894 [bk 68 .eql 3 48 11,sg 65 68]:=.mk
theorem x237_17:XF 237 17 36893769622395813894 [bk 69 .eql 3 48 13,sg 65 69]:=.mk
theorem x237_18:XF 237 18 36893488147419103238 [bk 70 .eql 3 48 14,sg 65 70]:=.mk
theorem x237_19:XF 237 19 6 [fa 71 45 1 2,ld 72 9 71,oa 73 (.call ⟨.value (.func 268),#[.tmp 72],#[9]⟩),oa 74 (.unOp .not 4 (.tmp 73)),oa 75 (.call ⟨.value (.func 236),#[.tmp 74,.const (.int .i64 (4))],#[4,30]⟩)]:=.mk
theorem x237_11:XF 237 11 6 [fa 49 45 1 2,ld 50 9 49,oa 51 (.binOp .neq 9 (.tmp 50) (.const (.string ⟨#[]⟩)) 9),oa 52 (.call ⟨.value (.func 236),#[.tmp 51,.const (.int .i64 (4))],#[4,30]⟩)]:=.mk
theorem x237_20:XF 237 20 6 [fa 76 45 1 0,ld 77 3 76,oa 78 (.call ⟨.value (.func 269),#[.tmp 77],#[3]⟩),so 309 2 78]:=.mk
theorem x237_21:XF 237 21 2417851639229258349412358 [ld 79 309 2,oa 80 (.build 309 #[]),bo 81 .eql 309 79 80]:=.mk
theorem x237_22:XF 237 22 6 [fa 82 45 1 3,ld 83 3 82,bk 84 .neq 3 83 0,oa 85 (.call ⟨.value (.func 236),#[.tmp 84,.const (.int .i64 (2))],#[4,30]⟩)]:=.mk
theorem x237_23:XF 237 23 0 [fa 86 45 1 3,ld 87 3 86,oa 88 (.indexAddr 309 (.tmp 2) (.const (.int .i64 (0)))),ld 89 3 88,oa 90 (.indexAddr 309 (.tmp 2) (.const (.int .i64 (1)))),ld 91 3 90,oa 92 (.call ⟨.value (.func 264),#[.tmp 87,.tmp 89,.tmp 91],#[3,3,3]⟩),oa 93 (.unOp .not 4 (.tmp 92)),oa 94 (.call ⟨.value (.func 236),#[.tmp 93,.const (.int .i64 (2))],#[4,30]⟩)]:=.mk
def c237:Code:=.seq (rg 237 0) (.seq (rg 237 1) (.seq (rg 237 2) (.seq (rg 237 3) (.seq (rg 237 4) (.seq (.seq (rg 237 5) (.cond (.tmp 28) (.seq (rg 237 6) (.seq (rg 237 7) (rg 237 8))) (rg 237 9))) (.seq (.seq (rg 237 10) (.block 0 (.seq (rg 237 12) (.cond (.tmp 53) (rg 237 13) (.seq (.seq (rg 237 14) (.cond (.tmp 65) (.skip) (.seq (rg 237 15) (.cond (.tmp 65) (.skip) (.seq (rg 237 16) (.cond (.tmp 65) (.skip) (.seq (rg 237 17) (.cond (.tmp 65) (.skip) (rg 237 18))))))))) (.cond (.tmp 65) (rg 237 19) (rg 237 11))))))) (.seq (rg 237 20) (.seq (.seq (rg 237 21) (.cond (.tmp 81) (rg 237 22) (.skip))) (rg 237 23)))))))))
theorem k237:KF 237 [] 1 c237:=.mk
end
end Mw
/-! The code of metewand/read.in. -/
namespace Mw
open Go Go.Proofs
set_option maxRecDepth 100000
noncomputable section
theorem x264_0:XF 264 0 7 [oa 6 (.assign (.const (.bool false)))]:=.mk
theorem x264_1:XF 264 1 64 [mv 7 1,mv 8 0,bo 9 .leq 3 7 8,mv 10 9,og 11 3 true (.move (.tmp 0)),og 12 3 true (.move (.tmp 2)),og 13 3 true (.binOp .leq 3 (.tmp 11) (.tmp 12) 3),oa 14 (.pick (.tmp 10) (.tmp 13) (.const (.bool false))),sg 6 14]:=.mk
def c264:Code:=.seq (rg 264 0) (.seq (rg 264 1) (.ret))
theorem k264:KF 264 [.tmp 6] 1 c264:=.mk
end
end Mw
/-! The code of metewand/read.arguments. -/
namespace Mw
open Go Go.Proofs
set_option maxRecDepth 100000
noncomputable section
@[simp] theorem esc265 (t:Nat):K.esc 265 t=false:=by kernel_rfl
theorem x265_0:XF 265 0 5 [aq 2 309]:=.mk
theorem x265_1:XF 265 1 13 [oa 4 (.build 309 #[(0,.const (.int .i64 (2))),(1,.const (.int .i64 (2)))]),aq 3 309,so 309 3 4]:=.mk
theorem x265_2:XF 265 2 45 [mv 5 0]:=.mk
theorem x265_3:XF 265 3 109 [bk 7 .eql 3 5 0,sg 6 7]:=.mk
theorem x265_4:XF 265 4 109 [bk 8 .eql 3 5 1,sg 6 8]:=.mk
theorem x265_5:XF 265 5 557 [bk 10 .eql 3 5 2,sg 9 10]:=.mk
theorem x265_6:XF 265 6 557 [bk 11 .eql 3 5 7,sg 9 11]:=.mk
theorem x265_7:XF 265 7 557 [bk 12 .eql 3 5 10,sg 9 12]:=.mk
theorem x265_8:XF 265 8 557 [bk 13 .eql 3 5 11,sg 9 13]:=.mk
theorem x265_9:XF 265 9 16429 [bk 15 .eql 3 5 12,sg 14 15]:=.mk
theorem x265_10:XF 265 10 65581 [bk 17 .eql 3 5 8,sg 16 17]:=.mk
theorem x265_11:XF 265 11 262157 [bk 19 .eql 3 5 14,sg 18 19]:=.mk
theorem x265_12:XF 265 12 12 [oa 20 (.build 309 #[]),so 309 3 20]:=.mk
theorem x265_13:XF 265 13 12 [oa 21 (.build 309 #[(0,.const (.int .i64 (1))),(1,.const (.int .i64 (1)))]),so 309 3 21]:=.mk
theorem x265_14:XF 265 14 12 [oa 22 (.build 309 #[(0,.const (.int .i64 (4))),(1,.const (.int .i64 (4)))]),so 309 3 22]:=.mk
theorem x265_15:XF 265 15 13 [oa 23 (.indexAddr 309 (.tmp 3) (.const (.int .i64 (0)))),ld 24 3 23,bk 25 .sub 3 24 1,oa 26 (.indexAddr 309 (.tmp 3) (.const (.int .i64 (0)))),so 3 26 25]:=.mk
theorem x265_16:XF 265 16 13 [oa 27 (.indexAddr 309 (.tmp 3) (.const (.int .i64 (1)))),on (.store 3 (.tmp 27) (.const (.int .i64 (8))))]:=.mk
theorem x265_17:XF 265 17 536870924 [mv 28 0,bk 29 .eql 3 28 14]:=.mk
theorem x265_18:XF 265 18 12 [oa 30 (.indexAddr 309 (.tmp 3) (.const (.int .i64 (0)))),on (.store 3 (.tmp 30) (.const (.int .i64 (0))))]:=.mk
theorem x265_19:XF 265 19 4 [ld 31 309 3,so 309 2 31]:=.mk
def c265:Code:=.seq (rg 265 0) (.seq (rg 265 1) (.seq (.seq (rg 265 2) (.block 0 (.seq (.block 5 (.seq (.block 4 (.seq (.block 3 (.seq (.block 2 (.seq (.block 1 (.seq (.seq (.seq (.seq (rg 265 3) (.cond (.tmp 6) (.skip) (rg 265 4))) (.cond (.tmp 6) (.exit 1) (.skip))) (.seq (.seq (.seq (rg 265 5) (.cond (.tmp 9) (.skip) (.seq (rg 265 6) (.cond (.tmp 9) (.skip) (.seq (rg 265 7) (.cond (.tmp 9) (.skip) (rg 265 8))))))) (.cond (.tmp 9) (.exit 2) (.skip))) (.seq (.seq (rg 265 9) (.cond (.tmp 14) (.exit 3) (.skip))) (.seq (.seq (rg 265 10) (.cond (.tmp 16) (.exit 4) (.skip))) (.seq (rg 265 11) (.cond (.tmp 18) (.exit 5) (.skip))))))) (.exit 0))) (.seq (rg 265 12) (.exit 0)))) (.seq (rg 265 13) (.exit 0)))) (.seq (rg 265 14) (.exit 0)))) (rg 265 15))) (.seq (.seq (rg 265 16) (.seq (rg 265 17) (.cond (.tmp 29) (rg 265 18) (.skip)))) (.exit 0))))) (.seq (rg 265 19) (.ret))))
theorem k265:KF 265 [.cell 2 309] 1 c265:=.mk
end
end Mw
/-! The code of metewand/read.sizes. -/
namespace Mw
open Go Go.Proofs
set_option maxRecDepth 100000
noncomputable section
@[simp] theorem esc269 (t:Nat):K.esc 269 t=false:=by kernel_rfl
theorem x269_0:XF 269 0 5 [aq 2 309]:=.mk
theorem x269_1:XF 269 1 12 [mv 3 0]:=.mk
theorem x269_2:XF 269 2 28 [bk 5 .eql 3 3 7,sg 4 5]:=.mk
theorem x269_3:XF 269 3 4 [oa 6 (.build 309 #[(0,.const (.int .i64 (-9))),(1,.const (.int .i64 (9)))]),so 309 2 6]:=.mk
theorem x269_4:XF 269 4 140 [bk 8 .eql 3 3 10,sg 7 8]:=.mk
theorem x269_5:XF 269 5 132 [bk 9 .eql 3 3 11,sg 7 9]:=.mk
theorem x269_6:XF 269 6 4 [oa 10 (.build 309 #[(0,.const (.int .i64 (1))),(1,.const (.int .i64 (99)))]),so 309 2 10]:=.mk
theorem x269_7:XF 269 7 4 [oa 11 (.build 309 #[]),so 309 2 11]:=.mk
def c269:Code:=.seq (rg 269 0) (.seq (.seq (rg 269 1) (.block 0 (.seq (rg 269 2) (.cond (.tmp 4) (.seq (rg 269 3) (.ret)) (.seq (.seq (rg 269 4) (.cond (.tmp 7) (.skip) (rg 269 5))) (.cond (.tmp 7) (.seq (rg 269 6) (.ret)) (.skip))))))) (.seq (rg 269 7) (.ret)))
theorem k269:KF 269 [.cell 2 309] 1 c269:=.mk
end
end Mw
/-! The code of metewand/read.CheckExpr. -/
namespace Mw
open Go Go.Proofs
set_option maxRecDepth 100000
noncomputable section
@[simp] theorem esc171 (t:Nat):K.esc 171 t=[2].elem t:=by kernel_rfl
theorem x171_0:XF 171 0 6 [bx 1 45 0,aq 2 30]:=.mk
theorem x171_1:XF 171 1 6 [oa 3 (.makeFunc (.func 203) #[] #[.tmp 2]),on (.defer ⟨.value (.tmp 3),#[],#[]⟩)]:=.mk
theorem x171_2:XF 171 2 4 [ld 4 45 1,oa 5 (.call ⟨.value (.func 205),#[.tmp 4,.const (.int .i64 (0))],#[45,3]⟩)]:=.mk
theorem x171_3:XF 171 3 4 [on (.store 30 (.tmp 2) (.const (.int .i64 (0))))]:=.mk
def c171:Code:=.seq (rg 171 0) (.seq (rg 171 1) (.seq (rg 171 2) (.seq (rg 171 3) (.ret))))
theorem k171:KF 171 [.cell 2 30] 1 c171:=.mk
end
end Mw
/-! The code of metewand/read.CheckExpr$1. -/
namespace Mw
open Go Go.Proofs
set_option maxRecDepth 100000
noncomputable section
theorem x203_0:XF 203 0 0 [oa 1 (.call ⟨.builtin .recover,#[],#[]⟩),oa 2 (.call ⟨.value (.func 204),#[.tmp 1],#[20]⟩),so 30 0 2]:=.mk
def c203:Code:=rg 203 0
theorem k203:KF 203 [] 1 c203:=.mk
end
end Mw
/-! The code of metewand/read.caught. -/
namespace Mw
open Go Go.Proofs
set_option maxRecDepth 100000
noncomputable section
@[simp] theorem esc204 (t:Nat):K.esc 204 t=[5].elem t:=by kernel_rfl
theorem x204_0:XF 204 0 1 [oa 2 (.assign (.const (.int .i64 (0))))]:=.mk
theorem x204_1:XF 204 1 24 [mv 7 0,oa 8 (.typeAssert (.tmp 7) 20 271 true),mv 6 8,xt 9 6 0,xt 10 6 1,sg 3 9,sg 4 10]:=.mk
theorem x204_2:XF 204 2 4104 [mv 11 4,oa 12 (.unOp .not 4 (.tmp 11))]:=.mk
theorem x204_3:XF 204 3 4 [oa 2 (.assign (.const (.int .i64 (0))))]:=.mk
theorem x204_4:XF 204 4 40 [aq 5 274]:=.mk
theorem x204_5:XF 204 5 65568 [mv 13 3,oa 14 (.makeInterface 276 (.tmp 5)),oa 15 (.call ⟨.value (.func 235),#[.tmp 13,.tmp 14],#[271,20]⟩),oa 16 (.unOp .not 4 (.tmp 15))]:=.mk
theorem x204_6:XF 204 6 4 [oa 2 (.assign (.const (.int .i64 (1))))]:=.mk
theorem x204_7:XF 204 7 4 [fa 17 274 5 0,ld 18 30 17,sg 2 18]:=.mk
def c204:Code:=.seq (rg 204 0) (.seq (rg 204 1) (.seq (.seq (rg 204 2) (.cond (.tmp 12) (.seq (rg 204 3) (.ret)) (.skip))) (.seq (rg 204 4) (.seq (.seq (rg 204 5) (.cond (.tmp 16) (.seq (rg 204 6) (.ret)) (.skip))) (.seq (rg 204 7) (.ret))))))
theorem k204:KF 204 [.tmp 2] 1 c204:=.mk
end
end Mw
/-! The code of metewand/metewandkit.loopBody. -/
namespace Mw
open Go Go.Proofs
set_option maxRecDepth 100000
noncomputable section
@[simp] theorem esc131 (t:Nat):K.esc 131 t=false:=by kernel_rfl
theorem x131_0:XF 131 0 71 [aq 6 45]:=.mk
theorem x131_1:XF 131 1 199 [mv 10 0,oa 11 (.call ⟨.value (.func 20),#[.tmp 10,.const (.int .i64 (5))],#[23,3]⟩),oa 12 (.call ⟨.value (.func 188),#[.tmp 11,.const (.int .i64 (1))],#[3,3]⟩),oa 13 (.call ⟨.value (.func 187),#[.tmp 12],#[42]⟩),aq 7 45,so 45 7 13]:=.mk
theorem x131_2:XF 131 2 455 [oa 8 (.assign (.const (.int .i64 (0))))]:=.mk
theorem x131_3:XF 131 3 65991 [mv 14 8,mv 15 1,bo 16 .lss 3 14 15]:=.mk
theorem x131_5:XF 131 5 967 [mv 19 8,oa 20 (.call ⟨.value (.func 189),#[.tmp 19],#[3]⟩),oa 21 (.binOp .add 9 (.const (.string ⟨#[114]⟩)) (.tmp 20) 9),oa 22 (.call ⟨.value (.func 114),#[.tmp 21],#[9]⟩),aq 9 45,so 45 9 22]:=.mk
theorem x131_6:XF 131 6 16778183 [mv 23 0,oa 24 (.call ⟨.value (.func 20),#[.tmp 23,.const (.int .i64 (4))],#[23,3]⟩)]:=.mk
theorem x131_8:XF 131 8 285213639 [bk 29 .eql 3 24 0,sg 28 29]:=.mk
theorem x131_9:XF 131 9 455 [ld 30 45 7,ld 31 45 9,oa 32 (.call ⟨.value (.func 113),#[.const (.int .i64 (4)),.tmp 30,.tmp 31],#[3,45,45]⟩),so 45 7 32]:=.mk
theorem x131_10:XF 131 10 8606712775 [bk 34 .eql 3 24 1,sg 33 34]:=.mk
theorem x131_11:XP 131 11 455 [(1,6),(3,6),(4,6),(5,6),(1,8),(3,8),(4,8),(5,8),(6,8),(7,8)] [mv 35 0,oa 36 (.call ⟨.value (.func 21),#[.tmp 35,.const (.int .i64 (1)),.const (.int .i64 (2))],#[23,3,3]⟩),mv 37 0,oa 38 (.call ⟨.value (.func 21),#[.tmp 37,.const (.int .i64 (1)),.const (.int .i64 (3))],#[23,3,3]⟩),oa 39 (.call ⟨.value (.func 188),#[.tmp 36,.tmp 38],#[3,3]⟩),oa 40 (.call ⟨.value (.func 187),#[.tmp 39],#[42]⟩),ld 41 45 9,oa 42 (.call ⟨.value (.func 113),#[.const (.int .i64 (5)),.tmp 40,.tmp 41],#[3,45,45]⟩),ld 43 45 7,oa 44 (.call ⟨.value (.func 113),#[.const (.int .i64 (3)),.tmp 42,.tmp 43],#[3,45,45]⟩),so 45 7 44]:=.mk
theorem x131_12:XF 131 12 35184372089799 [bk 46 .eql 3 24 2,sg 45 46]:=.mk
theorem x131_13:XF 131 13 455 [ld 47 45 7,ld 48 45 9,oa 49 (.buildSlice 43 1 #[(0,.tmp 48)]),oa 50 (.build 45 #[(0,.const (.int .i64 (2))),(4,.tmp 49)]),oa 51 (.call ⟨.value (.func 113),#[.const (.int .i64 (3)),.tmp 47,.tmp 50],#[3,45,45]⟩),so 45 7 51]:=.mk
@[simp] theorem imm131_49:K.imm 131 49=false:=by kernel_rfl
theorem x131_7:XF 131 7 455 [ld 25 45 9,ld 26 45 7,oa 27 (.call ⟨.value (.func 113),#[.const (.int .i64 (3)),.tmp 25,.tmp 26],#[3,45,45]⟩),so 45 7 27]:=.mk
theorem x131_4:XF 131 4 455 [mv 17 8,bk 18 .add 3 17 1,sg 8 18]:=.mk
theorem x131_14:XF 131 14 144115188075856071 [mv 52 2,bk 53 .gtr 3 52 0,mv 54 53,og 55 2 true (.move (.tmp 0)),og 56 2 true (.call ⟨.value (.func 129),#[.tmp 55,.const (.int .i64 (2))],#[23,3]⟩),oa 57 (.pick (.tmp 54) (.tmp 56) (.const (.bool false)))]:=.mk
theorem x131_15:XP 131 15 195 [(1,3),(2,3),(3,7),(3,8),(3,10)] [mv 58 0,oa 59 (.buildSlice 22 3 #[(0,.const (.int .i64 (3))),(1,.const (.int .i64 (5))),(2,.const (.int .i64 (4)))]),oa 60 (.call ⟨.value (.func 58),#[.tmp 58,.tmp 59],#[23,22]⟩),ld 61 45 7,mv 62 0,mv 63 2,bk 64 .sub 3 63 1,oa 65 (.call ⟨.value (.func 20),#[.tmp 62,.tmp 64],#[23,3]⟩),oa 66 (.call ⟨.value (.func 189),#[.tmp 65],#[3]⟩),oa 67 (.binOp .add 9 (.const (.string ⟨#[105]⟩)) (.tmp 66) 9),oa 68 (.call ⟨.value (.func 114),#[.tmp 67],#[9]⟩),oa 69 (.call ⟨.value (.func 113),#[.tmp 60,.tmp 61,.tmp 68],#[3,45,45]⟩),so 45 7 69]:=.mk
@[simp] theorem imm131_59:K.imm 131 59=false:=by kernel_rfl
theorem x131_16:XF 131 16 37778931862957161709760 [mv 70 0,oa 71 (.call ⟨.value (.func 129),#[.tmp 70,.const (.int .i64 (9))],#[23,3]⟩),mv 72 71,og 73 2 true (.move (.tmp 1)),og 74 2 true (.binOp .gtr 3 (.tmp 73) (.const (.int .i64 (0))) 3),oa 75 (.pick (.tmp 72) (.tmp 74) (.const (.bool false)))]:=.mk
theorem x131_17:XP 131 17 192 [(0,1)] [ld 76 45 7,oa 77 (.call ⟨.value (.func 114),#[.const (.string ⟨#[114,48]⟩)],#[9]⟩),oa 78 (.call ⟨.value (.func 113),#[.const (.int .i64 (6)),.tmp 76,.tmp 77],#[3,45,45]⟩),so 45 7 78]:=.mk
theorem x131_18:XF 131 18 64 [ld 79 45 7,so 45 6 79]:=.mk
def l131_0:Code:=.seq (.seq (rg 131 3) (.cond (.tmp 16) (.skip) (.exit 0))) (.seq (.block 1 (.seq (rg 131 5) (.seq (rg 131 6) (.block 2 (.seq (rg 131 8) (.cond (.tmp 28) (rg 131 9) (.seq (rg 131 10) (.cond (.tmp 33) (rd 131 11) (.seq (rg 131 12) (.cond (.tmp 45) (rg 131 13) (rg 131 7))))))))))) (rg 131 4))
theorem u131_0 (s:St):execL K 131 l131_0 s=execL K 131 (.seq (.seq (rg 131 3) (.cond (.tmp 16) (.skip) (.exit 0))) (.seq (.block 1 (.seq (rg 131 5) (.seq (rg 131 6) (.block 2 (.seq (rg 131 8) (.cond (.tmp 28) (rg 131 9) (.seq (rg 131 10) (.cond (.tmp 33) (rd 131 11) (.seq (rg 131 12) (.cond (.tmp 45) (rg 131 13) (rg 131 7))))))))))) (rg 131 4))) s:=rfl
def c131:Code:=.seq (rg 131 0) (.seq (rg 131 1) (.seq (.seq (rg 131 2) (.block 0 (.loop l131_0))) (.seq (.seq (rg 131 14) (.cond (.tmp 57) (rd 131 15) (.skip))) (.seq (.seq (rg 131 16) (.cond (.tmp 75) (rd 131 17) (.skip))) (.seq (rg 131 18) (.ret))))))
theorem k131:KF 131 [.cell 6 45] 0 c131:=.mk
end
end Mw
/-! The code of metewand/metewandkit.Two. -/
namespace Mw
open Go Go.Proofs
set_option maxRecDepth 100000
noncomputable section
@[simp] theorem esc113 (t:Nat):K.esc 113 t=false:=by kernel_rfl
theorem x113_0:XF 113 0 113 [bx 4 45 1,bx 5 45 2,aq 6 45]:=.mk
theorem x113_1:XF 113 1 64 [mv 7 0,ld 8 45 4,ld 9 45 5,oa 10 (.buildSlice 43 2 #[(0,.tmp 8),(1,.tmp 9)]),oa 11 (.build 45 #[(0,.tmp 7),(4,.tmp 10)]),so 45 6 11]:=.mk
@[simp] theorem imm113_10:K.imm 113 10=false:=by kernel_rfl
def c113:Code:=.seq (rg 113 0) (.seq (rg 113 1) (.ret))
theorem k113:KF 113 [.cell 6 45] 1 c113:=.mk
end
end Mw
/-! The code of metewand/metewandkit.RefOf. -/
namespace Mw
open Go Go.Proofs
set_option maxRecDepth 100000
noncomputable section
@[simp] theorem esc114 (t:Nat):K.esc 114 t=false:=by kernel_rfl
theorem x114_0:XF 114 0 5 [aq 2 45]:=.mk
theorem x114_1:XF 114 1 4 [mv 3 0,oa 4 (.build 45 #[(0,.const (.int .i64 (1))),(2,.tmp 3)]),so 45 2 4]:=.mk
def c114:Code:=.seq (rg 114 0) (.seq (rg 114 1) (.ret))
theorem k114:KF 114 [.cell 2 45] 1 c114:=.mk
end
end Mw
/-! The code of metewand/metewandkit.LitOf. -/
namespace Mw
open Go Go.Proofs
set_option maxRecDepth 100000
noncomputable section
@[simp] theorem esc187 (t:Nat):K.esc 187 t=false:=by kernel_rfl
theorem x187_0:XF 187 0 6 [bx 1 42 0,aq 2 45]:=.mk
theorem x187_1:XF 187 1 4 [ld 3 42 1,oa 4 (.build 45 #[(0,.const (.int .i64 (0))),(1,.tmp 3)]),so 45 2 4]:=.mk
def c187:Code:=.seq (rg 187 0) (.seq (rg 187 1) (.ret))
theorem k187:KF 187 [.cell 2 45] 1 c187:=.mk
end
end Mw
/-! The code of metewand/metewandkit.KeepInts. -/
namespace Mw
open Go Go.Proofs
set_option maxRecDepth 100000
noncomputable section
@[simp] theorem esc146 (t:Nat):K.esc 146 t=false:=by kernel_rfl
theorem x146_0:XF 146 0 1 [oa 2 (.assign (.const (.slice none 0 0)))]:=.mk
theorem x146_1:XF 146 1 4 [oa 3 (.buildSlice 22 0 #[]),mv 4 0,oa 5 (.call ⟨.builtin .append,#[.tmp 3,.tmp 4],#[22,22]⟩),sg 2 5]:=.mk
@[simp] theorem imm146_3:K.imm 146 3=false:=by kernel_rfl
@[simp] theorem imm146_5:K.imm 146 5=true:=by kernel_rfl
def c146:Code:=.seq (rg 146 0) (.seq (rg 146 1) (.ret))
theorem k146:KF 146 [.tmp 2] 1 c146:=.mk
end
end Mw
/-! The code of metewand/metewandkit.KeepLoopCell. -/
namespace Mw
open Go Go.Proofs
set_option maxRecDepth 100000
noncomputable section
@[simp] theorem esc130 (t:Nat):K.esc 130 t=false:=by kernel_rfl
theorem x130_0:XF 130 0 6 [bx 1 39 0,aq 2 39]:=.mk
theorem x130_1:XF 130 1 14 [fa 5 39 1 0,ld 6 3 5,oa 7 (.build 39 #[(0,.tmp 6)]),aq 3 39,so 39 3 7]:=.mk
theorem x130_2:XF 130 2 30 [oa 4 (.assign (.const (.int .i64 (0))))]:=.mk
theorem x130_3:XF 130 3 4126 [mv 8 4,fa 9 39 1 1,ld 10 37 9,oa 11 (.call ⟨.builtin .len,#[.tmp 10],#[37]⟩),bo 12 .lss 3 8 11]:=.mk
theorem x130_5:XP 130 5 30 [(1,3),(1,7),(1,9),(3,9),(7,9),(1,13),(3,13),(7,13),(1,14),(3,14),(7,14),(1,16)] [fa 15 39 3 1,ld 16 37 15,fa 17 39 1 1,ld 18 37 17,mv 19 4,ia 20 37 18 19,fa 21 142 20 0,ld 22 3 21,fa 23 39 1 1,ld 24 37 23,mv 25 4,ia 26 37 24 25,fa 27 142 26 1,ld 28 22 27,oa 29 (.call ⟨.value (.func 146),#[.tmp 28],#[22]⟩),oa 30 (.build 142 #[(0,.tmp 22),(1,.tmp 29)]),oa 31 (.buildSlice 37 1 #[(0,.tmp 30)]),oa 32 (.call ⟨.builtin .append,#[.tmp 16,.tmp 31],#[37,37]⟩),fa 33 39 3 1,so 37 33 32]:=.mk
@[simp] theorem imm130_31:K.imm 130 31=false:=by kernel_rfl
@[simp] theorem imm130_32:K.imm 130 32=false:=by kernel_rfl
theorem x130_4:XF 130 4 30 [mv 13 4,bk 14 .add 3 13 1,sg 4 14]:=.mk
theorem x130_6:XF 130 6 4 [ld 34 39 3,so 39 2 34]:=.mk
def l130_0:Code:=.seq (.seq (rg 130 3) (.cond (.tmp 12) (.skip) (.exit 0))) (.seq (.block 1 (rd 130 5)) (rg 130 4))
theorem u130_0 (s:St):execL K 130 l130_0 s=execL K 130 (.seq (.seq (rg 130 3) (.cond (.tmp 12) (.skip) (.exit 0))) (.seq (.block 1 (rd 130 5)) (rg 130 4))) s:=rfl
def c130:Code:=.seq (rg 130 0) (.seq (rg 130 1) (.seq (.seq (rg 130 2) (.block 0 (.loop l130_0))) (.seq (rg 130 6) (.ret))))
theorem k130:KF 130 [.cell 2 39] 1 c130:=.mk
end
end Mw
/-! The code of metewand/metewandkit.LoopStepOf. -/
namespace Mw
open Go Go.Proofs
set_option maxRecDepth 100000
noncomputable section
@[simp] theorem esc63 (t:Nat):K.esc 63 t=false:=by kernel_rfl
theorem x63_0:XF 63 0 19 [aq 4 47]:=.mk
theorem x63_1:XF 63 1 51 [oa 9 (.build 47 #[]),aq 5 47,so 47 5 9]:=.mk
theorem x63_2:XF 63 2 115 [mv 10 0,oa 11 (.buildSlice 22 5 #[(0,.const (.int .i64 (0))),(1,.const (.int .i64 (1))),(2,.const (.int .i64 (1))),(3,.const (.int .i64 (2))),(4,.const (.int .i64 (2)))]),oa 12 (.call ⟨.value (.func 58),#[.tmp 10,.tmp 11],#[23,22]⟩),sg 6 12]:=.mk
@[simp] theorem imm63_11:K.imm 63 11=false:=by kernel_rfl
theorem x63_3:XF 63 3 16499 [mv 13 6,bk 14 .gtr 3 13 0]:=.mk
theorem x63_5:XP 63 5 115 [(1,3),(1,4)] [fa 17 47 5 0,ld 18 22 17,mv 19 0,oa 20 (.call ⟨.value (.func 21),#[.tmp 19,.const (.int .i64 (1)),.const (.int .i64 (4))],#[23,3,3]⟩),oa 21 (.buildSlice 22 1 #[(0,.tmp 20)]),oa 22 (.call ⟨.builtin .append,#[.tmp 18,.tmp 21],#[22,22]⟩),fa 23 47 5 0,so 22 23 22]:=.mk
@[simp] theorem imm63_21:K.imm 63 21=false:=by kernel_rfl
@[simp] theorem imm63_22:K.imm 63 22=false:=by kernel_rfl
theorem x63_4:XF 63 4 115 [mv 15 6,bk 16 .sub 3 15 1,sg 6 16]:=.mk
theorem x63_6:XF 63 6 179 [mv 24 1,oa 25 (.call ⟨.builtin .len,#[.tmp 24],#[25]⟩),bk 26 .sub 3 25 1,sg 7 26]:=.mk
theorem x63_7:XP 63 7 179 [(3,6)] [mv 27 0,mv 28 1,fa 29 47 5 0,ld 30 22 29,mv 31 0,mv 32 7,oa 33 (.call ⟨.value (.func 20),#[.tmp 31,.tmp 32],#[23,3]⟩),oa 34 (.call ⟨.value (.func 128),#[.tmp 27,.tmp 28,.tmp 30,.tmp 33],#[23,25,22,3]⟩),fa 35 47 5 1,so 39 35 34]:=.mk
theorem x63_8:XF 63 8 435 [mv 36 0,oa 37 (.call ⟨.value (.func 20),#[.tmp 36,.const (.int .i64 (2))],#[23,3]⟩),sg 8 37]:=.mk
theorem x63_9:XF 63 9 549755814323 [mv 38 8,bk 39 .gtr 3 38 0]:=.mk
theorem x63_11:XP 63 11 435 [(1,5),(1,8),(5,8),(1,9),(1,10)] [fa 42 47 5 2,ld 43 40 42,mv 44 0,mv 45 1,fa 46 47 5 0,ld 47 22 46,mv 48 0,mv 49 7,oa 50 (.call ⟨.value (.func 20),#[.tmp 48,.tmp 49],#[23,3]⟩),oa 51 (.call ⟨.value (.func 128),#[.tmp 44,.tmp 45,.tmp 47,.tmp 50],#[23,25,22,3]⟩),oa 52 (.buildSlice 40 1 #[(0,.tmp 51)]),oa 53 (.call ⟨.builtin .append,#[.tmp 43,.tmp 52],#[40,40]⟩),fa 54 47 5 2,so 40 54 53]:=.mk
@[simp] theorem imm63_52:K.imm 63 52=false:=by kernel_rfl
@[simp] theorem imm63_53:K.imm 63 53=false:=by kernel_rfl
theorem x63_10:XF 63 10 435 [mv 40 8,bk 41 .sub 3 40 1,sg 8 41]:=.mk
theorem x63_12:XF 63 12 72057594037927985 [mv 55 0,oa 56 (.call ⟨.value (.func 129),#[.tmp 55,.const (.int .i64 (3))],#[23,3]⟩)]:=.mk
theorem x63_13:XP 63 13 49 [(1,3),(1,4),(1,5)] [fa 57 47 5 2,ld 58 40 57,fa 59 47 5 1,ld 60 39 59,oa 61 (.call ⟨.value (.func 130),#[.tmp 60],#[39]⟩),oa 62 (.buildSlice 40 1 #[(0,.tmp 61)]),oa 63 (.call ⟨.builtin .append,#[.tmp 58,.tmp 62],#[40,40]⟩),fa 64 47 5 2,so 40 64 63]:=.mk
@[simp] theorem imm63_62:K.imm 63 62=false:=by kernel_rfl
@[simp] theorem imm63_63:K.imm 63 63=false:=by kernel_rfl
theorem x63_14:XF 63 14 48 [mv 65 0,fa 66 47 5 2,ld 67 40 66,oa 68 (.call ⟨.builtin .len,#[.tmp 67],#[40]⟩),fa 69 47 5 0,ld 70 22 69,oa 71 (.call ⟨.builtin .len,#[.tmp 70],#[22]⟩),oa 72 (.call ⟨.value (.func 131),#[.tmp 65,.tmp 68,.tmp 71],#[23,3,3]⟩),fa 73 47 5 3,so 45 73 72]:=.mk
theorem x63_15:XF 63 15 16 [ld 74 47 5,so 47 4 74]:=.mk
def l63_0:Code:=.seq (.seq (rg 63 3) (.cond (.tmp 14) (.skip) (.exit 0))) (.seq (.block 1 (rd 63 5)) (rg 63 4))
theorem u63_0 (s:St):execL K 63 l63_0 s=execL K 63 (.seq (.seq (rg 63 3) (.cond (.tmp 14) (.skip) (.exit 0))) (.seq (.block 1 (rd 63 5)) (rg 63 4))) s:=rfl
def l63_1:Code:=.seq (.seq (rg 63 9) (.cond (.tmp 39) (.skip) (.exit 2))) (.seq (.block 3 (rd 63 11)) (rg 63 10))
theorem u63_1 (s:St):execL K 63 l63_1 s=execL K 63 (.seq (.seq (rg 63 9) (.cond (.tmp 39) (.skip) (.exit 2))) (.seq (.block 3 (rd 63 11)) (rg 63 10))) s:=rfl
def c63:Code:=.seq (rg 63 0) (.seq (rg 63 1) (.seq (.seq (rg 63 2) (.block 0 (.loop l63_0))) (.seq (rg 63 6) (.seq (rd 63 7) (.seq (.seq (rg 63 8) (.block 2 (.loop l63_1))) (.seq (.seq (rg 63 12) (.cond (.tmp 56) (rd 63 13) (.skip))) (.seq (rg 63 14) (.seq (rg 63 15) (.ret)))))))))
theorem k63:KF 63 [.cell 4 47] 1 c63:=.mk
end
end Mw
/-! The code of metewand/metewandkit.LoopArrays. -/
namespace Mw
open Go Go.Proofs
set_option maxRecDepth 100000
noncomputable section
theorem x62_0:XF 62 0 0 [oa 0 (.assign (.const (.slice none 0 0)))]:=.mk
theorem x62_1:XF 62 1 1 [oa 1 (.buildSlice 22 1 #[(0,.const (.int .i64 (5)))]),oa 2 (.build 168 #[(0,.const (.string ⟨#[97]⟩)),(1,.tmp 1)]),oa 3 (.buildSlice 22 2 #[(0,.const (.int .i64 (4))),(1,.const (.int .i64 (4)))]),oa 4 (.build 168 #[(0,.const (.string ⟨#[98]⟩)),(1,.tmp 3)]),oa 5 (.build 168 #[(0,.const (.string ⟨#[99]⟩))]),oa 6 (.buildSlice 25 3 #[(0,.tmp 2),(1,.tmp 4),(2,.tmp 5)]),sg 0 6]:=.mk
@[simp] theorem imm62_1:K.imm 62 1=false:=by kernel_rfl
@[simp] theorem imm62_3:K.imm 62 3=false:=by kernel_rfl
@[simp] theorem imm62_6:K.imm 62 6=false:=by kernel_rfl
def c62:Code:=.seq (rg 62 0) (.seq (rg 62 1) (.ret))
theorem k62:KF 62 [.tmp 0] 1 c62:=.mk
end
end Mw
/-! The code of metewand/metewandkit.LoopTaskOf. -/
namespace Mw
open Go Go.Proofs
set_option maxRecDepth 100000
noncomputable section
@[simp] theorem esc13 (t:Nat):K.esc 13 t=false:=by kernel_rfl
theorem x13_0:XF 13 0 19 [aq 4 28]:=.mk
theorem x13_1:XF 13 1 51 [oa 7 (.call ⟨.value (.func 62),#[],#[]⟩),oa 8 (.build 28 #[(0,.tmp 7)]),aq 5 28,so 28 5 8]:=.mk
theorem x13_2:XF 13 2 113 [mv 9 0,mv 10 1,oa 11 (.call ⟨.value (.func 21),#[.tmp 9,.const (.int .i64 (1)),.tmp 10],#[23,3,3]⟩),sg 6 11]:=.mk
theorem x13_3:XF 13 3 8305 [mv 12 6,bk 13 .gtr 3 12 0]:=.mk
theorem x13_5:XP 13 5 113 [(1,4),(1,5),(1,6)] [fa 16 28 5 1,ld 17 26 16,mv 18 0,fa 19 28 5 0,ld 20 25 19,oa 21 (.call ⟨.value (.func 63),#[.tmp 18,.tmp 20],#[23,25]⟩),oa 22 (.buildSlice 26 1 #[(0,.tmp 21)]),oa 23 (.call ⟨.builtin .append,#[.tmp 17,.tmp 22],#[26,26]⟩),fa 24 28 5 1,so 26 24 23]:=.mk
@[simp] theorem imm13_22:K.imm 13 22=false:=by kernel_rfl
@[simp] theorem imm13_23:K.imm 13 23=false:=by kernel_rfl
theorem x13_4:XF 13 4 113 [mv 14 6,bk 15 .sub 3 14 1,sg 6 15]:=.mk
theorem x13_6:XF 13 6 16 [ld 25 28 5,so 28 4 25]:=.mk
def l13_0:Code:=.seq (.seq (rg 13 3) (.cond (.tmp 13) (.skip) (.exit 0))) (.seq (.block 1 (rd 13 5)) (rg 13 4))
theorem u13_0 (s:St):execL K 13 l13_0 s=execL K 13 (.seq (.seq (rg 13 3) (.cond (.tmp 13) (.skip) (.exit 0))) (.seq (.block 1 (rd 13 5)) (rg 13 4))) s:=rfl
def c13:Code:=.seq (rg 13 0) (.seq (rg 13 1) (.seq (.seq (rg 13 2) (.block 0 (.loop l13_0))) (.seq (rg 13 6) (.ret))))
theorem k13:KF 13 [.cell 4 28] 1 c13:=.mk
end
end Mw
/-! The code of metewand/metewandkit.NewRod. -/
namespace Mw
open Go Go.Proofs
set_option maxRecDepth 100000
noncomputable section
@[simp] theorem esc12 (t:Nat):K.esc 12 t=[5].elem t:=by kernel_rfl
theorem x12_0:XF 12 0 1 [oa 2 (.assign (.const (.pointer none)))]:=.mk
theorem x12_1:XF 12 1 4 [mv 3 0,oa 4 (.build 96 #[(0,.tmp 3),(2,.const (.int .u64 (7640891576956012809)))]),bx 5 96 4,sg 2 5]:=.mk
def c12:Code:=.seq (rg 12 0) (.seq (rg 12 1) (.ret))
theorem k12:KF 12 [.tmp 2] 0 c12:=.mk
end
end Mw
/-! The code of metewand/loop.Check$1. -/
namespace Mw
open Go Go.Proofs
set_option maxRecDepth 100000
noncomputable section
@[simp] theorem esc170 (t:Nat):K.esc 170 t=false:=by kernel_rfl
theorem x170_0:XF 170 0 20 [bx 4 168 1,oa 5 (.assign (.const (.int .i64 (0))))]:=.mk
theorem x170_1:XF 170 1 4116 [fa 8 168 4 0,ld 9 9 8,oa 10 (.build 45 #[(0,.const (.int .i64 (1))),(2,.tmp 9)]),oa 11 (.call ⟨.value (.func 171),#[.tmp 10],#[45]⟩),bk 12 .neq 30 11 0]:=.mk
theorem x170_2:XF 170 2 32 [oa 5 (.assign (.const (.int .i64 (4))))]:=.mk
theorem x170_3:XF 170 3 148 [ld 14 216 2,fa 15 168 4 0,ld 16 9 15,oa 17 (.lookup 216 (.tmp 14) (.tmp 16) true),mv 13 17,xt 18 13 0,xt 19 13 1,sg 6 18,sg 7 19]:=.mk
theorem x170_4:XF 170 4 1048596 [mv 20 7]:=.mk
theorem x170_5:XF 170 5 32 [oa 5 (.assign (.const (.int .i64 (5))))]:=.mk
theorem x170_6:XF 170 6 16 [ld 21 216 2,fa 22 168 4 0,ld 23 9 22,on (.mapUpdate 216 (.tmp 21) (.tmp 23) (.const (.bool true)))]:=.mk
theorem x170_7:XF 170 7 32 [fa 24 168 4 1,ld 25 22 24,oa 26 (.call ⟨.value (.func 172),#[.tmp 25],#[22]⟩),sg 5 26]:=.mk
def c170:Code:=.seq (rg 170 0) (.seq (.seq (rg 170 1) (.cond (.tmp 12) (.seq (rg 170 2) (.ret)) (.skip))) (.seq (.seq (rg 170 3) (.seq (rg 170 4) (.cond (.tmp 20) (.seq (rg 170 5) (.ret)) (.skip)))) (.seq (rg 170 6) (.seq (rg 170 7) (.ret)))))
theorem k170:KF 170 [.tmp 5] 1 c170:=.mk
end
end Mw
/-! The code of metewand/loop.first[metewand/api.LoopArray]. -/
namespace Mw
open Go Go.Proofs
set_option maxRecDepth 100000
noncomputable section
@[simp] theorem esc169 (t:Nat):K.esc 169 t=false:=by kernel_rfl
theorem x169_0:XF 169 0 3 [oa 4 (.assign (.const (.int .i64 (0))))]:=.mk
theorem x169_1:XF 169 1 1794 [mv 8 0,oa 9 (.call ⟨.builtin .len,#[.tmp 8],#[25]⟩),oa 10 (.move (.const (.int .i64 (0))))]:=.mk
theorem x169_2:XF 169 2 3842 [bo 11 .lss 3 10 9]:=.mk
theorem x169_3:XF 169 3 1890 [mv 12 10,ia 13 25 8 10,ld 14 168 13,aq 6 168,sg 5 12,so 168 6 14]:=.mk
theorem x169_4:XF 169 4 1922 [mv 15 1,mv 16 5,ld 17 168 6,oa 18 (.call ⟨.value (.tmp 15),#[.tmp 16,.tmp 17],#[3,168]⟩),sg 7 18]:=.mk
theorem x169_5:XF 169 5 1050498 [mv 19 7,bk 20 .neq 30 19 0]:=.mk
theorem x169_6:XF 169 6 16 [mv 21 7,sg 4 21]:=.mk
theorem x169_7:XF 169 7 1794 [bk 22 .add 3 10 1,mv 10 22]:=.mk
theorem x169_8:XF 169 8 16 [oa 4 (.assign (.const (.int .i64 (0))))]:=.mk
def l169_0:Code:=.seq (rg 169 2) (.seq (.cond (.tmp 11) (.skip) (.exit 0)) (.seq (.block 1 (.seq (rg 169 3) (.seq (rg 169 4) (.seq (rg 169 5) (.cond (.tmp 20) (.seq (rg 169 6) (.ret)) (.skip)))))) (rg 169 7)))
theorem u169_0 (s:St):execL K 169 l169_0 s=execL K 169 (.seq (rg 169 2) (.seq (.cond (.tmp 11) (.skip) (.exit 0)) (.seq (.block 1 (.seq (rg 169 3) (.seq (rg 169 4) (.seq (rg 169 5) (.cond (.tmp 20) (.seq (rg 169 6) (.ret)) (.skip)))))) (rg 169 7)))) s:=rfl
def c169:Code:=.seq (rg 169 0) (.seq (.seq (rg 169 1) (.block 0 (.loop l169_0))) (.seq (rg 169 8) (.ret)))
theorem k169:KF 169 [.tmp 4] 1 c169:=.mk
end
end Mw
/-! The code of (*metewand/loop.task).count. -/
namespace Mw
open Go Go.Proofs
set_option maxRecDepth 100000
noncomputable section
@[simp] theorem esc176 (t:Nat):K.esc 176 t=false:=by kernel_rfl
theorem x176_0:XF 176 0 1 [oa 2 (.assign (.const (.int .i64 (0))))]:=.mk
theorem x176_1:XF 176 1 9 [oa 3 (.assign (.const (.int .i64 (0))))]:=.mk
theorem x176_2:XF 176 2 7176 [mv 6 0,oa 7 (.nilCheck (.tmp 6)),fa 8 164 7 0,fa 9 28 8 1,ld 10 26 9,oa 11 (.call ⟨.builtin .len,#[.tmp 10],#[26]⟩),oa 12 (.move (.const (.int .i64 (0))))]:=.mk
theorem x176_3:XF 176 3 15368 [bo 13 .lss 3 12 11]:=.mk
theorem x176_4:XF 176 4 7208 [ia 14 26 10 12,ld 15 47 14,aq 5 47,so 47 5 15]:=.mk
theorem x176_5:XF 176 5 7176 [mv 16 3,fa 17 47 5 0,ld 18 22 17,oa 19 (.call ⟨.value (.func 110),#[.tmp 18],#[22]⟩),bo 20 .add 3 16 19,sg 3 20]:=.mk
theorem x176_6:XF 176 6 7176 [bk 21 .add 3 12 1,mv 12 21]:=.mk
theorem x176_7:XF 176 7 4 [mv 22 3,sg 2 22]:=.mk
def l176_0:Code:=.seq (rg 176 3) (.seq (.cond (.tmp 13) (.skip) (.exit 0)) (.seq (.block 1 (.seq (rg 176 4) (rg 176 5))) (rg 176 6)))
theorem u176_0 (s:St):execL K 176 l176_0 s=execL K 176 (.seq (rg 176 3) (.seq (.cond (.tmp 13) (.skip) (.exit 0)) (.seq (.block 1 (.seq (rg 176 4) (rg 176 5))) (rg 176 6)))) s:=rfl
def c176:Code:=.seq (rg 176 0) (.seq (rg 176 1) (.seq (.seq (rg 176 2) (.block 0 (.loop l176_0))) (.seq (rg 176 7) (.ret))))
theorem k176:KF 176 [.tmp 2] 1 c176:=.mk
end
end Mw
/-! The code of metewand/loop.Check. -/
namespace Mw
open Go Go.Proofs
set_option maxRecDepth 100000
noncomputable section
@[simp] theorem esc120 (t:Nat):K.esc 120 t=[1,3,16,33].elem t:=by kernel_rfl
theorem x120_0:XF 120 0 2 [bx 1 28 0,oa 2 (.assign (.const (.int .i64 (0))))]:=.mk
theorem x120_1:XF 120 1 32770 [fa 6 28 1 0,ld 7 25 6,oa 8 (.call ⟨.builtin .len,#[.tmp 7],#[25]⟩),bk 9 .gtr 3 8 12,mv 10 9,og 11 4 false (.fieldAddr 28 (.tmp 1) 1),og 12 4 false (.load 26 (.tmp 11)),og 13 4 false (.call ⟨.builtin .len,#[.tmp 12],#[26]⟩),og 14 4 false (.binOp .gtr 3 (.tmp 13) (.const (.int .i64 (12))) 3),oa 15 (.pick (.tmp 10) (.const (.bool true)) (.tmp 14))]:=.mk
theorem x120_2:XF 120 2 4 [oa 2 (.assign (.const (.int .i64 (7))))]:=.mk
theorem x120_3:XF 120 3 10 [oa 16 (.makeMap 216 none),aq 3 216,so 216 3 16]:=.mk
theorem x120_4:XF 120 4 18 [fa 17 28 1 0,ld 18 25 17,oa 19 (.makeFunc (.func 170) #[] #[.tmp 3]),oa 20 (.call ⟨.value (.func 169),#[.tmp 18,.tmp 19],#[25,220]⟩),sg 4 20]:=.mk
theorem x120_5:XF 120 5 4194322 [mv 21 4,bk 22 .neq 30 21 0]:=.mk
theorem x120_6:XF 120 6 4 [mv 23 4,sg 2 23]:=.mk
theorem x120_7:XF 120 7 34 [fa 24 28 1 1,ld 25 26 24,oa 26 (.makeFunc (.func 174) #[] #[.tmp 1]),oa 27 (.call ⟨.value (.func 173),#[.tmp 25,.tmp 26],#[26,223]⟩),sg 5 27]:=.mk
theorem x120_8:XF 120 8 536870946 [mv 28 5,bk 29 .neq 30 28 0]:=.mk
theorem x120_9:XF 120 9 4 [mv 30 5,sg 2 30]:=.mk
theorem x120_10:XF 120 10 34359738368 [ld 31 28 1,oa 32 (.build 164 #[(0,.tmp 31)]),bx 33 164 32,oa 34 (.call ⟨.value (.func 176),#[.tmp 33],#[158]⟩),bk 35 .gtr 3 34 2000]:=.mk
theorem x120_11:XF 120 11 4 [oa 2 (.assign (.const (.int .i64 (13))))]:=.mk
theorem x120_12:XF 120 12 4 [oa 2 (.assign (.const (.int .i64 (0))))]:=.mk
def c120:Code:=.seq (rg 120 0) (.seq (.seq (rg 120 1) (.cond (.tmp 15) (.seq (rg 120 2) (.ret)) (.skip))) (.seq (rg 120 3) (.seq (rg 120 4) (.seq (.seq (rg 120 5) (.cond (.tmp 22) (.seq (rg 120 6) (.ret)) (.skip))) (.seq (.seq (rg 120 7) (.seq (rg 120 8) (.cond (.tmp 29) (.seq (rg 120 9) (.ret)) (.skip)))) (.seq (.seq (rg 120 10) (.cond (.tmp 35) (.seq (rg 120 11) (.ret)) (.skip))) (.seq (rg 120 12) (.ret))))))))
theorem k120:KF 120 [.tmp 2] 1 c120:=.mk
end
end Mw
/-! The code of metewand/depend.open. -/
namespace Mw
open Go Go.Proofs
set_option maxRecDepth 100000
noncomputable section
@[simp] theorem esc64 (t:Nat):K.esc 64 t=[19,70].elem t:=by kernel_rfl
theorem x64_0:XF 64 0 14 [bx 1 28 0,oa 2 (.assign (.const (.pointer none))),oa 3 (.assign (.const (.int .i64 (0))))]:=.mk
theorem x64_1:XF 64 1 30 [ld 12 28 1,oa 13 (.call ⟨.value (.func 120),#[.tmp 12],#[28]⟩),sg 4 13]:=.mk
theorem x64_2:XF 64 2 32798 [mv 14 4,bk 15 .neq 30 14 0]:=.mk
theorem x64_3:XF 64 3 12 [mv 16 4,oa 2 (.assign (.const (.pointer none))),sg 3 16]:=.mk
theorem x64_4:XF 64 4 46 [ld 17 28 1,oa 18 (.build 105 #[(0,.tmp 17)]),bx 19 105 18,aq 5 99,so 99 5 19]:=.mk
theorem x64_5:XF 64 5 14680108 [fa 20 28 1 1,ld 21 26 20,oa 22 (.call ⟨.builtin .len,#[.tmp 21],#[26]⟩),oa 23 (.move (.const (.int .i64 (0))))]:=.mk
theorem x64_6:XF 64 6 31457324 [bo 24 .lss 3 23 22]:=.mk
theorem x64_7:XF 64 7 14680300 [mv 25 23,ia 26 26 21 23,ld 27 47 26,aq 6 3,aq 7 47,so 3 6 25,so 47 7 27]:=.mk
theorem x64_8:XF 64 8 1088422124 [fa 28 47 7 0,ld 29 22 28,oa 30 (.call ⟨.value (.func 132),#[.tmp 29],#[22]⟩)]:=.mk
theorem x64_9:XF 64 9 480 [sg 8 31]:=.mk
theorem x64_10:XP 64 10 928 [(0,1),(0,4),(0,5),(0,7),(1,7),(4,7),(5,7),(0,9),(1,9),(4,9),(5,9),(7,9),(0,11),(1,11),(4,11),(5,11),(0,12),(1,12),(4,12),(5,12),(0,14),(1,14),(4,14),(5,14),(7,14),(9,14),(11,14),(12,14)] [ld 32 3 6,ld 33 99 5,oa 34 (.nilCheck (.tmp 33)),fa 35 105 34 1,ld 36 103 35,oa 37 (.call ⟨.builtin .len,#[.tmp 36],#[103]⟩),mv 38 8,ld 39 99 5,fa 40 47 7 1,ld 41 39 40,mv 42 8,oa 43 (.call ⟨.value (.func 133),#[.tmp 39,.tmp 41,.tmp 42],#[99,39,22]⟩),oa 44 (.buildSlice 106 1 #[(0,.tmp 43)]),oa 45 (.build 108 #[(0,.tmp 32),(1,.tmp 37),(2,.tmp 38),(3,.tmp 44)]),aq 9 108,so 108 9 45]:=.mk
@[simp] theorem imm64_44:K.imm 64 44=false:=by kernel_rfl
theorem x64_11:XF 64 11 985162418488096 [fa 46 47 7 2,ld 47 40 46,oa 48 (.call ⟨.builtin .len,#[.tmp 47],#[40]⟩),oa 49 (.move (.const (.int .i64 (0))))]:=.mk
theorem x64_12:XF 64 12 2111062325330720 [bo 50 .lss 3 49 48]:=.mk
theorem x64_13:XF 64 13 985162418490144 [ia 51 40 47 49,ld 52 39 51,aq 11 39,so 39 11 52]:=.mk
theorem x64_14:XP 64 14 985162418488096 [(1,2),(1,3),(2,3),(1,5),(1,6)] [fa 53 108 9 3,ld 54 106 53,ld 55 99 5,ld 56 39 11,mv 57 8,oa 58 (.call ⟨.value (.func 133),#[.tmp 55,.tmp 56,.tmp 57],#[99,39,22]⟩),oa 59 (.buildSlice 106 1 #[(0,.tmp 58)]),oa 60 (.call ⟨.builtin .append,#[.tmp 54,.tmp 59],#[106,106]⟩),fa 61 108 9 3,so 106 61 60]:=.mk
@[simp] theorem imm64_59:K.imm 64 59=false:=by kernel_rfl
@[simp] theorem imm64_60:K.imm 64 60=false:=by kernel_rfl
theorem x64_15:XF 64 15 985162418488096 [bk 62 .add 3 49 1,mv 49 62]:=.mk
theorem x64_16:XP 64 16 0 [(0,1),(0,4),(0,5),(1,5),(4,5),(0,6),(1,6),(4,6),(0,7)] [ld 63 99 5,ld 64 99 5,oa 65 (.nilCheck (.tmp 64)),fa 66 105 65 1,ld 67 103 66,ld 68 108 9,oa 69 (.buildSlice 103 1 #[(0,.tmp 68)]),oa 70 (.call ⟨.builtin .append,#[.tmp 67,.tmp 69],#[103,103]⟩),oa 71 (.nilCheck (.tmp 63)),fa 72 105 71 1,so 103 72 70]:=.mk
@[simp] theorem imm64_69:K.imm 64 69=false:=by kernel_rfl
@[simp] theorem imm64_70:K.imm 64 70=false:=by kernel_rfl
theorem x64_17:XF 64 17 14680108 [bk 73 .add 3 23 1,mv 23 73]:=.mk
theorem x64_18:XF 64 18 12 [ld 74 99 5,sg 2 74,oa 3 (.assign (.const (.int .i64 (0))))]:=.mk
def l64_0:Code:=.seq (rg 64 12) (.seq (.cond (.tmp 50) (.skip) (.exit 4)) (.seq (.block 5 (.seq (rg 64 13) (rd 64 14))) (rg 64 15)))
theorem u64_0 (s:St):execL K 64 l64_0 s=execL K 64 (.seq (rg 64 12) (.seq (.cond (.tmp 50) (.skip) (.exit 4)) (.seq (.block 5 (.seq (rg 64 13) (rd 64 14))) (rg 64 15)))) s:=rfl
def a64_1:Code:=rg 64 9
def d64_1:Code:=.block 3 (.seq (rd 64 10) (.seq (.seq (rg 64 11) (.block 4 (.loop l64_0))) (rd 64 16)))
def l64_2:Code:=.seq (rg 64 6) (.seq (.cond (.tmp 24) (.skip) (.exit 0)) (.seq (.block 1 (.seq (rg 64 7) (.seq (rg 64 8) (.block 2 (.rangeFunc (.tmp 30) #[31] a64_1 d64_1))))) (rg 64 17)))
theorem u64_2 (s:St):execL K 64 l64_2 s=execL K 64 (.seq (rg 64 6) (.seq (.cond (.tmp 24) (.skip) (.exit 0)) (.seq (.block 1 (.seq (rg 64 7) (.seq (rg 64 8) (.block 2 (.rangeFunc (.tmp 30) #[31] a64_1 d64_1))))) (rg 64 17)))) s:=rfl
def c64:Code:=.seq (rg 64 0) (.seq (.seq (rg 64 1) (.seq (rg 64 2) (.cond (.tmp 15) (.seq (rg 64 3) (.ret)) (.skip)))) (.seq (rg 64 4) (.seq (.seq (rg 64 5) (.block 0 (.loop l64_2))) (.seq (rg 64 18) (.ret)))))
theorem k64:KF 64 [.tmp 2,.tmp 3] 1 c64:=.mk
end
end Mw
/-! The code of metewand/depend.indices$1. -/
namespace Mw
open Go Go.Proofs
set_option maxRecDepth 100000
noncomputable section
@[simp] theorem esc190 (t:Nat):K.esc 190 t=[2,3].elem t:=by kernel_rfl
theorem x190_0:XF 190 0 6 [bx 2 49 0]:=.mk
theorem x190_1:XF 190 1 14 [aq 3 49]:=.mk
theorem x190_2:XF 190 2 8 [oa 4 (.makeFunc (.func 191) #[] #[.tmp 1,.tmp 2,.tmp 3]),so 49 3 4]:=.mk
theorem x190_3:XF 190 3 0 [ld 5 49 3,oa 6 (.call ⟨.value (.tmp 5),#[.const (.slice none 0 0)],#[22]⟩)]:=.mk
def c190:Code:=.seq (rg 190 0) (.seq (rg 190 1) (.seq (rg 190 2) (rg 190 3)))
theorem k190:KF 190 [] 1 c190:=.mk
end
end Mw
/-! The code of metewand/depend.indices. -/
namespace Mw
open Go Go.Proofs
set_option maxRecDepth 100000
noncomputable section
@[simp] theorem esc132 (t:Nat):K.esc 132 t=[1].elem t:=by kernel_rfl
theorem x132_0:XF 132 0 2 [bx 1 22 0,oa 2 (.assign (.const (.nilFunc)))]:=.mk
theorem x132_1:XF 132 1 4 [oa 3 (.makeFunc (.func 190) #[] #[.tmp 1]),sg 2 3]:=.mk
def c132:Code:=.seq (rg 132 0) (.seq (rg 132 1) (.ret))
theorem k132:KF 132 [.tmp 2] 1 c132:=.mk
end
end Mw
/-! The code of metewand/depend.within. -/
namespace Mw
open Go Go.Proofs
set_option maxRecDepth 100000
noncomputable section
theorem x97_0:XF 97 0 7 [oa 6 (.assign (.const (.bool false)))]:=.mk
theorem x97_1:XF 97 1 64 [mv 7 1,mv 8 0,bo 9 .leq 3 7 8,mv 10 9,og 11 3 true (.move (.tmp 0)),og 12 3 true (.move (.tmp 2)),og 13 3 true (.binOp .leq 3 (.tmp 11) (.tmp 12) 3),oa 14 (.pick (.tmp 10) (.tmp 13) (.const (.bool false))),sg 6 14]:=.mk
def c97:Code:=.seq (rg 97 0) (.seq (rg 97 1) (.ret))
theorem k97:KF 97 [.tmp 6] 1 c97:=.mk
end
end Mw
