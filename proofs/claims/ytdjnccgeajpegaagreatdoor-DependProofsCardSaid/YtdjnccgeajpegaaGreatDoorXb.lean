/- DependProofs answers true for every list of numbers: its tied card holds; no condition beyond the card's own. -/
import Derived.Test.YtdjnccgeajpegaaGreatDoorKc
set_option linter.unusedVariables false
set_option linter.unusedSimpArgs false
set_option maxRecDepth 100000
namespace Mw
open Go Go.Proofs
noncomputable section
def r239_0:List Oper:=[oa 4 (.assign (.const (.int .i64 (0))))]
theorem x239_0:XF 239 0 3 r239_0:=.mk
def r239_1:List Oper:=[mv 8 0,
 oa 9 (.call ⟨.builtin .len,#[.tmp 8],#[37]⟩),
 oa 10 (.move (.const (.int .i64 (0))))]
theorem x239_1:XF 239 1 1794 r239_1:=.mk
def r239_2:List Oper:=[bo 11 .lss 3 10 9]
theorem x239_2:XF 239 2 3842 r239_2:=.mk
def r239_3:List Oper:=[mv 12 10,
 ia 13 37 8 10,
 ld 14 142 13,
 aq 6 142,
 sg 5 12,
 so 142 6 14]
theorem x239_3:XF 239 3 1890 r239_3:=.mk
@[simp] theorem esc239_6:K.esc 239 6=false:=by kernel_rfl
def r239_4:List Oper:=[mv 15 1,
 mv 16 5,
 ld 17 142 6,
 oa 18 (.call ⟨.value (.tmp 15),#[.tmp 16,.tmp 17],#[3,142]⟩),
 sg 7 18]
theorem x239_4:XF 239 4 1922 r239_4:=.mk
def r239_5:List Oper:=[mv 19 7,
 bk 20 .neq 30 19 0]
theorem x239_5:XF 239 5 1050498 r239_5:=.mk
def r239_6:List Oper:=[mv 21 7,
 sg 4 21]
theorem x239_6:XF 239 6 16 r239_6:=.mk
def r239_7:List Oper:=[bk 22 .add 3 10 1,
 mv 10 22]
theorem x239_7:XF 239 7 1794 r239_7:=.mk
def r239_8:List Oper:=[oa 4 (.assign (.const (.int .i64 (0))))]
theorem x239_8:XF 239 8 16 r239_8:=.mk
def l239_0:Code:=.seq (rg 239 2) (.seq (.cond (.tmp 11) (.skip) (.exit 0)) (.seq (.block 1 (.seq (rg 239 3) (.seq (rg 239 4) (.seq (rg 239 5) (.cond (.tmp 20) (.seq (rg 239 6) (.ret)) (.skip)))))) (rg 239 7)))
theorem u239_0 (s:St):execL K 239 l239_0 s=execL K 239 (.seq (rg 239 2) (.seq (.cond (.tmp 11) (.skip) (.exit 0)) (.seq (.block 1 (.seq (rg 239 3) (.seq (rg 239 4) (.seq (rg 239 5) (.cond (.tmp 20) (.seq (rg 239 6) (.ret)) (.skip)))))) (rg 239 7)))) s:=rfl
def c239:Code:=.seq (rg 239 0) (.seq (.seq (rg 239 1) (.block 0 (.loop l239_0))) (.seq (rg 239 8) (.ret)))
theorem k239:KF 239 [.tmp 4] 1 c239:=.mk
def r208_0:List Oper:=[bx 3 28 0,
 bx 4 39 1,
 bx 5 22 2,
 oa 6 (.assign (.const (.int .i64 (0))))]
theorem x208_0:XF 208 0 56 r208_0:=.mk
@[simp] theorem esc208_3:K.esc 208 3=false:=by kernel_rfl
@[simp] theorem esc208_4:K.esc 208 4=false:=by kernel_rfl
@[simp] theorem esc208_5:K.esc 208 5=true:=by kernel_rfl
def r208_1:List Oper:=[fa 9 39 4 0,
 ld 10 3 9,
 fa 11 28 3 0,
 ld 12 25 11,
 oa 13 (.call ⟨.builtin .len,#[.tmp 12],#[25]⟩),
 bk 14 .sub 3 13 1,
 oa 15 (.call ⟨.value (.func 109),#[.tmp 10,.const (.int .i64 (0)),.tmp 14],#[3,3,3]⟩),
 oa 16 (.unOp .not 4 (.tmp 15))]
theorem x208_1:XF 208 1 65592 r208_1:=.mk
def r208_2:List Oper:=[oa 6 (.assign (.const (.int .i64 (3))))]
theorem x208_2:XF 208 2 64 r208_2:=.mk
def r208_3:List Oper:=[fa 17 28 3 0,
 ld 18 25 17,
 fa 19 39 4 0,
 ld 20 3 19,
 ia 21 25 18 20,
 fa 22 168 21 1,
 ld 23 22 22,
 aq 7 22,
 so 22 7 23]
theorem x208_3:XF 208 3 176 r208_3:=.mk
@[simp] theorem esc208_7:K.esc 208 7=true:=by kernel_rfl
def r208_4:List Oper:=[fa 24 39 4 1,
 ld 25 37 24,
 ld 26 22 7,
 oa 27 (.call ⟨.builtin .len,#[.tmp 26],#[22]⟩),
 oa 28 (.call ⟨.value (.func 238),#[.tmp 25,.tmp 27],#[37,3]⟩),
 sg 8 28]
theorem x208_4:XF 208 4 432 r208_4:=.mk
def r208_5:List Oper:=[mv 29 8,
 bk 30 .neq 30 29 0]
theorem x208_5:XF 208 5 1073742256 r208_5:=.mk
def r208_6:List Oper:=[mv 31 8,
 sg 6 31]
theorem x208_6:XF 208 6 64 r208_6:=.mk
def r208_7:List Oper:=[fa 32 39 4 1,
 ld 33 37 32,
 oa 34 (.makeFunc (.func 240) #[] #[.tmp 5,.tmp 7]),
 oa 35 (.call ⟨.value (.func 239),#[.tmp 33,.tmp 34],#[37,282]⟩),
 sg 6 35]
theorem x208_7:XF 208 7 64 r208_7:=.mk
def c208:Code:=.seq (rg 208 0) (.seq (.seq (rg 208 1) (.cond (.tmp 16) (.seq (rg 208 2) (.ret)) (.skip))) (.seq (rg 208 3) (.seq (.seq (rg 208 4) (.seq (rg 208 5) (.cond (.tmp 30) (.seq (rg 208 6) (.ret)) (.skip)))) (.seq (rg 208 7) (.ret)))))
theorem k208:KF 208 [.tmp 6] 1 c208:=.mk
def r238_0:List Oper:=[oa 4 (.assign (.const (.int .i64 (0))))]
theorem x238_0:XF 238 0 3 r238_0:=.mk
def r238_1:List Oper:=[mv 6 0,
 oa 7 (.call ⟨.builtin .len,#[.tmp 6],#[37]⟩),
 mv 8 1,
 bo 9 .lss 3 7 8,
 sg 5 9]
theorem x238_1:XF 238 1 35 r238_1:=.mk
def r238_2:List Oper:=[oa 4 (.assign (.const (.int .i64 (8))))]
theorem x238_2:XF 238 2 16 r238_2:=.mk
def r238_3:List Oper:=[mv 11 0,
 oa 12 (.call ⟨.builtin .len,#[.tmp 11],#[37]⟩),
 mv 13 1,
 bo 14 .gtr 3 12 13,
 sg 10 14]
theorem x238_3:XF 238 3 1024 r238_3:=.mk
def r238_4:List Oper:=[oa 4 (.assign (.const (.int .i64 (7))))]
theorem x238_4:XF 238 4 16 r238_4:=.mk
def r238_5:List Oper:=[oa 4 (.assign (.const (.int .i64 (0))))]
theorem x238_5:XF 238 5 16 r238_5:=.mk
def c238:Code:=.seq (rg 238 0) (.seq (.block 0 (.seq (rg 238 1) (.cond (.tmp 5) (.seq (rg 238 2) (.ret)) (.seq (rg 238 3) (.cond (.tmp 10) (.seq (rg 238 4) (.ret)) (.skip)))))) (.seq (rg 238 5) (.ret)))
theorem k238:KF 238 [.tmp 4] 1 c238:=.mk
def r241_0:List Oper:=[bx 2 142 0,
 oa 4 (.assign (.const (.int .i64 (0))))]
theorem x241_0:XF 241 0 6 r241_0:=.mk
@[simp] theorem esc241_2:K.esc 241 2=false:=by kernel_rfl
def r241_1:List Oper:=[fa 6 142 2 1,
 ld 7 22 6,
 mv 8 1,
 oa 9 (.call ⟨.builtin .len,#[.tmp 8],#[22]⟩),
 oa 10 (.call ⟨.value (.func 108),#[.tmp 7,.tmp 9],#[22,3]⟩),
 sg 5 10]
theorem x241_1:XF 241 1 36 r241_1:=.mk
def r241_2:List Oper:=[mv 11 5,
 bk 12 .neq 30 11 0]
theorem x241_2:XF 241 2 4132 r241_2:=.mk
def r241_3:List Oper:=[mv 13 5,
 sg 4 13]
theorem x241_3:XF 241 3 16 r241_3:=.mk
def r241_4:List Oper:=[fa 14 142 2 1,
 ld 15 22 14,
 oa 16 (.call ⟨.value (.func 81),#[.tmp 15],#[22]⟩),
 fa 17 142 2 0,
 ld 18 3 17,
 oa 19 (.buildSlice 22 1 #[(0,.tmp 18)]),
 oa 20 (.call ⟨.value (.func 117),#[.tmp 16,.const (.int .i64 (0)),.tmp 19],#[22,3,22]⟩),
 oa 21 (.call ⟨.value (.func 206),#[.tmp 20,.func 270],#[22,245]⟩),
 sg 4 21]
theorem x241_4:XP 241 4 16 [(1,4),(2,4),(1,5),(2,5)] r241_4:=.mk
@[simp] theorem imm241_19:K.imm 241 19=true:=by kernel_rfl
def c241:Code:=.seq (rg 241 0) (.seq (.seq (rg 241 1) (.seq (rg 241 2) (.cond (.tmp 12) (.seq (rg 241 3) (.ret)) (.skip)))) (.seq (rd 241 4) (.ret)))
theorem k241:KF 241 [.tmp 4] 1 c241:=.mk
def r242_0:List Oper:=[bx 2 142 0,
 oa 4 (.assign (.const (.int .i64 (0)))),
 oa 5 (.assign (.const (.int .i64 (0))))]
theorem x242_0:XF 242 0 6 r242_0:=.mk
@[simp] theorem esc242_2:K.esc 242 2=false:=by kernel_rfl
def r242_1:List Oper:=[fa 9 142 2 0,
 ld 10 3 9,
 fa 11 142 2 0,
 ld 12 3 11,
 sg 4 10,
 sg 5 12]
theorem x242_1:XP 242 1 54 [(1,3)] r242_1:=.mk
def r242_2:List Oper:=[fa 13 142 2 1,
 ld 14 22 13,
 oa 15 (.call ⟨.builtin .len,#[.tmp 14],#[22]⟩),
 oa 16 (.move (.const (.int .i64 (0))))]
theorem x242_2:XF 242 2 114738 r242_2:=.mk
def r242_3:List Oper:=[bo 17 .lss 3 16 15]
theorem x242_3:XF 242 3 245810 r242_3:=.mk
def r242_4:List Oper:=[mv 18 16,
 ia 19 22 14 16,
 ld 20 3 19,
 sg 6 18,
 sg 7 20]
theorem x242_4:XF 242 4 114930 r242_4:=.mk
def r242_5:List Oper:=[mv 21 7,
 mv 22 1,
 mv 23 6,
 ia 24 22 22 23,
 ld 25 3 24,
 bk 26 .sub 3 25 1,
 bo 27 .mul 3 21 26,
 sg 8 27]
theorem x242_5:XF 242 5 114994 r242_5:=.mk
def r242_6:List Oper:=[mv 28 4,
 mv 29 8,
 oa 30 (.call ⟨.builtin .min,#[.const (.int .i64 (0)),.tmp 29],#[3,3]⟩),
 bo 31 .add 3 28 30,
 mv 32 5,
 mv 33 8,
 oa 34 (.call ⟨.builtin .max,#[.const (.int .i64 (0)),.tmp 33],#[3,3]⟩),
 bo 35 .add 3 32 34,
 sg 4 31,
 sg 5 35]
theorem x242_6:XF 242 6 114738 r242_6:=.mk
def r242_7:List Oper:=[bk 36 .add 3 16 1,
 mv 16 36]
theorem x242_7:XF 242 7 114738 r242_7:=.mk
def r242_8:List Oper:=[mv 37 4,
 mv 38 5,
 sg 4 37,
 sg 5 38]
theorem x242_8:XF 242 8 48 r242_8:=.mk
def l242_0:Code:=.seq (rg 242 3) (.seq (.cond (.tmp 17) (.skip) (.exit 0)) (.seq (.block 1 (.seq (rg 242 4) (.seq (rg 242 5) (rg 242 6)))) (rg 242 7)))
theorem u242_0 (s:St):execL K 242 l242_0 s=execL K 242 (.seq (rg 242 3) (.seq (.cond (.tmp 17) (.skip) (.exit 0)) (.seq (.block 1 (.seq (rg 242 4) (.seq (rg 242 5) (rg 242 6)))) (rg 242 7)))) s:=rfl
def c242:Code:=.seq (rg 242 0) (.seq (rd 242 1) (.seq (.seq (rg 242 2) (.block 0 (.loop l242_0))) (.seq (rg 242 8) (.ret))))
theorem k242:KF 242 [.tmp 4,.tmp 5] 1 c242:=.mk
def r211_0:List Oper:=[bx 3 45 0,
 bx 4 3 1,
 bx 5 3 2,
 oa 6 (.assign (.const (.int .i64 (0))))]
theorem x211_0:XF 211 0 56 r211_0:=.mk
@[simp] theorem esc211_3:K.esc 211 3=false:=by kernel_rfl
@[simp] theorem esc211_4:K.esc 211 4=true:=by kernel_rfl
@[simp] theorem esc211_5:K.esc 211 5=true:=by kernel_rfl
def r211_1:List Oper:=[fa 7 45 3 0,
 ld 8 3 7]
theorem x211_1:XF 211 1 312 r211_1:=.mk
def r211_3:List Oper:=[bk 10 .eql 3 8 0,
 sg 9 10]
theorem x211_3:XF 211 3 824 r211_3:=.mk
def r211_4:List Oper:=[fa 11 45 3 2,
 ld 12 9 11,
 oa 13 (.binOp .neq 9 (.tmp 12) (.const (.string ⟨#[]⟩)) 9)]
theorem x211_4:XF 211 4 8248 r211_4:=.mk
def r211_5:List Oper:=[oa 6 (.assign (.const (.int .i64 (9))))]
theorem x211_5:XF 211 5 64 r211_5:=.mk
def r211_6:List Oper:=[bk 15 .eql 3 8 1,
 sg 14 15]
theorem x211_6:XF 211 6 16696 r211_6:=.mk
def r211_7:List Oper:=[fa 16 45 3 2,
 ld 17 9 16,
 ld 18 3 4,
 oa 19 (.call ⟨.value (.func 165),#[.tmp 17,.const (.int .u8 (114)),.tmp 18],#[9,5,3]⟩),
 bk 20 .lss 3 19 0,
 mv 21 20,
 og 22 5 true (.fieldAddr 45 (.tmp 3) 2),
 og 23 5 true (.load 9 (.tmp 22)),
 og 24 5 true (.load 3 (.tmp 5)),
 og 25 5 true (.call ⟨.value (.func 165),#[.tmp 23,.const (.int .u8 (105)),.tmp 24],#[9,5,3]⟩),
 og 26 5 true (.binOp .lss 3 (.tmp 25) (.const (.int .i64 (0))) 3),
 oa 27 (.pick (.tmp 21) (.tmp 26) (.const (.bool false)))]
theorem x211_7:XF 211 7 134217784 r211_7:=.mk
def r211_8:List Oper:=[oa 6 (.assign (.const (.int .i64 (4))))]
theorem x211_8:XF 211 8 64 r211_8:=.mk
def r211_9:List Oper:=[bk 29 .eql 3 8 2,
 sg 28 29]
theorem x211_9:XF 211 9 268435768 r211_9:=.mk
def r211_10:List Oper:=[bk 30 .eql 3 8 3,
 sg 28 30]
theorem x211_10:XF 211 10 268435768 r211_10:=.mk
def r211_11:List Oper:=[bk 31 .eql 3 8 4,
 sg 28 31]
theorem x211_11:XF 211 11 268435768 r211_11:=.mk
def r211_12:List Oper:=[bk 32 .eql 3 8 5,
 sg 28 32]
theorem x211_12:XF 211 12 268435768 r211_12:=.mk
def r211_13:List Oper:=[bk 33 .eql 3 8 6,
 sg 28 33]
theorem x211_13:XF 211 13 268435768 r211_13:=.mk
def r211_14:List Oper:=[bk 34 .eql 3 8 7,
 sg 28 34]
theorem x211_14:XF 211 14 268435512 r211_14:=.mk
def r211_2:List Oper:=[oa 6 (.assign (.const (.int .i64 (9))))]
theorem x211_2:XF 211 2 64 r211_2:=.mk
def r211_15:List Oper:=[fa 35 45 3 4,
 ld 36 43 35,
 oa 37 (.makeFunc (.func 244) #[] #[.tmp 4,.tmp 5]),
 oa 38 (.call ⟨.value (.func 243),#[.tmp 36,.tmp 37],#[43,284]⟩),
 sg 6 38]
theorem x211_15:XF 211 15 64 r211_15:=.mk
def c211:Code:=.seq (rg 211 0) (.seq (.seq (rg 211 1) (.block 0 (.seq (rg 211 3) (.cond (.tmp 9) (.seq (rg 211 4) (.cond (.tmp 13) (.seq (rg 211 5) (.ret)) (.skip))) (.seq (rg 211 6) (.cond (.tmp 14) (.seq (rg 211 7) (.cond (.tmp 27) (.seq (rg 211 8) (.ret)) (.skip))) (.seq (.seq (rg 211 9) (.cond (.tmp 28) (.skip) (.seq (rg 211 10) (.cond (.tmp 28) (.skip) (.seq (rg 211 11) (.cond (.tmp 28) (.skip) (.seq (rg 211 12) (.cond (.tmp 28) (.skip) (.seq (rg 211 13) (.cond (.tmp 28) (.skip) (rg 211 14))))))))))) (.cond (.tmp 28) (.skip) (.seq (rg 211 2) (.ret)))))))))) (.seq (rg 211 15) (.ret)))
theorem k211:KF 211 [.tmp 6] 1 c211:=.mk
def r244_0:List Oper:=[bx 5 45 1,
 oa 6 (.assign (.const (.int .i64 (0))))]
theorem x244_0:XF 244 0 44 r244_0:=.mk
@[simp] theorem esc244_5:K.esc 244 5=false:=by kernel_rfl
def r244_1:List Oper:=[ld 7 45 5,
 ld 8 3 2,
 ld 9 3 3,
 oa 10 (.call ⟨.value (.func 211),#[.tmp 7,.tmp 8,.tmp 9],#[45,3,3]⟩),
 sg 6 10]
theorem x244_1:XF 244 1 64 r244_1:=.mk
def c244:Code:=.seq (rg 244 0) (.seq (rg 244 1) (.ret))
theorem k244:KF 244 [.tmp 6] 1 c244:=.mk
def r243_0:List Oper:=[oa 4 (.assign (.const (.int .i64 (0))))]
theorem x243_0:XF 243 0 3 r243_0:=.mk
def r243_1:List Oper:=[mv 8 0,
 oa 9 (.call ⟨.builtin .len,#[.tmp 8],#[43]⟩),
 oa 10 (.move (.const (.int .i64 (0))))]
theorem x243_1:XF 243 1 1794 r243_1:=.mk
def r243_2:List Oper:=[bo 11 .lss 3 10 9]
theorem x243_2:XF 243 2 3842 r243_2:=.mk
def r243_3:List Oper:=[mv 12 10,
 ia 13 43 8 10,
 ld 14 45 13,
 aq 6 45,
 sg 5 12,
 so 45 6 14]
theorem x243_3:XF 243 3 1890 r243_3:=.mk
@[simp] theorem esc243_6:K.esc 243 6=false:=by kernel_rfl
def r243_4:List Oper:=[mv 15 1,
 mv 16 5,
 ld 17 45 6,
 oa 18 (.call ⟨.value (.tmp 15),#[.tmp 16,.tmp 17],#[3,45]⟩),
 sg 7 18]
theorem x243_4:XF 243 4 1922 r243_4:=.mk
def r243_5:List Oper:=[mv 19 7,
 bk 20 .neq 30 19 0]
theorem x243_5:XF 243 5 1050498 r243_5:=.mk
def r243_6:List Oper:=[mv 21 7,
 sg 4 21]
theorem x243_6:XF 243 6 16 r243_6:=.mk
def r243_7:List Oper:=[bk 22 .add 3 10 1,
 mv 10 22]
theorem x243_7:XF 243 7 1794 r243_7:=.mk
def r243_8:List Oper:=[oa 4 (.assign (.const (.int .i64 (0))))]
theorem x243_8:XF 243 8 16 r243_8:=.mk
def l243_0:Code:=.seq (rg 243 2) (.seq (.cond (.tmp 11) (.skip) (.exit 0)) (.seq (.block 1 (.seq (rg 243 3) (.seq (rg 243 4) (.seq (rg 243 5) (.cond (.tmp 20) (.seq (rg 243 6) (.ret)) (.skip)))))) (rg 243 7)))
theorem u243_0 (s:St):execL K 243 l243_0 s=execL K 243 (.seq (rg 243 2) (.seq (.cond (.tmp 11) (.skip) (.exit 0)) (.seq (.block 1 (.seq (rg 243 3) (.seq (rg 243 4) (.seq (rg 243 5) (.cond (.tmp 20) (.seq (rg 243 6) (.ret)) (.skip)))))) (rg 243 7)))) s:=rfl
def c243:Code:=.seq (rg 243 0) (.seq (.seq (rg 243 1) (.block 0 (.loop l243_0))) (.seq (rg 243 8) (.ret)))
theorem k243:KF 243 [.tmp 4] 1 c243:=.mk
def r205_0:List Oper:=[bx 2 45 0]
theorem x205_0:XF 205 0 6 r205_0:=.mk
@[simp] theorem esc205_2:K.esc 205 2=false:=by kernel_rfl
def r205_1:List Oper:=[mv 6 1,
 bk 7 .geq 3 6 30,
 oa 8 (.call ⟨.value (.func 236),#[.tmp 7,.const (.int .i64 (7))],#[4,30]⟩)]
theorem x205_1:XF 205 1 6 r205_1:=.mk
def r205_2:List Oper:=[ld 9 45 2,
 oa 10 (.call ⟨.value (.func 237),#[.tmp 9],#[45]⟩)]
theorem x205_2:XF 205 2 6 r205_2:=.mk
def r205_3:List Oper:=[fa 11 45 2 4,
 ld 12 43 11,
 oa 13 (.call ⟨.builtin .len,#[.tmp 12],#[43]⟩),
 oa 14 (.move (.const (.int .i64 (0))))]
theorem x205_3:XF 205 3 28674 r205_3:=.mk
def r205_4:List Oper:=[bo 15 .lss 3 14 13]
theorem x205_4:XF 205 4 61442 r205_4:=.mk
def r205_5:List Oper:=[ia 16 43 12 14,
 ld 17 45 16,
 aq 5 45,
 so 45 5 17]
theorem x205_5:XF 205 5 28706 r205_5:=.mk
@[simp] theorem esc205_5:K.esc 205 5=false:=by kernel_rfl
def r205_6:List Oper:=[ld 18 45 5,
 mv 19 1,
 bk 20 .add 3 19 1,
 oa 21 (.call ⟨.value (.func 205),#[.tmp 18,.tmp 20],#[45,3]⟩)]
theorem x205_6:XF 205 6 28674 r205_6:=.mk
def r205_7:List Oper:=[bk 22 .add 3 14 1,
 mv 14 22]
theorem x205_7:XF 205 7 28674 r205_7:=.mk
def l205_0:Code:=.seq (rg 205 4) (.seq (.cond (.tmp 15) (.skip) (.exit 0)) (.seq (.block 1 (.seq (rg 205 5) (rg 205 6))) (rg 205 7)))
theorem u205_0 (s:St):execL K 205 l205_0 s=execL K 205 (.seq (rg 205 4) (.seq (.cond (.tmp 15) (.skip) (.exit 0)) (.seq (.block 1 (.seq (rg 205 5) (rg 205 6))) (rg 205 7)))) s:=rfl
def c205:Code:=.seq (rg 205 0) (.seq (rg 205 1) (.seq (rg 205 2) (.seq (rg 205 3) (.block 0 (.loop l205_0)))))
theorem k205:KF 205 [] 1 c205:=.mk
def r236_0:List Oper:=[mv 4 0]
theorem x236_0:XF 236 0 18 r236_0:=.mk
def r236_1:List Oper:=[mv 5 1,
 oa 6 (.build 274 #[(0,.tmp 5)]),
 oa 7 (.makeInterface 274 (.tmp 6)),
 on (.panic (.tmp 7))]
theorem x236_1:XF 236 1 0 r236_1:=.mk
def c236:Code:=.seq (rg 236 0) (.cond (.tmp 4) (rg 236 1) (.skip))
theorem k236:KF 236 [] 1 c236:=.mk
def r237_0:List Oper:=[bx 1 45 0]
theorem x237_0:XF 237 0 2 r237_0:=.mk
@[simp] theorem esc237_1:K.esc 237 1=false:=by kernel_rfl
def r237_1:List Oper:=[fa 4 45 1 0,
 ld 5 3 4,
 oa 6 (.call ⟨.value (.func 264),#[.tmp 5,.const (.int .i64 (0)),.const (.int .i64 (14))],#[3,3,3]⟩),
 oa 7 (.unOp .not 4 (.tmp 6)),
 oa 8 (.call ⟨.value (.func 236),#[.tmp 7,.const (.int .i64 (9))],#[4,30]⟩)]
theorem x237_1:XF 237 1 2 r237_1:=.mk
def r237_2:List Oper:=[fa 9 45 1 0,
 ld 10 3 9,
 oa 11 (.call ⟨.value (.func 265),#[.tmp 10],#[3]⟩),
 aq 2 309,
 so 309 2 11]
theorem x237_2:XF 237 2 6 r237_2:=.mk
@[simp] theorem esc237_2:K.esc 237 2=false:=by kernel_rfl
def r237_3:List Oper:=[fa 12 45 1 4,
 ld 13 43 12,
 oa 14 (.call ⟨.builtin .len,#[.tmp 13],#[43]⟩),
 oa 15 (.indexAddr 309 (.tmp 2) (.const (.int .i64 (0)))),
 ld 16 3 15,
 bo 17 .lss 3 14 16,
 oa 18 (.call ⟨.value (.func 236),#[.tmp 17,.const (.int .i64 (8))],#[4,30]⟩)]
theorem x237_3:XF 237 3 6 r237_3:=.mk
def r237_4:List Oper:=[fa 19 45 1 4,
 ld 20 43 19,
 oa 21 (.call ⟨.builtin .len,#[.tmp 20],#[43]⟩),
 oa 22 (.indexAddr 309 (.tmp 2) (.const (.int .i64 (1)))),
 ld 23 3 22,
 bo 24 .gtr 3 21 23,
 oa 25 (.call ⟨.value (.func 236),#[.tmp 24,.const (.int .i64 (7))],#[4,30]⟩)]
theorem x237_4:XF 237 4 6 r237_4:=.mk
def r237_5:List Oper:=[fa 26 45 1 0,
 ld 27 3 26,
 bk 28 .eql 3 27 0]
theorem x237_5:XF 237 5 268435462 r237_5:=.mk
def r237_6:List Oper:=[fa 29 45 1 1,
 ld 30 42 29,
 oa 31 (.call ⟨.value (.func 266),#[.tmp 30],#[42]⟩),
 sg 3 31]
theorem x237_6:XF 237 6 14 r237_6:=.mk
def r237_7:List Oper:=[mv 32 3,
 bk 33 .neq 30 32 0,
 mv 34 3,
 oa 35 (.call ⟨.value (.func 236),#[.tmp 33,.tmp 34],#[4,30]⟩)]
theorem x237_7:XF 237 7 6 r237_7:=.mk
def r237_8:List Oper:=[fa 36 45 1 1,
 fa 37 42 36 0,
 ld 38 9 37,
 oa 39 (.index 9 (.tmp 38) (.const (.int .i64 (0)))),
 oa 40 (.binOp .eql 5 (.tmp 39) (.const (.int .u8 (45))) 5),
 oa 41 (.call ⟨.value (.func 236),#[.tmp 40,.const (.int .i64 (2))],#[4,30]⟩)]
theorem x237_8:XF 237 8 6 r237_8:=.mk
def r237_9:List Oper:=[fa 42 45 1 1,
 ld 43 42 42,
 oa 44 (.build 42 #[]),
 bo 45 .neq 42 43 44,
 oa 46 (.call ⟨.value (.func 236),#[.tmp 45,.const (.int .i64 (1))],#[4,30]⟩)]
theorem x237_9:XF 237 9 6 r237_9:=.mk
def r237_10:List Oper:=[fa 47 45 1 0,
 ld 48 3 47]
theorem x237_10:XF 237 10 281474976710662 r237_10:=.mk
def r237_12:List Oper:=[bk 54 .eql 3 48 0,
 sg 53 54]
theorem x237_12:XF 237 12 9288674231451654 r237_12:=.mk
def r237_13:List Oper:=[fa 55 45 1 2,
 ld 56 9 55,
 oa 57 (.binOp .neq 9 (.tmp 56) (.const (.string ⟨#[]⟩)) 9),
 mv 58 57,
 og 59 3 true (.fieldAddr 45 (.tmp 1) 2),
 og 60 3 true (.load 9 (.tmp 59)),
 og 61 3 true (.call ⟨.value (.func 267),#[.tmp 60],#[9]⟩),
 og 62 3 true (.unOp .not 4 (.tmp 61)),
 oa 63 (.pick (.tmp 58) (.tmp 62) (.const (.bool false))),
 oa 64 (.call ⟨.value (.func 236),#[.tmp 63,.const (.int .i64 (4))],#[4,30]⟩)]
theorem x237_13:XF 237 13 6 r237_13:=.mk
def r237_14:List Oper:=[bk 66 .eql 3 48 1,
 sg 65 66]
theorem x237_14:XF 237 14 36893769622395813894 r237_14:=.mk
def r237_15:List Oper:=[bk 67 .eql 3 48 10,
 sg 65 67]
theorem x237_15:XF 237 15 36893769622395813894 r237_15:=.mk
def r237_16:List Oper:=[bk 68 .eql 3 48 11,
 sg 65 68]
theorem x237_16:XF 237 16 36893769622395813894 r237_16:=.mk
def r237_17:List Oper:=[bk 69 .eql 3 48 13,
 sg 65 69]
theorem x237_17:XF 237 17 36893769622395813894 r237_17:=.mk
def r237_18:List Oper:=[bk 70 .eql 3 48 14,
 sg 65 70]
theorem x237_18:XF 237 18 36893488147419103238 r237_18:=.mk
def r237_19:List Oper:=[fa 71 45 1 2,
 ld 72 9 71,
 oa 73 (.call ⟨.value (.func 268),#[.tmp 72],#[9]⟩),
 oa 74 (.unOp .not 4 (.tmp 73)),
 oa 75 (.call ⟨.value (.func 236),#[.tmp 74,.const (.int .i64 (4))],#[4,30]⟩)]
theorem x237_19:XF 237 19 6 r237_19:=.mk
def r237_11:List Oper:=[fa 49 45 1 2,
 ld 50 9 49,
 oa 51 (.binOp .neq 9 (.tmp 50) (.const (.string ⟨#[]⟩)) 9),
 oa 52 (.call ⟨.value (.func 236),#[.tmp 51,.const (.int .i64 (4))],#[4,30]⟩)]
theorem x237_11:XF 237 11 6 r237_11:=.mk
def r237_20:List Oper:=[fa 76 45 1 0,
 ld 77 3 76,
 oa 78 (.call ⟨.value (.func 269),#[.tmp 77],#[3]⟩),
 so 309 2 78]
theorem x237_20:XF 237 20 6 r237_20:=.mk
def r237_21:List Oper:=[ld 79 309 2,
 oa 80 (.build 309 #[]),
 bo 81 .eql 309 79 80]
theorem x237_21:XF 237 21 2417851639229258349412358 r237_21:=.mk
def r237_22:List Oper:=[fa 82 45 1 3,
 ld 83 3 82,
 bk 84 .neq 3 83 0,
 oa 85 (.call ⟨.value (.func 236),#[.tmp 84,.const (.int .i64 (2))],#[4,30]⟩)]
theorem x237_22:XF 237 22 6 r237_22:=.mk
def r237_23:List Oper:=[fa 86 45 1 3,
 ld 87 3 86,
 oa 88 (.indexAddr 309 (.tmp 2) (.const (.int .i64 (0)))),
 ld 89 3 88,
 oa 90 (.indexAddr 309 (.tmp 2) (.const (.int .i64 (1)))),
 ld 91 3 90,
 oa 92 (.call ⟨.value (.func 264),#[.tmp 87,.tmp 89,.tmp 91],#[3,3,3]⟩),
 oa 93 (.unOp .not 4 (.tmp 92)),
 oa 94 (.call ⟨.value (.func 236),#[.tmp 93,.const (.int .i64 (2))],#[4,30]⟩)]
theorem x237_23:XF 237 23 0 r237_23:=.mk
def c237:Code:=.seq (rg 237 0) (.seq (rg 237 1) (.seq (rg 237 2) (.seq (rg 237 3) (.seq (rg 237 4) (.seq (.seq (rg 237 5) (.cond (.tmp 28) (.seq (rg 237 6) (.seq (rg 237 7) (rg 237 8))) (rg 237 9))) (.seq (.seq (rg 237 10) (.block 0 (.seq (rg 237 12) (.cond (.tmp 53) (rg 237 13) (.seq (.seq (rg 237 14) (.cond (.tmp 65) (.skip) (.seq (rg 237 15) (.cond (.tmp 65) (.skip) (.seq (rg 237 16) (.cond (.tmp 65) (.skip) (.seq (rg 237 17) (.cond (.tmp 65) (.skip) (rg 237 18))))))))) (.cond (.tmp 65) (rg 237 19) (rg 237 11))))))) (.seq (rg 237 20) (.seq (.seq (rg 237 21) (.cond (.tmp 81) (rg 237 22) (.skip))) (rg 237 23)))))))))
theorem k237:KF 237 [] 1 c237:=.mk
def r264_0:List Oper:=[oa 6 (.assign (.const (.bool false)))]
theorem x264_0:XF 264 0 7 r264_0:=.mk
def r264_1:List Oper:=[mv 7 1,
 mv 8 0,
 bo 9 .leq 3 7 8,
 mv 10 9,
 og 11 3 true (.move (.tmp 0)),
 og 12 3 true (.move (.tmp 2)),
 og 13 3 true (.binOp .leq 3 (.tmp 11) (.tmp 12) 3),
 oa 14 (.pick (.tmp 10) (.tmp 13) (.const (.bool false))),
 sg 6 14]
theorem x264_1:XF 264 1 64 r264_1:=.mk
def c264:Code:=.seq (rg 264 0) (.seq (rg 264 1) (.ret))
theorem k264:KF 264 [.tmp 6] 1 c264:=.mk
def r265_0:List Oper:=[aq 2 309]
theorem x265_0:XF 265 0 5 r265_0:=.mk
@[simp] theorem esc265_2:K.esc 265 2=false:=by kernel_rfl
def r265_1:List Oper:=[oa 4 (.build 309 #[(0,.const (.int .i64 (2))),(1,.const (.int .i64 (2)))]),
 aq 3 309,
 so 309 3 4]
theorem x265_1:XF 265 1 13 r265_1:=.mk
@[simp] theorem esc265_3:K.esc 265 3=false:=by kernel_rfl
def r265_2:List Oper:=[mv 5 0]
theorem x265_2:XF 265 2 45 r265_2:=.mk
def r265_3:List Oper:=[bk 7 .eql 3 5 0,
 sg 6 7]
theorem x265_3:XF 265 3 109 r265_3:=.mk
def r265_4:List Oper:=[bk 8 .eql 3 5 1,
 sg 6 8]
theorem x265_4:XF 265 4 109 r265_4:=.mk
def r265_5:List Oper:=[bk 10 .eql 3 5 2,
 sg 9 10]
theorem x265_5:XF 265 5 557 r265_5:=.mk
def r265_6:List Oper:=[bk 11 .eql 3 5 7,
 sg 9 11]
theorem x265_6:XF 265 6 557 r265_6:=.mk
def r265_7:List Oper:=[bk 12 .eql 3 5 10,
 sg 9 12]
theorem x265_7:XF 265 7 557 r265_7:=.mk
def r265_8:List Oper:=[bk 13 .eql 3 5 11,
 sg 9 13]
theorem x265_8:XF 265 8 557 r265_8:=.mk
def r265_9:List Oper:=[bk 15 .eql 3 5 12,
 sg 14 15]
theorem x265_9:XF 265 9 16429 r265_9:=.mk
def r265_10:List Oper:=[bk 17 .eql 3 5 8,
 sg 16 17]
theorem x265_10:XF 265 10 65581 r265_10:=.mk
def r265_11:List Oper:=[bk 19 .eql 3 5 14,
 sg 18 19]
theorem x265_11:XF 265 11 262157 r265_11:=.mk
def r265_12:List Oper:=[oa 20 (.build 309 #[]),
 so 309 3 20]
theorem x265_12:XF 265 12 12 r265_12:=.mk
def r265_13:List Oper:=[oa 21 (.build 309 #[(0,.const (.int .i64 (1))),(1,.const (.int .i64 (1)))]),
 so 309 3 21]
theorem x265_13:XF 265 13 12 r265_13:=.mk
def r265_14:List Oper:=[oa 22 (.build 309 #[(0,.const (.int .i64 (4))),(1,.const (.int .i64 (4)))]),
 so 309 3 22]
theorem x265_14:XF 265 14 12 r265_14:=.mk
def r265_15:List Oper:=[oa 23 (.indexAddr 309 (.tmp 3) (.const (.int .i64 (0)))),
 ld 24 3 23,
 bk 25 .sub 3 24 1,
 oa 26 (.indexAddr 309 (.tmp 3) (.const (.int .i64 (0)))),
 so 3 26 25]
theorem x265_15:XF 265 15 13 r265_15:=.mk
def r265_16:List Oper:=[oa 27 (.indexAddr 309 (.tmp 3) (.const (.int .i64 (1)))),
 on (.store 3 (.tmp 27) (.const (.int .i64 (8))))]
theorem x265_16:XF 265 16 13 r265_16:=.mk
def r265_17:List Oper:=[mv 28 0,
 bk 29 .eql 3 28 14]
theorem x265_17:XF 265 17 536870924 r265_17:=.mk
def r265_18:List Oper:=[oa 30 (.indexAddr 309 (.tmp 3) (.const (.int .i64 (0)))),
 on (.store 3 (.tmp 30) (.const (.int .i64 (0))))]
theorem x265_18:XF 265 18 12 r265_18:=.mk
def r265_19:List Oper:=[ld 31 309 3,
 so 309 2 31]
theorem x265_19:XF 265 19 4 r265_19:=.mk
def c265:Code:=.seq (rg 265 0) (.seq (rg 265 1) (.seq (.seq (rg 265 2) (.block 0 (.seq (.block 5 (.seq (.block 4 (.seq (.block 3 (.seq (.block 2 (.seq (.block 1 (.seq (.seq (.seq (.seq (rg 265 3) (.cond (.tmp 6) (.skip) (rg 265 4))) (.cond (.tmp 6) (.exit 1) (.skip))) (.seq (.seq (.seq (rg 265 5) (.cond (.tmp 9) (.skip) (.seq (rg 265 6) (.cond (.tmp 9) (.skip) (.seq (rg 265 7) (.cond (.tmp 9) (.skip) (rg 265 8))))))) (.cond (.tmp 9) (.exit 2) (.skip))) (.seq (.seq (rg 265 9) (.cond (.tmp 14) (.exit 3) (.skip))) (.seq (.seq (rg 265 10) (.cond (.tmp 16) (.exit 4) (.skip))) (.seq (rg 265 11) (.cond (.tmp 18) (.exit 5) (.skip))))))) (.exit 0))) (.seq (rg 265 12) (.exit 0)))) (.seq (rg 265 13) (.exit 0)))) (.seq (rg 265 14) (.exit 0)))) (rg 265 15))) (.seq (.seq (rg 265 16) (.seq (rg 265 17) (.cond (.tmp 29) (rg 265 18) (.skip)))) (.exit 0))))) (.seq (rg 265 19) (.ret))))
theorem k265:KF 265 [.cell 2 309] 1 c265:=.mk
def r269_0:List Oper:=[aq 2 309]
theorem x269_0:XF 269 0 5 r269_0:=.mk
@[simp] theorem esc269_2:K.esc 269 2=false:=by kernel_rfl
def r269_1:List Oper:=[mv 3 0]
theorem x269_1:XF 269 1 12 r269_1:=.mk
def r269_2:List Oper:=[bk 5 .eql 3 3 7,
 sg 4 5]
theorem x269_2:XF 269 2 28 r269_2:=.mk
def r269_3:List Oper:=[oa 6 (.build 309 #[(0,.const (.int .i64 (-9))),(1,.const (.int .i64 (9)))]),
 so 309 2 6]
theorem x269_3:XF 269 3 4 r269_3:=.mk
def r269_4:List Oper:=[bk 8 .eql 3 3 10,
 sg 7 8]
theorem x269_4:XF 269 4 140 r269_4:=.mk
def r269_5:List Oper:=[bk 9 .eql 3 3 11,
 sg 7 9]
theorem x269_5:XF 269 5 132 r269_5:=.mk
def r269_6:List Oper:=[oa 10 (.build 309 #[(0,.const (.int .i64 (1))),(1,.const (.int .i64 (99)))]),
 so 309 2 10]
theorem x269_6:XF 269 6 4 r269_6:=.mk
def r269_7:List Oper:=[oa 11 (.build 309 #[]),
 so 309 2 11]
theorem x269_7:XF 269 7 4 r269_7:=.mk
def c269:Code:=.seq (rg 269 0) (.seq (.seq (rg 269 1) (.block 0 (.seq (rg 269 2) (.cond (.tmp 4) (.seq (rg 269 3) (.ret)) (.seq (.seq (rg 269 4) (.cond (.tmp 7) (.skip) (rg 269 5))) (.cond (.tmp 7) (.seq (rg 269 6) (.ret)) (.skip))))))) (.seq (rg 269 7) (.ret)))
theorem k269:KF 269 [.cell 2 309] 1 c269:=.mk
def r171_0:List Oper:=[bx 1 45 0,
 aq 2 30]
theorem x171_0:XF 171 0 6 r171_0:=.mk
@[simp] theorem esc171_1:K.esc 171 1=false:=by kernel_rfl
@[simp] theorem esc171_2:K.esc 171 2=true:=by kernel_rfl
def r171_1:List Oper:=[oa 3 (.makeFunc (.func 203) #[] #[.tmp 2]),
 on (.defer ⟨.value (.tmp 3),#[],#[]⟩)]
theorem x171_1:XF 171 1 6 r171_1:=.mk
def r171_2:List Oper:=[ld 4 45 1,
 oa 5 (.call ⟨.value (.func 205),#[.tmp 4,.const (.int .i64 (0))],#[45,3]⟩)]
theorem x171_2:XF 171 2 4 r171_2:=.mk
def r171_3:List Oper:=[on (.store 30 (.tmp 2) (.const (.int .i64 (0))))]
theorem x171_3:XF 171 3 4 r171_3:=.mk
def c171:Code:=.seq (rg 171 0) (.seq (rg 171 1) (.seq (rg 171 2) (.seq (rg 171 3) (.ret))))
theorem k171:KF 171 [.cell 2 30] 1 c171:=.mk
def r203_0:List Oper:=[oa 1 (.call ⟨.builtin .recover,#[],#[]⟩),
 oa 2 (.call ⟨.value (.func 204),#[.tmp 1],#[20]⟩),
 so 30 0 2]
theorem x203_0:XF 203 0 0 r203_0:=.mk
def c203:Code:=rg 203 0
theorem k203:KF 203 [] 1 c203:=.mk
def r204_0:List Oper:=[oa 2 (.assign (.const (.int .i64 (0))))]
theorem x204_0:XF 204 0 1 r204_0:=.mk
def r204_1:List Oper:=[mv 7 0,
 oa 8 (.typeAssert (.tmp 7) 20 271 true),
 mv 6 8,
 xt 9 6 0,
 xt 10 6 1,
 sg 3 9,
 sg 4 10]
theorem x204_1:XF 204 1 24 r204_1:=.mk
def r204_2:List Oper:=[mv 11 4,
 oa 12 (.unOp .not 4 (.tmp 11))]
theorem x204_2:XF 204 2 4104 r204_2:=.mk
def r204_3:List Oper:=[oa 2 (.assign (.const (.int .i64 (0))))]
theorem x204_3:XF 204 3 4 r204_3:=.mk
def r204_4:List Oper:=[aq 5 274]
theorem x204_4:XF 204 4 40 r204_4:=.mk
def r204_5:List Oper:=[mv 13 3,
 oa 14 (.makeInterface 276 (.tmp 5)),
 oa 15 (.call ⟨.value (.func 235),#[.tmp 13,.tmp 14],#[271,20]⟩),
 oa 16 (.unOp .not 4 (.tmp 15))]
def r204_6:List Oper:=[oa 2 (.assign (.const (.int .i64 (1))))]
def r204_7:List Oper:=[fa 17 274 5 0,
 ld 18 30 17,
 sg 2 18]
def c204:Code:=.seq (rg 204 0) (.seq (rg 204 1) (.seq (.seq (rg 204 2) (.cond (.tmp 12) (.seq (rg 204 3) (.ret)) (.skip))) (.seq (rg 204 4) (.seq (.seq (rg 204 5) (.cond (.tmp 16) (.seq (rg 204 6) (.ret)) (.skip))) (.seq (rg 204 7) (.ret))))))
theorem k204:KF 204 [.tmp 2] 1 c204:=.mk
def r131_0:List Oper:=[aq 6 45]
theorem x131_0:XF 131 0 71 r131_0:=.mk
@[simp] theorem esc131_6:K.esc 131 6=false:=by kernel_rfl
def r131_1:List Oper:=[mv 10 0,
 oa 11 (.call ⟨.value (.func 20),#[.tmp 10,.const (.int .i64 (5))],#[23,3]⟩),
 oa 12 (.call ⟨.value (.func 188),#[.tmp 11,.const (.int .i64 (1))],#[3,3]⟩),
 oa 13 (.call ⟨.value (.func 187),#[.tmp 12],#[42]⟩),
 aq 7 45,
 so 45 7 13]
theorem x131_1:XF 131 1 199 r131_1:=.mk
@[simp] theorem esc131_7:K.esc 131 7=false:=by kernel_rfl
def r131_2:List Oper:=[oa 8 (.assign (.const (.int .i64 (0))))]
theorem x131_2:XF 131 2 455 r131_2:=.mk
def r131_3:List Oper:=[mv 14 8,
 mv 15 1,
 bo 16 .lss 3 14 15]
theorem x131_3:XF 131 3 65991 r131_3:=.mk
def r131_5:List Oper:=[mv 19 8,
 oa 20 (.call ⟨.value (.func 189),#[.tmp 19],#[3]⟩),
 oa 21 (.binOp .add 9 (.const (.string ⟨#[114]⟩)) (.tmp 20) 9),
 oa 22 (.call ⟨.value (.func 114),#[.tmp 21],#[9]⟩),
 aq 9 45,
 so 45 9 22]
theorem x131_5:XF 131 5 967 r131_5:=.mk
@[simp] theorem esc131_9:K.esc 131 9=false:=by kernel_rfl
def r131_6:List Oper:=[mv 23 0,
 oa 24 (.call ⟨.value (.func 20),#[.tmp 23,.const (.int .i64 (4))],#[23,3]⟩)]
theorem x131_6:XF 131 6 16778183 r131_6:=.mk
def r131_8:List Oper:=[bk 29 .eql 3 24 0,
 sg 28 29]
theorem x131_8:XF 131 8 285213639 r131_8:=.mk
def r131_9:List Oper:=[ld 30 45 7,
 ld 31 45 9,
 oa 32 (.call ⟨.value (.func 113),#[.const (.int .i64 (4)),.tmp 30,.tmp 31],#[3,45,45]⟩),
 so 45 7 32]
theorem x131_9:XF 131 9 455 r131_9:=.mk
def r131_10:List Oper:=[bk 34 .eql 3 24 1,
 sg 33 34]
theorem x131_10:XF 131 10 8606712775 r131_10:=.mk
def r131_11:List Oper:=[mv 35 0,
 oa 36 (.call ⟨.value (.func 21),#[.tmp 35,.const (.int .i64 (1)),.const (.int .i64 (2))],#[23,3,3]⟩),
 mv 37 0,
 oa 38 (.call ⟨.value (.func 21),#[.tmp 37,.const (.int .i64 (1)),.const (.int .i64 (3))],#[23,3,3]⟩),
 oa 39 (.call ⟨.value (.func 188),#[.tmp 36,.tmp 38],#[3,3]⟩),
 oa 40 (.call ⟨.value (.func 187),#[.tmp 39],#[42]⟩),
 ld 41 45 9,
 oa 42 (.call ⟨.value (.func 113),#[.const (.int .i64 (5)),.tmp 40,.tmp 41],#[3,45,45]⟩),
 ld 43 45 7,
 oa 44 (.call ⟨.value (.func 113),#[.const (.int .i64 (3)),.tmp 42,.tmp 43],#[3,45,45]⟩),
 so 45 7 44]
theorem x131_11:XP 131 11 455 [(1,6),(3,6),(4,6),(5,6),(1,8),(3,8),(4,8),(5,8),(6,8),(7,8)] r131_11:=.mk
def r131_12:List Oper:=[bk 46 .eql 3 24 2,
 sg 45 46]
theorem x131_12:XF 131 12 35184372089799 r131_12:=.mk
def r131_13:List Oper:=[ld 47 45 7,
 ld 48 45 9,
 oa 49 (.buildSlice 43 1 #[(0,.tmp 48)]),
 oa 50 (.build 45 #[(0,.const (.int .i64 (2))),(4,.tmp 49)]),
 oa 51 (.call ⟨.value (.func 113),#[.const (.int .i64 (3)),.tmp 47,.tmp 50],#[3,45,45]⟩),
 so 45 7 51]
theorem x131_13:XF 131 13 455 r131_13:=.mk
@[simp] theorem imm131_49:K.imm 131 49=false:=by kernel_rfl
def r131_7:List Oper:=[ld 25 45 9,
 ld 26 45 7,
 oa 27 (.call ⟨.value (.func 113),#[.const (.int .i64 (3)),.tmp 25,.tmp 26],#[3,45,45]⟩),
 so 45 7 27]
theorem x131_7:XF 131 7 455 r131_7:=.mk
def r131_4:List Oper:=[mv 17 8,
 bk 18 .add 3 17 1,
 sg 8 18]
theorem x131_4:XF 131 4 455 r131_4:=.mk
def r131_14:List Oper:=[mv 52 2,
 bk 53 .gtr 3 52 0,
 mv 54 53,
 og 55 2 true (.move (.tmp 0)),
 og 56 2 true (.call ⟨.value (.func 129),#[.tmp 55,.const (.int .i64 (2))],#[23,3]⟩),
 oa 57 (.pick (.tmp 54) (.tmp 56) (.const (.bool false)))]
theorem x131_14:XF 131 14 144115188075856071 r131_14:=.mk
def r131_15:List Oper:=[mv 58 0,
 oa 59 (.buildSlice 22 3 #[(0,.const (.int .i64 (3))),(1,.const (.int .i64 (5))),(2,.const (.int .i64 (4)))]),
 oa 60 (.call ⟨.value (.func 58),#[.tmp 58,.tmp 59],#[23,22]⟩),
 ld 61 45 7,
 mv 62 0,
 mv 63 2,
 bk 64 .sub 3 63 1,
 oa 65 (.call ⟨.value (.func 20),#[.tmp 62,.tmp 64],#[23,3]⟩),
 oa 66 (.call ⟨.value (.func 189),#[.tmp 65],#[3]⟩),
 oa 67 (.binOp .add 9 (.const (.string ⟨#[105]⟩)) (.tmp 66) 9),
 oa 68 (.call ⟨.value (.func 114),#[.tmp 67],#[9]⟩),
 oa 69 (.call ⟨.value (.func 113),#[.tmp 60,.tmp 61,.tmp 68],#[3,45,45]⟩),
 so 45 7 69]
theorem x131_15:XP 131 15 195 [(1,3),(2,3),(3,7),(3,8),(3,10)] r131_15:=.mk
@[simp] theorem imm131_59:K.imm 131 59=false:=by kernel_rfl
def r131_16:List Oper:=[mv 70 0,
 oa 71 (.call ⟨.value (.func 129),#[.tmp 70,.const (.int .i64 (9))],#[23,3]⟩),
 mv 72 71,
 og 73 2 true (.move (.tmp 1)),
 og 74 2 true (.binOp .gtr 3 (.tmp 73) (.const (.int .i64 (0))) 3),
 oa 75 (.pick (.tmp 72) (.tmp 74) (.const (.bool false)))]
theorem x131_16:XF 131 16 37778931862957161709760 r131_16:=.mk
def r131_17:List Oper:=[ld 76 45 7,
 oa 77 (.call ⟨.value (.func 114),#[.const (.string ⟨#[114,48]⟩)],#[9]⟩),
 oa 78 (.call ⟨.value (.func 113),#[.const (.int .i64 (6)),.tmp 76,.tmp 77],#[3,45,45]⟩),
 so 45 7 78]
theorem x131_17:XP 131 17 192 [(0,1)] r131_17:=.mk
def r131_18:List Oper:=[ld 79 45 7,
 so 45 6 79]
theorem x131_18:XF 131 18 64 r131_18:=.mk
def l131_0:Code:=.seq (.seq (rg 131 3) (.cond (.tmp 16) (.skip) (.exit 0))) (.seq (.block 1 (.seq (rg 131 5) (.seq (rg 131 6) (.block 2 (.seq (rg 131 8) (.cond (.tmp 28) (rg 131 9) (.seq (rg 131 10) (.cond (.tmp 33) (rd 131 11) (.seq (rg 131 12) (.cond (.tmp 45) (rg 131 13) (rg 131 7))))))))))) (rg 131 4))
theorem u131_0 (s:St):execL K 131 l131_0 s=execL K 131 (.seq (.seq (rg 131 3) (.cond (.tmp 16) (.skip) (.exit 0))) (.seq (.block 1 (.seq (rg 131 5) (.seq (rg 131 6) (.block 2 (.seq (rg 131 8) (.cond (.tmp 28) (rg 131 9) (.seq (rg 131 10) (.cond (.tmp 33) (rd 131 11) (.seq (rg 131 12) (.cond (.tmp 45) (rg 131 13) (rg 131 7))))))))))) (rg 131 4))) s:=rfl
def c131:Code:=.seq (rg 131 0) (.seq (rg 131 1) (.seq (.seq (rg 131 2) (.block 0 (.loop l131_0))) (.seq (.seq (rg 131 14) (.cond (.tmp 57) (rd 131 15) (.skip))) (.seq (.seq (rg 131 16) (.cond (.tmp 75) (rd 131 17) (.skip))) (.seq (rg 131 18) (.ret))))))
theorem k131:KF 131 [.cell 6 45] 0 c131:=.mk
def r113_0:List Oper:=[bx 4 45 1,
 bx 5 45 2,
 aq 6 45]
theorem x113_0:XF 113 0 113 r113_0:=.mk
@[simp] theorem esc113_4:K.esc 113 4=false:=by kernel_rfl
@[simp] theorem esc113_5:K.esc 113 5=false:=by kernel_rfl
@[simp] theorem esc113_6:K.esc 113 6=false:=by kernel_rfl
def r113_1:List Oper:=[mv 7 0,
 ld 8 45 4,
 ld 9 45 5,
 oa 10 (.buildSlice 43 2 #[(0,.tmp 8),(1,.tmp 9)]),
 oa 11 (.build 45 #[(0,.tmp 7),(4,.tmp 10)]),
 so 45 6 11]
theorem x113_1:XF 113 1 64 r113_1:=.mk
@[simp] theorem imm113_10:K.imm 113 10=false:=by kernel_rfl
def c113:Code:=.seq (rg 113 0) (.seq (rg 113 1) (.ret))
theorem k113:KF 113 [.cell 6 45] 1 c113:=.mk
def r114_0:List Oper:=[aq 2 45]
theorem x114_0:XF 114 0 5 r114_0:=.mk
@[simp] theorem esc114_2:K.esc 114 2=false:=by kernel_rfl
def r114_1:List Oper:=[mv 3 0,
 oa 4 (.build 45 #[(0,.const (.int .i64 (1))),(2,.tmp 3)]),
 so 45 2 4]
theorem x114_1:XF 114 1 4 r114_1:=.mk
def c114:Code:=.seq (rg 114 0) (.seq (rg 114 1) (.ret))
theorem k114:KF 114 [.cell 2 45] 1 c114:=.mk
def r187_0:List Oper:=[bx 1 42 0,
 aq 2 45]
theorem x187_0:XF 187 0 6 r187_0:=.mk
@[simp] theorem esc187_1:K.esc 187 1=false:=by kernel_rfl
@[simp] theorem esc187_2:K.esc 187 2=false:=by kernel_rfl
def r187_1:List Oper:=[ld 3 42 1,
 oa 4 (.build 45 #[(0,.const (.int .i64 (0))),(1,.tmp 3)]),
 so 45 2 4]
theorem x187_1:XF 187 1 4 r187_1:=.mk
def c187:Code:=.seq (rg 187 0) (.seq (rg 187 1) (.ret))
theorem k187:KF 187 [.cell 2 45] 1 c187:=.mk
def r146_0:List Oper:=[oa 2 (.assign (.const (.slice none 0 0)))]
theorem x146_0:XF 146 0 1 r146_0:=.mk
def r146_1:List Oper:=[oa 3 (.buildSlice 22 0 #[]),
 mv 4 0,
 oa 5 (.call ⟨.builtin .append,#[.tmp 3,.tmp 4],#[22,22]⟩),
 sg 2 5]
theorem x146_1:XF 146 1 4 r146_1:=.mk
@[simp] theorem imm146_3:K.imm 146 3=false:=by kernel_rfl
@[simp] theorem imm146_5:K.imm 146 5=true:=by kernel_rfl
def c146:Code:=.seq (rg 146 0) (.seq (rg 146 1) (.ret))
theorem k146:KF 146 [.tmp 2] 1 c146:=.mk
def r130_0:List Oper:=[bx 1 39 0,
 aq 2 39]
theorem x130_0:XF 130 0 6 r130_0:=.mk
@[simp] theorem esc130_1:K.esc 130 1=false:=by kernel_rfl
@[simp] theorem esc130_2:K.esc 130 2=false:=by kernel_rfl
def r130_1:List Oper:=[fa 5 39 1 0,
 ld 6 3 5,
 oa 7 (.build 39 #[(0,.tmp 6)]),
 aq 3 39,
 so 39 3 7]
theorem x130_1:XF 130 1 14 r130_1:=.mk
@[simp] theorem esc130_3:K.esc 130 3=false:=by kernel_rfl
def r130_2:List Oper:=[oa 4 (.assign (.const (.int .i64 (0))))]
theorem x130_2:XF 130 2 30 r130_2:=.mk
def r130_3:List Oper:=[mv 8 4,
 fa 9 39 1 1,
 ld 10 37 9,
 oa 11 (.call ⟨.builtin .len,#[.tmp 10],#[37]⟩),
 bo 12 .lss 3 8 11]
theorem x130_3:XF 130 3 4126 r130_3:=.mk
def r130_5:List Oper:=[fa 15 39 3 1,
 ld 16 37 15,
 fa 17 39 1 1,
 ld 18 37 17,
 mv 19 4,
 ia 20 37 18 19,
 fa 21 142 20 0,
 ld 22 3 21,
 fa 23 39 1 1,
 ld 24 37 23,
 mv 25 4,
 ia 26 37 24 25,
 fa 27 142 26 1,
 ld 28 22 27,
 oa 29 (.call ⟨.value (.func 146),#[.tmp 28],#[22]⟩),
 oa 30 (.build 142 #[(0,.tmp 22),(1,.tmp 29)]),
 oa 31 (.buildSlice 37 1 #[(0,.tmp 30)]),
 oa 32 (.call ⟨.builtin .append,#[.tmp 16,.tmp 31],#[37,37]⟩),
 fa 33 39 3 1,
 so 37 33 32]
theorem x130_5:XP 130 5 30 [(1,3),(1,7),(1,9),(3,9),(7,9),(1,13),(3,13),(7,13),(1,14),(3,14),(7,14),(1,16)] r130_5:=.mk
@[simp] theorem imm130_31:K.imm 130 31=false:=by kernel_rfl
@[simp] theorem esc130_32:K.esc 130 32=false:=by kernel_rfl
@[simp] theorem imm130_32:K.imm 130 32=false:=by kernel_rfl
def r130_4:List Oper:=[mv 13 4,
 bk 14 .add 3 13 1,
 sg 4 14]
theorem x130_4:XF 130 4 30 r130_4:=.mk
def r130_6:List Oper:=[ld 34 39 3,
 so 39 2 34]
theorem x130_6:XF 130 6 4 r130_6:=.mk
def l130_0:Code:=.seq (.seq (rg 130 3) (.cond (.tmp 12) (.skip) (.exit 0))) (.seq (.block 1 (rd 130 5)) (rg 130 4))
theorem u130_0 (s:St):execL K 130 l130_0 s=execL K 130 (.seq (.seq (rg 130 3) (.cond (.tmp 12) (.skip) (.exit 0))) (.seq (.block 1 (rd 130 5)) (rg 130 4))) s:=rfl
def c130:Code:=.seq (rg 130 0) (.seq (rg 130 1) (.seq (.seq (rg 130 2) (.block 0 (.loop l130_0))) (.seq (rg 130 6) (.ret))))
theorem k130:KF 130 [.cell 2 39] 1 c130:=.mk
def r63_0:List Oper:=[aq 4 47]
theorem x63_0:XF 63 0 19 r63_0:=.mk
@[simp] theorem esc63_4:K.esc 63 4=false:=by kernel_rfl
def r63_1:List Oper:=[oa 9 (.build 47 #[]),
 aq 5 47,
 so 47 5 9]
theorem x63_1:XF 63 1 51 r63_1:=.mk
@[simp] theorem esc63_5:K.esc 63 5=false:=by kernel_rfl
def r63_2:List Oper:=[mv 10 0,
 oa 11 (.buildSlice 22 5 #[(0,.const (.int .i64 (0))),(1,.const (.int .i64 (1))),(2,.const (.int .i64 (1))),(3,.const (.int .i64 (2))),(4,.const (.int .i64 (2)))]),
 oa 12 (.call ⟨.value (.func 58),#[.tmp 10,.tmp 11],#[23,22]⟩),
 sg 6 12]
theorem x63_2:XF 63 2 115 r63_2:=.mk
@[simp] theorem imm63_11:K.imm 63 11=false:=by kernel_rfl
def r63_3:List Oper:=[mv 13 6,
 bk 14 .gtr 3 13 0]
theorem x63_3:XF 63 3 16499 r63_3:=.mk
def r63_5:List Oper:=[fa 17 47 5 0,
 ld 18 22 17,
 mv 19 0,
 oa 20 (.call ⟨.value (.func 21),#[.tmp 19,.const (.int .i64 (1)),.const (.int .i64 (4))],#[23,3,3]⟩),
 oa 21 (.buildSlice 22 1 #[(0,.tmp 20)]),
 oa 22 (.call ⟨.builtin .append,#[.tmp 18,.tmp 21],#[22,22]⟩),
 fa 23 47 5 0,
 so 22 23 22]
theorem x63_5:XP 63 5 115 [(1,3),(1,4)] r63_5:=.mk
@[simp] theorem imm63_21:K.imm 63 21=false:=by kernel_rfl
@[simp] theorem esc63_22:K.esc 63 22=false:=by kernel_rfl
@[simp] theorem imm63_22:K.imm 63 22=false:=by kernel_rfl
def r63_4:List Oper:=[mv 15 6,
 bk 16 .sub 3 15 1,
 sg 6 16]
theorem x63_4:XF 63 4 115 r63_4:=.mk
def r63_6:List Oper:=[mv 24 1,
 oa 25 (.call ⟨.builtin .len,#[.tmp 24],#[25]⟩),
 bk 26 .sub 3 25 1,
 sg 7 26]
theorem x63_6:XF 63 6 179 r63_6:=.mk
def r63_7:List Oper:=[mv 27 0,
 mv 28 1,
 fa 29 47 5 0,
 ld 30 22 29,
 mv 31 0,
 mv 32 7,
 oa 33 (.call ⟨.value (.func 20),#[.tmp 31,.tmp 32],#[23,3]⟩),
 oa 34 (.call ⟨.value (.func 128),#[.tmp 27,.tmp 28,.tmp 30,.tmp 33],#[23,25,22,3]⟩),
 fa 35 47 5 1,
 so 39 35 34]
theorem x63_7:XP 63 7 179 [(3,6)] r63_7:=.mk
def r63_8:List Oper:=[mv 36 0,
 oa 37 (.call ⟨.value (.func 20),#[.tmp 36,.const (.int .i64 (2))],#[23,3]⟩),
 sg 8 37]
theorem x63_8:XF 63 8 435 r63_8:=.mk
def r63_9:List Oper:=[mv 38 8,
 bk 39 .gtr 3 38 0]
theorem x63_9:XF 63 9 549755814323 r63_9:=.mk
def r63_11:List Oper:=[fa 42 47 5 2,
 ld 43 40 42,
 mv 44 0,
 mv 45 1,
 fa 46 47 5 0,
 ld 47 22 46,
 mv 48 0,
 mv 49 7,
 oa 50 (.call ⟨.value (.func 20),#[.tmp 48,.tmp 49],#[23,3]⟩),
 oa 51 (.call ⟨.value (.func 128),#[.tmp 44,.tmp 45,.tmp 47,.tmp 50],#[23,25,22,3]⟩),
 oa 52 (.buildSlice 40 1 #[(0,.tmp 51)]),
 oa 53 (.call ⟨.builtin .append,#[.tmp 43,.tmp 52],#[40,40]⟩),
 fa 54 47 5 2,
 so 40 54 53]
theorem x63_11:XP 63 11 435 [(1,5),(1,8),(5,8),(1,9),(1,10)] r63_11:=.mk
@[simp] theorem imm63_52:K.imm 63 52=false:=by kernel_rfl
@[simp] theorem esc63_53:K.esc 63 53=false:=by kernel_rfl
@[simp] theorem imm63_53:K.imm 63 53=false:=by kernel_rfl
def r63_10:List Oper:=[mv 40 8,
 bk 41 .sub 3 40 1,
 sg 8 41]
theorem x63_10:XF 63 10 435 r63_10:=.mk
def r63_12:List Oper:=[mv 55 0,
 oa 56 (.call ⟨.value (.func 129),#[.tmp 55,.const (.int .i64 (3))],#[23,3]⟩)]
theorem x63_12:XF 63 12 72057594037927985 r63_12:=.mk
def r63_13:List Oper:=[fa 57 47 5 2,
 ld 58 40 57,
 fa 59 47 5 1,
 ld 60 39 59,
 oa 61 (.call ⟨.value (.func 130),#[.tmp 60],#[39]⟩),
 oa 62 (.buildSlice 40 1 #[(0,.tmp 61)]),
 oa 63 (.call ⟨.builtin .append,#[.tmp 58,.tmp 62],#[40,40]⟩),
 fa 64 47 5 2,
 so 40 64 63]
theorem x63_13:XP 63 13 49 [(1,3),(1,4),(1,5)] r63_13:=.mk
@[simp] theorem imm63_62:K.imm 63 62=false:=by kernel_rfl
@[simp] theorem esc63_63:K.esc 63 63=false:=by kernel_rfl
@[simp] theorem imm63_63:K.imm 63 63=false:=by kernel_rfl
def r63_14:List Oper:=[mv 65 0,
 fa 66 47 5 2,
 ld 67 40 66,
 oa 68 (.call ⟨.builtin .len,#[.tmp 67],#[40]⟩),
 fa 69 47 5 0,
 ld 70 22 69,
 oa 71 (.call ⟨.builtin .len,#[.tmp 70],#[22]⟩),
 oa 72 (.call ⟨.value (.func 131),#[.tmp 65,.tmp 68,.tmp 71],#[23,3,3]⟩),
 fa 73 47 5 3,
 so 45 73 72]
theorem x63_14:XF 63 14 48 r63_14:=.mk
def r63_15:List Oper:=[ld 74 47 5,
 so 47 4 74]
theorem x63_15:XF 63 15 16 r63_15:=.mk
def l63_0:Code:=.seq (.seq (rg 63 3) (.cond (.tmp 14) (.skip) (.exit 0))) (.seq (.block 1 (rd 63 5)) (rg 63 4))
theorem u63_0 (s:St):execL K 63 l63_0 s=execL K 63 (.seq (.seq (rg 63 3) (.cond (.tmp 14) (.skip) (.exit 0))) (.seq (.block 1 (rd 63 5)) (rg 63 4))) s:=rfl
def l63_1:Code:=.seq (.seq (rg 63 9) (.cond (.tmp 39) (.skip) (.exit 2))) (.seq (.block 3 (rd 63 11)) (rg 63 10))
theorem u63_1 (s:St):execL K 63 l63_1 s=execL K 63 (.seq (.seq (rg 63 9) (.cond (.tmp 39) (.skip) (.exit 2))) (.seq (.block 3 (rd 63 11)) (rg 63 10))) s:=rfl
def c63:Code:=.seq (rg 63 0) (.seq (rg 63 1) (.seq (.seq (rg 63 2) (.block 0 (.loop l63_0))) (.seq (rg 63 6) (.seq (rd 63 7) (.seq (.seq (rg 63 8) (.block 2 (.loop l63_1))) (.seq (.seq (rg 63 12) (.cond (.tmp 56) (rd 63 13) (.skip))) (.seq (rg 63 14) (.seq (rg 63 15) (.ret)))))))))
theorem k63:KF 63 [.cell 4 47] 1 c63:=.mk
def r62_0:List Oper:=[oa 0 (.assign (.const (.slice none 0 0)))]
theorem x62_0:XF 62 0 0 r62_0:=.mk
def r62_1:List Oper:=[oa 1 (.buildSlice 22 1 #[(0,.const (.int .i64 (5)))]),
 oa 2 (.build 168 #[(0,.const (.string ⟨#[97]⟩)),(1,.tmp 1)]),
 oa 3 (.buildSlice 22 2 #[(0,.const (.int .i64 (4))),(1,.const (.int .i64 (4)))]),
 oa 4 (.build 168 #[(0,.const (.string ⟨#[98]⟩)),(1,.tmp 3)]),
 oa 5 (.build 168 #[(0,.const (.string ⟨#[99]⟩))]),
 oa 6 (.buildSlice 25 3 #[(0,.tmp 2),(1,.tmp 4),(2,.tmp 5)]),
 sg 0 6]
theorem x62_1:XF 62 1 1 r62_1:=.mk
@[simp] theorem imm62_1:K.imm 62 1=false:=by kernel_rfl
@[simp] theorem imm62_3:K.imm 62 3=false:=by kernel_rfl
@[simp] theorem imm62_6:K.imm 62 6=false:=by kernel_rfl
def c62:Code:=.seq (rg 62 0) (.seq (rg 62 1) (.ret))
theorem k62:KF 62 [.tmp 0] 1 c62:=.mk
def r13_0:List Oper:=[aq 4 28]
theorem x13_0:XF 13 0 19 r13_0:=.mk
@[simp] theorem esc13_4:K.esc 13 4=false:=by kernel_rfl
def r13_1:List Oper:=[oa 7 (.call ⟨.value (.func 62),#[],#[]⟩),
 oa 8 (.build 28 #[(0,.tmp 7)]),
 aq 5 28,
 so 28 5 8]
theorem x13_1:XF 13 1 51 r13_1:=.mk
@[simp] theorem esc13_5:K.esc 13 5=false:=by kernel_rfl
def r13_2:List Oper:=[mv 9 0,
 mv 10 1,
 oa 11 (.call ⟨.value (.func 21),#[.tmp 9,.const (.int .i64 (1)),.tmp 10],#[23,3,3]⟩),
 sg 6 11]
theorem x13_2:XF 13 2 113 r13_2:=.mk
def r13_3:List Oper:=[mv 12 6,
 bk 13 .gtr 3 12 0]
theorem x13_3:XF 13 3 8305 r13_3:=.mk
def r13_5:List Oper:=[fa 16 28 5 1,
 ld 17 26 16,
 mv 18 0,
 fa 19 28 5 0,
 ld 20 25 19,
 oa 21 (.call ⟨.value (.func 63),#[.tmp 18,.tmp 20],#[23,25]⟩),
 oa 22 (.buildSlice 26 1 #[(0,.tmp 21)]),
 oa 23 (.call ⟨.builtin .append,#[.tmp 17,.tmp 22],#[26,26]⟩),
 fa 24 28 5 1,
 so 26 24 23]
theorem x13_5:XP 13 5 113 [(1,4),(1,5),(1,6)] r13_5:=.mk
@[simp] theorem imm13_22:K.imm 13 22=false:=by kernel_rfl
@[simp] theorem esc13_23:K.esc 13 23=false:=by kernel_rfl
@[simp] theorem imm13_23:K.imm 13 23=false:=by kernel_rfl
def r13_4:List Oper:=[mv 14 6,
 bk 15 .sub 3 14 1,
 sg 6 15]
theorem x13_4:XF 13 4 113 r13_4:=.mk
def r13_6:List Oper:=[ld 25 28 5,
 so 28 4 25]
theorem x13_6:XF 13 6 16 r13_6:=.mk
def l13_0:Code:=.seq (.seq (rg 13 3) (.cond (.tmp 13) (.skip) (.exit 0))) (.seq (.block 1 (rd 13 5)) (rg 13 4))
theorem u13_0 (s:St):execL K 13 l13_0 s=execL K 13 (.seq (.seq (rg 13 3) (.cond (.tmp 13) (.skip) (.exit 0))) (.seq (.block 1 (rd 13 5)) (rg 13 4))) s:=rfl
def c13:Code:=.seq (rg 13 0) (.seq (rg 13 1) (.seq (.seq (rg 13 2) (.block 0 (.loop l13_0))) (.seq (rg 13 6) (.ret))))
theorem k13:KF 13 [.cell 4 28] 1 c13:=.mk
def r12_0:List Oper:=[oa 2 (.assign (.const (.pointer none)))]
theorem x12_0:XF 12 0 1 r12_0:=.mk
def r12_1:List Oper:=[mv 3 0,
 oa 4 (.build 96 #[(0,.tmp 3),(2,.const (.int .u64 (7640891576956012809)))]),
 bx 5 96 4,
 sg 2 5]
theorem x12_1:XF 12 1 4 r12_1:=.mk
@[simp] theorem esc12_5:K.esc 12 5=true:=by kernel_rfl
def c12:Code:=.seq (rg 12 0) (.seq (rg 12 1) (.ret))
theorem k12:KF 12 [.tmp 2] 0 c12:=.mk
def r170_0:List Oper:=[bx 4 168 1,
 oa 5 (.assign (.const (.int .i64 (0))))]
theorem x170_0:XF 170 0 20 r170_0:=.mk
@[simp] theorem esc170_4:K.esc 170 4=false:=by kernel_rfl
def r170_1:List Oper:=[fa 8 168 4 0,
 ld 9 9 8,
 oa 10 (.build 45 #[(0,.const (.int .i64 (1))),(2,.tmp 9)]),
 oa 11 (.call ⟨.value (.func 171),#[.tmp 10],#[45]⟩),
 bk 12 .neq 30 11 0]
theorem x170_1:XF 170 1 4116 r170_1:=.mk
def r170_2:List Oper:=[oa 5 (.assign (.const (.int .i64 (4))))]
theorem x170_2:XF 170 2 32 r170_2:=.mk
def r170_3:List Oper:=[ld 14 216 2,
 fa 15 168 4 0,
 ld 16 9 15,
 oa 17 (.lookup 216 (.tmp 14) (.tmp 16) true),
 mv 13 17,
 xt 18 13 0,
 xt 19 13 1,
 sg 6 18,
 sg 7 19]
theorem x170_3:XF 170 3 148 r170_3:=.mk
def r170_4:List Oper:=[mv 20 7]
theorem x170_4:XF 170 4 1048596 r170_4:=.mk
def r170_5:List Oper:=[oa 5 (.assign (.const (.int .i64 (5))))]
theorem x170_5:XF 170 5 32 r170_5:=.mk
def r170_6:List Oper:=[ld 21 216 2,
 fa 22 168 4 0,
 ld 23 9 22,
 on (.mapUpdate 216 (.tmp 21) (.tmp 23) (.const (.bool true)))]
theorem x170_6:XF 170 6 16 r170_6:=.mk
def r170_7:List Oper:=[fa 24 168 4 1,
 ld 25 22 24,
 oa 26 (.call ⟨.value (.func 172),#[.tmp 25],#[22]⟩),
 sg 5 26]
theorem x170_7:XF 170 7 32 r170_7:=.mk
def c170:Code:=.seq (rg 170 0) (.seq (.seq (rg 170 1) (.cond (.tmp 12) (.seq (rg 170 2) (.ret)) (.skip))) (.seq (.seq (rg 170 3) (.seq (rg 170 4) (.cond (.tmp 20) (.seq (rg 170 5) (.ret)) (.skip)))) (.seq (rg 170 6) (.seq (rg 170 7) (.ret)))))
theorem k170:KF 170 [.tmp 5] 1 c170:=.mk
def r169_0:List Oper:=[oa 4 (.assign (.const (.int .i64 (0))))]
theorem x169_0:XF 169 0 3 r169_0:=.mk
def r169_1:List Oper:=[mv 8 0,
 oa 9 (.call ⟨.builtin .len,#[.tmp 8],#[25]⟩),
 oa 10 (.move (.const (.int .i64 (0))))]
theorem x169_1:XF 169 1 1794 r169_1:=.mk
def r169_2:List Oper:=[bo 11 .lss 3 10 9]
theorem x169_2:XF 169 2 3842 r169_2:=.mk
def r169_3:List Oper:=[mv 12 10,
 ia 13 25 8 10,
 ld 14 168 13,
 aq 6 168,
 sg 5 12,
 so 168 6 14]
theorem x169_3:XF 169 3 1890 r169_3:=.mk
@[simp] theorem esc169_6:K.esc 169 6=false:=by kernel_rfl
def r169_4:List Oper:=[mv 15 1,
 mv 16 5,
 ld 17 168 6,
 oa 18 (.call ⟨.value (.tmp 15),#[.tmp 16,.tmp 17],#[3,168]⟩),
 sg 7 18]
theorem x169_4:XF 169 4 1922 r169_4:=.mk
def r169_5:List Oper:=[mv 19 7,
 bk 20 .neq 30 19 0]
theorem x169_5:XF 169 5 1050498 r169_5:=.mk
def r169_6:List Oper:=[mv 21 7,
 sg 4 21]
theorem x169_6:XF 169 6 16 r169_6:=.mk
def r169_7:List Oper:=[bk 22 .add 3 10 1,
 mv 10 22]
theorem x169_7:XF 169 7 1794 r169_7:=.mk
def r169_8:List Oper:=[oa 4 (.assign (.const (.int .i64 (0))))]
theorem x169_8:XF 169 8 16 r169_8:=.mk
def l169_0:Code:=.seq (rg 169 2) (.seq (.cond (.tmp 11) (.skip) (.exit 0)) (.seq (.block 1 (.seq (rg 169 3) (.seq (rg 169 4) (.seq (rg 169 5) (.cond (.tmp 20) (.seq (rg 169 6) (.ret)) (.skip)))))) (rg 169 7)))
theorem u169_0 (s:St):execL K 169 l169_0 s=execL K 169 (.seq (rg 169 2) (.seq (.cond (.tmp 11) (.skip) (.exit 0)) (.seq (.block 1 (.seq (rg 169 3) (.seq (rg 169 4) (.seq (rg 169 5) (.cond (.tmp 20) (.seq (rg 169 6) (.ret)) (.skip)))))) (rg 169 7)))) s:=rfl
def c169:Code:=.seq (rg 169 0) (.seq (.seq (rg 169 1) (.block 0 (.loop l169_0))) (.seq (rg 169 8) (.ret)))
theorem k169:KF 169 [.tmp 4] 1 c169:=.mk
def r176_0:List Oper:=[oa 2 (.assign (.const (.int .i64 (0))))]
theorem x176_0:XF 176 0 1 r176_0:=.mk
def r176_1:List Oper:=[oa 3 (.assign (.const (.int .i64 (0))))]
theorem x176_1:XF 176 1 9 r176_1:=.mk
def r176_2:List Oper:=[mv 6 0,
 oa 7 (.nilCheck (.tmp 6)),
 fa 8 164 7 0,
 fa 9 28 8 1,
 ld 10 26 9,
 oa 11 (.call ⟨.builtin .len,#[.tmp 10],#[26]⟩),
 oa 12 (.move (.const (.int .i64 (0))))]
theorem x176_2:XF 176 2 7176 r176_2:=.mk
def r176_3:List Oper:=[bo 13 .lss 3 12 11]
theorem x176_3:XF 176 3 15368 r176_3:=.mk
def r176_4:List Oper:=[ia 14 26 10 12,
 ld 15 47 14,
 aq 5 47,
 so 47 5 15]
theorem x176_4:XF 176 4 7208 r176_4:=.mk
@[simp] theorem esc176_5:K.esc 176 5=false:=by kernel_rfl
def r176_5:List Oper:=[mv 16 3,
 fa 17 47 5 0,
 ld 18 22 17,
 oa 19 (.call ⟨.value (.func 110),#[.tmp 18],#[22]⟩),
 bo 20 .add 3 16 19,
 sg 3 20]
theorem x176_5:XF 176 5 7176 r176_5:=.mk
def r176_6:List Oper:=[bk 21 .add 3 12 1,
 mv 12 21]
theorem x176_6:XF 176 6 7176 r176_6:=.mk
def r176_7:List Oper:=[mv 22 3,
 sg 2 22]
theorem x176_7:XF 176 7 4 r176_7:=.mk
def l176_0:Code:=.seq (rg 176 3) (.seq (.cond (.tmp 13) (.skip) (.exit 0)) (.seq (.block 1 (.seq (rg 176 4) (rg 176 5))) (rg 176 6)))
theorem u176_0 (s:St):execL K 176 l176_0 s=execL K 176 (.seq (rg 176 3) (.seq (.cond (.tmp 13) (.skip) (.exit 0)) (.seq (.block 1 (.seq (rg 176 4) (rg 176 5))) (rg 176 6)))) s:=rfl
def c176:Code:=.seq (rg 176 0) (.seq (rg 176 1) (.seq (.seq (rg 176 2) (.block 0 (.loop l176_0))) (.seq (rg 176 7) (.ret))))
theorem k176:KF 176 [.tmp 2] 1 c176:=.mk
end
end Mw
