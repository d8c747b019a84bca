/- DependProofs answers true for every list of numbers: its tied card holds; no condition beyond the card's own. -/
import Derived.Test.YtdjnccgeajpegaaGreatDoorKc
set_option linter.unusedVariables false
set_option linter.unusedSimpArgs false
set_option maxRecDepth 100000
namespace Mw
open Go Go.Proofs
noncomputable section
def r53_0:List Oper:=[bx 2 47 0,
 aq 4 39]
theorem x53_0:XF 53 0 22 r53_0:=.mk
@[simp] theorem esc53_2:K.esc 53 2=false:=by kernel_rfl
@[simp] theorem esc53_4:K.esc 53 4=false:=by kernel_rfl
def r53_1:List Oper:=[mv 5 1,
 bk 6 .eql 3 5 0]
theorem x53_1:XF 53 1 86 r53_1:=.mk
def r53_2:List Oper:=[fa 7 47 2 1,
 ld 8 39 7,
 so 39 4 8]
theorem x53_2:XF 53 2 16 r53_2:=.mk
def r53_3:List Oper:=[fa 9 47 2 2,
 ld 10 40 9,
 mv 11 1,
 bk 12 .sub 3 11 1,
 ia 13 40 10 12,
 ld 14 39 13,
 so 39 4 14]
theorem x53_3:XF 53 3 16 r53_3:=.mk
def c53:Code:=.seq (rg 53 0) (.seq (.seq (rg 53 1) (.cond (.tmp 6) (.seq (rg 53 2) (.ret)) (.skip))) (.seq (rg 53 3) (.ret)))
theorem k53:KF 53 [.cell 4 39] 1 c53:=.mk
def r48_0:List Oper:=[oa 2 (.assign (.const (.bool false)))]
theorem x48_0:XF 48 0 1 r48_0:=.mk
def r48_1:List Oper:=[mv 3 0,
 bk 4 .eql 30 3 0,
 mv 5 4,
 og 6 2 false (.move (.tmp 0)),
 og 7 2 false (.binOp .eql 30 (.tmp 6) (.const (.int .i64 (14))) 30),
 oa 8 (.pick (.tmp 5) (.const (.bool true)) (.tmp 7)),
 sg 2 8]
theorem x48_1:XF 48 1 4 r48_1:=.mk
def c48:Code:=.seq (rg 48 0) (.seq (rg 48 1) (.ret))
theorem k48:KF 48 [.tmp 2] 1 c48:=.mk
def r95_0:List Oper:=[oa 6 (.assign (.const (.bool false)))]
theorem x95_0:XF 95 0 7 r95_0:=.mk
def r95_1:List Oper:=[mv 7 1,
 mv 8 0,
 bo 9 .leq 3 7 8,
 mv 10 9,
 og 11 3 true (.move (.tmp 0)),
 og 12 3 true (.move (.tmp 2)),
 og 13 3 true (.binOp .leq 3 (.tmp 11) (.tmp 12) 3),
 oa 14 (.pick (.tmp 10) (.tmp 13) (.const (.bool false))),
 sg 6 14]
theorem x95_1:XF 95 1 64 r95_1:=.mk
def c95:Code:=.seq (rg 95 0) (.seq (rg 95 1) (.ret))
theorem k95:KF 95 [.tmp 6] 1 c95:=.mk
def r127_0:List Oper:=[oa 2 (.assign (.const (.int .i64 (0))))]
theorem x127_0:XF 127 0 1 r127_0:=.mk
def r127_1:List Oper:=[oa 3 (.assign (.const (.int .i64 (1))))]
theorem x127_1:XF 127 1 9 r127_1:=.mk
def r127_2:List Oper:=[oa 4 (.assign (.const (.int .i64 (0))))]
theorem x127_2:XF 127 2 25 r127_2:=.mk
def r127_3:List Oper:=[mv 5 4,
 mv 6 0,
 oa 7 (.call ⟨.builtin .len,#[.tmp 6],#[22]⟩),
 bo 8 .lss 3 5 7]
theorem x127_3:XF 127 3 281 r127_3:=.mk
def r127_5:List Oper:=[mv 11 3,
 mv 12 0,
 mv 13 4,
 ia 14 22 12 13,
 ld 15 3 14,
 bo 16 .mul 3 11 15,
 sg 3 16]
theorem x127_5:XF 127 5 25 r127_5:=.mk
def r127_4:List Oper:=[mv 9 4,
 bk 10 .add 3 9 1,
 sg 4 10]
theorem x127_4:XF 127 4 25 r127_4:=.mk
def r127_6:List Oper:=[mv 17 3,
 sg 2 17]
theorem x127_6:XF 127 6 4 r127_6:=.mk
def l127_0:Code:=.seq (.seq (rg 127 3) (.cond (.tmp 8) (.skip) (.exit 0))) (.seq (.block 1 (rg 127 5)) (rg 127 4))
theorem u127_0 (s:St):execL K 127 l127_0 s=execL K 127 (.seq (.seq (rg 127 3) (.cond (.tmp 8) (.skip) (.exit 0))) (.seq (.block 1 (rg 127 5)) (rg 127 4))) s:=rfl
def c127:Code:=.seq (rg 127 0) (.seq (rg 127 1) (.seq (.seq (rg 127 2) (.block 0 (.loop l127_0))) (.seq (rg 127 6) (.ret))))
theorem k127:KF 127 [.tmp 2] 1 c127:=.mk
def r83_0:List Oper:=[bx 2 28 0,
 oa 4 (.assign (.const (.int .i64 (0))))]
theorem x83_0:XF 83 0 6 r83_0:=.mk
@[simp] theorem esc83_2:K.esc 83 2=false:=by kernel_rfl
def r83_1:List Oper:=[oa 5 (.assign (.const (.int .i64 (0))))]
theorem x83_1:XF 83 1 38 r83_1:=.mk
def r83_2:List Oper:=[oa 6 (.assign (.const (.int .i64 (0))))]
theorem x83_2:XF 83 2 102 r83_2:=.mk
def r83_3:List Oper:=[mv 7 6,
 mv 8 1,
 bo 9 .lss 3 7 8]
theorem x83_3:XF 83 3 614 r83_3:=.mk
def r83_5:List Oper:=[mv 12 5,
 fa 13 28 2 1,
 ld 14 26 13,
 mv 15 6,
 ia 16 26 14 15,
 fa 17 47 16 0,
 ld 18 22 17,
 oa 19 (.call ⟨.value (.func 127),#[.tmp 18],#[22]⟩),
 bo 20 .add 3 12 19,
 sg 5 20]
theorem x83_5:XF 83 5 102 r83_5:=.mk
def r83_4:List Oper:=[mv 10 6,
 bk 11 .add 3 10 1,
 sg 6 11]
theorem x83_4:XF 83 4 102 r83_4:=.mk
def r83_6:List Oper:=[mv 21 5,
 sg 4 21]
theorem x83_6:XF 83 6 16 r83_6:=.mk
def l83_0:Code:=.seq (.seq (rg 83 3) (.cond (.tmp 9) (.skip) (.exit 0))) (.seq (.block 1 (rg 83 5)) (rg 83 4))
theorem u83_0 (s:St):execL K 83 l83_0 s=execL K 83 (.seq (.seq (rg 83 3) (.cond (.tmp 9) (.skip) (.exit 0))) (.seq (.block 1 (rg 83 5)) (rg 83 4))) s:=rfl
def c83:Code:=.seq (rg 83 0) (.seq (rg 83 1) (.seq (.seq (rg 83 2) (.block 0 (.loop l83_0))) (.seq (rg 83 6) (.ret))))
theorem k83:KF 83 [.tmp 4] 1 c83:=.mk
def r61_0:List Oper:=[bx 1 28 0,
 oa 2 (.assign (.const (.int .i64 (0))))]
theorem x61_0:XF 61 0 2 r61_0:=.mk
@[simp] theorem esc61_1:K.esc 61 1=false:=by kernel_rfl
def r61_1:List Oper:=[ld 3 28 1,
 fa 4 28 1 1,
 ld 5 26 4,
 oa 6 (.call ⟨.builtin .len,#[.tmp 5],#[26]⟩),
 oa 7 (.call ⟨.value (.func 83),#[.tmp 3,.tmp 6],#[28,3]⟩),
 sg 2 7]
theorem x61_1:XF 61 1 4 r61_1:=.mk
def c61:Code:=.seq (rg 61 0) (.seq (rg 61 1) (.ret))
theorem k61:KF 61 [.tmp 2] 1 c61:=.mk
def r51_0:List Oper:=[bx 2 28 0,
 oa 4 (.assign (.const (.bool false)))]
theorem x51_0:XF 51 0 6 r51_0:=.mk
@[simp] theorem esc51_2:K.esc 51 2=false:=by kernel_rfl
def r51_1:List Oper:=[mv 5 1,
 ld 6 28 2,
 oa 7 (.call ⟨.value (.func 61),#[.tmp 6],#[28]⟩),
 bk 8 .sub 3 7 1,
 oa 9 (.call ⟨.value (.func 95),#[.tmp 5,.const (.int .i64 (0)),.tmp 8],#[3,3,3]⟩),
 sg 4 9]
theorem x51_1:XF 51 1 16 r51_1:=.mk
def c51:Code:=.seq (rg 51 0) (.seq (rg 51 1) (.ret))
theorem k51:KF 51 [.tmp 4] 1 c51:=.mk
def r191_0:List Oper:=[oa 5 (.assign (.const (.bool false)))]
theorem x191_0:XF 191 0 15 r191_0:=.mk
def r191_1:List Oper:=[mv 7 0,
 oa 8 (.call ⟨.builtin .len,#[.tmp 7],#[22]⟩),
 ld 9 22 1,
 oa 10 (.call ⟨.builtin .len,#[.tmp 9],#[22]⟩),
 bo 11 .eql 3 8 10]
theorem x191_1:XF 191 1 2063 r191_1:=.mk
def r191_2:List Oper:=[ld 12 49 2,
 mv 13 0,
 oa 14 (.call ⟨.value (.tmp 12),#[.tmp 13],#[22]⟩),
 sg 5 14]
theorem x191_2:XF 191 2 32 r191_2:=.mk
def r191_3:List Oper:=[ld 15 22 1,
 mv 16 0,
 oa 17 (.call ⟨.builtin .len,#[.tmp 16],#[22]⟩),
 ia 18 22 15 17,
 ld 19 3 18,
 oa 20 (.move (.const (.int .i64 (0))))]
theorem x191_3:XF 191 3 1572873 r191_3:=.mk
def r191_4:List Oper:=[bo 21 .lss 3 20 19]
theorem x191_4:XF 191 4 3670025 r191_4:=.mk
def r191_5:List Oper:=[mv 22 20,
 sg 6 22]
theorem x191_5:XF 191 5 1572937 r191_5:=.mk
def r191_6:List Oper:=[ld 23 49 3,
 mv 24 0,
 mv 25 0,
 oa 26 (.call ⟨.builtin .len,#[.tmp 25],#[22]⟩),
 mv 27 0,
 oa 28 (.call ⟨.builtin .len,#[.tmp 27],#[22]⟩),
 oa 29 (.slice 22 (.tmp 24) none (some (.tmp 26)) (some (.tmp 28))),
 mv 30 6,
 oa 31 (.buildSlice 22 1 #[(0,.tmp 30)]),
 oa 32 (.call ⟨.builtin .append,#[.tmp 29,.tmp 31],#[22,22]⟩),
 oa 33 (.call ⟨.value (.tmp 23),#[.tmp 32],#[22]⟩),
 oa 34 (.unOp .not 4 (.tmp 33))]
theorem x191_6:XP 191 6 17181442057 [(0,3),(0,5),(3,5),(0,6),(0,8),(3,8),(5,8),(6,8),(0,9)] r191_6:=.mk
@[simp] theorem imm191_31:K.imm 191 31=false:=by kernel_rfl
@[simp] theorem imm191_32:K.imm 191 32=true:=by kernel_rfl
def r191_7:List Oper:=[oa 5 (.assign (.const (.bool false)))]
theorem x191_7:XF 191 7 32 r191_7:=.mk
def r191_8:List Oper:=[bk 35 .add 3 20 1,
 mv 20 35]
theorem x191_8:XF 191 8 1572873 r191_8:=.mk
def r191_9:List Oper:=[oa 5 (.assign (.const (.bool true)))]
theorem x191_9:XF 191 9 32 r191_9:=.mk
def l191_0:Code:=.seq (rg 191 4) (.seq (.cond (.tmp 21) (.skip) (.exit 0)) (.seq (.block 1 (.seq (rg 191 5) (.seq (rd 191 6) (.cond (.tmp 34) (.seq (rg 191 7) (.ret)) (.skip))))) (rg 191 8)))
theorem u191_0 (s:St):execL K 191 l191_0 s=execL K 191 (.seq (rg 191 4) (.seq (.cond (.tmp 21) (.skip) (.exit 0)) (.seq (.block 1 (.seq (rg 191 5) (.seq (rd 191 6) (.cond (.tmp 34) (.seq (rg 191 7) (.ret)) (.skip))))) (rg 191 8)))) s:=rfl
def c191:Code:=.seq (rg 191 0) (.seq (.seq (rg 191 1) (.cond (.tmp 11) (.seq (rg 191 2) (.ret)) (.skip))) (.seq (.seq (rg 191 3) (.block 0 (.loop l191_0))) (.seq (rg 191 9) (.ret))))
theorem k191:KF 191 [.tmp 5] 1 c191:=.mk
def r133_0:List Oper:=[bx 4 39 1,
 aq 6 110]
theorem x133_0:XF 133 0 85 r133_0:=.mk
@[simp] theorem esc133_4:K.esc 133 4=false:=by kernel_rfl
@[simp] theorem esc133_6:K.esc 133 6=false:=by kernel_rfl
def r133_1:List Oper:=[oa 7 (.assign (.const (.int .i64 (0))))]
theorem x133_1:XF 133 1 213 r133_1:=.mk
def r133_2:List Oper:=[fa 12 39 4 1,
 ld 13 37 12,
 oa 14 (.call ⟨.builtin .len,#[.tmp 13],#[37]⟩),
 oa 15 (.move (.const (.int .i64 (0))))]
theorem x133_2:XF 133 2 57557 r133_2:=.mk
def r133_3:List Oper:=[bo 16 .lss 3 15 14]
theorem x133_3:XF 133 3 123093 r133_3:=.mk
def r133_4:List Oper:=[mv 17 15,
 ia 18 37 13 15,
 ld 19 142 18,
 aq 9 142,
 sg 8 17,
 so 142 9 19]
theorem x133_4:XF 133 4 58325 r133_4:=.mk
@[simp] theorem esc133_9:K.esc 133 9=false:=by kernel_rfl
def r133_5:List Oper:=[mv 20 7,
 mv 21 0,
 oa 22 (.nilCheck (.tmp 21)),
 fa 23 105 22 0,
 fa 24 28 23 0,
 ld 25 25 24,
 fa 26 39 4 0,
 ld 27 3 26,
 ia 28 25 25 27,
 fa 29 168 28 1,
 ld 30 22 29,
 mv 31 8,
 ia 32 22 30 31,
 ld 33 3 32,
 bo 34 .mul 3 20 33,
 sg 7 34]
theorem x133_5:XP 133 5 58069 [(5,7)] r133_5:=.mk
def r133_6:List Oper:=[mv 35 7,
 fa 36 142 9 0,
 ld 37 3 36,
 bo 38 .add 3 35 37,
 sg 7 38]
theorem x133_6:XF 133 6 58069 r133_6:=.mk
def r133_7:List Oper:=[fa 39 142 9 1,
 ld 40 22 39,
 oa 41 (.call ⟨.builtin .len,#[.tmp 40],#[22]⟩),
 oa 42 (.move (.const (.int .i64 (0))))]
theorem x133_7:XF 133 7 7696581451989 r133_7:=.mk
def r133_8:List Oper:=[bo 43 .lss 3 42 41]
theorem x133_8:XF 133 8 16492674474197 r133_8:=.mk
def r133_9:List Oper:=[mv 44 42,
 ia 45 22 40 42,
 ld 46 3 45,
 sg 10 44,
 sg 11 46]
theorem x133_9:XF 133 9 7696581455061 r133_9:=.mk
def r133_10:List Oper:=[mv 47 7,
 mv 48 11,
 mv 49 2,
 mv 50 10,
 ia 51 22 49 50,
 ld 52 3 51,
 bo 53 .mul 3 48 52,
 bo 54 .add 3 47 53,
 sg 7 54]
theorem x133_10:XF 133 10 7696581451989 r133_10:=.mk
def r133_11:List Oper:=[bk 55 .add 3 42 1,
 mv 42 55]
theorem x133_11:XF 133 11 7696581451989 r133_11:=.mk
def r133_12:List Oper:=[bk 56 .add 3 15 1,
 mv 15 56]
theorem x133_12:XF 133 12 57557 r133_12:=.mk
def r133_13:List Oper:=[fa 57 39 4 0,
 ld 58 3 57,
 mv 59 7,
 oa 60 (.build 110 #[(0,.tmp 58),(1,.tmp 59)]),
 so 110 6 60]
theorem x133_13:XF 133 13 64 r133_13:=.mk
def l133_0:Code:=.seq (rg 133 8) (.seq (.cond (.tmp 43) (.skip) (.exit 2)) (.seq (.block 3 (.seq (rg 133 9) (rg 133 10))) (rg 133 11)))
theorem u133_0 (s:St):execL K 133 l133_0 s=execL K 133 (.seq (rg 133 8) (.seq (.cond (.tmp 43) (.skip) (.exit 2)) (.seq (.block 3 (.seq (rg 133 9) (rg 133 10))) (rg 133 11)))) s:=rfl
def l133_1:Code:=.seq (rg 133 3) (.seq (.cond (.tmp 16) (.skip) (.exit 0)) (.seq (.block 1 (.seq (rg 133 4) (.seq (rd 133 5) (.seq (rg 133 6) (.seq (rg 133 7) (.block 2 (.loop l133_0))))))) (rg 133 12)))
theorem u133_1 (s:St):execL K 133 l133_1 s=execL K 133 (.seq (rg 133 3) (.seq (.cond (.tmp 16) (.skip) (.exit 0)) (.seq (.block 1 (.seq (rg 133 4) (.seq (rd 133 5) (.seq (rg 133 6) (.seq (rg 133 7) (.block 2 (.loop l133_0))))))) (rg 133 12)))) s:=rfl
def c133:Code:=.seq (rg 133 0) (.seq (rg 133 1) (.seq (.seq (rg 133 2) (.block 0 (.loop l133_1))) (.seq (rg 133 13) (.ret))))
theorem k133:KF 133 [.cell 6 110] 1 c133:=.mk
def r175_0:List Oper:=[bx 2 28 0,
 bx 3 47 1,
 oa 4 (.assign (.const (.int .i64 (0))))]
theorem x175_0:XF 175 0 12 r175_0:=.mk
@[simp] theorem esc175_2:K.esc 175 2=true:=by kernel_rfl
@[simp] theorem esc175_3:K.esc 175 3=true:=by kernel_rfl
def r175_1:List Oper:=[fa 9 47 3 0,
 ld 10 22 9,
 oa 11 (.call ⟨.value (.func 172),#[.tmp 10],#[22]⟩),
 sg 5 11]
theorem x175_1:XF 175 1 44 r175_1:=.mk
def r175_2:List Oper:=[mv 12 5,
 bk 13 .neq 30 12 0]
theorem x175_2:XF 175 2 8236 r175_2:=.mk
def r175_3:List Oper:=[mv 14 5,
 sg 4 14]
theorem x175_3:XF 175 3 16 r175_3:=.mk
def r175_4:List Oper:=[ld 15 28 2,
 fa 16 47 3 1,
 ld 17 39 16,
 fa 18 47 3 0,
 ld 19 22 18,
 oa 20 (.call ⟨.value (.func 208),#[.tmp 15,.tmp 17,.tmp 19],#[28,39,22]⟩),
 sg 6 20]
theorem x175_4:XF 175 4 76 r175_4:=.mk
def r175_5:List Oper:=[mv 21 6,
 bk 22 .neq 30 21 0]
theorem x175_5:XF 175 5 4194380 r175_5:=.mk
def r175_6:List Oper:=[mv 23 6,
 sg 4 23]
theorem x175_6:XF 175 6 16 r175_6:=.mk
def r175_7:List Oper:=[fa 24 47 3 2,
 ld 25 40 24,
 oa 26 (.call ⟨.builtin .len,#[.tmp 25],#[40]⟩),
 bk 27 .gtr 3 26 6]
theorem x175_7:XF 175 7 134217740 r175_7:=.mk
def r175_8:List Oper:=[oa 4 (.assign (.const (.int .i64 (7))))]
theorem x175_8:XF 175 8 16 r175_8:=.mk
def r175_9:List Oper:=[fa 28 47 3 2,
 ld 29 40 28,
 oa 30 (.makeFunc (.func 210) #[] #[.tmp 2,.tmp 3]),
 oa 31 (.call ⟨.value (.func 209),#[.tmp 29,.tmp 30],#[40,248]⟩),
 sg 7 31]
theorem x175_9:XF 175 9 136 r175_9:=.mk
def r175_10:List Oper:=[mv 32 7,
 bk 33 .neq 30 32 0]
theorem x175_10:XF 175 10 8589934728 r175_10:=.mk
def r175_11:List Oper:=[mv 34 7,
 sg 4 34]
theorem x175_11:XF 175 11 16 r175_11:=.mk
def r175_12:List Oper:=[fa 35 47 3 3,
 ld 36 45 35,
 oa 37 (.call ⟨.value (.func 171),#[.tmp 36],#[45]⟩),
 sg 8 37]
theorem x175_12:XF 175 12 264 r175_12:=.mk
def r175_13:List Oper:=[mv 38 8,
 bk 39 .neq 30 38 0]
theorem x175_13:XF 175 13 549755814152 r175_13:=.mk
def r175_14:List Oper:=[mv 40 8,
 sg 4 40]
theorem x175_14:XF 175 14 16 r175_14:=.mk
def r175_15:List Oper:=[fa 41 47 3 3,
 ld 42 45 41,
 fa 43 47 3 2,
 ld 44 40 43,
 oa 45 (.call ⟨.builtin .len,#[.tmp 44],#[40]⟩),
 fa 46 47 3 0,
 ld 47 22 46,
 oa 48 (.call ⟨.builtin .len,#[.tmp 47],#[22]⟩),
 oa 49 (.call ⟨.value (.func 211),#[.tmp 42,.tmp 45,.tmp 48],#[45,3,3]⟩),
 sg 4 49]
theorem x175_15:XF 175 15 16 r175_15:=.mk
def c175:Code:=.seq (rg 175 0) (.seq (.seq (rg 175 1) (.seq (rg 175 2) (.cond (.tmp 13) (.seq (rg 175 3) (.ret)) (.skip)))) (.seq (.seq (rg 175 4) (.seq (rg 175 5) (.cond (.tmp 22) (.seq (rg 175 6) (.ret)) (.skip)))) (.seq (.seq (rg 175 7) (.cond (.tmp 27) (.seq (rg 175 8) (.ret)) (.skip))) (.seq (.seq (rg 175 9) (.seq (rg 175 10) (.cond (.tmp 33) (.seq (rg 175 11) (.ret)) (.skip)))) (.seq (.seq (rg 175 12) (.seq (rg 175 13) (.cond (.tmp 39) (.seq (rg 175 14) (.ret)) (.skip)))) (.seq (rg 175 15) (.ret)))))))
theorem k175:KF 175 [.tmp 4] 1 c175:=.mk
def r210_0:List Oper:=[bx 5 39 1,
 oa 6 (.assign (.const (.int .i64 (0))))]
theorem x210_0:XF 210 0 44 r210_0:=.mk
@[simp] theorem esc210_5:K.esc 210 5=false:=by kernel_rfl
def r210_1:List Oper:=[ld 7 28 2,
 ld 8 39 5,
 fa 9 47 3 0,
 ld 10 22 9,
 oa 11 (.call ⟨.value (.func 208),#[.tmp 7,.tmp 8,.tmp 10],#[28,39,22]⟩),
 sg 6 11]
theorem x210_1:XF 210 1 64 r210_1:=.mk
def c210:Code:=.seq (rg 210 0) (.seq (rg 210 1) (.ret))
theorem k210:KF 210 [.tmp 6] 1 c210:=.mk
def r174_0:List Oper:=[bx 4 47 1,
 oa 5 (.assign (.const (.int .i64 (0))))]
theorem x174_0:XF 174 0 20 r174_0:=.mk
@[simp] theorem esc174_4:K.esc 174 4=false:=by kernel_rfl
def r174_1:List Oper:=[ld 6 28 2,
 ld 7 47 4,
 oa 8 (.call ⟨.value (.func 175),#[.tmp 6,.tmp 7],#[28,47]⟩),
 sg 5 8]
theorem x174_1:XF 174 1 32 r174_1:=.mk
def c174:Code:=.seq (rg 174 0) (.seq (rg 174 1) (.ret))
theorem k174:KF 174 [.tmp 5] 1 c174:=.mk
def r209_0:List Oper:=[oa 4 (.assign (.const (.int .i64 (0))))]
theorem x209_0:XF 209 0 3 r209_0:=.mk
def r209_1:List Oper:=[mv 8 0,
 oa 9 (.call ⟨.builtin .len,#[.tmp 8],#[40]⟩),
 oa 10 (.move (.const (.int .i64 (0))))]
theorem x209_1:XF 209 1 1794 r209_1:=.mk
def r209_2:List Oper:=[bo 11 .lss 3 10 9]
theorem x209_2:XF 209 2 3842 r209_2:=.mk
def r209_3:List Oper:=[mv 12 10,
 ia 13 40 8 10,
 ld 14 39 13,
 aq 6 39,
 sg 5 12,
 so 39 6 14]
theorem x209_3:XF 209 3 1890 r209_3:=.mk
@[simp] theorem esc209_6:K.esc 209 6=false:=by kernel_rfl
def r209_4:List Oper:=[mv 15 1,
 mv 16 5,
 ld 17 39 6,
 oa 18 (.call ⟨.value (.tmp 15),#[.tmp 16,.tmp 17],#[3,39]⟩),
 sg 7 18]
theorem x209_4:XF 209 4 1922 r209_4:=.mk
def r209_5:List Oper:=[mv 19 7,
 bk 20 .neq 30 19 0]
theorem x209_5:XF 209 5 1050498 r209_5:=.mk
def r209_6:List Oper:=[mv 21 7,
 sg 4 21]
theorem x209_6:XF 209 6 16 r209_6:=.mk
def r209_7:List Oper:=[bk 22 .add 3 10 1,
 mv 10 22]
theorem x209_7:XF 209 7 1794 r209_7:=.mk
def r209_8:List Oper:=[oa 4 (.assign (.const (.int .i64 (0))))]
theorem x209_8:XF 209 8 16 r209_8:=.mk
def l209_0:Code:=.seq (rg 209 2) (.seq (.cond (.tmp 11) (.skip) (.exit 0)) (.seq (.block 1 (.seq (rg 209 3) (.seq (rg 209 4) (.seq (rg 209 5) (.cond (.tmp 20) (.seq (rg 209 6) (.ret)) (.skip)))))) (rg 209 7)))
theorem u209_0 (s:St):execL K 209 l209_0 s=execL K 209 (.seq (rg 209 2) (.seq (.cond (.tmp 11) (.skip) (.exit 0)) (.seq (.block 1 (.seq (rg 209 3) (.seq (rg 209 4) (.seq (rg 209 5) (.cond (.tmp 20) (.seq (rg 209 6) (.ret)) (.skip)))))) (rg 209 7)))) s:=rfl
def c209:Code:=.seq (rg 209 0) (.seq (.seq (rg 209 1) (.block 0 (.loop l209_0))) (.seq (rg 209 8) (.ret)))
theorem k209:KF 209 [.tmp 4] 1 c209:=.mk
def r109_0:List Oper:=[oa 6 (.assign (.const (.bool false)))]
theorem x109_0:XF 109 0 7 r109_0:=.mk
def r109_1:List Oper:=[mv 7 1,
 mv 8 0,
 bo 9 .leq 3 7 8,
 mv 10 9,
 og 11 3 true (.move (.tmp 0)),
 og 12 3 true (.move (.tmp 2)),
 og 13 3 true (.binOp .leq 3 (.tmp 11) (.tmp 12) 3),
 oa 14 (.pick (.tmp 10) (.tmp 13) (.const (.bool false))),
 sg 6 14]
theorem x109_1:XF 109 1 64 r109_1:=.mk
def c109:Code:=.seq (rg 109 0) (.seq (rg 109 1) (.ret))
theorem k109:KF 109 [.tmp 6] 1 c109:=.mk
def r206_0:List Oper:=[oa 4 (.assign (.const (.int .i64 (0))))]
theorem x206_0:XF 206 0 3 r206_0:=.mk
def r206_1:List Oper:=[mv 8 0,
 oa 9 (.call ⟨.builtin .len,#[.tmp 8],#[22]⟩),
 oa 10 (.move (.const (.int .i64 (0))))]
theorem x206_1:XF 206 1 1794 r206_1:=.mk
def r206_2:List Oper:=[bo 11 .lss 3 10 9]
theorem x206_2:XF 206 2 3842 r206_2:=.mk
def r206_3:List Oper:=[mv 12 10,
 ia 13 22 8 10,
 ld 14 3 13,
 sg 5 12,
 sg 6 14]
theorem x206_3:XF 206 3 1890 r206_3:=.mk
def r206_4:List Oper:=[mv 15 1,
 mv 16 5,
 mv 17 6,
 oa 18 (.call ⟨.value (.tmp 15),#[.tmp 16,.tmp 17],#[3,3]⟩),
 sg 7 18]
theorem x206_4:XF 206 4 1922 r206_4:=.mk
def r206_5:List Oper:=[mv 19 7,
 bk 20 .neq 30 19 0]
theorem x206_5:XF 206 5 1050498 r206_5:=.mk
def r206_6:List Oper:=[mv 21 7,
 sg 4 21]
theorem x206_6:XF 206 6 16 r206_6:=.mk
def r206_7:List Oper:=[bk 22 .add 3 10 1,
 mv 10 22]
theorem x206_7:XF 206 7 1794 r206_7:=.mk
def r206_8:List Oper:=[oa 4 (.assign (.const (.int .i64 (0))))]
theorem x206_8:XF 206 8 16 r206_8:=.mk
def l206_0:Code:=.seq (rg 206 2) (.seq (.cond (.tmp 11) (.skip) (.exit 0)) (.seq (.block 1 (.seq (rg 206 3) (.seq (rg 206 4) (.seq (rg 206 5) (.cond (.tmp 20) (.seq (rg 206 6) (.ret)) (.skip)))))) (rg 206 7)))
theorem u206_0 (s:St):execL K 206 l206_0 s=execL K 206 (.seq (rg 206 2) (.seq (.cond (.tmp 11) (.skip) (.exit 0)) (.seq (.block 1 (.seq (rg 206 3) (.seq (rg 206 4) (.seq (rg 206 5) (.cond (.tmp 20) (.seq (rg 206 6) (.ret)) (.skip)))))) (rg 206 7)))) s:=rfl
def c206:Code:=.seq (rg 206 0) (.seq (.seq (rg 206 1) (.block 0 (.loop l206_0))) (.seq (rg 206 8) (.ret)))
theorem k206:KF 206 [.tmp 4] 1 c206:=.mk
def r207_0:List Oper:=[oa 4 (.assign (.const (.int .i64 (0))))]
theorem x207_0:XF 207 0 2 r207_0:=.mk
def r207_1:List Oper:=[mv 5 1,
 oa 6 (.call ⟨.value (.func 109),#[.tmp 5,.const (.int .i64 (1)),.const (.int .i64 (12))],#[3,3,3]⟩),
 oa 7 (.unOp .not 4 (.tmp 6))]
theorem x207_1:XF 207 1 128 r207_1:=.mk
def r207_2:List Oper:=[oa 4 (.assign (.const (.int .i64 (2))))]
theorem x207_2:XF 207 2 16 r207_2:=.mk
def r207_3:List Oper:=[oa 4 (.assign (.const (.int .i64 (0))))]
theorem x207_3:XF 207 3 16 r207_3:=.mk
def c207:Code:=.seq (rg 207 0) (.seq (.seq (rg 207 1) (.cond (.tmp 7) (.seq (rg 207 2) (.ret)) (.skip))) (.seq (rg 207 3) (.ret)))
theorem k207:KF 207 [.tmp 4] 1 c207:=.mk
def r270_0:List Oper:=[oa 4 (.assign (.const (.int .i64 (0))))]
theorem x270_0:XF 270 0 2 r270_0:=.mk
def r270_1:List Oper:=[mv 5 1,
 oa 6 (.call ⟨.value (.func 109),#[.tmp 5,.const (.int .i64 (-99)),.const (.int .i64 (99))],#[3,3,3]⟩),
 oa 7 (.unOp .not 4 (.tmp 6))]
theorem x270_1:XF 270 1 128 r270_1:=.mk
def r270_2:List Oper:=[oa 4 (.assign (.const (.int .i64 (2))))]
theorem x270_2:XF 270 2 16 r270_2:=.mk
def r270_3:List Oper:=[oa 4 (.assign (.const (.int .i64 (0))))]
theorem x270_3:XF 270 3 16 r270_3:=.mk
def c270:Code:=.seq (rg 270 0) (.seq (.seq (rg 270 1) (.cond (.tmp 7) (.seq (rg 270 2) (.ret)) (.skip))) (.seq (rg 270 3) (.ret)))
theorem k270:KF 270 [.tmp 4] 1 c270:=.mk
def r172_0:List Oper:=[oa 2 (.assign (.const (.int .i64 (0))))]
theorem x172_0:XF 172 0 1 r172_0:=.mk
def r172_1:List Oper:=[mv 3 0,
 oa 4 (.call ⟨.builtin .len,#[.tmp 3],#[22]⟩),
 bk 5 .gtr 3 4 4]
theorem x172_1:XF 172 1 33 r172_1:=.mk
def r172_2:List Oper:=[oa 2 (.assign (.const (.int .i64 (7))))]
theorem x172_2:XF 172 2 4 r172_2:=.mk
def r172_3:List Oper:=[mv 6 0,
 oa 7 (.call ⟨.value (.func 206),#[.tmp 6,.func 207],#[22,245]⟩),
 sg 2 7]
theorem x172_3:XF 172 3 4 r172_3:=.mk
def c172:Code:=.seq (rg 172 0) (.seq (.seq (rg 172 1) (.cond (.tmp 5) (.seq (rg 172 2) (.ret)) (.skip))) (.seq (rg 172 3) (.ret)))
theorem k172:KF 172 [.tmp 2] 1 c172:=.mk
def r81_0:List Oper:=[oa 2 (.assign (.const (.slice none 0 0)))]
theorem x81_0:XF 81 0 1 r81_0:=.mk
def r81_1:List Oper:=[mv 3 0,
 oa 4 (.binOp .eql 22 (.tmp 3) (.const (.slice none 0 0)) 22)]
theorem x81_1:XF 81 1 17 r81_1:=.mk
def r81_2:List Oper:=[oa 2 (.assign (.const (.slice none 0 0)))]
theorem x81_2:XF 81 2 4 r81_2:=.mk
def r81_3:List Oper:=[oa 5 (.buildSlice 22 0 #[]),
 mv 6 0,
 oa 7 (.call ⟨.builtin .append,#[.tmp 5,.tmp 6],#[22,22]⟩),
 sg 2 7]
theorem x81_3:XF 81 3 4 r81_3:=.mk
@[simp] theorem imm81_5:K.imm 81 5=false:=by kernel_rfl
@[simp] theorem esc81_7:K.esc 81 7=true:=by kernel_rfl
@[simp] theorem imm81_7:K.imm 81 7=false:=by kernel_rfl
def c81:Code:=.seq (rg 81 0) (.seq (.seq (rg 81 1) (.cond (.tmp 4) (.seq (rg 81 2) (.ret)) (.skip))) (.seq (rg 81 3) (.ret)))
theorem k81:KF 81 [.tmp 2] 0 c81:=.mk
def r108_0:List Oper:=[oa 4 (.assign (.const (.int .i64 (0))))]
theorem x108_0:XF 108 0 3 r108_0:=.mk
def r108_1:List Oper:=[mv 6 0,
 oa 7 (.call ⟨.builtin .len,#[.tmp 6],#[22]⟩),
 mv 8 1,
 bo 9 .lss 3 7 8,
 sg 5 9]
theorem x108_1:XF 108 1 35 r108_1:=.mk
def r108_2:List Oper:=[oa 4 (.assign (.const (.int .i64 (8))))]
theorem x108_2:XF 108 2 16 r108_2:=.mk
def r108_3:List Oper:=[mv 11 0,
 oa 12 (.call ⟨.builtin .len,#[.tmp 11],#[22]⟩),
 mv 13 1,
 bo 14 .gtr 3 12 13,
 sg 10 14]
theorem x108_3:XF 108 3 1024 r108_3:=.mk
def r108_4:List Oper:=[oa 4 (.assign (.const (.int .i64 (7))))]
theorem x108_4:XF 108 4 16 r108_4:=.mk
def r108_5:List Oper:=[oa 4 (.assign (.const (.int .i64 (0))))]
theorem x108_5:XF 108 5 16 r108_5:=.mk
def c108:Code:=.seq (rg 108 0) (.seq (.block 0 (.seq (rg 108 1) (.cond (.tmp 5) (.seq (rg 108 2) (.ret)) (.seq (rg 108 3) (.cond (.tmp 10) (.seq (rg 108 4) (.ret)) (.skip)))))) (.seq (rg 108 5) (.ret)))
theorem k108:KF 108 [.tmp 4] 1 c108:=.mk
def r110_0:List Oper:=[oa 2 (.assign (.const (.int .i64 (0))))]
theorem x110_0:XF 110 0 1 r110_0:=.mk
def r110_1:List Oper:=[oa 3 (.assign (.const (.int .i64 (1))))]
theorem x110_1:XF 110 1 9 r110_1:=.mk
def r110_2:List Oper:=[mv 6 0,
 oa 7 (.call ⟨.builtin .len,#[.tmp 6],#[22]⟩),
 oa 8 (.move (.const (.int .i64 (0))))]
theorem x110_2:XF 110 2 456 r110_2:=.mk
def r110_3:List Oper:=[bo 9 .lss 3 8 7]
theorem x110_3:XF 110 3 968 r110_3:=.mk
def r110_4:List Oper:=[ia 10 22 6 8,
 ld 11 3 10,
 sg 5 11]
theorem x110_4:XF 110 4 488 r110_4:=.mk
def r110_5:List Oper:=[mv 12 3,
 mv 13 5,
 bo 14 .mul 3 12 13,
 sg 3 14]
theorem x110_5:XF 110 5 456 r110_5:=.mk
def r110_6:List Oper:=[bk 15 .add 3 8 1,
 mv 8 15]
theorem x110_6:XF 110 6 456 r110_6:=.mk
def r110_7:List Oper:=[mv 16 3,
 sg 2 16]
theorem x110_7:XF 110 7 4 r110_7:=.mk
def l110_0:Code:=.seq (rg 110 3) (.seq (.cond (.tmp 9) (.skip) (.exit 0)) (.seq (.block 1 (.seq (rg 110 4) (rg 110 5))) (rg 110 6)))
theorem u110_0 (s:St):execL K 110 l110_0 s=execL K 110 (.seq (rg 110 3) (.seq (.cond (.tmp 9) (.skip) (.exit 0)) (.seq (.block 1 (.seq (rg 110 4) (rg 110 5))) (rg 110 6)))) s:=rfl
def c110:Code:=.seq (rg 110 0) (.seq (rg 110 1) (.seq (.seq (rg 110 2) (.block 0 (.loop l110_0))) (.seq (rg 110 7) (.ret))))
theorem k110:KF 110 [.tmp 2] 1 c110:=.mk
def r128_0:List Oper:=[aq 8 39]
theorem x128_0:XF 128 0 271 r128_0:=.mk
@[simp] theorem esc128_8:K.esc 128 8=false:=by kernel_rfl
def r128_1:List Oper:=[mv 11 3,
 oa 12 (.build 39 #[(0,.tmp 11)]),
 aq 9 39,
 so 39 9 12]
theorem x128_1:XF 128 1 783 r128_1:=.mk
@[simp] theorem esc128_9:K.esc 128 9=false:=by kernel_rfl
def r128_2:List Oper:=[oa 10 (.assign (.const (.int .i64 (0))))]
theorem x128_2:XF 128 2 1807 r128_2:=.mk
def r128_3:List Oper:=[mv 13 10,
 mv 14 1,
 mv 15 3,
 ia 16 25 14 15,
 fa 17 168 16 1,
 ld 18 22 17,
 oa 19 (.call ⟨.builtin .len,#[.tmp 18],#[22]⟩),
 bo 20 .lss 3 13 19]
theorem x128_3:XF 128 3 1050383 r128_3:=.mk
def r128_5:List Oper:=[fa 23 39 9 1,
 ld 24 37 23,
 mv 25 0,
 mv 26 2,
 mv 27 1,
 mv 28 3,
 ia 29 25 27 28,
 fa 30 168 29 1,
 ld 31 22 30,
 mv 32 10,
 ia 33 22 31 32,
 ld 34 3 33,
 oa 35 (.call ⟨.value (.func 186),#[.tmp 25,.tmp 26,.tmp 34],#[23,22,3]⟩),
 oa 36 (.buildSlice 37 1 #[(0,.tmp 35)]),
 oa 37 (.call ⟨.builtin .append,#[.tmp 24,.tmp 36],#[37,37]⟩),
 fa 38 39 9 1,
 so 37 38 37]
theorem x128_5:XP 128 5 1807 [(1,8),(1,11),(1,12),(1,13)] r128_5:=.mk
@[simp] theorem imm128_36:K.imm 128 36=false:=by kernel_rfl
@[simp] theorem esc128_37:K.esc 128 37=false:=by kernel_rfl
@[simp] theorem imm128_37:K.imm 128 37=false:=by kernel_rfl
def r128_4:List Oper:=[mv 21 10,
 bk 22 .add 3 21 1,
 sg 10 22]
theorem x128_4:XF 128 4 1807 r128_4:=.mk
def r128_6:List Oper:=[ld 39 39 9,
 so 39 8 39]
theorem x128_6:XF 128 6 256 r128_6:=.mk
def l128_0:Code:=.seq (.seq (rg 128 3) (.cond (.tmp 20) (.skip) (.exit 0))) (.seq (.block 1 (rd 128 5)) (rg 128 4))
theorem u128_0 (s:St):execL K 128 l128_0 s=execL K 128 (.seq (.seq (rg 128 3) (.cond (.tmp 20) (.skip) (.exit 0))) (.seq (.block 1 (rd 128 5)) (rg 128 4))) s:=rfl
def c128:Code:=.seq (rg 128 0) (.seq (rg 128 1) (.seq (.seq (rg 128 2) (.block 0 (.loop l128_0))) (.seq (rg 128 6) (.ret))))
theorem k128:KF 128 [.cell 8 39] 0 c128:=.mk
def r186_0:List Oper:=[aq 6 142]
theorem x186_0:XF 186 0 71 r186_0:=.mk
@[simp] theorem esc186_6:K.esc 186 6=false:=by kernel_rfl
def r186_1:List Oper:=[mv 12 1,
 oa 13 (.call ⟨.builtin .len,#[.tmp 12],#[22]⟩),
 oa 14 (.makeSlice 22 (.tmp 13) (.tmp 13)),
 oa 15 (.build 142 #[(1,.tmp 14)]),
 aq 7 142,
 so 142 7 15]
theorem x186_1:XF 186 1 199 r186_1:=.mk
@[simp] theorem esc186_14:K.esc 186 14=false:=by kernel_rfl
@[simp] theorem esc186_7:K.esc 186 7=false:=by kernel_rfl
def r186_2:List Oper:=[mv 16 2,
 bk 17 .sub 3 16 1,
 sg 8 17]
theorem x186_2:XF 186 2 451 r186_2:=.mk
def r186_3:List Oper:=[mv 18 0,
 oa 19 (.call ⟨.value (.func 20),#[.tmp 18,.const (.int .i64 (2))],#[23,3]⟩),
 sg 9 19]
theorem x186_3:XF 186 3 963 r186_3:=.mk
def r186_4:List Oper:=[mv 20 9,
 bk 21 .gtr 3 20 0,
 mv 22 21,
 og 23 2 true (.move (.tmp 1)),
 og 24 2 true (.call ⟨.builtin .len,#[.tmp 23],#[22]⟩),
 og 25 2 true (.binOp .gtr 3 (.tmp 24) (.const (.int .i64 (0))) 3),
 oa 26 (.pick (.tmp 22) (.tmp 25) (.const (.bool false)))]
theorem x186_4:XF 186 4 67109827 r186_4:=.mk
def r186_6:List Oper:=[mv 29 0,
 mv 30 1,
 oa 31 (.call ⟨.builtin .len,#[.tmp 30],#[22]⟩),
 bk 32 .sub 3 31 1,
 oa 33 (.call ⟨.value (.func 20),#[.tmp 29,.tmp 32],#[23,3]⟩),
 sg 10 33]
theorem x186_6:XF 186 6 1987 r186_6:=.mk
def r186_7:List Oper:=[mv 34 1,
 mv 35 10,
 ia 36 22 34 35,
 ld 37 3 36,
 bk 38 .sub 3 37 1,
 sg 11 38]
theorem x186_7:XF 186 7 4035 r186_7:=.mk
def r186_8:List Oper:=[fa 39 142 7 1,
 ld 40 22 39,
 mv 41 10,
 ia 42 22 40 41,
 ld 43 3 42,
 bk 44 .neq 3 43 0,
 mv 45 44,
 og 46 6 false (.move (.tmp 11)),
 og 47 6 false (.move (.tmp 8)),
 og 48 6 false (.binOp .gtr 3 (.tmp 46) (.tmp 47) 3),
 oa 49 (.pick (.tmp 45) (.const (.bool true)) (.tmp 48))]
theorem x186_8:XF 186 8 562949953425347 r186_8:=.mk
def r186_9:List Oper:=[mv 50 8,
 mv 51 11,
 bo 52 .sub 3 50 51,
 sg 8 52]
theorem x186_9:XF 186 9 4035 r186_9:=.mk
def r186_10:List Oper:=[fa 53 142 7 1,
 ld 54 22 53,
 mv 55 10,
 ia 56 22 54 55,
 on (.store 3 (.tmp 56) (.const (.int .i64 (1))))]
theorem x186_10:XF 186 10 4035 r186_10:=.mk
def r186_11:List Oper:=[mv 57 0,
 oa 58 (.call ⟨.value (.func 129),#[.tmp 57,.const (.int .i64 (4))],#[23,3]⟩)]
theorem x186_11:XF 186 11 288230376151715779 r186_11:=.mk
def r186_12:List Oper:=[fa 59 142 7 1,
 ld 60 22 59,
 mv 61 10,
 ia 62 22 60 61,
 on (.store 3 (.tmp 62) (.const (.int .i64 (-1))))]
theorem x186_12:XF 186 12 3011 r186_12:=.mk
def r186_13:List Oper:=[fa 63 142 7 0,
 ld 64 3 63,
 mv 65 11,
 bo 66 .add 3 64 65,
 fa 67 142 7 0,
 so 3 67 66]
theorem x186_13:XF 186 13 963 r186_13:=.mk
def r186_5:List Oper:=[mv 27 9,
 bk 28 .sub 3 27 1,
 sg 9 28]
theorem x186_5:XF 186 5 963 r186_5:=.mk
def r186_14:List Oper:=[fa 68 142 7 0,
 ld 69 3 68,
 mv 70 0,
 mv 71 8,
 oa 72 (.call ⟨.value (.func 20),#[.tmp 70,.tmp 71],#[23,3]⟩),
 bo 73 .add 3 69 72,
 fa 74 142 7 0,
 so 3 74 73]
theorem x186_14:XP 186 14 192 [(1,4)] r186_14:=.mk
def r186_15:List Oper:=[ld 75 142 7,
 so 142 6 75]
theorem x186_15:XF 186 15 64 r186_15:=.mk
def l186_0:Code:=.seq (.seq (rg 186 4) (.cond (.tmp 26) (.skip) (.exit 0))) (.seq (.block 1 (.seq (rg 186 6) (.seq (rg 186 7) (.seq (.seq (rg 186 8) (.cond (.tmp 49) (.exit 1) (.skip))) (.seq (rg 186 9) (.seq (rg 186 10) (.seq (rg 186 11) (.cond (.tmp 58) (.seq (rg 186 12) (rg 186 13)) (.skip))))))))) (rg 186 5))
theorem u186_0 (s:St):execL K 186 l186_0 s=execL K 186 (.seq (.seq (rg 186 4) (.cond (.tmp 26) (.skip) (.exit 0))) (.seq (.block 1 (.seq (rg 186 6) (.seq (rg 186 7) (.seq (.seq (rg 186 8) (.cond (.tmp 49) (.exit 1) (.skip))) (.seq (rg 186 9) (.seq (rg 186 10) (.seq (rg 186 11) (.cond (.tmp 58) (.seq (rg 186 12) (rg 186 13)) (.skip))))))))) (rg 186 5))) s:=rfl
def c186:Code:=.seq (rg 186 0) (.seq (rg 186 1) (.seq (rg 186 2) (.seq (.seq (rg 186 3) (.block 0 (.loop l186_0))) (.seq (rd 186 14) (.seq (rg 186 15) (.ret))))))
theorem k186:KF 186 [.cell 6 142] 1 c186:=.mk
def r20_0:List Oper:=[oa 4 (.assign (.const (.int .i64 (0))))]
theorem x20_0:XF 20 0 3 r20_0:=.mk
def r20_1:List Oper:=[mv 6 0,
 oa 7 (.call ⟨.value (.func 73),#[.tmp 6],#[23]⟩),
 sg 5 7]
theorem x20_1:XF 20 1 34 r20_1:=.mk
def r20_2:List Oper:=[mv 8 1,
 bk 9 .lss 3 8 1]
theorem x20_2:XF 20 2 546 r20_2:=.mk
def r20_3:List Oper:=[oa 4 (.assign (.const (.int .i64 (0))))]
theorem x20_3:XF 20 3 16 r20_3:=.mk
def r20_4:List Oper:=[mv 10 5,
 mv 11 1,
 oa 12 (.convert 3 94 (.tmp 11)),
 oa 13 (.binOp .add 94 (.tmp 12) (.const (.int .u64 (1))) 94),
 bo 14 .rem 94 10 13,
 oa 15 (.convert 94 3 (.tmp 14)),
 sg 4 15]
theorem x20_4:XF 20 4 16 r20_4:=.mk
def c20:Code:=.seq (rg 20 0) (.seq (rg 20 1) (.seq (.seq (rg 20 2) (.cond (.tmp 9) (.seq (rg 20 3) (.ret)) (.skip))) (.seq (rg 20 4) (.ret))))
theorem k20:KF 20 [.tmp 4] 1 c20:=.mk
def r21_0:List Oper:=[oa 6 (.assign (.const (.int .i64 (0))))]
theorem x21_0:XF 21 0 7 r21_0:=.mk
def r21_1:List Oper:=[mv 7 1,
 mv 8 0,
 mv 9 2,
 mv 10 1,
 bo 11 .sub 3 9 10,
 oa 12 (.call ⟨.value (.func 20),#[.tmp 8,.tmp 11],#[23,3]⟩),
 bo 13 .add 3 7 12,
 sg 6 13]
theorem x21_1:XF 21 1 64 r21_1:=.mk
def c21:Code:=.seq (rg 21 0) (.seq (rg 21 1) (.ret))
theorem k21:KF 21 [.tmp 6] 1 c21:=.mk
def r58_0:List Oper:=[oa 4 (.assign (.const (.int .i64 (0))))]
theorem x58_0:XF 58 0 3 r58_0:=.mk
def r58_1:List Oper:=[mv 5 1,
 mv 6 0,
 mv 7 1,
 oa 8 (.call ⟨.builtin .len,#[.tmp 7],#[22]⟩),
 bk 9 .sub 3 8 1,
 oa 10 (.call ⟨.value (.func 20),#[.tmp 6,.tmp 9],#[23,3]⟩),
 ia 11 22 5 10,
 ld 12 3 11,
 sg 4 12]
theorem x58_1:XF 58 1 16 r58_1:=.mk
def c58:Code:=.seq (rg 58 0) (.seq (rg 58 1) (.ret))
theorem k58:KF 58 [.tmp 4] 1 c58:=.mk
def r129_0:List Oper:=[oa 4 (.assign (.const (.bool false)))]
theorem x129_0:XF 129 0 3 r129_0:=.mk
def r129_1:List Oper:=[mv 5 0,
 mv 6 1,
 bk 7 .sub 3 6 1,
 oa 8 (.call ⟨.value (.func 20),#[.tmp 5,.tmp 7],#[23,3]⟩),
 bk 9 .eql 3 8 0,
 sg 4 9]
theorem x129_1:XF 129 1 16 r129_1:=.mk
def c129:Code:=.seq (rg 129 0) (.seq (rg 129 1) (.ret))
theorem k129:KF 129 [.tmp 4] 1 c129:=.mk
def r73_0:List Oper:=[oa 2 (.assign (.const (.int .u64 (0))))]
theorem x73_0:XF 73 0 1 r73_0:=.mk
def r73_1:List Oper:=[mv 5 0,
 oa 6 (.nilCheck (.tmp 5)),
 fa 7 96 6 1,
 ld 8 3 7,
 bk 9 .add 3 8 1,
 oa 10 (.convert 3 94 (.tmp 9)),
 oa 11 (.binOp .mul 94 (.tmp 10) (.const (.int .u64 (13503953896175478587))) 94),
 sg 3 11]
theorem x73_1:XF 73 1 9 r73_1:=.mk
def r73_2:List Oper:=[mv 12 0,
 oa 13 (.nilCheck (.tmp 12)),
 fa 14 96 13 1,
 ld 15 3 14,
 mv 16 0,
 oa 17 (.nilCheck (.tmp 16)),
 fa 18 96 17 0,
 ld 19 22 18,
 oa 20 (.call ⟨.builtin .len,#[.tmp 19],#[22]⟩),
 bo 21 .lss 3 15 20]
theorem x73_2:XP 73 2 2097161 [(3,7),(3,8)] r73_2:=.mk
def r73_3:List Oper:=[mv 22 3,
 mv 23 0,
 oa 24 (.nilCheck (.tmp 23)),
 fa 25 96 24 0,
 ld 26 22 25,
 mv 27 0,
 oa 28 (.nilCheck (.tmp 27)),
 fa 29 96 28 1,
 ld 30 3 29,
 ia 31 22 26 30,
 ld 32 3 31,
 oa 33 (.convert 3 94 (.tmp 32)),
 oa 34 (.binOp .mul 94 (.tmp 33) (.const (.int .u64 (4354685564936845355))) 94),
 bo 35 .add 94 22 34,
 sg 3 35]
theorem x73_3:XP 73 3 9 [(4,8)] r73_3:=.mk
def r73_4:List Oper:=[mv 36 0,
 oa 37 (.nilCheck (.tmp 36)),
 fa 38 96 37 1,
 ld 39 3 38,
 bk 40 .add 3 39 1,
 oa 41 (.nilCheck (.tmp 36)),
 fa 42 96 41 1,
 so 3 42 40]
theorem x73_4:XF 73 4 9 r73_4:=.mk
def r73_5:List Oper:=[mv 43 0,
 mv 44 0,
 oa 45 (.nilCheck (.tmp 44)),
 fa 46 96 45 2,
 ld 47 94 46,
 mv 48 3,
 bo 49 .xor 94 47 48,
 oa 50 (.binOp .mul 94 (.tmp 49) (.const (.int .u64 (11912009170470909681))) 94),
 oa 51 (.nilCheck (.tmp 43)),
 fa 52 96 51 2,
 so 94 52 50]
theorem x73_5:XF 73 5 1 r73_5:=.mk
def r73_6:List Oper:=[mv 53 0,
 mv 54 0,
 oa 55 (.nilCheck (.tmp 54)),
 fa 56 96 55 2,
 ld 57 94 56,
 mv 58 0,
 oa 59 (.nilCheck (.tmp 58)),
 fa 60 96 59 2,
 ld 61 94 60,
 oa 62 (.binOp .shr 94 (.tmp 61) (.const (.int .u64 (31))) 195),
 bo 63 .xor 94 57 62,
 oa 64 (.nilCheck (.tmp 53)),
 fa 65 96 64 2,
 so 94 65 63]
theorem x73_6:XP 73 6 1 [(4,8)] r73_6:=.mk
def r73_7:List Oper:=[mv 66 0,
 oa 67 (.nilCheck (.tmp 66)),
 fa 68 96 67 2,
 ld 69 94 68,
 oa 70 (.binOp .mul 94 (.tmp 69) (.const (.int .u64 (5840696475078001361))) 94),
 sg 4 70]
theorem x73_7:XF 73 7 16 r73_7:=.mk
def r73_8:List Oper:=[mv 71 4,
 mv 72 4,
 oa 73 (.binOp .shr 94 (.tmp 72) (.const (.int .u64 (29))) 195),
 bo 74 .xor 94 71 73,
 oa 75 (.binOp .shr 94 (.tmp 74) (.const (.int .u64 (11))) 195),
 sg 2 75]
theorem x73_8:XF 73 8 4 r73_8:=.mk
def c73:Code:=.seq (rg 73 0) (.seq (rg 73 1) (.seq (.seq (rd 73 2) (.cond (.tmp 21) (rd 73 3) (.skip))) (.seq (rg 73 4) (.seq (rg 73 5) (.seq (rd 73 6) (.seq (rg 73 7) (.seq (rg 73 8) (.ret))))))))
theorem k73:KF 73 [.tmp 2] 1 c73:=.mk
def r173_0:List Oper:=[oa 4 (.assign (.const (.int .i64 (0))))]
theorem x173_0:XF 173 0 3 r173_0:=.mk
def r173_1:List Oper:=[mv 8 0,
 oa 9 (.call ⟨.builtin .len,#[.tmp 8],#[26]⟩),
 oa 10 (.move (.const (.int .i64 (0))))]
theorem x173_1:XF 173 1 1794 r173_1:=.mk
def r173_2:List Oper:=[bo 11 .lss 3 10 9]
theorem x173_2:XF 173 2 3842 r173_2:=.mk
def r173_3:List Oper:=[mv 12 10,
 ia 13 26 8 10,
 ld 14 47 13,
 aq 6 47,
 sg 5 12,
 so 47 6 14]
theorem x173_3:XF 173 3 1890 r173_3:=.mk
@[simp] theorem esc173_6:K.esc 173 6=false:=by kernel_rfl
def r173_4:List Oper:=[mv 15 1,
 mv 16 5,
 ld 17 47 6,
 oa 18 (.call ⟨.value (.tmp 15),#[.tmp 16,.tmp 17],#[3,47]⟩),
 sg 7 18]
theorem x173_4:XF 173 4 1922 r173_4:=.mk
def r173_5:List Oper:=[mv 19 7,
 bk 20 .neq 30 19 0]
theorem x173_5:XF 173 5 1050498 r173_5:=.mk
def r173_6:List Oper:=[mv 21 7,
 sg 4 21]
theorem x173_6:XF 173 6 16 r173_6:=.mk
def r173_7:List Oper:=[bk 22 .add 3 10 1,
 mv 10 22]
theorem x173_7:XF 173 7 1794 r173_7:=.mk
def r173_8:List Oper:=[oa 4 (.assign (.const (.int .i64 (0))))]
theorem x173_8:XF 173 8 16 r173_8:=.mk
def l173_0:Code:=.seq (rg 173 2) (.seq (.cond (.tmp 11) (.skip) (.exit 0)) (.seq (.block 1 (.seq (rg 173 3) (.seq (rg 173 4) (.seq (rg 173 5) (.cond (.tmp 20) (.seq (rg 173 6) (.ret)) (.skip)))))) (rg 173 7)))
theorem u173_0 (s:St):execL K 173 l173_0 s=execL K 173 (.seq (rg 173 2) (.seq (.cond (.tmp 11) (.skip) (.exit 0)) (.seq (.block 1 (.seq (rg 173 3) (.seq (rg 173 4) (.seq (rg 173 5) (.cond (.tmp 20) (.seq (rg 173 6) (.ret)) (.skip)))))) (rg 173 7)))) s:=rfl
def c173:Code:=.seq (rg 173 0) (.seq (.seq (rg 173 1) (.block 0 (.loop l173_0))) (.seq (rg 173 8) (.ret)))
theorem k173:KF 173 [.tmp 4] 1 c173:=.mk
def r240_0:List Oper:=[bx 5 142 1,
 oa 6 (.assign (.const (.int .i64 (0))))]
theorem x240_0:XF 240 0 45 r240_0:=.mk
@[simp] theorem esc240_5:K.esc 240 5=false:=by kernel_rfl
def r240_1:List Oper:=[ld 10 142 5,
 ld 11 22 2,
 oa 12 (.call ⟨.value (.func 241),#[.tmp 10,.tmp 11],#[142,22]⟩),
 sg 7 12]
theorem x240_1:XF 240 1 173 r240_1:=.mk
def r240_2:List Oper:=[mv 13 7,
 bk 14 .neq 30 13 0]
theorem x240_2:XF 240 2 16557 r240_2:=.mk
def r240_3:List Oper:=[mv 15 7,
 sg 6 15]
theorem x240_3:XF 240 3 64 r240_3:=.mk
def r240_4:List Oper:=[ld 17 142 5,
 ld 18 22 2,
 oa 19 (.call ⟨.value (.func 242),#[.tmp 17,.tmp 18],#[142,22]⟩),
 mv 16 19,
 xt 20 16 0,
 xt 21 16 1,
 sg 8 20,
 sg 9 21]
theorem x240_4:XF 240 4 777 r240_4:=.mk
def r240_5:List Oper:=[mv 22 8,
 bk 23 .lss 3 22 0,
 mv 24 23,
 og 25 2 false (.move (.tmp 9)),
 og 26 2 false (.load 22 (.tmp 3)),
 og 27 2 false (.move (.tmp 0)),
 og 28 2 false (.indexAddr 22 (.tmp 26) (.tmp 27)),
 og 29 2 false (.load 3 (.tmp 28)),
 og 30 2 false (.binOp .geq 3 (.tmp 25) (.tmp 29) 3),
 oa 31 (.pick (.tmp 24) (.const (.bool true)) (.tmp 30))]
theorem x240_5:XF 240 5 2147483648 r240_5:=.mk
def r240_6:List Oper:=[oa 6 (.assign (.const (.int .i64 (3))))]
theorem x240_6:XF 240 6 64 r240_6:=.mk
def r240_7:List Oper:=[oa 6 (.assign (.const (.int .i64 (0))))]
theorem x240_7:XF 240 7 64 r240_7:=.mk
def c240:Code:=.seq (rg 240 0) (.seq (.seq (rg 240 1) (.seq (rg 240 2) (.cond (.tmp 14) (.seq (rg 240 3) (.ret)) (.skip)))) (.seq (.seq (rg 240 4) (.seq (rg 240 5) (.cond (.tmp 31) (.seq (rg 240 6) (.ret)) (.skip)))) (.seq (rg 240 7) (.ret))))
theorem k240:KF 240 [.tmp 6] 1 c240:=.mk
end
end Mw
