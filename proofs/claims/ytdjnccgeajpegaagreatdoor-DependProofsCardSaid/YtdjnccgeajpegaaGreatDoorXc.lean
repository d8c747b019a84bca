/- DependProofs answers true for every list of numbers: its tied card holds; no condition beyond the card's own. -/
import Derived.Test.YtdjnccgeajpegaaGreatDoorKc
set_option linter.unusedVariables false
set_option linter.unusedSimpArgs false
set_option maxRecDepth 100000
namespace Mw
open Go Go.Proofs
noncomputable section
def r120_0:List Oper:=[bx 1 28 0,
 oa 2 (.assign (.const (.int .i64 (0))))]
theorem x120_0:XF 120 0 2 r120_0:=.mk
@[simp] theorem esc120_1:K.esc 120 1=true:=by kernel_rfl
def r120_1:List Oper:=[fa 6 28 1 0,
 ld 7 25 6,
 oa 8 (.call ⟨.builtin .len,#[.tmp 7],#[25]⟩),
 bk 9 .gtr 3 8 12,
 mv 10 9,
 og 11 4 false (.fieldAddr 28 (.tmp 1) 1),
 og 12 4 false (.load 26 (.tmp 11)),
 og 13 4 false (.call ⟨.builtin .len,#[.tmp 12],#[26]⟩),
 og 14 4 false (.binOp .gtr 3 (.tmp 13) (.const (.int .i64 (12))) 3),
 oa 15 (.pick (.tmp 10) (.const (.bool true)) (.tmp 14))]
theorem x120_1:XF 120 1 32770 r120_1:=.mk
def r120_2:List Oper:=[oa 2 (.assign (.const (.int .i64 (7))))]
theorem x120_2:XF 120 2 4 r120_2:=.mk
def r120_3:List Oper:=[oa 16 (.makeMap 216 none),
 aq 3 216,
 so 216 3 16]
theorem x120_3:XF 120 3 10 r120_3:=.mk
@[simp] theorem esc120_16:K.esc 120 16=true:=by kernel_rfl
@[simp] theorem esc120_3:K.esc 120 3=true:=by kernel_rfl
def r120_4:List Oper:=[fa 17 28 1 0,
 ld 18 25 17,
 oa 19 (.makeFunc (.func 170) #[] #[.tmp 3]),
 oa 20 (.call ⟨.value (.func 169),#[.tmp 18,.tmp 19],#[25,220]⟩),
 sg 4 20]
theorem x120_4:XF 120 4 18 r120_4:=.mk
def r120_5:List Oper:=[mv 21 4,
 bk 22 .neq 30 21 0]
theorem x120_5:XF 120 5 4194322 r120_5:=.mk
def r120_6:List Oper:=[mv 23 4,
 sg 2 23]
theorem x120_6:XF 120 6 4 r120_6:=.mk
def r120_7:List Oper:=[fa 24 28 1 1,
 ld 25 26 24,
 oa 26 (.makeFunc (.func 174) #[] #[.tmp 1]),
 oa 27 (.call ⟨.value (.func 173),#[.tmp 25,.tmp 26],#[26,223]⟩),
 sg 5 27]
theorem x120_7:XF 120 7 34 r120_7:=.mk
def r120_8:List Oper:=[mv 28 5,
 bk 29 .neq 30 28 0]
theorem x120_8:XF 120 8 536870946 r120_8:=.mk
def r120_9:List Oper:=[mv 30 5,
 sg 2 30]
theorem x120_9:XF 120 9 4 r120_9:=.mk
def r120_10:List Oper:=[ld 31 28 1,
 oa 32 (.build 164 #[(0,.tmp 31)]),
 bx 33 164 32,
 oa 34 (.call ⟨.value (.func 176),#[.tmp 33],#[158]⟩),
 bk 35 .gtr 3 34 2000]
theorem x120_10:XF 120 10 34359738368 r120_10:=.mk
@[simp] theorem esc120_33:K.esc 120 33=true:=by kernel_rfl
def r120_11:List Oper:=[oa 2 (.assign (.const (.int .i64 (13))))]
theorem x120_11:XF 120 11 4 r120_11:=.mk
def r120_12:List Oper:=[oa 2 (.assign (.const (.int .i64 (0))))]
theorem x120_12:XF 120 12 4 r120_12:=.mk
def c120:Code:=.seq (rg 120 0) (.seq (.seq (rg 120 1) (.cond (.tmp 15) (.seq (rg 120 2) (.ret)) (.skip))) (.seq (rg 120 3) (.seq (rg 120 4) (.seq (.seq (rg 120 5) (.cond (.tmp 22) (.seq (rg 120 6) (.ret)) (.skip))) (.seq (.seq (rg 120 7) (.seq (rg 120 8) (.cond (.tmp 29) (.seq (rg 120 9) (.ret)) (.skip)))) (.seq (.seq (rg 120 10) (.cond (.tmp 35) (.seq (rg 120 11) (.ret)) (.skip))) (.seq (rg 120 12) (.ret))))))))
theorem k120:KF 120 [.tmp 2] 1 c120:=.mk
def r64_0:List Oper:=[bx 1 28 0,
 oa 2 (.assign (.const (.pointer none))),
 oa 3 (.assign (.const (.int .i64 (0))))]
theorem x64_0:XF 64 0 14 r64_0:=.mk
@[simp] theorem esc64_1:K.esc 64 1=false:=by kernel_rfl
def r64_1:List Oper:=[ld 12 28 1,
 oa 13 (.call ⟨.value (.func 120),#[.tmp 12],#[28]⟩),
 sg 4 13]
theorem x64_1:XF 64 1 30 r64_1:=.mk
def r64_2:List Oper:=[mv 14 4,
 bk 15 .neq 30 14 0]
theorem x64_2:XF 64 2 32798 r64_2:=.mk
def r64_3:List Oper:=[mv 16 4,
 oa 2 (.assign (.const (.pointer none))),
 sg 3 16]
theorem x64_3:XF 64 3 12 r64_3:=.mk
def r64_4:List Oper:=[ld 17 28 1,
 oa 18 (.build 105 #[(0,.tmp 17)]),
 bx 19 105 18,
 aq 5 99,
 so 99 5 19]
theorem x64_4:XF 64 4 46 r64_4:=.mk
@[simp] theorem esc64_19:K.esc 64 19=true:=by kernel_rfl
@[simp] theorem esc64_5:K.esc 64 5=false:=by kernel_rfl
def r64_5:List Oper:=[fa 20 28 1 1,
 ld 21 26 20,
 oa 22 (.call ⟨.builtin .len,#[.tmp 21],#[26]⟩),
 oa 23 (.move (.const (.int .i64 (0))))]
theorem x64_5:XF 64 5 14680108 r64_5:=.mk
def r64_6:List Oper:=[bo 24 .lss 3 23 22]
theorem x64_6:XF 64 6 31457324 r64_6:=.mk
def r64_7:List Oper:=[mv 25 23,
 ia 26 26 21 23,
 ld 27 47 26,
 aq 6 3,
 aq 7 47,
 so 3 6 25,
 so 47 7 27]
theorem x64_7:XF 64 7 14680300 r64_7:=.mk
@[simp] theorem esc64_6:K.esc 64 6=false:=by kernel_rfl
@[simp] theorem esc64_7:K.esc 64 7=false:=by kernel_rfl
def r64_8:List Oper:=[fa 28 47 7 0,
 ld 29 22 28,
 oa 30 (.call ⟨.value (.func 132),#[.tmp 29],#[22]⟩)]
theorem x64_8:XF 64 8 1088422124 r64_8:=.mk
def r64_9:List Oper:=[sg 8 31]
theorem x64_9:XF 64 9 480 r64_9:=.mk
def r64_10:List Oper:=[ld 32 3 6,
 ld 33 99 5,
 oa 34 (.nilCheck (.tmp 33)),
 fa 35 105 34 1,
 ld 36 103 35,
 oa 37 (.call ⟨.builtin .len,#[.tmp 36],#[103]⟩),
 mv 38 8,
 ld 39 99 5,
 fa 40 47 7 1,
 ld 41 39 40,
 mv 42 8,
 oa 43 (.call ⟨.value (.func 133),#[.tmp 39,.tmp 41,.tmp 42],#[99,39,22]⟩),
 oa 44 (.buildSlice 106 1 #[(0,.tmp 43)]),
 oa 45 (.build 108 #[(0,.tmp 32),(1,.tmp 37),(2,.tmp 38),(3,.tmp 44)]),
 aq 9 108,
 so 108 9 45]
theorem x64_10:XP 64 10 928 [(0,1),(0,4),(0,5),(0,7),(1,7),(4,7),(5,7),(0,9),(1,9),(4,9),(5,9),(7,9),(0,11),(1,11),(4,11),(5,11),(0,12),(1,12),(4,12),(5,12),(0,14),(1,14),(4,14),(5,14),(7,14),(9,14),(11,14),(12,14)] r64_10:=.mk
@[simp] theorem imm64_44:K.imm 64 44=false:=by kernel_rfl
@[simp] theorem esc64_9:K.esc 64 9=false:=by kernel_rfl
def r64_11:List Oper:=[fa 46 47 7 2,
 ld 47 40 46,
 oa 48 (.call ⟨.builtin .len,#[.tmp 47],#[40]⟩),
 oa 49 (.move (.const (.int .i64 (0))))]
theorem x64_11:XF 64 11 985162418488096 r64_11:=.mk
def r64_12:List Oper:=[bo 50 .lss 3 49 48]
theorem x64_12:XF 64 12 2111062325330720 r64_12:=.mk
def r64_13:List Oper:=[ia 51 40 47 49,
 ld 52 39 51,
 aq 11 39,
 so 39 11 52]
theorem x64_13:XF 64 13 985162418490144 r64_13:=.mk
@[simp] theorem esc64_11:K.esc 64 11=false:=by kernel_rfl
def r64_14:List Oper:=[fa 53 108 9 3,
 ld 54 106 53,
 ld 55 99 5,
 ld 56 39 11,
 mv 57 8,
 oa 58 (.call ⟨.value (.func 133),#[.tmp 55,.tmp 56,.tmp 57],#[99,39,22]⟩),
 oa 59 (.buildSlice 106 1 #[(0,.tmp 58)]),
 oa 60 (.call ⟨.builtin .append,#[.tmp 54,.tmp 59],#[106,106]⟩),
 fa 61 108 9 3,
 so 106 61 60]
theorem x64_14:XP 64 14 985162418488096 [(1,2),(1,3),(2,3),(1,5),(1,6)] r64_14:=.mk
@[simp] theorem imm64_59:K.imm 64 59=false:=by kernel_rfl
@[simp] theorem esc64_60:K.esc 64 60=false:=by kernel_rfl
@[simp] theorem imm64_60:K.imm 64 60=false:=by kernel_rfl
def r64_15:List Oper:=[bk 62 .add 3 49 1,
 mv 49 62]
theorem x64_15:XF 64 15 985162418488096 r64_15:=.mk
def r64_16:List Oper:=[ld 63 99 5,
 ld 64 99 5,
 oa 65 (.nilCheck (.tmp 64)),
 fa 66 105 65 1,
 ld 67 103 66,
 ld 68 108 9,
 oa 69 (.buildSlice 103 1 #[(0,.tmp 68)]),
 oa 70 (.call ⟨.builtin .append,#[.tmp 67,.tmp 69],#[103,103]⟩),
 oa 71 (.nilCheck (.tmp 63)),
 fa 72 105 71 1,
 so 103 72 70]
theorem x64_16:XP 64 16 0 [(0,1),(0,4),(0,5),(1,5),(4,5),(0,6),(1,6),(4,6),(0,7)] r64_16:=.mk
@[simp] theorem imm64_69:K.imm 64 69=false:=by kernel_rfl
@[simp] theorem esc64_70:K.esc 64 70=true:=by kernel_rfl
@[simp] theorem imm64_70:K.imm 64 70=false:=by kernel_rfl
def r64_17:List Oper:=[bk 73 .add 3 23 1,
 mv 23 73]
theorem x64_17:XF 64 17 14680108 r64_17:=.mk
def r64_18:List Oper:=[ld 74 99 5,
 sg 2 74,
 oa 3 (.assign (.const (.int .i64 (0))))]
theorem x64_18:XF 64 18 12 r64_18:=.mk
def l64_0:Code:=.seq (rg 64 12) (.seq (.cond (.tmp 50) (.skip) (.exit 4)) (.seq (.block 5 (.seq (rg 64 13) (rd 64 14))) (rg 64 15)))
theorem u64_0 (s:St):execL K 64 l64_0 s=execL K 64 (.seq (rg 64 12) (.seq (.cond (.tmp 50) (.skip) (.exit 4)) (.seq (.block 5 (.seq (rg 64 13) (rd 64 14))) (rg 64 15)))) s:=rfl
def a64_1:Code:=rg 64 9
def d64_1:Code:=.block 3 (.seq (rd 64 10) (.seq (.seq (rg 64 11) (.block 4 (.loop l64_0))) (rd 64 16)))
def l64_2:Code:=.seq (rg 64 6) (.seq (.cond (.tmp 24) (.skip) (.exit 0)) (.seq (.block 1 (.seq (rg 64 7) (.seq (rg 64 8) (.block 2 (.rangeFunc (.tmp 30) #[31] a64_1 d64_1))))) (rg 64 17)))
theorem u64_2 (s:St):execL K 64 l64_2 s=execL K 64 (.seq (rg 64 6) (.seq (.cond (.tmp 24) (.skip) (.exit 0)) (.seq (.block 1 (.seq (rg 64 7) (.seq (rg 64 8) (.block 2 (.rangeFunc (.tmp 30) #[31] a64_1 d64_1))))) (rg 64 17)))) s:=rfl
def c64:Code:=.seq (rg 64 0) (.seq (.seq (rg 64 1) (.seq (rg 64 2) (.cond (.tmp 15) (.seq (rg 64 3) (.ret)) (.skip)))) (.seq (rg 64 4) (.seq (.seq (rg 64 5) (.block 0 (.loop l64_2))) (.seq (rg 64 18) (.ret)))))
theorem k64:KF 64 [.tmp 2,.tmp 3] 1 c64:=.mk
def r190_0:List Oper:=[bx 2 49 0]
theorem x190_0:XF 190 0 6 r190_0:=.mk
@[simp] theorem esc190_2:K.esc 190 2=true:=by kernel_rfl
def r190_1:List Oper:=[aq 3 49]
theorem x190_1:XF 190 1 14 r190_1:=.mk
@[simp] theorem esc190_3:K.esc 190 3=true:=by kernel_rfl
def r190_2:List Oper:=[oa 4 (.makeFunc (.func 191) #[] #[.tmp 1,.tmp 2,.tmp 3]),
 so 49 3 4]
theorem x190_2:XF 190 2 8 r190_2:=.mk
def r190_3:List Oper:=[ld 5 49 3,
 oa 6 (.call ⟨.value (.tmp 5),#[.const (.slice none 0 0)],#[22]⟩)]
theorem x190_3:XF 190 3 0 r190_3:=.mk
def c190:Code:=.seq (rg 190 0) (.seq (rg 190 1) (.seq (rg 190 2) (rg 190 3)))
theorem k190:KF 190 [] 1 c190:=.mk
def r132_0:List Oper:=[bx 1 22 0,
 oa 2 (.assign (.const (.nilFunc)))]
theorem x132_0:XF 132 0 2 r132_0:=.mk
@[simp] theorem esc132_1:K.esc 132 1=true:=by kernel_rfl
def r132_1:List Oper:=[oa 3 (.makeFunc (.func 190) #[] #[.tmp 1]),
 sg 2 3]
theorem x132_1:XF 132 1 4 r132_1:=.mk
def c132:Code:=.seq (rg 132 0) (.seq (rg 132 1) (.ret))
theorem k132:KF 132 [.tmp 2] 1 c132:=.mk
def r97_0:List Oper:=[oa 6 (.assign (.const (.bool false)))]
theorem x97_0:XF 97 0 7 r97_0:=.mk
def r97_1:List Oper:=[mv 7 1,
 mv 8 0,
 bo 9 .leq 3 7 8,
 mv 10 9,
 og 11 3 true (.move (.tmp 0)),
 og 12 3 true (.move (.tmp 2)),
 og 13 3 true (.binOp .leq 3 (.tmp 11) (.tmp 12) 3),
 oa 14 (.pick (.tmp 10) (.tmp 13) (.const (.bool false))),
 sg 6 14]
theorem x97_1:XF 97 1 64 r97_1:=.mk
def c97:Code:=.seq (rg 97 0) (.seq (rg 97 1) (.ret))
theorem k97:KF 97 [.tmp 6] 1 c97:=.mk
def r68_0:List Oper:=[oa 4 (.assign (.const (.bool false)))]
theorem x68_0:XF 68 0 3 r68_0:=.mk
def r68_1:List Oper:=[mv 5 1,
 mv 6 0,
 oa 7 (.nilCheck (.tmp 6)),
 fa 8 105 7 0,
 fa 9 28 8 1,
 ld 10 26 9,
 oa 11 (.call ⟨.builtin .len,#[.tmp 10],#[26]⟩),
 bk 12 .sub 3 11 1,
 oa 13 (.call ⟨.value (.func 97),#[.tmp 5,.const (.int .i64 (0)),.tmp 12],#[3,3,3]⟩),
 sg 4 13]
theorem x68_1:XF 68 1 16 r68_1:=.mk
def c68:Code:=.seq (rg 68 0) (.seq (rg 68 1) (.ret))
theorem k68:KF 68 [.tmp 4] 1 c68:=.mk
def r93_0:List Oper:=[oa 6 (.assign (.const (.bool false)))]
theorem x93_0:XF 93 0 7 r93_0:=.mk
def r93_1:List Oper:=[mv 7 0,
 mv 8 1,
 oa 9 (.call ⟨.value (.func 68),#[.tmp 7,.tmp 8],#[99,3]⟩),
 mv 10 9,
 og 11 3 true (.move (.tmp 2)),
 og 12 3 true (.move (.tmp 0)),
 og 13 3 true (.nilCheck (.tmp 12)),
 og 14 3 true (.fieldAddr 105 (.tmp 13) 0),
 og 15 3 true (.fieldAddr 28 (.tmp 14) 1),
 og 16 3 true (.load 26 (.tmp 15)),
 og 17 3 true (.move (.tmp 1)),
 og 18 3 true (.indexAddr 26 (.tmp 16) (.tmp 17)),
 og 19 3 true (.fieldAddr 47 (.tmp 18) 2),
 og 20 3 true (.load 40 (.tmp 19)),
 og 21 3 true (.call ⟨.builtin .len,#[.tmp 20],#[40]⟩),
 og 22 3 true (.call ⟨.value (.func 97),#[.tmp 11,.const (.int .i64 (0)),.tmp 21],#[3,3,3]⟩),
 oa 23 (.pick (.tmp 10) (.tmp 22) (.const (.bool false))),
 sg 6 23]
theorem x93_1:XF 93 1 64 r93_1:=.mk
def c93:Code:=.seq (rg 93 0) (.seq (rg 93 1) (.ret))
theorem k93:KF 93 [.tmp 6] 1 c93:=.mk
def r80_0:List Oper:=[bx 5 28 0,
 oa 10 (.assign (.const (.pointer none))),
 oa 11 (.assign (.const (.int .i64 (0))))]
theorem x80_0:XF 80 0 62 r80_0:=.mk
@[simp] theorem esc80_5:K.esc 80 5=false:=by kernel_rfl
def r80_1:List Oper:=[ld 15 28 5,
 oa 16 (.call ⟨.value (.func 64),#[.tmp 15],#[28]⟩),
 mv 14 16,
 xt 17 14 0,
 xt 18 14 1,
 sg 12 17,
 sg 13 18]
theorem x80_1:XF 80 1 12318 r80_1:=.mk
def r80_2:List Oper:=[mv 19 13,
 bk 20 .neq 30 19 0]
theorem x80_2:XF 80 2 1060894 r80_2:=.mk
def r80_3:List Oper:=[mv 21 13,
 oa 10 (.assign (.const (.pointer none))),
 sg 11 21]
theorem x80_3:XF 80 3 3072 r80_3:=.mk
def r80_4:List Oper:=[mv 22 12,
 mv 23 1,
 mv 24 2,
 oa 25 (.call ⟨.value (.func 93),#[.tmp 22,.tmp 23,.tmp 24],#[99,3,3]⟩),
 oa 26 (.unOp .not 4 (.tmp 25)),
 mv 27 26,
 og 28 5 false (.move (.tmp 12)),
 og 29 5 false (.move (.tmp 3)),
 og 30 5 false (.move (.tmp 4)),
 og 31 5 false (.call ⟨.value (.func 93),#[.tmp 28,.tmp 29,.tmp 30],#[99,3,3]⟩),
 og 32 5 false (.unOp .not 4 (.tmp 31)),
 oa 33 (.pick (.tmp 27) (.const (.bool true)) (.tmp 32))]
theorem x80_4:XF 80 4 8589938688 r80_4:=.mk
def r80_5:List Oper:=[oa 10 (.assign (.const (.pointer none))),
 oa 11 (.assign (.const (.int .i64 (3))))]
theorem x80_5:XF 80 5 3072 r80_5:=.mk
def r80_6:List Oper:=[mv 34 12,
 sg 10 34,
 oa 11 (.assign (.const (.int .i64 (0))))]
theorem x80_6:XF 80 6 3072 r80_6:=.mk
def c80:Code:=.seq (rg 80 0) (.seq (rg 80 1) (.seq (.seq (rg 80 2) (.cond (.tmp 20) (.seq (rg 80 3) (.ret)) (.skip))) (.seq (.seq (rg 80 4) (.cond (.tmp 33) (.seq (rg 80 5) (.ret)) (.skip))) (.seq (rg 80 6) (.ret)))))
theorem k80:KF 80 [.tmp 10,.tmp 11] 1 c80:=.mk
def r150_0:List Oper:=[aq 6 39]
theorem x150_0:XF 150 0 71 r150_0:=.mk
@[simp] theorem esc150_6:K.esc 150 6=false:=by kernel_rfl
def r150_1:List Oper:=[mv 7 2,
 bk 8 .eql 3 7 0]
theorem x150_1:XF 150 1 327 r150_1:=.mk
def r150_2:List Oper:=[mv 9 0,
 oa 10 (.nilCheck (.tmp 9)),
 fa 11 105 10 0,
 fa 12 28 11 1,
 ld 13 26 12,
 mv 14 1,
 ia 15 26 13 14,
 fa 16 47 15 1,
 ld 17 39 16,
 so 39 6 17]
theorem x150_2:XF 150 2 64 r150_2:=.mk
def r150_3:List Oper:=[mv 18 0,
 oa 19 (.nilCheck (.tmp 18)),
 fa 20 105 19 0,
 fa 21 28 20 1,
 ld 22 26 21,
 mv 23 1,
 ia 24 26 22 23,
 fa 25 47 24 2,
 ld 26 40 25,
 mv 27 2,
 bk 28 .sub 3 27 1,
 ia 29 40 26 28,
 ld 30 39 29,
 so 39 6 30]
theorem x150_3:XF 150 3 64 r150_3:=.mk
def c150:Code:=.seq (rg 150 0) (.seq (.seq (rg 150 1) (.cond (.tmp 8) (.seq (rg 150 2) (.ret)) (.skip))) (.seq (rg 150 3) (.ret)))
theorem k150:KF 150 [.cell 6 39] 1 c150:=.mk
def r84_0:List Oper:=[bx 5 28 0,
 oa 10 (.assign (.const (.pointer none))),
 oa 11 (.assign (.const (.int .i64 (0))))]
theorem x84_0:XF 84 0 62 r84_0:=.mk
@[simp] theorem esc84_5:K.esc 84 5=false:=by kernel_rfl
def r84_1:List Oper:=[ld 15 28 5,
 mv 16 1,
 mv 17 2,
 mv 18 3,
 mv 19 4,
 oa 20 (.call ⟨.value (.func 80),#[.tmp 15,.tmp 16,.tmp 17,.tmp 18,.tmp 19],#[28,3,3,3,3]⟩),
 mv 14 20,
 xt 21 14 0,
 xt 22 14 1,
 sg 12 21,
 sg 13 22]
theorem x84_1:XF 84 1 12318 r84_1:=.mk
def r84_2:List Oper:=[mv 23 13,
 bk 24 .eql 30 23 0,
 mv 25 24,
 og 26 2 true (.move (.tmp 12)),
 og 27 2 true (.move (.tmp 1)),
 og 28 2 true (.move (.tmp 2)),
 og 29 2 true (.call ⟨.value (.func 150),#[.tmp 26,.tmp 27,.tmp 28],#[99,3,3]⟩),
 og 30 2 true (.field 39 (.tmp 29) 0),
 og 31 2 true (.move (.tmp 12)),
 og 32 2 true (.move (.tmp 3)),
 og 33 2 true (.move (.tmp 4)),
 og 34 2 true (.call ⟨.value (.func 150),#[.tmp 31,.tmp 32,.tmp 33],#[99,3,3]⟩),
 og 35 2 true (.field 39 (.tmp 34) 0),
 og 36 2 true (.binOp .neq 3 (.tmp 30) (.tmp 35) 3),
 oa 37 (.pick (.tmp 25) (.tmp 36) (.const (.bool false)))]
theorem x84_2:XF 84 2 137438965760 r84_2:=.mk
def r84_3:List Oper:=[oa 10 (.assign (.const (.pointer none))),
 oa 11 (.assign (.const (.int .i64 (9))))]
theorem x84_3:XF 84 3 3072 r84_3:=.mk
def r84_4:List Oper:=[mv 38 12,
 mv 39 13,
 sg 10 38,
 sg 11 39]
theorem x84_4:XF 84 4 3072 r84_4:=.mk
def c84:Code:=.seq (rg 84 0) (.seq (rg 84 1) (.seq (.seq (rg 84 2) (.cond (.tmp 37) (.seq (rg 84 3) (.ret)) (.skip))) (.seq (rg 84 4) (.ret))))
theorem k84:KF 84 [.tmp 10,.tmp 11] 1 c84:=.mk
def r85_0:List Oper:=[oa 10 (.assign (.const (.slice none 0 0)))]
theorem x85_0:XF 85 0 31 r85_0:=.mk
def r85_1:List Oper:=[oa 11 (.assign (.const (.slice none 0 0)))]
theorem x85_1:XF 85 1 2079 r85_1:=.mk
def r85_2:List Oper:=[mv 20 0,
 mv 21 1,
 mv 22 2,
 oa 23 (.call ⟨.value (.func 150),#[.tmp 20,.tmp 21,.tmp 22],#[99,3,3]⟩),
 mv 24 0,
 mv 25 3,
 mv 26 4,
 oa 27 (.call ⟨.value (.func 150),#[.tmp 24,.tmp 25,.tmp 26],#[99,3,3]⟩),
 aq 12 39,
 aq 13 39,
 so 39 12 23,
 so 39 13 27]
theorem x85_2:XF 85 2 14347 r85_2:=.mk
@[simp] theorem esc85_12:K.esc 85 12=false:=by kernel_rfl
@[simp] theorem esc85_13:K.esc 85 13=false:=by kernel_rfl
def r85_3:List Oper:=[fa 28 39 12 1,
 ld 29 37 28,
 oa 30 (.call ⟨.builtin .len,#[.tmp 29],#[37]⟩),
 oa 31 (.move (.const (.int .i64 (0))))]
theorem x85_3:XF 85 3 3221239819 r85_3:=.mk
def r85_4:List Oper:=[bo 32 .lss 3 31 30]
theorem x85_4:XF 85 4 7516207115 r85_4:=.mk
def r85_5:List Oper:=[mv 33 31,
 sg 14 33]
theorem x85_5:XF 85 5 3221256203 r85_5:=.mk
def r85_6:List Oper:=[fa 34 39 12 1,
 ld 35 37 34,
 mv 36 14,
 ia 37 37 35 36,
 fa 38 142 37 0,
 ld 39 3 38,
 fa 40 39 13 1,
 ld 41 37 40,
 mv 42 14,
 ia 43 37 41 42,
 fa 44 142 43 0,
 ld 45 3 44,
 bo 46 .sub 3 39 45,
 oa 47 (.build 138 #[(0,.tmp 46)]),
 aq 15 138,
 so 138 15 47]
theorem x85_6:XP 85 6 3221288971 [(1,7),(5,7),(1,11),(5,11),(1,14),(5,14),(7,14),(11,14)] r85_6:=.mk
@[simp] theorem esc85_15:K.esc 85 15=false:=by kernel_rfl
def r85_7:List Oper:=[fa 48 39 12 1,
 ld 49 37 48,
 mv 50 14,
 ia 51 37 49 50,
 fa 52 142 51 1,
 ld 53 22 52,
 oa 54 (.call ⟨.builtin .len,#[.tmp 53],#[22]⟩),
 oa 55 (.move (.const (.int .i64 (0))))]
theorem x85_7:XF 85 7 63050398004475915 r85_7:=.mk
def r85_8:List Oper:=[bo 56 .lss 3 55 54]
theorem x85_8:XF 85 8 135107992042403851 r85_8:=.mk
def r85_9:List Oper:=[mv 57 55,
 ia 58 22 53 55,
 ld 59 3 58,
 sg 16 57,
 sg 17 59]
theorem x85_9:XF 85 9 63050398004672523 r85_9:=.mk
def r85_10:List Oper:=[fa 60 138 15 1,
 ld 61 136 60,
 mv 62 17,
 mv 63 0,
 oa 64 (.nilCheck (.tmp 63)),
 fa 65 105 64 0,
 fa 66 28 65 1,
 ld 67 26 66,
 mv 68 1,
 ia 69 26 67 68,
 fa 70 47 69 0,
 ld 71 22 70,
 mv 72 16,
 ia 73 22 71 72,
 ld 74 3 73,
 bk 75 .sub 3 74 1,
 oa 76 (.build 204 #[(0,.tmp 62),(1,.tmp 75)]),
 oa 77 (.buildSlice 136 1 #[(0,.tmp 76)]),
 oa 78 (.call ⟨.builtin .append,#[.tmp 61,.tmp 77],#[136,136]⟩),
 fa 79 138 15 1,
 so 136 79 78]
theorem x85_10:XP 85 10 63050398004475915 [(1,7),(1,11),(1,14),(1,17)] r85_10:=.mk
@[simp] theorem imm85_77:K.imm 85 77=false:=by kernel_rfl
@[simp] theorem esc85_78:K.esc 85 78=false:=by kernel_rfl
@[simp] theorem imm85_78:K.imm 85 78=false:=by kernel_rfl
def r85_11:List Oper:=[bk 80 .add 3 55 1,
 mv 55 80]
theorem x85_11:XF 85 11 63050398004475915 r85_11:=.mk
def r85_12:List Oper:=[fa 81 39 13 1,
 ld 82 37 81,
 mv 83 14,
 ia 84 37 82 83,
 fa 85 142 84 1,
 ld 86 22 85,
 oa 87 (.call ⟨.builtin .len,#[.tmp 86],#[22]⟩),
 oa 88 (.move (.const (.int .i64 (0))))]
theorem x85_12:XF 85 12 541598767187353873489639435 r85_12:=.mk
def r85_13:List Oper:=[bo 89 .lss 3 88 87]
theorem x85_13:XF 85 13 1160568786830044010939201547 r85_13:=.mk
def r85_14:List Oper:=[mv 90 88,
 ia 91 22 86 88,
 ld 92 3 91,
 sg 18 90,
 sg 19 92]
theorem x85_14:XF 85 14 541598767187353873490425867 r85_14:=.mk
def r85_15:List Oper:=[fa 93 138 15 1,
 ld 94 136 93,
 mv 95 19,
 oa 96 (.unOp .neg 3 (.tmp 95)),
 mv 97 0,
 oa 98 (.nilCheck (.tmp 97)),
 fa 99 105 98 0,
 fa 100 28 99 1,
 ld 101 26 100,
 mv 102 3,
 ia 103 26 101 102,
 fa 104 47 103 0,
 ld 105 22 104,
 mv 106 18,
 ia 107 22 105 106,
 ld 108 3 107,
 bk 109 .sub 3 108 1,
 oa 110 (.build 204 #[(0,.tmp 96),(1,.tmp 109)]),
 oa 111 (.buildSlice 136 1 #[(0,.tmp 110)]),
 oa 112 (.call ⟨.builtin .append,#[.tmp 94,.tmp 111],#[136,136]⟩),
 fa 113 138 15 1,
 so 136 113 112]
theorem x85_15:XP 85 15 541598767187353873489639435 [(1,8),(1,12),(1,15),(1,18)] r85_15:=.mk
@[simp] theorem imm85_111:K.imm 85 111=false:=by kernel_rfl
@[simp] theorem esc85_112:K.esc 85 112=false:=by kernel_rfl
@[simp] theorem imm85_112:K.imm 85 112=false:=by kernel_rfl
def r85_16:List Oper:=[bk 114 .add 3 88 1,
 mv 88 114]
theorem x85_16:XF 85 16 541598767187353873489639435 r85_16:=.mk
def r85_17:List Oper:=[mv 115 11,
 ld 116 138 15,
 oa 117 (.buildSlice 134 1 #[(0,.tmp 116)]),
 oa 118 (.call ⟨.builtin .append,#[.tmp 115,.tmp 117],#[134,134]⟩),
 sg 11 118]
theorem x85_17:XF 85 17 3221239819 r85_17:=.mk
@[simp] theorem imm85_117:K.imm 85 117=false:=by kernel_rfl
@[simp] theorem esc85_118:K.esc 85 118=false:=by kernel_rfl
@[simp] theorem imm85_118:K.imm 85 118=false:=by kernel_rfl
def r85_18:List Oper:=[bk 119 .add 3 31 1,
 mv 31 119]
theorem x85_18:XF 85 18 3221239819 r85_18:=.mk
def r85_19:List Oper:=[mv 120 11,
 sg 10 120]
theorem x85_19:XF 85 19 1024 r85_19:=.mk
def l85_0:Code:=.seq (rg 85 8) (.seq (.cond (.tmp 56) (.skip) (.exit 2)) (.seq (.block 3 (.seq (rg 85 9) (rd 85 10))) (rg 85 11)))
theorem u85_0 (s:St):execL K 85 l85_0 s=execL K 85 (.seq (rg 85 8) (.seq (.cond (.tmp 56) (.skip) (.exit 2)) (.seq (.block 3 (.seq (rg 85 9) (rd 85 10))) (rg 85 11)))) s:=rfl
def l85_1:Code:=.seq (rg 85 13) (.seq (.cond (.tmp 89) (.skip) (.exit 4)) (.seq (.block 5 (.seq (rg 85 14) (rd 85 15))) (rg 85 16)))
theorem u85_1 (s:St):execL K 85 l85_1 s=execL K 85 (.seq (rg 85 13) (.seq (.cond (.tmp 89) (.skip) (.exit 4)) (.seq (.block 5 (.seq (rg 85 14) (rd 85 15))) (rg 85 16)))) s:=rfl
def l85_2:Code:=.seq (rg 85 4) (.seq (.cond (.tmp 32) (.skip) (.exit 0)) (.seq (.block 1 (.seq (rg 85 5) (.seq (rd 85 6) (.seq (.seq (rg 85 7) (.block 2 (.loop l85_0))) (.seq (.seq (rg 85 12) (.block 4 (.loop l85_1))) (rg 85 17)))))) (rg 85 18)))
theorem u85_2 (s:St):execL K 85 l85_2 s=execL K 85 (.seq (rg 85 4) (.seq (.cond (.tmp 32) (.skip) (.exit 0)) (.seq (.block 1 (.seq (rg 85 5) (.seq (rd 85 6) (.seq (.seq (rg 85 7) (.block 2 (.loop l85_0))) (.seq (.seq (rg 85 12) (.block 4 (.loop l85_1))) (rg 85 17)))))) (rg 85 18)))) s:=rfl
def c85:Code:=.seq (rg 85 0) (.seq (rg 85 1) (.seq (rg 85 2) (.seq (.seq (rg 85 3) (.block 0 (.loop l85_2))) (.seq (rg 85 19) (.ret)))))
theorem k85:KF 85 [.tmp 10] 1 c85:=.mk
def r151_0:List Oper:=[oa 4 (.assign (.const (.int .i64 (0))))]
theorem x151_0:XF 151 0 3 r151_0:=.mk
def r151_1:List Oper:=[mv 5 1,
 bk 6 .neq 3 5 0]
theorem x151_1:XF 151 1 67 r151_1:=.mk
def r151_2:List Oper:=[mv 7 1,
 mv 8 0,
 mv 9 1,
 bo 10 .rem 3 8 9,
 sg 0 7,
 sg 1 10]
theorem x151_2:XD 151 2 3 r151_2:=.mk
def r151_3:List Oper:=[mv 11 0,
 mv 12 0,
 oa 13 (.unOp .neg 3 (.tmp 12)),
 oa 14 (.call ⟨.builtin .max,#[.tmp 11,.tmp 13],#[3,3]⟩),
 sg 4 14]
theorem x151_3:XF 151 3 16 r151_3:=.mk
def l151_0:Code:=.seq (.seq (rg 151 1) (.cond (.tmp 6) (.skip) (.exit 0))) (.block 1 (rd 151 2))
theorem u151_0 (s:St):execL K 151 l151_0 s=execL K 151 (.seq (.seq (rg 151 1) (.cond (.tmp 6) (.skip) (.exit 0))) (.block 1 (rd 151 2))) s:=rfl
def c151:Code:=.seq (rg 151 0) (.seq (.block 0 (.loop l151_0)) (.seq (rg 151 3) (.ret)))
theorem k151:KF 151 [.tmp 4] 1 c151:=.mk
def r86_0:List Oper:=[bx 1 138 0,
 oa 2 (.assign (.const (.int .i64 (0)))),
 oa 3 (.assign (.const (.bool false)))]
theorem x86_0:XF 86 0 2 r86_0:=.mk
@[simp] theorem esc86_1:K.esc 86 1=false:=by kernel_rfl
def r86_1:List Oper:=[oa 4 (.assign (.const (.int .i64 (0))))]
theorem x86_1:XF 86 1 18 r86_1:=.mk
def r86_2:List Oper:=[fa 7 138 1 1,
 ld 8 136 7,
 oa 9 (.call ⟨.builtin .len,#[.tmp 8],#[136]⟩),
 oa 10 (.move (.const (.int .i64 (0))))]
theorem x86_2:XF 86 2 1810 r86_2:=.mk
def r86_3:List Oper:=[bo 11 .lss 3 10 9]
theorem x86_3:XF 86 3 3858 r86_3:=.mk
def r86_4:List Oper:=[ia 12 136 8 10,
 ld 13 204 12,
 aq 6 204,
 so 204 6 13]
theorem x86_4:XF 86 4 1874 r86_4:=.mk
@[simp] theorem esc86_6:K.esc 86 6=false:=by kernel_rfl
def r86_5:List Oper:=[mv 14 4,
 fa 15 204 6 0,
 ld 16 3 15,
 oa 17 (.call ⟨.value (.func 151),#[.tmp 14,.tmp 16],#[3,3]⟩),
 sg 4 17]
theorem x86_5:XF 86 5 1810 r86_5:=.mk
def r86_6:List Oper:=[bk 18 .add 3 10 1,
 mv 10 18]
theorem x86_6:XF 86 6 1810 r86_6:=.mk
def r86_7:List Oper:=[mv 19 4,
 bk 20 .eql 3 19 0]
theorem x86_7:XF 86 7 1048594 r86_7:=.mk
def r86_8:List Oper:=[fa 21 138 1 0,
 ld 22 3 21,
 bk 23 .neq 3 22 0,
 oa 2 (.assign (.const (.int .i64 (0)))),
 sg 3 23]
theorem x86_8:XD 86 8 12 r86_8:=.mk
def r86_9:List Oper:=[mv 24 4,
 fa 25 138 1 0,
 ld 26 3 25,
 mv 27 4,
 bo 28 .rem 3 26 27,
 bk 29 .neq 3 28 0,
 sg 2 24,
 sg 3 29]
theorem x86_9:XD 86 9 12 r86_9:=.mk
def l86_0:Code:=.seq (rg 86 3) (.seq (.cond (.tmp 11) (.skip) (.exit 0)) (.seq (.block 1 (.seq (rg 86 4) (rg 86 5))) (rg 86 6)))
theorem u86_0 (s:St):execL K 86 l86_0 s=execL K 86 (.seq (rg 86 3) (.seq (.cond (.tmp 11) (.skip) (.exit 0)) (.seq (.block 1 (.seq (rg 86 4) (rg 86 5))) (rg 86 6)))) s:=rfl
def c86:Code:=.seq (rg 86 0) (.seq (rg 86 1) (.seq (.seq (rg 86 2) (.block 0 (.loop l86_0))) (.seq (.seq (rg 86 7) (.cond (.tmp 20) (.seq (rd 86 8) (.ret)) (.skip))) (.seq (rd 86 9) (.ret)))))
theorem k86:KF 86 [.tmp 2,.tmp 3] 1 c86:=.mk
def r89_0:List Oper:=[bx 1 138 0,
 oa 2 (.assign (.const (.int .i64 (0)))),
 oa 3 (.assign (.const (.int .i64 (0))))]
theorem x89_0:XF 89 0 2 r89_0:=.mk
@[simp] theorem esc89_1:K.esc 89 1=false:=by kernel_rfl
def r89_1:List Oper:=[fa 6 138 1 0,
 ld 7 3 6,
 fa 8 138 1 0,
 ld 9 3 8,
 sg 2 7,
 sg 3 9]
theorem x89_1:XP 89 1 14 [(1,3)] r89_1:=.mk
def r89_2:List Oper:=[fa 10 138 1 1,
 ld 11 136 10,
 oa 12 (.call ⟨.builtin .len,#[.tmp 11],#[136]⟩),
 oa 13 (.move (.const (.int .i64 (0))))]
theorem x89_2:XF 89 2 14348 r89_2:=.mk
def r89_3:List Oper:=[bo 14 .lss 3 13 12]
theorem x89_3:XF 89 3 30732 r89_3:=.mk
def r89_4:List Oper:=[ia 15 136 11 13,
 ld 16 204 15,
 aq 5 204,
 so 204 5 16]
theorem x89_4:XF 89 4 14380 r89_4:=.mk
@[simp] theorem esc89_5:K.esc 89 5=false:=by kernel_rfl
def r89_5:List Oper:=[mv 17 2,
 fa 18 204 5 0,
 ld 19 3 18,
 fa 20 204 5 1,
 ld 21 3 20,
 bo 22 .mul 3 19 21,
 oa 23 (.call ⟨.builtin .min,#[.const (.int .i64 (0)),.tmp 22],#[3,3]⟩),
 bo 24 .add 3 17 23,
 mv 25 3,
 fa 26 204 5 0,
 ld 27 3 26,
 fa 28 204 5 1,
 ld 29 3 28,
 bo 30 .mul 3 27 29,
 oa 31 (.call ⟨.builtin .max,#[.const (.int .i64 (0)),.tmp 30],#[3,3]⟩),
 bo 32 .add 3 25 31,
 sg 2 24,
 sg 3 32]
theorem x89_5:XP 89 5 14348 [(2,4),(2,10),(4,10),(2,12),(4,12),(10,12)] r89_5:=.mk
def r89_6:List Oper:=[bk 33 .add 3 13 1,
 mv 13 33]
theorem x89_6:XF 89 6 14348 r89_6:=.mk
def r89_7:List Oper:=[mv 34 2,
 mv 35 3,
 sg 2 34,
 sg 3 35]
theorem x89_7:XF 89 7 12 r89_7:=.mk
def l89_0:Code:=.seq (rg 89 3) (.seq (.cond (.tmp 14) (.skip) (.exit 0)) (.seq (.block 1 (.seq (rg 89 4) (rd 89 5))) (rg 89 6)))
theorem u89_0 (s:St):execL K 89 l89_0 s=execL K 89 (.seq (rg 89 3) (.seq (.cond (.tmp 14) (.skip) (.exit 0)) (.seq (.block 1 (.seq (rg 89 4) (rd 89 5))) (rg 89 6)))) s:=rfl
def c89:Code:=.seq (rg 89 0) (.seq (rd 89 1) (.seq (.seq (rg 89 2) (.block 0 (.loop l89_0))) (.seq (rg 89 7) (.ret))))
theorem k89:KF 89 [.tmp 2,.tmp 3] 1 c89:=.mk
def r32_0:List Oper:=[bx 5 28 0,
 oa 10 (.assign (.const (.int .i64 (0)))),
 oa 11 (.assign (.const (.int .i64 (0)))),
 oa 12 (.assign (.const (.int .i64 (0))))]
theorem x32_0:XF 32 0 62 r32_0:=.mk
@[simp] theorem esc32_5:K.esc 32 5=false:=by kernel_rfl
def r32_1:List Oper:=[ld 19 28 5,
 mv 20 1,
 mv 21 2,
 mv 22 3,
 mv 23 4,
 oa 24 (.call ⟨.value (.func 84),#[.tmp 19,.tmp 20,.tmp 21,.tmp 22,.tmp 23],#[28,3,3,3,3]⟩),
 mv 18 24,
 xt 25 18 0,
 xt 26 18 1,
 sg 13 25,
 sg 12 26]
theorem x32_1:XF 32 1 12318 r32_1:=.mk
def r32_2:List Oper:=[mv 27 12,
 bk 28 .neq 30 27 0]
theorem x32_2:XF 32 2 268447774 r32_2:=.mk
def r32_3:List Oper:=[mv 29 12,
 oa 10 (.assign (.const (.int .i64 (0)))),
 oa 11 (.assign (.const (.int .i64 (0)))),
 sg 12 29]
theorem x32_3:XF 32 3 7168 r32_3:=.mk
def r32_4:List Oper:=[mv 30 13,
 mv 31 1,
 mv 32 2,
 mv 33 3,
 mv 34 4,
 oa 35 (.call ⟨.value (.func 85),#[.tmp 30,.tmp 31,.tmp 32,.tmp 33,.tmp 34],#[99,3,3,3,3]⟩),
 oa 36 (.call ⟨.builtin .len,#[.tmp 35],#[134]⟩),
 oa 37 (.move (.const (.int .i64 (0))))]
theorem x32_4:XF 32 4 240518168576 r32_4:=.mk
def r32_5:List Oper:=[bo 38 .lss 3 37 36]
theorem x32_5:XF 32 5 515396075520 r32_5:=.mk
def r32_6:List Oper:=[mv 39 37,
 ia 40 134 35 37,
 ld 41 138 40,
 aq 15 138,
 sg 14 39,
 so 138 15 41]
theorem x32_6:XF 32 6 240518217728 r32_6:=.mk
@[simp] theorem esc32_15:K.esc 32 15=false:=by kernel_rfl
def r32_7:List Oper:=[ld 43 138 15,
 oa 44 (.call ⟨.value (.func 86),#[.tmp 43],#[138]⟩),
 mv 42 44,
 xt 45 42 0,
 xt 46 42 1,
 sg 16 45,
 sg 17 46]
theorem x32_7:XF 32 7 240518381568 r32_7:=.mk
def r32_8:List Oper:=[mv 47 17]
theorem x32_8:XF 32 8 140978006605824 r32_8:=.mk
def r32_9:List Oper:=[mv 48 14,
 mv 49 16,
 sg 10 48,
 sg 11 49,
 oa 12 (.assign (.const (.int .i64 (0))))]
theorem x32_9:XF 32 9 7168 r32_9:=.mk
def r32_10:List Oper:=[bk 50 .add 3 37 1,
 mv 37 50]
theorem x32_10:XF 32 10 240518168576 r32_10:=.mk
def r32_11:List Oper:=[oa 10 (.assign (.const (.int .i64 (0)))),
 oa 11 (.assign (.const (.int .i64 (0)))),
 oa 12 (.assign (.const (.int .i64 (14))))]
theorem x32_11:XF 32 11 7168 r32_11:=.mk
def l32_0:Code:=.seq (rg 32 5) (.seq (.cond (.tmp 38) (.skip) (.exit 0)) (.seq (.block 1 (.seq (rg 32 6) (.seq (rg 32 7) (.seq (rg 32 8) (.cond (.tmp 47) (.seq (rg 32 9) (.ret)) (.skip)))))) (rg 32 10)))
theorem u32_0 (s:St):execL K 32 l32_0 s=execL K 32 (.seq (rg 32 5) (.seq (.cond (.tmp 38) (.skip) (.exit 0)) (.seq (.block 1 (.seq (rg 32 6) (.seq (rg 32 7) (.seq (rg 32 8) (.cond (.tmp 47) (.seq (rg 32 9) (.ret)) (.skip)))))) (rg 32 10)))) s:=rfl
def c32:Code:=.seq (rg 32 0) (.seq (rg 32 1) (.seq (.seq (rg 32 2) (.cond (.tmp 28) (.seq (rg 32 3) (.ret)) (.skip))) (.seq (.seq (rg 32 4) (.block 0 (.loop l32_0))) (.seq (rg 32 11) (.ret)))))
theorem k32:KF 32 [.tmp 10,.tmp 11,.tmp 12] 1 c32:=.mk
def r34_0:List Oper:=[bx 5 28 0,
 oa 10 (.assign (.const (.int .i64 (0)))),
 oa 11 (.assign (.const (.int .i64 (0)))),
 oa 12 (.assign (.const (.int .i64 (0)))),
 oa 13 (.assign (.const (.int .i64 (0))))]
theorem x34_0:XF 34 0 62 r34_0:=.mk
@[simp] theorem esc34_5:K.esc 34 5=false:=by kernel_rfl
def r34_1:List Oper:=[ld 20 28 5,
 mv 21 1,
 mv 22 2,
 mv 23 3,
 mv 24 4,
 oa 25 (.call ⟨.value (.func 84),#[.tmp 20,.tmp 21,.tmp 22,.tmp 23,.tmp 24],#[28,3,3,3,3]⟩),
 mv 19 25,
 xt 26 19 0,
 xt 27 19 1,
 sg 14 26,
 sg 13 27]
theorem x34_1:XF 34 1 24606 r34_1:=.mk
def r34_2:List Oper:=[mv 28 13,
 bk 29 .neq 30 28 0]
theorem x34_2:XF 34 2 536895518 r34_2:=.mk
def r34_3:List Oper:=[mv 30 13,
 oa 10 (.assign (.const (.int .i64 (0)))),
 oa 11 (.assign (.const (.int .i64 (0)))),
 oa 12 (.assign (.const (.int .i64 (0)))),
 sg 13 30]
theorem x34_3:XF 34 3 15360 r34_3:=.mk
def r34_4:List Oper:=[mv 31 14,
 mv 32 1,
 mv 33 2,
 mv 34 3,
 mv 35 4,
 oa 36 (.call ⟨.value (.func 85),#[.tmp 31,.tmp 32,.tmp 33,.tmp 34,.tmp 35],#[99,3,3,3,3]⟩),
 oa 37 (.call ⟨.builtin .len,#[.tmp 36],#[134]⟩),
 oa 38 (.move (.const (.int .i64 (0))))]
theorem x34_4:XF 34 4 481036337152 r34_4:=.mk
def r34_5:List Oper:=[bo 39 .lss 3 38 37]
theorem x34_5:XF 34 5 1030792151040 r34_5:=.mk
def r34_6:List Oper:=[mv 40 38,
 ia 41 134 36 38,
 ld 42 138 41,
 aq 16 138,
 sg 15 40,
 so 138 16 42]
theorem x34_6:XF 34 6 481036435456 r34_6:=.mk
@[simp] theorem esc34_16:K.esc 34 16=false:=by kernel_rfl
def r34_7:List Oper:=[ld 44 138 16,
 oa 45 (.call ⟨.value (.func 89),#[.tmp 44],#[138]⟩),
 mv 43 45,
 xt 46 43 0,
 xt 47 43 1,
 sg 17 46,
 sg 18 47]
theorem x34_7:XF 34 7 481036763136 r34_7:=.mk
def r34_8:List Oper:=[mv 48 17,
 bk 49 .gtr 3 48 0,
 mv 50 49,
 og 51 2 false (.move (.tmp 18)),
 og 52 2 false (.binOp .lss 3 (.tmp 51) (.const (.int .i64 (0))) 3),
 oa 53 (.pick (.tmp 50) (.const (.bool true)) (.tmp 52))]
theorem x34_8:XF 34 8 9007680291504128 r34_8:=.mk
def r34_9:List Oper:=[mv 54 15,
 mv 55 17,
 mv 56 18,
 sg 10 54,
 sg 11 55,
 sg 12 56,
 oa 13 (.assign (.const (.int .i64 (0))))]
theorem x34_9:XF 34 9 15360 r34_9:=.mk
def r34_10:List Oper:=[bk 57 .add 3 38 1,
 mv 38 57]
theorem x34_10:XF 34 10 481036337152 r34_10:=.mk
def r34_11:List Oper:=[oa 10 (.assign (.const (.int .i64 (0)))),
 oa 11 (.assign (.const (.int .i64 (0)))),
 oa 12 (.assign (.const (.int .i64 (0)))),
 oa 13 (.assign (.const (.int .i64 (14))))]
theorem x34_11:XF 34 11 15360 r34_11:=.mk
def l34_0:Code:=.seq (rg 34 5) (.seq (.cond (.tmp 39) (.skip) (.exit 0)) (.seq (.block 1 (.seq (rg 34 6) (.seq (rg 34 7) (.seq (rg 34 8) (.cond (.tmp 53) (.seq (rg 34 9) (.ret)) (.skip)))))) (rg 34 10)))
theorem u34_0 (s:St):execL K 34 l34_0 s=execL K 34 (.seq (rg 34 5) (.seq (.cond (.tmp 39) (.skip) (.exit 0)) (.seq (.block 1 (.seq (rg 34 6) (.seq (rg 34 7) (.seq (rg 34 8) (.cond (.tmp 53) (.seq (rg 34 9) (.ret)) (.skip)))))) (rg 34 10)))) s:=rfl
def c34:Code:=.seq (rg 34 0) (.seq (rg 34 1) (.seq (.seq (rg 34 2) (.cond (.tmp 29) (.seq (rg 34 3) (.ret)) (.skip))) (.seq (.seq (rg 34 4) (.block 0 (.loop l34_0))) (.seq (rg 34 11) (.ret)))))
theorem k34:KF 34 [.tmp 10,.tmp 11,.tmp 12,.tmp 13] 1 c34:=.mk
def r30_0:List Oper:=[bx 5 28 0,
 oa 10 (.assign (.const (.slice none 0 0))),
 oa 11 (.assign (.const (.slice none 0 0))),
 oa 12 (.assign (.const (.int .i64 (0))))]
theorem x30_0:XF 30 0 62 r30_0:=.mk
@[simp] theorem esc30_5:K.esc 30 5=false:=by kernel_rfl
def r30_1:List Oper:=[ld 24 28 5,
 mv 25 1,
 mv 26 2,
 mv 27 3,
 mv 28 4,
 oa 29 (.call ⟨.value (.func 80),#[.tmp 24,.tmp 25,.tmp 26,.tmp 27,.tmp 28],#[28,3,3,3,3]⟩),
 mv 23 29,
 xt 30 23 0,
 xt 31 23 1,
 sg 13 30,
 sg 12 31]
theorem x30_1:XF 30 1 12318 r30_1:=.mk
def r30_2:List Oper:=[mv 32 12,
 bk 33 .neq 30 32 0]
theorem x30_2:XF 30 2 8589946910 r30_2:=.mk
def r30_3:List Oper:=[mv 34 12,
 oa 10 (.assign (.const (.slice none 0 0))),
 oa 11 (.assign (.const (.slice none 0 0))),
 sg 12 34]
theorem x30_3:XF 30 3 7168 r30_3:=.mk
def r30_4:List Oper:=[oa 35 (.makeMap 130 none),
 sg 14 35]
theorem x30_4:XF 30 4 24606 r30_4:=.mk
@[simp] theorem esc30_35:K.esc 30 35=false:=by kernel_rfl
def r30_5:List Oper:=[mv 36 13,
 oa 37 (.nilCheck (.tmp 36)),
 fa 38 105 37 1,
 ld 39 103 38,
 oa 40 (.call ⟨.builtin .len,#[.tmp 39],#[103]⟩),
 oa 41 (.move (.const (.int .i64 (0))))]
theorem x30_5:XF 30 5 3848290721822 r30_5:=.mk
def r30_6:List Oper:=[bo 42 .lss 3 41 40]
theorem x30_6:XF 30 6 8246337232926 r30_6:=.mk
def r30_7:List Oper:=[ia 43 103 39 41,
 ld 44 108 43,
 aq 16 108,
 so 108 16 44]
theorem x30_7:XF 30 7 3848290787358 r30_7:=.mk
@[simp] theorem esc30_16:K.esc 30 16=false:=by kernel_rfl
def r30_8:List Oper:=[fa 45 108 16 0,
 ld 46 3 45,
 mv 47 3,
 bo 48 .neq 3 46 47]
theorem x30_8:XF 30 8 285323267498014 r30_8:=.mk
def r30_9:List Oper:=[mv 50 14,
 fa 51 108 16 3,
 ld 52 106 51,
 mv 53 4,
 ia 54 106 52 53,
 ld 55 110 54,
 oa 56 (.lookup 130 (.tmp 50) (.tmp 55) true),
 mv 49 56,
 xt 57 49 0,
 xt 58 49 1,
 sg 17 57,
 sg 18 58]
theorem x30_9:XF 30 9 3848291049502 r30_9:=.mk
def r30_10:List Oper:=[mv 59 18,
 oa 60 (.unOp .not 4 (.tmp 59))]
theorem x30_10:XF 30 10 1152925352897634334 r30_10:=.mk
def r30_11:List Oper:=[mv 61 14,
 fa 62 108 16 3,
 ld 63 106 62,
 mv 64 4,
 ia 65 106 63 64,
 ld 66 110 65,
 fa 67 108 16 2,
 ld 68 22 67,
 on (.mapUpdate 130 (.tmp 61) (.tmp 66) (.tmp 68))]
theorem x30_11:XP 30 11 3848290721822 [(2,7),(5,7)] r30_11:=.mk
def r30_12:List Oper:=[bk 69 .add 3 41 1,
 mv 41 69]
theorem x30_12:XF 30 12 3848290721822 r30_12:=.mk
def r30_13:List Oper:=[mv 70 13,
 oa 71 (.nilCheck (.tmp 70)),
 fa 72 105 71 1,
 ld 73 103 72,
 oa 74 (.call ⟨.builtin .len,#[.tmp 73],#[103]⟩),
 oa 75 (.move (.const (.int .i64 (0))))]
theorem x30_13:XF 30 13 66113130760175033008134 r30_13:=.mk
def r30_14:List Oper:=[bo 76 .lss 3 75 74]
theorem x30_14:XF 30 14 141670994486089356427270 r30_14:=.mk
def r30_15:List Oper:=[ia 77 103 73 75,
 ld 78 108 77,
 aq 20 108,
 so 108 20 78]
theorem x30_15:XF 30 15 66113130760175034056710 r30_15:=.mk
@[simp] theorem esc30_20:K.esc 30 20=false:=by kernel_rfl
def r30_16:List Oper:=[fa 79 108 20 0,
 ld 80 3 79,
 mv 81 1,
 bo 82 .neq 3 80 81]
theorem x30_16:XF 30 16 4901816409218691732881414 r30_16:=.mk
def r30_17:List Oper:=[mv 84 14,
 fa 85 108 20 3,
 ld 86 106 85,
 mv 87 2,
 ia 88 106 86 87,
 ld 89 110 88,
 oa 90 (.lookup 130 (.tmp 84) (.tmp 89) true),
 mv 83 90,
 xt 91 83 0,
 xt 92 83 1,
 sg 21 91,
 sg 22 92]
theorem x30_17:XF 30 17 66113130760175040348166 r30_17:=.mk
def r30_18:List Oper:=[mv 93 22]
theorem x30_18:XF 30 18 9903586427413802374229147654 r30_18:=.mk
def r30_19:List Oper:=[fa 94 108 20 2,
 ld 95 22 94,
 oa 96 (.call ⟨.value (.func 81),#[.tmp 95],#[22]⟩),
 mv 97 21,
 oa 98 (.call ⟨.value (.func 81),#[.tmp 97],#[22]⟩),
 sg 10 96,
 sg 11 98,
 oa 12 (.assign (.const (.int .i64 (0))))]
theorem x30_19:XF 30 19 7168 r30_19:=.mk
def r30_20:List Oper:=[bk 99 .add 3 75 1,
 mv 75 99]
theorem x30_20:XF 30 20 66113130760175033008134 r30_20:=.mk
def r30_21:List Oper:=[oa 10 (.assign (.const (.slice none 0 0))),
 oa 11 (.assign (.const (.slice none 0 0))),
 oa 12 (.assign (.const (.int .i64 (14))))]
theorem x30_21:XF 30 21 7168 r30_21:=.mk
def l30_0:Code:=.seq (rg 30 6) (.seq (.cond (.tmp 42) (.skip) (.exit 0)) (.seq (.block 1 (.seq (rg 30 7) (.seq (.seq (rg 30 8) (.cond (.tmp 48) (.exit 1) (.skip))) (.seq (rg 30 9) (.seq (rg 30 10) (.cond (.tmp 60) (rd 30 11) (.skip))))))) (rg 30 12)))
theorem u30_0 (s:St):execL K 30 l30_0 s=execL K 30 (.seq (rg 30 6) (.seq (.cond (.tmp 42) (.skip) (.exit 0)) (.seq (.block 1 (.seq (rg 30 7) (.seq (.seq (rg 30 8) (.cond (.tmp 48) (.exit 1) (.skip))) (.seq (rg 30 9) (.seq (rg 30 10) (.cond (.tmp 60) (rd 30 11) (.skip))))))) (rg 30 12)))) s:=rfl
def l30_1:Code:=.seq (rg 30 14) (.seq (.cond (.tmp 76) (.skip) (.exit 2)) (.seq (.block 3 (.seq (rg 30 15) (.seq (.seq (rg 30 16) (.cond (.tmp 82) (.exit 3) (.skip))) (.seq (rg 30 17) (.seq (rg 30 18) (.cond (.tmp 93) (.seq (rg 30 19) (.ret)) (.skip))))))) (rg 30 20)))
theorem u30_1 (s:St):execL K 30 l30_1 s=execL K 30 (.seq (rg 30 14) (.seq (.cond (.tmp 76) (.skip) (.exit 2)) (.seq (.block 3 (.seq (rg 30 15) (.seq (.seq (rg 30 16) (.cond (.tmp 82) (.exit 3) (.skip))) (.seq (rg 30 17) (.seq (rg 30 18) (.cond (.tmp 93) (.seq (rg 30 19) (.ret)) (.skip))))))) (rg 30 20)))) s:=rfl
def c30:Code:=.seq (rg 30 0) (.seq (rg 30 1) (.seq (.seq (rg 30 2) (.cond (.tmp 33) (.seq (rg 30 3) (.ret)) (.skip))) (.seq (rg 30 4) (.seq (.seq (rg 30 5) (.block 0 (.loop l30_0))) (.seq (.seq (rg 30 13) (.block 2 (.loop l30_1))) (.seq (rg 30 21) (.ret)))))))
theorem k30:KF 30 [.tmp 10,.tmp 11,.tmp 12] 1 c30:=.mk
def r135_0:List Oper:=[oa 4 (.assign (.const (.slice none 0 0)))]
theorem x135_0:XF 135 0 3 r135_0:=.mk
def r135_1:List Oper:=[mv 7 0,
 oa 8 (.call ⟨.builtin .len,#[.tmp 7],#[22]⟩),
 oa 9 (.makeSlice 22 (.tmp 8) (.tmp 8)),
 sg 5 9]
theorem x135_1:XF 135 1 35 r135_1:=.mk
@[simp] theorem esc135_9:K.esc 135 9=false:=by kernel_rfl
def r135_2:List Oper:=[mv 10 0,
 oa 11 (.call ⟨.builtin .len,#[.tmp 10],#[22]⟩),
 bk 12 .sub 3 11 1,
 sg 6 12]
theorem x135_2:XF 135 2 99 r135_2:=.mk
def r135_3:List Oper:=[mv 13 6,
 bk 14 .geq 3 13 0]
theorem x135_3:XF 135 3 16483 r135_3:=.mk
def r135_5:List Oper:=[mv 17 5,
 mv 18 6,
 mv 19 1,
 mv 20 0,
 mv 21 6,
 ia 22 22 20 21,
 ld 23 3 22,
 bo 24 .rem 3 19 23,
 mv 25 1,
 mv 26 0,
 mv 27 6,
 ia 28 22 26 27,
 ld 29 3 28,
 bo 30 .quo 3 25 29,
 ia 31 22 17 18,
 so 3 31 24,
 sg 1 30]
theorem x135_5:XP 135 5 99 [(6,12)] r135_5:=.mk
def r135_4:List Oper:=[mv 15 6,
 bk 16 .sub 3 15 1,
 sg 6 16]
theorem x135_4:XF 135 4 99 r135_4:=.mk
def r135_6:List Oper:=[mv 32 5,
 sg 4 32]
theorem x135_6:XF 135 6 16 r135_6:=.mk
def l135_0:Code:=.seq (.seq (rg 135 3) (.cond (.tmp 14) (.skip) (.exit 0))) (.seq (.block 1 (rd 135 5)) (rg 135 4))
theorem u135_0 (s:St):execL K 135 l135_0 s=execL K 135 (.seq (.seq (rg 135 3) (.cond (.tmp 14) (.skip) (.exit 0))) (.seq (.block 1 (rd 135 5)) (rg 135 4))) s:=rfl
def c135:Code:=.seq (rg 135 0) (.seq (rg 135 1) (.seq (.seq (rg 135 2) (.block 0 (.loop l135_0))) (.seq (rg 135 6) (.ret))))
theorem k135:KF 135 [.tmp 4] 1 c135:=.mk
def r66_0:List Oper:=[bx 2 28 0,
 oa 4 (.assign (.const (.int .i64 (0)))),
 oa 5 (.assign (.const (.slice none 0 0)))]
theorem x66_0:XF 66 0 6 r66_0:=.mk
@[simp] theorem esc66_2:K.esc 66 2=false:=by kernel_rfl
def r66_1:List Oper:=[oa 6 (.assign (.const (.int .i64 (0))))]
theorem x66_1:XF 66 1 70 r66_1:=.mk
def r66_2:List Oper:=[mv 7 1,
 fa 8 28 2 1,
 ld 9 26 8,
 mv 10 6,
 ia 11 26 9 10,
 fa 12 47 11 0,
 ld 13 22 12,
 oa 14 (.call ⟨.value (.func 127),#[.tmp 13],#[22]⟩),
 bo 15 .geq 3 7 14]
theorem x66_2:XF 66 2 32838 r66_2:=.mk
def r66_3:List Oper:=[mv 16 1,
 fa 17 28 2 1,
 ld 18 26 17,
 mv 19 6,
 ia 20 26 18 19,
 fa 21 47 20 0,
 ld 22 22 21,
 oa 23 (.call ⟨.value (.func 127),#[.tmp 22],#[22]⟩),
 bo 24 .sub 3 16 23,
 sg 1 24]
theorem x66_3:XF 66 3 70 r66_3:=.mk
def r66_4:List Oper:=[mv 25 6,
 bk 26 .add 3 25 1,
 sg 6 26]
theorem x66_4:XF 66 4 70 r66_4:=.mk
def r66_5:List Oper:=[mv 27 6,
 fa 28 28 2 1,
 ld 29 26 28,
 mv 30 6,
 ia 31 26 29 30,
 fa 32 47 31 0,
 ld 33 22 32,
 mv 34 1,
 oa 35 (.call ⟨.value (.func 135),#[.tmp 33,.tmp 34],#[22,3]⟩),
 sg 4 27,
 sg 5 35]
theorem x66_5:XF 66 5 48 r66_5:=.mk
def l66_0:Code:=.seq (.seq (rg 66 2) (.cond (.tmp 15) (.skip) (.exit 0))) (.block 1 (.seq (rg 66 3) (rg 66 4)))
theorem u66_0 (s:St):execL K 66 l66_0 s=execL K 66 (.seq (.seq (rg 66 2) (.cond (.tmp 15) (.skip) (.exit 0))) (.block 1 (.seq (rg 66 3) (rg 66 4)))) s:=rfl
def c66:Code:=.seq (rg 66 0) (.seq (rg 66 1) (.seq (.block 0 (.loop l66_0)) (.seq (rg 66 5) (.ret))))
theorem k66:KF 66 [.tmp 4,.tmp 5] 1 c66:=.mk
def r136_0:List Oper:=[bx 2 142 0,
 oa 4 (.assign (.const (.int .i64 (0))))]
theorem x136_0:XF 136 0 6 r136_0:=.mk
@[simp] theorem esc136_2:K.esc 136 2=false:=by kernel_rfl
def r136_1:List Oper:=[fa 7 142 2 0,
 ld 8 3 7,
 sg 5 8]
theorem x136_1:XF 136 1 38 r136_1:=.mk
def r136_2:List Oper:=[oa 6 (.assign (.const (.int .i64 (0))))]
theorem x136_2:XF 136 2 102 r136_2:=.mk
def r136_3:List Oper:=[mv 9 6,
 mv 10 1,
 oa 11 (.call ⟨.builtin .len,#[.tmp 10],#[22]⟩),
 bo 12 .lss 3 9 11]
theorem x136_3:XF 136 3 4198 r136_3:=.mk
def r136_5:List Oper:=[mv 15 5,
 fa 16 142 2 1,
 ld 17 22 16,
 mv 18 6,
 ia 19 22 17 18,
 ld 20 3 19,
 mv 21 1,
 mv 22 6,
 ia 23 22 21 22,
 ld 24 3 23,
 bo 25 .mul 3 20 24,
 bo 26 .add 3 15 25,
 sg 5 26]
theorem x136_5:XP 136 5 102 [(2,9),(5,9)] r136_5:=.mk
def r136_4:List Oper:=[mv 13 6,
 bk 14 .add 3 13 1,
 sg 6 14]
theorem x136_4:XF 136 4 102 r136_4:=.mk
def r136_6:List Oper:=[mv 27 5,
 sg 4 27]
theorem x136_6:XF 136 6 16 r136_6:=.mk
def l136_0:Code:=.seq (.seq (rg 136 3) (.cond (.tmp 12) (.skip) (.exit 0))) (.seq (.block 1 (rd 136 5)) (rg 136 4))
theorem u136_0 (s:St):execL K 136 l136_0 s=execL K 136 (.seq (.seq (rg 136 3) (.cond (.tmp 12) (.skip) (.exit 0))) (.seq (.block 1 (rd 136 5)) (rg 136 4))) s:=rfl
def c136:Code:=.seq (rg 136 0) (.seq (rg 136 1) (.seq (.seq (rg 136 2) (.block 0 (.loop l136_0))) (.seq (rg 136 6) (.ret))))
theorem k136:KF 136 [.tmp 4] 1 c136:=.mk
def r137_0:List Oper:=[oa 4 (.assign (.const (.int .i64 (0))))]
theorem x137_0:XF 137 0 3 r137_0:=.mk
def r137_1:List Oper:=[oa 5 (.assign (.const (.int .i64 (0))))]
theorem x137_1:XF 137 1 35 r137_1:=.mk
def r137_2:List Oper:=[oa 6 (.assign (.const (.int .i64 (0))))]
theorem x137_2:XF 137 2 99 r137_2:=.mk
def r137_3:List Oper:=[mv 7 6,
 mv 8 0,
 oa 9 (.call ⟨.builtin .len,#[.tmp 8],#[22]⟩),
 bo 10 .lss 3 7 9]
theorem x137_3:XF 137 3 1123 r137_3:=.mk
def r137_5:List Oper:=[mv 13 5,
 mv 14 0,
 mv 15 6,
 ia 16 22 14 15,
 ld 17 3 16,
 bo 18 .mul 3 13 17,
 mv 19 1,
 mv 20 6,
 ia 21 22 19 20,
 ld 22 3 21,
 bo 23 .add 3 18 22,
 sg 5 23]
theorem x137_5:XP 137 5 99 [(4,9)] r137_5:=.mk
def r137_4:List Oper:=[mv 11 6,
 bk 12 .add 3 11 1,
 sg 6 12]
theorem x137_4:XF 137 4 99 r137_4:=.mk
def r137_6:List Oper:=[mv 24 5,
 sg 4 24]
theorem x137_6:XF 137 6 16 r137_6:=.mk
def l137_0:Code:=.seq (.seq (rg 137 3) (.cond (.tmp 10) (.skip) (.exit 0))) (.seq (.block 1 (rd 137 5)) (rg 137 4))
theorem u137_0 (s:St):execL K 137 l137_0 s=execL K 137 (.seq (.seq (rg 137 3) (.cond (.tmp 10) (.skip) (.exit 0))) (.seq (.block 1 (rd 137 5)) (rg 137 4))) s:=rfl
def c137:Code:=.seq (rg 137 0) (.seq (rg 137 1) (.seq (.seq (rg 137 2) (.block 0 (.loop l137_0))) (.seq (rg 137 6) (.ret))))
theorem k137:KF 137 [.tmp 4] 1 c137:=.mk
def r67_0:List Oper:=[bx 4 28 0,
 oa 8 (.assign (.const (.int .i64 (0))))]
theorem x67_0:XF 67 0 30 r67_0:=.mk
@[simp] theorem esc67_4:K.esc 67 4=false:=by kernel_rfl
def r67_1:List Oper:=[fa 12 28 4 1,
 ld 13 26 12,
 mv 14 1,
 ia 15 26 13 14,
 ld 16 47 15,
 mv 17 2,
 oa 18 (.call ⟨.value (.func 53),#[.tmp 16,.tmp 17],#[47,3]⟩),
 aq 9 39,
 so 39 9 18]
theorem x67_1:XF 67 1 536 r67_1:=.mk
@[simp] theorem esc67_9:K.esc 67 9=false:=by kernel_rfl
def r67_2:List Oper:=[oa 10 (.assign (.const (.slice none 0 0)))]
theorem x67_2:XF 67 2 1560 r67_2:=.mk
def r67_3:List Oper:=[oa 11 (.assign (.const (.int .i64 (0))))]
theorem x67_3:XF 67 3 3608 r67_3:=.mk
def r67_4:List Oper:=[mv 19 11,
 fa 20 39 9 1,
 ld 21 37 20,
 oa 22 (.call ⟨.builtin .len,#[.tmp 21],#[37]⟩),
 bo 23 .lss 3 19 22]
theorem x67_4:XF 67 4 8392216 r67_4:=.mk
def r67_6:List Oper:=[mv 26 10,
 fa 27 39 9 1,
 ld 28 37 27,
 mv 29 11,
 ia 30 37 28 29,
 ld 31 142 30,
 mv 32 3,
 oa 33 (.call ⟨.value (.func 136),#[.tmp 31,.tmp 32],#[142,22]⟩),
 oa 34 (.buildSlice 22 1 #[(0,.tmp 33)]),
 oa 35 (.call ⟨.builtin .append,#[.tmp 26,.tmp 34],#[22,22]⟩),
 sg 10 35]
theorem x67_6:XF 67 6 3608 r67_6:=.mk
@[simp] theorem imm67_34:K.imm 67 34=false:=by kernel_rfl
@[simp] theorem esc67_35:K.esc 67 35=false:=by kernel_rfl
@[simp] theorem imm67_35:K.imm 67 35=false:=by kernel_rfl
def r67_5:List Oper:=[mv 24 11,
 bk 25 .add 3 24 1,
 sg 11 25]
theorem x67_5:XF 67 5 3608 r67_5:=.mk
def r67_7:List Oper:=[fa 36 28 4 0,
 ld 37 25 36,
 fa 38 39 9 0,
 ld 39 3 38,
 ia 40 25 37 39,
 fa 41 168 40 1,
 ld 42 22 41,
 mv 43 10,
 oa 44 (.call ⟨.value (.func 137),#[.tmp 42,.tmp 43],#[22,22]⟩),
 sg 8 44]
theorem x67_7:XF 67 7 256 r67_7:=.mk
def l67_0:Code:=.seq (.seq (rg 67 4) (.cond (.tmp 23) (.skip) (.exit 0))) (.seq (.block 1 (rg 67 6)) (rg 67 5))
theorem u67_0 (s:St):execL K 67 l67_0 s=execL K 67 (.seq (.seq (rg 67 4) (.cond (.tmp 23) (.skip) (.exit 0))) (.seq (.block 1 (rg 67 6)) (rg 67 5))) s:=rfl
def c67:Code:=.seq (rg 67 0) (.seq (rg 67 1) (.seq (rg 67 2) (.seq (.seq (rg 67 3) (.block 0 (.loop l67_0))) (.seq (rg 67 7) (.ret)))))
theorem k67:KF 67 [.tmp 8] 1 c67:=.mk
def r15_0:List Oper:=[bx 1 28 0,
 oa 2 (.assign (.const (.slice none 0 0)))]
theorem x15_0:XF 15 0 2 r15_0:=.mk
@[simp] theorem esc15_1:K.esc 15 1=false:=by kernel_rfl
def r15_1:List Oper:=[oa 3 (.assign (.const (.slice none 0 0)))]
theorem x15_1:XF 15 1 10 r15_1:=.mk
def r15_2:List Oper:=[oa 4 (.assign (.const (.int .i64 (0))))]
theorem x15_2:XF 15 2 26 r15_2:=.mk
def r15_3:List Oper:=[mv 9 4,
 ld 10 28 1,
 oa 11 (.call ⟨.value (.func 61),#[.tmp 10],#[28]⟩),
 bo 12 .lss 3 9 11]
theorem x15_3:XF 15 3 4122 r15_3:=.mk
def r15_5:List Oper:=[ld 16 28 1,
 mv 17 4,
 oa 18 (.call ⟨.value (.func 66),#[.tmp 16,.tmp 17],#[28,3]⟩),
 mv 15 18,
 xt 19 15 0,
 xt 20 15 1,
 sg 5 19,
 sg 6 20]
theorem x15_5:XF 15 5 122 r15_5:=.mk
def r15_6:List Oper:=[oa 7 (.assign (.const (.slice none 0 0)))]
theorem x15_6:XF 15 6 250 r15_6:=.mk
def r15_7:List Oper:=[oa 8 (.assign (.const (.int .i64 (0))))]
theorem x15_7:XF 15 7 506 r15_7:=.mk
def r15_8:List Oper:=[mv 21 8,
 fa 22 28 1 1,
 ld 23 26 22,
 mv 24 5,
 ia 25 26 23 24,
 fa 26 47 25 2,
 ld 27 40 26,
 oa 28 (.call ⟨.builtin .len,#[.tmp 27],#[40]⟩),
 bo 29 .leq 3 21 28]
theorem x15_8:XF 15 8 536871418 r15_8:=.mk
def r15_10:List Oper:=[mv 32 7,
 fa 33 28 1 1,
 ld 34 26 33,
 mv 35 5,
 ia 36 26 34 35,
 ld 37 47 36,
 mv 38 8,
 oa 39 (.call ⟨.value (.func 53),#[.tmp 37,.tmp 38],#[47,3]⟩),
 oa 40 (.field 39 (.tmp 39) 0),
 ld 41 28 1,
 mv 42 5,
 mv 43 8,
 mv 44 6,
 oa 45 (.call ⟨.value (.func 67),#[.tmp 41,.tmp 42,.tmp 43,.tmp 44],#[28,3,3,22]⟩),
 oa 46 (.build 86 #[(0,.tmp 40),(1,.tmp 45)]),
 oa 47 (.buildSlice 87 1 #[(0,.tmp 46)]),
 oa 48 (.call ⟨.builtin .append,#[.tmp 32,.tmp 47],#[87,87]⟩),
 sg 7 48]
theorem x15_10:XP 15 10 506 [(2,9),(5,9),(7,9)] r15_10:=.mk
@[simp] theorem imm15_47:K.imm 15 47=false:=by kernel_rfl
@[simp] theorem esc15_48:K.esc 15 48=false:=by kernel_rfl
@[simp] theorem imm15_48:K.imm 15 48=false:=by kernel_rfl
def r15_9:List Oper:=[mv 30 8,
 bk 31 .add 3 30 1,
 sg 8 31]
theorem x15_9:XF 15 9 506 r15_9:=.mk
def r15_11:List Oper:=[mv 49 3,
 mv 50 7,
 oa 51 (.buildSlice 33 1 #[(0,.tmp 50)]),
 oa 52 (.call ⟨.builtin .append,#[.tmp 49,.tmp 51],#[33,33]⟩),
 sg 3 52]
theorem x15_11:XF 15 11 26 r15_11:=.mk
@[simp] theorem imm15_51:K.imm 15 51=false:=by kernel_rfl
@[simp] theorem esc15_52:K.esc 15 52=false:=by kernel_rfl
@[simp] theorem imm15_52:K.imm 15 52=false:=by kernel_rfl
def r15_4:List Oper:=[mv 13 4,
 bk 14 .add 3 13 1,
 sg 4 14]
theorem x15_4:XF 15 4 26 r15_4:=.mk
def r15_12:List Oper:=[mv 53 3,
 sg 2 53]
theorem x15_12:XF 15 12 4 r15_12:=.mk
def l15_0:Code:=.seq (.seq (rg 15 8) (.cond (.tmp 29) (.skip) (.exit 2))) (.seq (.block 3 (rd 15 10)) (rg 15 9))
theorem u15_0 (s:St):execL K 15 l15_0 s=execL K 15 (.seq (.seq (rg 15 8) (.cond (.tmp 29) (.skip) (.exit 2))) (.seq (.block 3 (rd 15 10)) (rg 15 9))) s:=rfl
def l15_1:Code:=.seq (.seq (rg 15 3) (.cond (.tmp 12) (.skip) (.exit 0))) (.seq (.block 1 (.seq (rg 15 5) (.seq (rg 15 6) (.seq (.seq (rg 15 7) (.block 2 (.loop l15_0))) (rg 15 11))))) (rg 15 4))
theorem u15_1 (s:St):execL K 15 l15_1 s=execL K 15 (.seq (.seq (rg 15 3) (.cond (.tmp 12) (.skip) (.exit 0))) (.seq (.block 1 (.seq (rg 15 5) (.seq (rg 15 6) (.seq (.seq (rg 15 7) (.block 2 (.loop l15_0))) (rg 15 11))))) (rg 15 4))) s:=rfl
def c15:Code:=.seq (rg 15 0) (.seq (rg 15 1) (.seq (.seq (rg 15 2) (.block 0 (.loop l15_1))) (.seq (rg 15 12) (.ret))))
theorem k15:KF 15 [.tmp 2] 1 c15:=.mk
def r54_0:List Oper:=[bx 3 28 0,
 oa 6 (.assign (.const (.int .i64 (0)))),
 oa 7 (.assign (.const (.int .i64 (0))))]
theorem x54_0:XF 54 0 14 r54_0:=.mk
@[simp] theorem esc54_3:K.esc 54 3=false:=by kernel_rfl
def r54_1:List Oper:=[ld 18 28 3,
 mv 19 1,
 oa 20 (.call ⟨.value (.func 107),#[.tmp 19],#[3]⟩),
 oa 21 (.buildSlice 208 1 #[(0,.tmp 20)]),
 oa 22 (.call ⟨.value (.func 106),#[.tmp 18,.tmp 21],#[28,208]⟩),
 mv 17 22,
 xt 23 17 0,
 xt 24 17 1,
 sg 8 23,
 sg 9 24]
theorem x54_1:XP 54 1 774 [(0,2),(0,3)] r54_1:=.mk
def r54_2:List Oper:=[mv 25 9,
 bk 26 .neq 30 25 0]
theorem x54_2:XF 54 2 67109638 r54_2:=.mk
def r54_3:List Oper:=[mv 27 9,
 oa 6 (.assign (.const (.int .i64 (0)))),
 sg 7 27]
def r54_4:List Oper:=[mv 28 8,
 oa 29 (.nilCheck (.tmp 28)),
 fa 30 164 29 0,
 fa 31 28 30 1,
 ld 32 26 31,
 mv 33 1,
 ia 34 26 32 33,
 fa 35 47 34 0,
 ld 36 22 35,
 sg 10 36]
theorem x54_4:XF 54 4 1286 r54_4:=.mk
def r54_5:List Oper:=[mv 37 2,
 mv 38 10,
 oa 39 (.call ⟨.builtin .len,#[.tmp 38],#[22]⟩),
 oa 40 (.call ⟨.value (.func 108),#[.tmp 37,.tmp 39],#[22,3]⟩),
 sg 11 40]
theorem x54_5:XF 54 5 3334 r54_5:=.mk
def r54_6:List Oper:=[mv 41 11,
 bk 42 .neq 30 41 0]
theorem x54_6:XF 54 6 4398046514438 r54_6:=.mk
def r54_7:List Oper:=[mv 43 11,
 oa 6 (.assign (.const (.int .i64 (0)))),
 sg 7 43]
def r54_8:List Oper:=[oa 12 (.assign (.const (.int .i64 (0))))]
theorem x54_8:XF 54 8 5382 r54_8:=.mk
def r54_9:List Oper:=[mv 44 2,
 oa 45 (.call ⟨.builtin .len,#[.tmp 44],#[22]⟩),
 oa 46 (.move (.const (.int .i64 (0))))]
theorem x54_9:XF 54 9 123145302316290 r54_9:=.mk
def r54_10:List Oper:=[bo 47 .lss 3 46 45]
theorem x54_10:XF 54 10 263882790671618 r54_10:=.mk
def r54_11:List Oper:=[mv 48 46,
 ia 49 22 44 46,
 ld 50 3 49,
 sg 13 48,
 sg 14 50]
theorem x54_11:XF 54 11 123145302340866 r54_11:=.mk
def r54_12:List Oper:=[mv 51 14,
 mv 52 10,
 mv 53 13,
 ia 54 22 52 53,
 ld 55 3 54,
 bk 56 .sub 3 55 1,
 oa 57 (.call ⟨.value (.func 109),#[.tmp 51,.const (.int .i64 (0)),.tmp 56],#[3,3,3]⟩),
 oa 58 (.unOp .not 4 (.tmp 57))]
theorem x54_12:XF 54 12 288353521454052610 r54_12:=.mk
def r54_13:List Oper:=[oa 6 (.assign (.const (.int .i64 (0)))),
 oa 7 (.assign (.const (.int .i64 (3))))]
def r54_14:List Oper:=[mv 59 12,
 mv 60 10,
 mv 61 13,
 ia 62 22 60 61,
 ld 63 3 62,
 bo 64 .mul 3 59 63,
 mv 65 14,
 bo 66 .add 3 64 65,
 sg 12 66]
theorem x54_14:XF 54 14 123145302316290 r54_14:=.mk
def r54_15:List Oper:=[bk 67 .add 3 46 1,
 mv 46 67]
theorem x54_15:XF 54 15 123145302316290 r54_15:=.mk
def r54_16:List Oper:=[mv 68 8,
 oa 69 (.nilCheck (.tmp 68)),
 fa 70 164 69 0,
 fa 71 28 70 1,
 ld 72 26 71,
 mv 73 1,
 oa 74 (.slice 26 (.tmp 72) none (some (.tmp 73)) none),
 oa 75 (.call ⟨.builtin .len,#[.tmp 74],#[26]⟩),
 oa 76 (.move (.const (.int .i64 (0))))]
theorem x54_16:XF 54 16 132226261520350065987584 r54_16:=.mk
def r54_17:List Oper:=[bo 77 .lss 3 76 75]
theorem x54_17:XF 54 17 283341988972178712825856 r54_17:=.mk
def r54_18:List Oper:=[ia 78 26 74 76,
 ld 79 47 78,
 aq 16 47,
 so 47 16 79]
theorem x54_18:XF 54 18 132226261520350066053120 r54_18:=.mk
@[simp] theorem esc54_16:K.esc 54 16=false:=by kernel_rfl
def r54_19:List Oper:=[mv 80 12,
 fa 81 47 16 0,
 ld 82 22 81,
 oa 83 (.call ⟨.value (.func 110),#[.tmp 82],#[22]⟩),
 bo 84 .add 3 80 83,
 sg 12 84]
theorem x54_19:XF 54 19 132226261520350065987584 r54_19:=.mk
def r54_20:List Oper:=[bk 85 .add 3 76 1,
 mv 76 85]
theorem x54_20:XF 54 20 132226261520350065987584 r54_20:=.mk
def r54_21:List Oper:=[mv 86 12,
 sg 6 86,
 oa 7 (.assign (.const (.int .i64 (0))))]
theorem x54_21:XF 54 21 192 r54_21:=.mk
def l54_0:Code:=.seq (rg 54 10) (.seq (.cond (.tmp 47) (.skip) (.exit 0)) (.seq (.block 1 (.seq (rg 54 11) (.seq (.seq (rg 54 12) (.cond (.tmp 58) (.seq (rg 54 13) (.ret)) (.skip))) (rg 54 14)))) (rg 54 15)))
theorem u54_0 (s:St):execL K 54 l54_0 s=execL K 54 (.seq (rg 54 10) (.seq (.cond (.tmp 47) (.skip) (.exit 0)) (.seq (.block 1 (.seq (rg 54 11) (.seq (.seq (rg 54 12) (.cond (.tmp 58) (.seq (rg 54 13) (.ret)) (.skip))) (rg 54 14)))) (rg 54 15)))) s:=rfl
def l54_1:Code:=.seq (rg 54 17) (.seq (.cond (.tmp 77) (.skip) (.exit 2)) (.seq (.block 3 (.seq (rg 54 18) (rg 54 19))) (rg 54 20)))
theorem u54_1 (s:St):execL K 54 l54_1 s=execL K 54 (.seq (rg 54 17) (.seq (.cond (.tmp 77) (.skip) (.exit 2)) (.seq (.block 3 (.seq (rg 54 18) (rg 54 19))) (rg 54 20)))) s:=rfl
def c54:Code:=.seq (rg 54 0) (.seq (rd 54 1) (.seq (.seq (rg 54 2) (.cond (.tmp 26) (.seq (rg 54 3) (.ret)) (.skip))) (.seq (rg 54 4) (.seq (.seq (rg 54 5) (.seq (rg 54 6) (.cond (.tmp 42) (.seq (rg 54 7) (.ret)) (.skip)))) (.seq (rg 54 8) (.seq (.seq (rg 54 9) (.block 0 (.loop l54_0))) (.seq (.seq (rg 54 16) (.block 2 (.loop l54_1))) (.seq (rg 54 21) (.ret)))))))))
theorem k54:KF 54 [.tmp 6,.tmp 7] 1 c54:=.mk
def r106_0:List Oper:=[bx 2 28 0,
 oa 4 (.assign (.const (.pointer none))),
 oa 5 (.assign (.const (.int .i64 (0))))]
theorem x106_0:XF 106 0 6 r106_0:=.mk
@[simp] theorem esc106_2:K.esc 106 2=false:=by kernel_rfl
def r106_1:List Oper:=[ld 10 28 2,
 oa 11 (.call ⟨.value (.func 120),#[.tmp 10],#[28]⟩),
 sg 6 11]
theorem x106_1:XF 106 1 70 r106_1:=.mk
def r106_2:List Oper:=[mv 12 6,
 bk 13 .neq 30 12 0]
theorem x106_2:XF 106 2 8262 r106_2:=.mk
def r106_3:List Oper:=[mv 14 6,
 oa 4 (.assign (.const (.pointer none))),
 sg 5 14]
def r106_4:List Oper:=[ld 15 28 2,
 oa 16 (.build 164 #[(0,.tmp 15)]),
 bx 17 164 16,
 sg 7 17]
theorem x106_4:XF 106 4 130 r106_4:=.mk
@[simp] theorem esc106_17:K.esc 106 17=true:=by kernel_rfl
def r106_5:List Oper:=[mv 18 1,
 oa 19 (.call ⟨.builtin .len,#[.tmp 18],#[208]⟩),
 oa 20 (.move (.const (.int .i64 (0))))]
theorem x106_5:XF 106 5 1835136 r106_5:=.mk
def r106_6:List Oper:=[bo 21 .lss 3 20 19]
theorem x106_6:XF 106 6 3932288 r106_6:=.mk
def r106_7:List Oper:=[ia 22 208 18 20,
 ld 23 161 22,
 sg 9 23]
theorem x106_7:XF 106 7 1835648 r106_7:=.mk
def r106_8:List Oper:=[mv 24 9,
 mv 25 7,
 oa 26 (.call ⟨.value (.tmp 24),#[.tmp 25],#[158]⟩),
 oa 27 (.unOp .not 4 (.tmp 26))]
theorem x106_8:XF 106 8 136052864 r106_8:=.mk
def r106_9:List Oper:=[oa 4 (.assign (.const (.pointer none))),
 oa 5 (.assign (.const (.int .i64 (3))))]
def r106_10:List Oper:=[bk 28 .add 3 20 1,
 mv 20 28]
theorem x106_10:XF 106 10 1835136 r106_10:=.mk
def r106_11:List Oper:=[mv 29 7,
 sg 4 29,
 oa 5 (.assign (.const (.int .i64 (0))))]
theorem x106_11:XF 106 11 48 r106_11:=.mk
def l106_0:Code:=.seq (rg 106 6) (.seq (.cond (.tmp 21) (.skip) (.exit 0)) (.seq (.block 1 (.seq (rg 106 7) (.seq (rg 106 8) (.cond (.tmp 27) (.seq (rg 106 9) (.ret)) (.skip))))) (rg 106 10)))
theorem u106_0 (s:St):execL K 106 l106_0 s=execL K 106 (.seq (rg 106 6) (.seq (.cond (.tmp 21) (.skip) (.exit 0)) (.seq (.block 1 (.seq (rg 106 7) (.seq (rg 106 8) (.cond (.tmp 27) (.seq (rg 106 9) (.ret)) (.skip))))) (rg 106 10)))) s:=rfl
def c106:Code:=.seq (rg 106 0) (.seq (.seq (rg 106 1) (.seq (rg 106 2) (.cond (.tmp 13) (.seq (rg 106 3) (.ret)) (.skip)))) (.seq (rg 106 4) (.seq (.seq (rg 106 5) (.block 0 (.loop l106_0))) (.seq (rg 106 11) (.ret)))))
theorem k106:KF 106 [.tmp 4,.tmp 5] 1 c106:=.mk
def r107_0:List Oper:=[bx 1 3 0,
 oa 2 (.assign (.const (.nilFunc)))]
theorem x107_0:XF 107 0 2 r107_0:=.mk
@[simp] theorem esc107_1:K.esc 107 1=true:=by kernel_rfl
def r107_1:List Oper:=[oa 3 (.makeFunc (.func 157) #[] #[.tmp 1]),
 sg 2 3]
theorem x107_1:XF 107 1 4 r107_1:=.mk
def c107:Code:=.seq (rg 107 0) (.seq (rg 107 1) (.ret))
theorem k107:KF 107 [.tmp 2] 1 c107:=.mk
def r157_0:List Oper:=[oa 3 (.assign (.const (.bool false)))]
theorem x157_0:XF 157 0 3 r157_0:=.mk
def r157_1:List Oper:=[ld 4 3 1,
 mv 5 0,
 oa 6 (.nilCheck (.tmp 5)),
 fa 7 164 6 0,
 fa 8 28 7 1,
 ld 9 26 8,
 oa 10 (.call ⟨.builtin .len,#[.tmp 9],#[26]⟩),
 bk 11 .sub 3 10 1,
 oa 12 (.call ⟨.value (.func 109),#[.tmp 4,.const (.int .i64 (0)),.tmp 11],#[3,3,3]⟩),
 sg 3 12]
theorem x157_1:XP 157 1 8 [(0,5),(0,6)] r157_1:=.mk
def c157:Code:=.seq (rg 157 0) (.seq (rd 157 1) (.ret))
theorem k157:KF 157 [.tmp 3] 1 c157:=.mk
def r9_0:List Oper:=[oa 2 (.assign (.const (.bool false)))]
theorem x9_0:XF 9 0 1 r9_0:=.mk
def r9_1:List Oper:=[mv 23 0,
 oa 24 (.call ⟨.value (.func 12),#[.tmp 23],#[22]⟩),
 sg 3 24]
theorem x9_1:XF 9 1 8 r9_1:=.mk
def r9_2:List Oper:=[mv 25 3,
 oa 26 (.call ⟨.value (.func 13),#[.tmp 25,.const (.int .i64 (3))],#[23,3]⟩),
 aq 4 28,
 so 28 4 26]
theorem x9_2:XF 9 2 24 r9_2:=.mk
@[simp] theorem esc9_4:K.esc 9 4=false:=by kernel_rfl
def r9_3:List Oper:=[mv 27 3,
 fa 28 28 4 1,
 ld 29 26 28,
 oa 30 (.call ⟨.builtin .len,#[.tmp 29],#[26]⟩),
 bk 31 .sub 3 30 1,
 oa 32 (.call ⟨.value (.func 20),#[.tmp 27,.tmp 31],#[23,3]⟩),
 mv 33 3,
 fa 34 28 4 1,
 ld 35 26 34,
 oa 36 (.call ⟨.builtin .len,#[.tmp 35],#[26]⟩),
 bk 37 .sub 3 36 1,
 oa 38 (.call ⟨.value (.func 20),#[.tmp 33,.tmp 37],#[23,3]⟩),
 sg 5 32,
 sg 6 38]
theorem x9_3:XP 9 3 120 [(2,8),(3,8),(5,8),(2,9),(3,9),(5,9)] r9_3:=.mk
def r9_4:List Oper:=[mv 39 3,
 fa 40 28 4 1,
 ld 41 26 40,
 mv 42 5,
 ia 43 26 41 42,
 fa 44 47 43 2,
 ld 45 40 44,
 oa 46 (.call ⟨.builtin .len,#[.tmp 45],#[40]⟩),
 oa 47 (.call ⟨.value (.func 20),#[.tmp 39,.tmp 46],#[23,3]⟩),
 mv 48 3,
 fa 49 28 4 1,
 ld 50 26 49,
 mv 51 6,
 ia 52 26 50 51,
 fa 53 47 52 2,
 ld 54 40 53,
 oa 55 (.call ⟨.builtin .len,#[.tmp 54],#[40]⟩),
 oa 56 (.call ⟨.value (.func 20),#[.tmp 48,.tmp 55],#[23,3]⟩),
 sg 7 47,
 sg 8 56]
theorem x9_4:XP 9 4 496 [(2,11),(6,11),(7,11),(8,11),(2,15),(6,15),(7,15),(8,15),(2,16),(6,16),(7,16),(8,16)] r9_4:=.mk
def r9_5:List Oper:=[ld 58 28 4,
 mv 59 5,
 mv 60 7,
 mv 61 6,
 mv 62 8,
 oa 63 (.call ⟨.value (.func 30),#[.tmp 58,.tmp 59,.tmp 60,.tmp 61,.tmp 62],#[28,3,3,3,3]⟩),
 mv 57 63,
 xt 64 57 0,
 xt 65 57 1,
 xt 66 57 2,
 sg 9 64,
 sg 10 65,
 sg 11 66]
theorem x9_5:XF 9 5 4080 r9_5:=.mk
def r9_6:List Oper:=[ld 68 28 4,
 mv 69 5,
 mv 70 7,
 mv 71 6,
 mv 72 8,
 oa 73 (.call ⟨.value (.func 32),#[.tmp 68,.tmp 69,.tmp 70,.tmp 71,.tmp 72],#[28,3,3,3,3]⟩),
 mv 67 73,
 xt 74 67 0,
 xt 75 67 1,
 xt 76 67 2,
 sg 12 74,
 sg 13 75,
 sg 14 76]
theorem x9_6:XF 9 6 20464 r9_6:=.mk
def r9_7:List Oper:=[ld 78 28 4,
 mv 79 5,
 mv 80 7,
 mv 81 6,
 mv 82 8,
 oa 83 (.call ⟨.value (.func 34),#[.tmp 78,.tmp 79,.tmp 80,.tmp 81,.tmp 82],#[28,3,3,3,3]⟩),
 mv 77 83,
 xt 84 77 0,
 xt 85 77 1,
 xt 86 77 2,
 xt 87 77 3,
 sg 15 84,
 sg 16 85,
 sg 17 86,
 sg 18 87]
theorem x9_7:XF 9 7 282608 r9_7:=.mk
def r9_8:List Oper:=[fa 88 28 4 1,
 ld 89 26 88,
 mv 90 5,
 ia 91 26 89 90,
 ld 92 47 91,
 mv 93 7,
 oa 94 (.call ⟨.value (.func 53),#[.tmp 92,.tmp 93],#[47,3]⟩),
 oa 95 (.field 39 (.tmp 94) 0),
 fa 96 28 4 1,
 ld 97 26 96,
 mv 98 6,
 ia 99 26 97 98,
 ld 100 47 99,
 mv 101 8,
 oa 102 (.call ⟨.value (.func 53),#[.tmp 100,.tmp 101],#[47,3]⟩),
 oa 103 (.field 39 (.tmp 102) 0),
 bo 104 .neq 3 95 103]
theorem x9_8:XP 9 8 20282409603651670423947251568624 [(1,9),(4,9),(6,9),(1,12),(4,12),(6,12)] r9_8:=.mk
def r9_9:List Oper:=[mv 105 11,
 bk 106 .eql 30 105 14,
 mv 107 106,
 og 108 2 true (.move (.tmp 14)),
 og 109 2 true (.binOp .eql 30 (.tmp 108) (.const (.int .i64 (9))) 30),
 oa 110 (.pick (.tmp 107) (.tmp 109) (.const (.bool false))),
 mv 111 110,
 og 112 6 true (.move (.tmp 18)),
 og 113 6 true (.binOp .eql 30 (.tmp 112) (.const (.int .i64 (9))) 30),
 oa 114 (.pick (.tmp 111) (.tmp 113) (.const (.bool false))),
 mv 115 114,
 og 116 10 true (.call ⟨.value (.func 18),#[],#[]⟩),
 oa 117 (.pick (.tmp 115) (.tmp 116) (.const (.bool false))),
 sg 2 117]
theorem x9_9:XF 9 9 4 r9_9:=.mk
def r9_10:List Oper:=[mv 118 11,
 oa 119 (.call ⟨.value (.func 48),#[.tmp 118],#[30]⟩),
 oa 120 (.unOp .not 4 (.tmp 119)),
 mv 121 120,
 og 122 3 false (.move (.tmp 14)),
 og 123 3 false (.call ⟨.value (.func 48),#[.tmp 122],#[30]⟩),
 og 124 3 false (.unOp .not 4 (.tmp 123)),
 oa 125 (.pick (.tmp 121) (.const (.bool true)) (.tmp 124)),
 mv 126 125,
 og 127 8 false (.move (.tmp 18)),
 og 128 8 false (.call ⟨.value (.func 48),#[.tmp 127],#[30]⟩),
 og 129 8 false (.unOp .not 4 (.tmp 128)),
 oa 130 (.pick (.tmp 126) (.const (.bool true)) (.tmp 129)),
 mv 131 130,
 og 132 13 false (.move (.tmp 14)),
 og 133 13 false (.binOp .eql 30 (.tmp 132) (.const (.int .i64 (0))) 30),
 og 134 13 false (.move (.tmp 133)),
 og 135 16 false (.move (.tmp 18)),
 og 136 16 false (.binOp .eql 30 (.tmp 135) (.const (.int .i64 (0))) 30),
 og 137 13 false (.pick (.tmp 134) (.const (.bool true)) (.tmp 136)),
 og 138 13 false (.move (.tmp 137)),
 og 139 20 true (.move (.tmp 11)),
 og 140 20 true (.binOp .eql 30 (.tmp 139) (.const (.int .i64 (0))) 30),
 og 141 13 false (.pick (.tmp 138) (.tmp 140) (.const (.bool false))),
 oa 142 (.pick (.tmp 131) (.const (.bool true)) (.tmp 141))]
theorem x9_10:XF 9 10 5575186299632655785383929568162090376499184 r9_10:=.mk
def r9_11:List Oper:=[oa 2 (.assign (.const (.bool false)))]
def r9_12:List Oper:=[mv 143 11,
 bk 144 .neq 30 143 0]
theorem x9_12:XF 9 12 22300745198530623141535718272648361505982448 r9_12:=.mk
def r9_13:List Oper:=[oa 145 (.call ⟨.value (.func 18),#[],#[]⟩),
 sg 2 145]
theorem x9_13:XF 9 13 4 r9_13:=.mk
def r9_14:List Oper:=[ld 147 28 4,
 mv 148 5,
 mv 149 9,
 oa 150 (.call ⟨.value (.func 54),#[.tmp 147,.tmp 148,.tmp 149],#[28,3,22]⟩),
 mv 146 150,
 xt 151 146 0,
 xt 152 146 1,
 sg 19 151,
 sg 20 152]
theorem x9_14:XF 9 14 1574352 r9_14:=.mk
def r9_15:List Oper:=[ld 154 28 4,
 mv 155 6,
 mv 156 10,
 oa 157 (.call ⟨.value (.func 54),#[.tmp 154,.tmp 155,.tmp 156],#[28,3,22]⟩),
 mv 153 157,
 xt 158 153 0,
 xt 159 153 1,
 sg 21 158,
 sg 22 159]
theorem x9_15:XF 9 15 7864720 r9_15:=.mk
def r9_16:List Oper:=[mv 160 20,
 bk 161 .eql 30 160 0,
 mv 162 161,
 og 163 2 true (.move (.tmp 22)),
 og 164 2 true (.binOp .eql 30 (.tmp 163) (.const (.int .i64 (0))) 30),
 oa 165 (.pick (.tmp 162) (.tmp 164) (.const (.bool false))),
 mv 166 165,
 og 167 6 true (.load 28 (.tmp 4)),
 og 168 6 true (.move (.tmp 19)),
 og 169 6 true (.call ⟨.value (.func 51),#[.tmp 167,.tmp 168],#[28,3]⟩),
 oa 170 (.pick (.tmp 166) (.tmp 169) (.const (.bool false))),
 mv 171 170,
 og 172 11 true (.load 28 (.tmp 4)),
 og 173 11 true (.move (.tmp 21)),
 og 174 11 true (.call ⟨.value (.func 51),#[.tmp 172,.tmp 173],#[28,3]⟩),
 oa 175 (.pick (.tmp 171) (.tmp 174) (.const (.bool false))),
 mv 176 175,
 og 177 16 true (.load 28 (.tmp 4)),
 og 178 16 true (.call ⟨.value (.func 15),#[.tmp 177],#[28]⟩),
 og 179 16 true (.move (.tmp 19)),
 og 180 16 true (.indexAddr 33 (.tmp 178) (.tmp 179)),
 og 181 16 true (.load 87 (.tmp 180)),
 og 182 16 true (.move (.tmp 7)),
 og 183 16 true (.indexAddr 87 (.tmp 181) (.tmp 182)),
 og 184 16 true (.load 86 (.tmp 183)),
 og 185 16 true (.load 28 (.tmp 4)),
 og 186 16 true (.call ⟨.value (.func 15),#[.tmp 185],#[28]⟩),
 og 187 16 true (.move (.tmp 21)),
 og 188 16 true (.indexAddr 33 (.tmp 186) (.tmp 187)),
 og 189 16 true (.load 87 (.tmp 188)),
 og 190 16 true (.move (.tmp 8)),
 og 191 16 true (.indexAddr 87 (.tmp 189) (.tmp 190)),
 og 192 16 true (.load 86 (.tmp 191)),
 og 193 16 true (.binOp .eql 86 (.tmp 184) (.tmp 192) 86),
 oa 194 (.pick (.tmp 176) (.tmp 193) (.const (.bool false))),
 mv 195 194,
 og 196 35 true (.call ⟨.value (.func 18),#[],#[]⟩),
 oa 197 (.pick (.tmp 195) (.tmp 196) (.const (.bool false))),
 sg 2 197]
theorem x9_16:XP 9 16 4 [(17,25),(18,25),(21,25),(24,25),(21,26),(24,26),(21,29),(24,29),(21,32),(24,32)] r9_16:=.mk
def c9:Code:=.seq (rg 9 0) (.seq (rg 9 1) (.seq (rg 9 2) (.seq (rd 9 3) (.seq (rd 9 4) (.seq (rg 9 5) (.seq (rg 9 6) (.seq (rg 9 7) (.seq (.seq (rd 9 8) (.cond (.tmp 104) (.seq (rg 9 9) (.ret)) (.skip))) (.seq (.seq (rg 9 10) (.cond (.tmp 142) (.seq (rg 9 11) (.ret)) (.skip))) (.seq (.seq (rg 9 12) (.cond (.tmp 144) (.seq (rg 9 13) (.ret)) (.skip))) (.seq (rg 9 14) (.seq (rg 9 15) (.seq (rd 9 16) (.ret))))))))))))))
theorem k9:KF 9 [.tmp 2] 1 c9:=.mk
end
end Mw
