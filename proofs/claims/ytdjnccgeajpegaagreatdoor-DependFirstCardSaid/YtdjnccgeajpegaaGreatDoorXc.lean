/- DependFirst's tied card holds; no condition beyond the card's own. -/
import Derived.Test.YtdjnccgeajpegaaGreatDoorKc
set_option linter.unusedVariables false
set_option linter.unusedSimpArgs false
namespace Mw
open Go Go.Proofs
set_option maxRecDepth 100000
noncomputable section
@[simp] theorem aBM(t:Nat):K.esc 53 t=false:=by kernel_rfl
theorem adW:XF 53 0 22 [bx 2 47 0,aq 4 39]:=.mk
theorem acZ:XF 53 1 86 [mv 5 1,bk 6 .eql 3 5 0]:=.mk
theorem ac6:XF 53 2 16 [fa 7 47 2 1,ld 8 39 7,so 39 4 8]:=.mk
theorem ad1:XF 53 3 16 [fa 9 47 2 2,ld 10 40 9,mv 11 1,bk 12 .sub 3 11 1,ia 13 40 10 12,ld 14 39 13,so 39 4 14]:=.mk
def c53:Code:=.seq (rg 53 0) (.seq (.seq (rg 53 1) (.cond (.tmp 6) (.seq (rg 53 2) (.ret)) (.skip))) (.seq (rg 53 3) (.ret)))
theorem k53:KF 53 [.cell 4 39] 1 c53:=.mk
end
noncomputable section
theorem ac7:XF 48 0 1 [oa 2 (.assign (.const (.bool false)))]:=.mk
theorem adC:XF 48 1 4 [mv 3 0,bk 4 .eql 30 3 0,mv 5 4,og 6 2 false (.move (.tmp 0)),og 7 2 false (.binOp .eql 30 (.tmp 6) (.const (.int .i64 (14))) 30),oa 8 (.pick (.tmp 5) (.const (.bool true)) (.tmp 7)),sg 2 8]:=.mk
def c48:Code:=.seq (rg 48 0) (.seq (rg 48 1) (.ret))
theorem k48:KF 48 [.tmp 2] 1 c48:=.mk
end
noncomputable section
theorem adE:XF 95 0 7 [oa 6 (.assign (.const (.bool false)))]:=.mk
theorem ael:XF 95 1 64 [mv 7 1,mv 8 0,bo 9 .leq 3 7 8,mv 10 9,og 11 3 true (.move (.tmp 0)),og 12 3 true (.move (.tmp 2)),og 13 3 true (.binOp .leq 3 (.tmp 11) (.tmp 12) 3),oa 14 (.pick (.tmp 10) (.tmp 13) (.const (.bool false))),sg 6 14]:=.mk
def c95:Code:=.seq (rg 95 0) (.seq (rg 95 1) (.ret))
theorem k95:KF 95 [.tmp 6] 1 c95:=.mk
end
noncomputable section
theorem Kr:XF 127 0 1 [oa 2 (.assign (.const (.int .i64 (0))))]:=.mk
theorem LK:XF 127 1 9 [oa 3 (.assign (.const (.int .i64 (1))))]:=.mk
theorem Ob:XF 127 2 25 [oa 4 (.assign (.const (.int .i64 (0))))]:=.mk
theorem NU:XF 127 3 281 [mv 5 4,mv 6 0,oa 7 (.call ⟨.builtin .len,#[.tmp 6],#[22]⟩),bo 8 .lss 3 5 7]:=.mk
theorem NQ:XF 127 5 25 [mv 11 3,mv 12 0,mv 13 4,ia 14 22 12 13,ld 15 3 14,bo 16 .mul 3 11 15,sg 3 16]:=.mk
theorem Ll:XF 127 4 25 [mv 9 4,bk 10 .add 3 9 1,sg 4 10]:=.mk
theorem NI:XF 127 6 4 [mv 17 3,sg 2 17]:=.mk
def XE:Code:=.seq (.seq (rg 127 3) (.cond (.tmp 8) (.skip) (.exit 0))) (.seq (.block 1 (rg 127 5)) (rg 127 4))
theorem Qi(s:St):aj K 127 XE s=aj K 127 (.seq (.seq (rg 127 3) (.cond (.tmp 8) (.skip) (.exit 0))) (.seq (.block 1 (rg 127 5)) (rg 127 4))) s:=rfl
def c127:Code:=.seq (rg 127 0) (.seq (rg 127 1) (.seq (.seq (rg 127 2) (.block 0 (.loop XE))) (.seq (rg 127 6) (.ret))))
theorem asN:KF 127 [.tmp 2] 1 c127:=.mk
end
noncomputable section
@[simp] theorem aBl(t:Nat):K.esc 83 t=false:=by kernel_rfl
theorem SC:XF 83 0 6 [bx 2 28 0,oa 4 (.assign (.const (.int .i64 (0))))]:=.mk
theorem RG:XF 83 1 38 [oa 5 (.assign (.const (.int .i64 (0))))]:=.mk
theorem QZ:XF 83 2 102 [oa 6 (.assign (.const (.int .i64 (0))))]:=.mk
theorem SN:XF 83 3 614 [mv 7 6,mv 8 1,bo 9 .lss 3 7 8]:=.mk
theorem Rf:XF 83 5 102 [mv 12 5,fa 13 28 2 1,ld 14 26 13,mv 15 6,ia 16 26 14 15,fa 17 47 16 0,ld 18 22 17,oa 19 (.call ⟨.value (.func 127),#[.tmp 18],#[22]⟩),bo 20 .add 3 12 19,sg 5 20]:=.mk
theorem SS:XF 83 4 102 [mv 10 6,bk 11 .add 3 10 1,sg 6 11]:=.mk
theorem Rt:XF 83 6 16 [mv 21 5,sg 4 21]:=.mk
def adf:Code:=.seq (.seq (rg 83 3) (.cond (.tmp 9) (.skip) (.exit 0))) (.seq (.block 1 (rg 83 5)) (rg 83 4))
theorem QW(s:St):aj K 83 adf s=aj K 83 (.seq (.seq (rg 83 3) (.cond (.tmp 9) (.skip) (.exit 0))) (.seq (.block 1 (rg 83 5)) (rg 83 4))) s:=rfl
def c83:Code:=.seq (rg 83 0) (.seq (rg 83 1) (.seq (.seq (rg 83 2) (.block 0 (.loop adf))) (.seq (rg 83 6) (.ret))))
theorem k83:KF 83 [.tmp 4] 1 c83:=.mk
end
noncomputable section
@[simp] theorem az9(t:Nat):K.esc 61 t=false:=by kernel_rfl
theorem aps:XF 61 0 2 [bx 1 28 0,oa 2 (.assign (.const (.int .i64 (0))))]:=.mk
theorem amP:XF 61 1 4 [ld 3 28 1,fa 4 28 1 1,ld 5 26 4,oa 6 (.call ⟨.builtin .len,#[.tmp 5],#[26]⟩),oa 7 (.call ⟨.value (.func 83),#[.tmp 3,.tmp 6],#[28,3]⟩),sg 2 7]:=.mk
def c61:Code:=.seq (rg 61 0) (.seq (rg 61 1) (.ret))
theorem k61:KF 61 [.tmp 2] 1 c61:=.mk
end
noncomputable section
@[simp] theorem aBI(t:Nat):K.esc 51 t=false:=by kernel_rfl
theorem anN:XF 51 0 6 [bx 2 28 0,oa 4 (.assign (.const (.bool false)))]:=.mk
theorem an1:XF 51 1 16 [mv 5 1,ld 6 28 2,oa 7 (.call ⟨.value (.func 61),#[.tmp 6],#[28]⟩),bk 8 .sub 3 7 1,oa 9 (.call ⟨.value (.func 95),#[.tmp 5,.const (.int .i64 (0)),.tmp 8],#[3,3,3]⟩),sg 4 9]:=.mk
def c51:Code:=.seq (rg 51 0) (.seq (rg 51 1) (.ret))
theorem k51:KF 51 [.tmp 4] 1 c51:=.mk
end
noncomputable section
@[simp] theorem avK(t:Nat):K.esc 135 t=false:=by kernel_rfl
theorem O6:XF 135 0 3 [oa 4 (.assign (.const (.slice none 0 0)))]:=.mk
theorem KQ:XF 135 1 35 [mv 7 0,oa 8 (.call ⟨.builtin .len,#[.tmp 7],#[22]⟩),oa 9 (.makeSlice 22 (.tmp 8) (.tmp 8)),sg 5 9]:=.mk
theorem Nw:XF 135 2 99 [mv 10 0,oa 11 (.call ⟨.builtin .len,#[.tmp 10],#[22]⟩),bk 12 .sub 3 11 1,sg 6 12]:=.mk
theorem OG:XF 135 3 16483 [mv 13 6,bk 14 .geq 3 13 0]:=.mk
theorem ND:XP 135 5 99 [(6,12)] [mv 17 5,mv 18 6,mv 19 1,mv 20 0,mv 21 6,ia 22 22 20 21,ld 23 3 22,bo 24 .rem 3 19 23,mv 25 1,mv 26 0,mv 27 6,ia 28 22 26 27,ld 29 3 28,bo 30 .quo 3 25 29,ia 31 22 17 18,so 3 31 24,sg 1 30]:=.mk
theorem Oe:XF 135 4 99 [mv 15 6,bk 16 .sub 3 15 1,sg 6 16]:=.mk
theorem P8:XF 135 6 16 [mv 32 5,sg 4 32]:=.mk
def Y5:Code:=.seq (.seq (rg 135 3) (.cond (.tmp 14) (.skip) (.exit 0))) (.seq (.block 1 (rd 135 5)) (rg 135 4))
theorem Lc(s:St):aj K 135 Y5 s=aj K 135 (.seq (.seq (rg 135 3) (.cond (.tmp 14) (.skip) (.exit 0))) (.seq (.block 1 (rd 135 5)) (rg 135 4))) s:=rfl
def acu:Code:=.seq (rg 135 0) (.seq (rg 135 1) (.seq (.seq (rg 135 2) (.block 0 (.loop Y5))) (.seq (rg 135 6) (.ret))))
theorem azk:KF 135 [.tmp 4] 1 acu:=.mk
end
noncomputable section
@[simp] theorem aAE(t:Nat):K.esc 66 t=false:=by kernel_rfl
theorem Xh:XF 66 0 6 [bx 2 28 0,oa 4 (.assign (.const (.int .i64 (0)))),oa 5 (.assign (.const (.slice none 0 0)))]:=.mk
theorem WA:XF 66 1 70 [oa 6 (.assign (.const (.int .i64 (0))))]:=.mk
theorem ZH:XF 66 2 32838 [mv 7 1,fa 8 28 2 1,ld 9 26 8,mv 10 6,ia 11 26 9 10,fa 12 47 11 0,ld 13 22 12,oa 14 (.call ⟨.value (.func 127),#[.tmp 13],#[22]⟩),bo 15 .geq 3 7 14]:=.mk
theorem YK:XF 66 3 70 [mv 16 1,fa 17 28 2 1,ld 18 26 17,mv 19 6,ia 20 26 18 19,fa 21 47 20 0,ld 22 22 21,oa 23 (.call ⟨.value (.func 127),#[.tmp 22],#[22]⟩),bo 24 .sub 3 16 23,sg 1 24]:=.mk
theorem Xn:XF 66 4 70 [mv 25 6,bk 26 .add 3 25 1,sg 6 26]:=.mk
theorem ZF:XF 66 5 48 [mv 27 6,fa 28 28 2 1,ld 29 26 28,mv 30 6,ia 31 26 29 30,fa 32 47 31 0,ld 33 22 32,mv 34 1,oa 35 (.call ⟨.value (.func 135),#[.tmp 33,.tmp 34],#[22,3]⟩),sg 4 27,sg 5 35]:=.mk
def acX:Code:=.seq (.seq (rg 66 2) (.cond (.tmp 15) (.skip) (.exit 0))) (.block 1 (.seq (rg 66 3) (rg 66 4)))
theorem Xf(s:St):aj K 66 acX s=aj K 66 (.seq (.seq (rg 66 2) (.cond (.tmp 15) (.skip) (.exit 0))) (.block 1 (.seq (rg 66 3) (rg 66 4)))) s:=rfl
def c66:Code:=.seq (rg 66 0) (.seq (rg 66 1) (.seq (.block 0 (.loop acX)) (.seq (rg 66 5) (.ret))))
theorem k66:KF 66 [.tmp 4,.tmp 5] 1 c66:=.mk
end
noncomputable section
@[simp] theorem axg(t:Nat):K.esc 136 t=false:=by kernel_rfl
theorem Qp:XF 136 0 6 [bx 2 142 0,oa 4 (.assign (.const (.int .i64 (0))))]:=.mk
theorem MP:XF 136 1 38 [fa 7 142 2 0,ld 8 3 7,sg 5 8]:=.mk
theorem OX:XF 136 2 102 [oa 6 (.assign (.const (.int .i64 (0))))]:=.mk
theorem Nl:XF 136 3 4198 [mv 9 6,mv 10 1,oa 11 (.call ⟨.builtin .len,#[.tmp 10],#[22]⟩),bo 12 .lss 3 9 11]:=.mk
theorem NF:XP 136 5 102 [(2,9),(5,9)] [mv 15 5,fa 16 142 2 1,ld 17 22 16,mv 18 6,ia 19 22 17 18,ld 20 3 19,mv 21 1,mv 22 6,ia 23 22 21 22,ld 24 3 23,bo 25 .mul 3 20 24,bo 26 .add 3 15 25,sg 5 26]:=.mk
theorem O8:XF 136 4 102 [mv 13 6,bk 14 .add 3 13 1,sg 6 14]:=.mk
theorem LU:XF 136 6 16 [mv 27 5,sg 4 27]:=.mk
def X4:Code:=.seq (.seq (rg 136 3) (.cond (.tmp 12) (.skip) (.exit 0))) (.seq (.block 1 (rd 136 5)) (rg 136 4))
theorem Ql(s:St):aj K 136 X4 s=aj K 136 (.seq (.seq (rg 136 3) (.cond (.tmp 12) (.skip) (.exit 0))) (.seq (.block 1 (rd 136 5)) (rg 136 4))) s:=rfl
def ack:Code:=.seq (rg 136 0) (.seq (rg 136 1) (.seq (.seq (rg 136 2) (.block 0 (.loop X4))) (.seq (rg 136 6) (.ret))))
theorem avI:KF 136 [.tmp 4] 1 ack:=.mk
end
noncomputable section
theorem O0:XF 137 0 3 [oa 4 (.assign (.const (.int .i64 (0))))]:=.mk
theorem QA:XF 137 1 35 [oa 5 (.assign (.const (.int .i64 (0))))]:=.mk
theorem Nz:XF 137 2 99 [oa 6 (.assign (.const (.int .i64 (0))))]:=.mk
theorem OY:XF 137 3 1123 [mv 7 6,mv 8 0,oa 9 (.call ⟨.builtin .len,#[.tmp 8],#[22]⟩),bo 10 .lss 3 7 9]:=.mk
theorem MX:XP 137 5 99 [(4,9)] [mv 13 5,mv 14 0,mv 15 6,ia 16 22 14 15,ld 17 3 16,bo 18 .mul 3 13 17,mv 19 1,mv 20 6,ia 21 22 19 20,ld 22 3 21,bo 23 .add 3 18 22,sg 5 23]:=.mk
theorem Oq:XF 137 4 99 [mv 11 6,bk 12 .add 3 11 1,sg 6 12]:=.mk
theorem Lp:XF 137 6 16 [mv 24 5,sg 4 24]:=.mk
def YQ:Code:=.seq (.seq (rg 137 3) (.cond (.tmp 10) (.skip) (.exit 0))) (.seq (.block 1 (rd 137 5)) (rg 137 4))
theorem Nk(s:St):aj K 137 YQ s=aj K 137 (.seq (.seq (rg 137 3) (.cond (.tmp 10) (.skip) (.exit 0))) (.seq (.block 1 (rd 137 5)) (rg 137 4))) s:=rfl
def aci:Code:=.seq (rg 137 0) (.seq (rg 137 1) (.seq (.seq (rg 137 2) (.block 0 (.loop YQ))) (.seq (rg 137 6) (.ret))))
theorem ahX:KF 137 [.tmp 4] 1 aci:=.mk
end
noncomputable section
@[simp] theorem aAJ(t:Nat):K.esc 67 t=false:=by kernel_rfl
theorem ZO:XF 67 0 30 [bx 4 28 0,oa 8 (.assign (.const (.int .i64 (0))))]:=.mk
theorem Xo:XF 67 1 536 [fa 12 28 4 1,ld 13 26 12,mv 14 1,ia 15 26 13 14,ld 16 47 15,mv 17 2,oa 18 (.call ⟨.value (.func 53),#[.tmp 16,.tmp 17],#[47,3]⟩),aq 9 39,so 39 9 18]:=.mk
theorem WY:XF 67 2 1560 [oa 10 (.assign (.const (.slice none 0 0)))]:=.mk
theorem VE:XF 67 3 3608 [oa 11 (.assign (.const (.int .i64 (0))))]:=.mk
theorem Ya:XF 67 4 8392216 [mv 19 11,fa 20 39 9 1,ld 21 37 20,oa 22 (.call ⟨.builtin .len,#[.tmp 21],#[37]⟩),bo 23 .lss 3 19 22]:=.mk
theorem WJ:XF 67 6 3608 [mv 26 10,fa 27 39 9 1,ld 28 37 27,mv 29 11,ia 30 37 28 29,ld 31 142 30,mv 32 3,oa 33 (.call ⟨.value (.func 136),#[.tmp 31,.tmp 32],#[142,22]⟩),oa 34 (.buildSlice 22 1 #[(0,.tmp 33)]),oa 35 (.call ⟨.builtin .append,#[.tmp 26,.tmp 34],#[22,22]⟩),sg 10 35]:=.mk
@[simp] theorem ana:K.imm 67 34=false:=by kernel_rfl
@[simp] theorem anw:K.imm 67 35=false:=by kernel_rfl
theorem Zt:XF 67 5 3608 [mv 24 11,bk 25 .add 3 24 1,sg 11 25]:=.mk
theorem Xx:XF 67 7 256 [fa 36 28 4 0,ld 37 25 36,fa 38 39 9 0,ld 39 3 38,ia 40 25 37 39,fa 41 168 40 1,ld 42 22 41,mv 43 10,oa 44 (.call ⟨.value (.func 137),#[.tmp 42,.tmp 43],#[22,22]⟩),sg 8 44]:=.mk
def adH:Code:=.seq (.seq (rg 67 4) (.cond (.tmp 23) (.skip) (.exit 0))) (.seq (.block 1 (rg 67 6)) (rg 67 5))
theorem Ws(s:St):aj K 67 adH s=aj K 67 (.seq (.seq (rg 67 4) (.cond (.tmp 23) (.skip) (.exit 0))) (.seq (.block 1 (rg 67 6)) (rg 67 5))) s:=rfl
def c67:Code:=.seq (rg 67 0) (.seq (rg 67 1) (.seq (rg 67 2) (.seq (.seq (rg 67 3) (.block 0 (.loop adH))) (.seq (rg 67 7) (.ret)))))
theorem k67:KF 67 [.tmp 8] 1 c67:=.mk
end
noncomputable section
@[simp] theorem az6(t:Nat):K.esc 15 t=false:=by kernel_rfl
theorem ao9:XF 15 0 2 [bx 1 28 0,oa 2 (.assign (.const (.slice none 0 0)))]:=.mk
theorem anJ:XF 15 1 10 [oa 3 (.assign (.const (.slice none 0 0)))]:=.mk
theorem anH:XF 15 2 26 [oa 4 (.assign (.const (.int .i64 (0))))]:=.mk
theorem J5:XF 15 3 4122 [mv 9 4,ld 10 28 1,oa 11 (.call ⟨.value (.func 61),#[.tmp 10],#[28]⟩),bo 12 .lss 3 9 11]:=.mk
theorem Rh:XF 15 5 122 [ld 16 28 1,mv 17 4,oa 18 (.call ⟨.value (.func 66),#[.tmp 16,.tmp 17],#[28,3]⟩),mv 15 18,xt 19 15 0,xt 20 15 1,sg 5 19,sg 6 20]:=.mk
theorem Ru:XF 15 6 250 [oa 7 (.assign (.const (.slice none 0 0)))]:=.mk
theorem S9:XF 15 7 506 [oa 8 (.assign (.const (.int .i64 (0))))]:=.mk
theorem VK:XF 15 8 536871418 [mv 21 8,fa 22 28 1 1,ld 23 26 22,mv 24 5,ia 25 26 23 24,fa 26 47 25 2,ld 27 40 26,oa 28 (.call ⟨.builtin .len,#[.tmp 27],#[40]⟩),bo 29 .leq 3 21 28]:=.mk
theorem Ld:XP 15 10 506 [(2,9),(5,9),(7,9)] [mv 32 7,fa 33 28 1 1,ld 34 26 33,mv 35 5,ia 36 26 34 35,ld 37 47 36,mv 38 8,oa 39 (.call ⟨.value (.func 53),#[.tmp 37,.tmp 38],#[47,3]⟩),oa 40 (.field 39 (.tmp 39) 0),ld 41 28 1,mv 42 5,mv 43 8,mv 44 6,oa 45 (.call ⟨.value (.func 67),#[.tmp 41,.tmp 42,.tmp 43,.tmp 44],#[28,3,3,22]⟩),oa 46 (.build 86 #[(0,.tmp 40),(1,.tmp 45)]),oa 47 (.buildSlice 87 1 #[(0,.tmp 46)]),oa 48 (.call ⟨.builtin .append,#[.tmp 32,.tmp 47],#[87,87]⟩),sg 7 48]:=.mk
@[simp] theorem anC:K.imm 15 47=false:=by kernel_rfl
@[simp] theorem apd:K.imm 15 48=false:=by kernel_rfl
theorem VU:XF 15 9 506 [mv 30 8,bk 31 .add 3 30 1,sg 8 31]:=.mk
theorem Fg:XF 15 11 26 [mv 49 3,mv 50 7,oa 51 (.buildSlice 33 1 #[(0,.tmp 50)]),oa 52 (.call ⟨.builtin .append,#[.tmp 49,.tmp 51],#[33,33]⟩),sg 3 52]:=.mk
@[simp] theorem anF:K.imm 15 51=false:=by kernel_rfl
@[simp] theorem akf:K.imm 15 52=false:=by kernel_rfl
theorem yL:XF 15 4 26 [mv 13 4,bk 14 .add 3 13 1,sg 4 14]:=.mk
theorem ae5:XF 15 12 4 [mv 53 3,sg 2 53]:=.mk
def yT:Code:=.seq (.seq (rg 15 8) (.cond (.tmp 29) (.skip) (.exit 2))) (.seq (.block 3 (rd 15 10)) (rg 15 9))
theorem XK(s:St):aj K 15 yT s=aj K 15 (.seq (.seq (rg 15 8) (.cond (.tmp 29) (.skip) (.exit 2))) (.seq (.block 3 (rd 15 10)) (rg 15 9))) s:=rfl
def yU:Code:=.seq (.seq (rg 15 3) (.cond (.tmp 12) (.skip) (.exit 0))) (.seq (.block 1 (.seq (rg 15 5) (.seq (rg 15 6) (.seq (.seq (rg 15 7) (.block 2 (.loop yT))) (rg 15 11))))) (rg 15 4))
theorem IJ(s:St):aj K 15 yU s=aj K 15 (.seq (.seq (rg 15 3) (.cond (.tmp 12) (.skip) (.exit 0))) (.seq (.block 1 (.seq (rg 15 5) (.seq (rg 15 6) (.seq (.seq (rg 15 7) (.block 2 (.loop yT))) (rg 15 11))))) (rg 15 4))) s:=rfl
def c15:Code:=.seq (rg 15 0) (.seq (rg 15 1) (.seq (.seq (rg 15 2) (.block 0 (.loop yU))) (.seq (rg 15 12) (.ret))))
theorem k15:KF 15 [.tmp 2] 1 c15:=.mk
end
noncomputable section
@[simp] theorem aAO(t:Nat):K.esc 71 t=false:=by kernel_rfl
theorem ac3:XF 71 0 9 [bx 3 121 1,oa 4 (.assign (.const (.slice none 0 0)))]:=.mk
theorem aee:XP 71 1 96 [(3,5),(3,12),(5,12),(8,12),(3,14),(5,14),(8,14),(12,14),(3,17),(5,17),(8,17)] [mv 9 0,oa 10 (.nilCheck (.tmp 9)),fa 11 105 10 1,ld 12 103 11,fa 13 121 3 0,ld 14 3 13,ia 15 103 12 14,fa 16 108 15 2,ld 17 22 16,mv 18 0,oa 19 (.nilCheck (.tmp 18)),fa 20 105 19 1,ld 21 103 20,fa 22 121 3 1,ld 23 3 22,ia 24 103 21 23,fa 25 108 24 2,ld 26 22 25,sg 5 17,sg 6 26]:=.mk
theorem adw:XF 71 2 224 [oa 7 (.assign (.const (.slice none 0 0)))]:=.mk
theorem adI:XF 71 3 6442451168 [mv 27 5,oa 28 (.call ⟨.builtin .len,#[.tmp 27],#[22]⟩),mv 29 6,oa 30 (.call ⟨.builtin .len,#[.tmp 29],#[22]⟩),oa 31 (.call ⟨.builtin .min,#[.tmp 28,.tmp 30],#[3,3]⟩),oa 32 (.move (.const (.int .i64 (0))))]:=.mk
theorem WQ:XF 71 4 15032385760 [bo 33 .lss 3 32 31]:=.mk
theorem adL:XF 71 5 6442451424 [mv 34 32,sg 8 34]:=.mk
theorem adB:XP 71 6 6442451168 [(4,8)] [mv 35 7,mv 36 6,mv 37 8,ia 38 22 36 37,ld 39 3 38,mv 40 5,mv 41 8,ia 42 22 40 41,ld 43 3 42,bo 44 .sub 3 39 43,oa 45 (.buildSlice 22 1 #[(0,.tmp 44)]),oa 46 (.call ⟨.builtin .append,#[.tmp 35,.tmp 45],#[22,22]⟩),sg 7 46]:=.mk
@[simp] theorem apo:K.imm 71 45=false:=by kernel_rfl
@[simp] theorem anU:K.imm 71 46=false:=by kernel_rfl
theorem adh:XF 71 7 6442451168 [bk 47 .add 3 32 1,mv 32 47]:=.mk
theorem adX:XF 71 8 16 [mv 48 7,sg 4 48]:=.mk
def JH:Code:=.seq (rg 71 4) (.seq (.cond (.tmp 33) (.skip) (.exit 0)) (.seq (.block 1 (.seq (rg 71 5) (rd 71 6))) (rg 71 7)))
theorem Zv(s:St):aj K 71 JH s=aj K 71 (.seq (rg 71 4) (.seq (.cond (.tmp 33) (.skip) (.exit 0)) (.seq (.block 1 (.seq (rg 71 5) (rd 71 6))) (rg 71 7)))) s:=rfl
def c71:Code:=.seq (rg 71 0) (.seq (rd 71 1) (.seq (rg 71 2) (.seq (.seq (rg 71 3) (.block 0 (.loop JH))) (.seq (rg 71 8) (.ret)))))
theorem k71:KF 71 [.tmp 4] 1 c71:=.mk
end
noncomputable section
@[simp] theorem aBR(t:Nat):K.esc 69 t=[4,5,6,7].elem t:=by kernel_rfl
theorem anV:XF 69 0 240 [bx 4 99 0,bx 5 3 1,bx 6 3 2,bx 7 3 3,oa 8 (.assign (.const (.nilFunc)))]:=.mk
theorem amT:XF 69 1 256 [oa 9 (.makeFunc (.func 138) #[] #[.tmp 4,.tmp 6,.tmp 7,.tmp 5]),sg 8 9]:=.mk
def c69:Code:=.seq (rg 69 0) (.seq (rg 69 1) (.ret))
theorem k69:KF 69 [.tmp 8] 1 c69:=.mk
end
noncomputable section
@[simp] theorem aAf(t:Nat):K.esc 76 t=false:=by kernel_rfl
theorem ajU:XF 76 0 30 [bx 4 28 0,oa 8 (.assign (.const (.pointer none))),oa 9 (.assign (.const (.int .i64 (0))))]:=.mk
theorem apr:XF 76 1 3086 [ld 13 28 4,oa 14 (.call ⟨.value (.func 64),#[.tmp 13],#[28]⟩),mv 12 14,xt 15 12 0,xt 16 12 1,sg 10 15,sg 11 16]:=.mk
theorem al0:XF 76 2 265230 [mv 17 11,bk 18 .neq 30 17 0]:=.mk
theorem aAF:XF 76 3 768 [mv 19 11,oa 8 (.assign (.const (.pointer none))),sg 9 19]:=.mk
theorem akY:XF 76 4 536871944 [mv 20 10,mv 21 1,oa 22 (.call ⟨.value (.func 68),#[.tmp 20,.tmp 21],#[99,3]⟩),oa 23 (.unOp .not 4 (.tmp 22)),mv 24 23,og 25 4 false (.move (.tmp 10)),og 26 4 false (.move (.tmp 2)),og 27 4 false (.call ⟨.value (.func 68),#[.tmp 25,.tmp 26],#[99,3]⟩),og 28 4 false (.unOp .not 4 (.tmp 27)),oa 29 (.pick (.tmp 24) (.const (.bool true)) (.tmp 28))]:=.mk
theorem aAx:XF 76 5 768 [oa 8 (.assign (.const (.pointer none))),oa 9 (.assign (.const (.int .i64 (3))))]:=.mk
theorem apA:XF 76 6 4294968320 [mv 30 3,oa 31 (.call ⟨.value (.func 97),#[.tmp 30,.const (.int .i64 (1)),.const (.int .i64 (3))],#[3,3,3]⟩),oa 32 (.unOp .not 4 (.tmp 31))]:=.mk
theorem aAQ:XF 76 7 768 [oa 8 (.assign (.const (.pointer none))),oa 9 (.assign (.const (.int .i64 (9))))]:=.mk
theorem ajS:XF 76 8 768 [mv 33 10,sg 8 33,oa 9 (.assign (.const (.int .i64 (0))))]:=.mk
def c76:Code:=.seq (rg 76 0) (.seq (rg 76 1) (.seq (.seq (rg 76 2) (.cond (.tmp 18) (.seq (rg 76 3) (.ret)) (.skip))) (.seq (.seq (rg 76 4) (.cond (.tmp 29) (.seq (rg 76 5) (.ret)) (.skip))) (.seq (.seq (rg 76 6) (.cond (.tmp 32) (.seq (rg 76 7) (.ret)) (.skip))) (.seq (rg 76 8) (.ret))))))
theorem k76:KF 76 [.tmp 8,.tmp 9] 1 c76:=.mk
end
noncomputable section
@[simp] theorem aAS(t:Nat):K.esc 24 t=[12].elem t:=by kernel_rfl
theorem anX:XF 24 0 798 [bx 4 28 0,oa 8 (.assign (.const (.int .i64 (0)))),oa 9 (.assign (.const (.int .i64 (0))))]:=.mk
theorem apa:XF 24 1 3854 [ld 14 28 4,mv 15 1,mv 16 2,mv 17 3,oa 18 (.call ⟨.value (.func 76),#[.tmp 14,.tmp 15,.tmp 16,.tmp 17],#[28,3,3,3]⟩),mv 13 18,xt 19 13 0,xt 20 13 1,sg 10 19,sg 11 20]:=.mk
theorem ao4:XF 24 2 4198158 [mv 21 11,bk 22 .neq 30 21 0]:=.mk
theorem aA4:XF 24 3 768 [mv 23 11,oa 8 (.assign (.const (.int .i64 (0)))),sg 9 23]:=.mk
theorem anG:XF 24 4 5902 [aq 12 3,on (.store 3 (.tmp 12) (.const (.int .i64 (0))))]:=.mk
theorem aon:XF 24 5 268440320 [mv 24 10,mv 25 1,mv 26 2,mv 27 3,oa 28 (.call ⟨.value (.func 69),#[.tmp 24,.tmp 25,.tmp 26,.tmp 27],#[99,3,3,3]⟩)]:=.mk
theorem apC:XF 24 6 0 [ld 30 3 12,bk 31 .add 3 30 1,so 3 12 31]:=.mk
theorem apD:XF 24 7 768 [ld 32 3 12,sg 8 32,oa 9 (.assign (.const (.int .i64 (0))))]:=.mk
def Iw:Code:=.skip
def Ip:Code:=.block 1 (rg 24 6)
def c24:Code:=.seq (rg 24 0) (.seq (rg 24 1) (.seq (.seq (rg 24 2) (.cond (.tmp 22) (.seq (rg 24 3) (.ret)) (.skip))) (.seq (rg 24 4) (.seq (.seq (rg 24 5) (.block 0 (.rangeFunc (.tmp 28) #[29] Iw Ip))) (.seq (rg 24 7) (.ret))))))
theorem k24:KF 24 [.tmp 8,.tmp 9] 1 c24:=.mk
end
noncomputable section
@[simp] theorem aAR(t:Nat):K.esc 26 t=[13].elem t:=by kernel_rfl
theorem ad8:XF 26 0 798 [bx 4 28 0,oa 8 (.assign (.const (.int .i64 (0)))),oa 9 (.assign (.const (.int .i64 (0)))),oa 10 (.assign (.const (.int .i64 (0))))]:=.mk
theorem ad7:XF 26 1 3854 [ld 16 28 4,mv 17 1,mv 18 2,mv 19 3,oa 20 (.call ⟨.value (.func 76),#[.tmp 16,.tmp 17,.tmp 18,.tmp 19],#[28,3,3,3]⟩),mv 15 20,xt 21 15 0,xt 22 15 1,sg 11 21,sg 10 22]:=.mk
theorem aeo:XF 26 2 16781070 [mv 23 10,bk 24 .neq 30 23 0]:=.mk
theorem aBk:XF 26 3 1792 [mv 25 10,oa 8 (.assign (.const (.int .i64 (0)))),oa 9 (.assign (.const (.int .i64 (0)))),sg 10 25]:=.mk
theorem adn:XF 26 4 7950 [oa 26 (.build 121 #[(0,.const (.int .i64 (-1))),(1,.const (.int .i64 (-1)))]),aq 12 121,so 121 12 26]:=.mk
theorem adz:XF 26 5 16142 [ld 27 121 12,aq 13 121,so 121 13 27]:=.mk
theorem adp:XF 26 6 4294981376 [mv 28 11,mv 29 1,mv 30 2,mv 31 3,oa 32 (.call ⟨.value (.func 69),#[.tmp 28,.tmp 29,.tmp 30,.tmp 31],#[99,3,3,3]⟩)]:=.mk
theorem JZ:XF 26 7 28672 [aq 14 121,so 121 14 33]:=.mk
theorem Jy:XF 26 8 144115188075880448 [ld 34 121 13,ld 35 121 12,bo 36 .eql 121 34 35,mv 37 36,og 38 3 false (.fieldAddr 121 (.tmp 14) 0),og 39 3 false (.load 3 (.tmp 38)),og 40 3 false (.fieldAddr 121 (.tmp 13) 0),og 41 3 false (.load 3 (.tmp 40)),og 42 3 false (.binOp .lss 3 (.tmp 39) (.tmp 41) 3),oa 43 (.pick (.tmp 37) (.const (.bool true)) (.tmp 42)),mv 44 43,og 45 10 false (.fieldAddr 121 (.tmp 14) 0),og 46 10 false (.load 3 (.tmp 45)),og 47 10 false (.fieldAddr 121 (.tmp 13) 0),og 48 10 false (.load 3 (.tmp 47)),og 49 10 false (.binOp .eql 3 (.tmp 46) (.tmp 48) 3),og 50 10 false (.move (.tmp 49)),og 51 16 true (.fieldAddr 121 (.tmp 14) 1),og 52 16 true (.load 3 (.tmp 51)),og 53 16 true (.fieldAddr 121 (.tmp 13) 1),og 54 16 true (.load 3 (.tmp 53)),og 55 16 true (.binOp .lss 3 (.tmp 52) (.tmp 54) 3),og 56 10 false (.pick (.tmp 50) (.tmp 55) (.const (.bool false))),oa 57 (.pick (.tmp 44) (.const (.bool true)) (.tmp 56))]:=.mk
theorem Yl:XF 26 9 0 [ld 58 121 14,so 121 13 58]:=.mk
theorem Ye:XF 26 10 2305843009213702144 [ld 59 121 13,ld 60 121 12,bo 61 .eql 121 59 60]:=.mk
theorem ahR:XF 26 11 1792 [oa 8 (.assign (.const (.int .i64 (0)))),oa 9 (.assign (.const (.int .i64 (0)))),oa 10 (.assign (.const (.int .i64 (14))))]:=.mk
theorem aeL:XP 26 12 1792 [(1,3)] [fa 62 121 13 0,ld 63 3 62,fa 64 121 13 1,ld 65 3 64,sg 8 63,sg 9 65,oa 10 (.assign (.const (.int .i64 (0))))]:=.mk
def JX:Code:=rg 26 7
def Jz:Code:=.block 1 (.seq (rg 26 8) (.cond (.tmp 57) (rg 26 9) (.skip)))
def c26:Code:=.seq (rg 26 0) (.seq (rg 26 1) (.seq (.seq (rg 26 2) (.cond (.tmp 24) (.seq (rg 26 3) (.ret)) (.skip))) (.seq (rg 26 4) (.seq (rg 26 5) (.seq (.seq (rg 26 6) (.block 0 (.rangeFunc (.tmp 32) #[33] JX Jz))) (.seq (.seq (rg 26 10) (.cond (.tmp 61) (.seq (rg 26 11) (.ret)) (.skip))) (.seq (rd 26 12) (.ret))))))))
theorem k26:KF 26 [.tmp 8,.tmp 9,.tmp 10] 1 c26:=.mk
end
noncomputable section
theorem Ze:XF 98 0 1 [oa 2 (.assign (.const (.int .i64 (0))))]:=.mk
theorem Vm:XF 98 1 4 [mv 3 0,oa 4 (.call ⟨.builtin .min,#[.const (.int .i64 (1)),.tmp 3],#[3,3]⟩),oa 5 (.call ⟨.builtin .max,#[.const (.int .i64 (-1)),.tmp 4],#[3,3]⟩),sg 2 5]:=.mk
def c98:Code:=.seq (rg 98 0) (.seq (rg 98 1) (.ret))
theorem k98:KF 98 [.tmp 2] 1 c98:=.mk
end
noncomputable section
theorem MQ:XF 154 0 3 [oa 4 (.assign (.const (.int .i64 (0))))]:=.mk
theorem N7:XF 154 1 35 [mv 7 0,oa 8 (.call ⟨.value (.func 198),#[.tmp 7],#[3]⟩),sg 5 8]:=.mk
theorem Nr:XF 154 2 99 [mv 9 1,oa 10 (.call ⟨.value (.func 198),#[.tmp 9],#[3]⟩),sg 6 10]:=.mk
theorem KL:XF 154 3 2115 [mv 11 5]:=.mk
theorem ayg:XF 154 4 4096 [mv 12 6]:=.mk
theorem axA:XF 154 5 16 [oa 4 (.assign (.const (.int .i64 (0))))]:=.mk
theorem ayy:XF 154 6 16 [oa 4 (.assign (.const (.int .i64 (-1))))]:=.mk
theorem Oz:XF 154 7 8195 [mv 13 6]:=.mk
theorem awG:XF 154 8 16 [oa 4 (.assign (.const (.int .i64 (1))))]:=.mk
theorem QF:XF 154 9 65539 [mv 14 0,mv 15 1,bo 16 .lss 3 14 15]:=.mk
theorem aaq:XF 154 10 16 [oa 4 (.assign (.const (.int .i64 (-1))))]:=.mk
theorem Q5:XF 154 11 524288 [mv 17 0,mv 18 1,bo 19 .gtr 3 17 18]:=.mk
theorem aaH:XF 154 12 16 [oa 4 (.assign (.const (.int .i64 (1))))]:=.mk
theorem ab7:XF 154 13 16 [oa 4 (.assign (.const (.int .i64 (0))))]:=.mk
def c154:Code:=.seq (rg 154 0) (.seq (rg 154 1) (.seq (rg 154 2) (.seq (.seq (rg 154 3) (.cond (.tmp 11) (.seq (.seq (rg 154 4) (.cond (.tmp 12) (.seq (rg 154 5) (.ret)) (.skip))) (.seq (rg 154 6) (.ret))) (.skip))) (.seq (.seq (rg 154 7) (.cond (.tmp 13) (.seq (rg 154 8) (.ret)) (.skip))) (.seq (.seq (rg 154 9) (.cond (.tmp 16) (.seq (rg 154 10) (.ret)) (.skip))) (.seq (.seq (rg 154 11) (.cond (.tmp 19) (.seq (rg 154 12) (.ret)) (.skip))) (.seq (rg 154 13) (.ret))))))))
theorem ag3:KF 154 [.tmp 4] 1 c154:=.mk
end
noncomputable section
theorem afX:XF 198 0 1 [oa 2 (.assign (.const (.bool false)))]:=.mk
theorem aiM:XF 198 1 4 [mv 3 0,mv 4 0,bo 5 .neq 3 3 4,sg 2 5]:=.mk
def c198:Code:=.seq (rg 198 0) (.seq (rg 198 1) (.ret))
theorem auC:KF 198 [.tmp 2] 1 c198:=.mk
end
noncomputable section
theorem LD:XF 100 0 3 [oa 4 (.assign (.const (.int .i64 (0))))]:=.mk
theorem Nh:XF 100 1 3587 [mv 9 0,oa 10 (.call ⟨.builtin .len,#[.tmp 9],#[22]⟩),oa 11 (.move (.const (.int .i64 (0))))]:=.mk
theorem Gs:XF 100 2 7683 [bo 12 .lss 3 11 10]:=.mk
theorem Ns:XF 100 3 3683 [mv 13 11,ia 14 22 9 11,ld 15 3 14,sg 5 13,sg 6 15]:=.mk
theorem MJ:XF 100 4 527971 [mv 16 5,mv 17 1,oa 18 (.call ⟨.builtin .len,#[.tmp 17],#[22]⟩),bo 19 .geq 3 16 18]:=.mk
theorem agT:XF 100 5 16 [oa 4 (.assign (.const (.int .i64 (1))))]:=.mk
theorem Wl:XF 100 6 3779 [mv 20 1,mv 21 5,ia 22 22 20 21,ld 23 3 22,sg 7 23]:=.mk
theorem Xw:XF 100 7 3843 [mv 24 6,mv 25 7,oa 26 (.call ⟨.value (.func 154),#[.tmp 24,.tmp 25],#[3,3]⟩),sg 8 26]:=.mk
theorem Yv:XF 100 8 268439299 [mv 27 8,bk 28 .neq 3 27 0]:=.mk
theorem ag9:XF 100 9 16 [mv 29 8,sg 4 29]:=.mk
theorem abW:XF 100 10 3587 [bk 30 .add 3 11 1,mv 11 30]:=.mk
theorem Ri:XF 100 11 34359738368 [mv 31 0,oa 32 (.call ⟨.builtin .len,#[.tmp 31],#[22]⟩),mv 33 1,oa 34 (.call ⟨.builtin .len,#[.tmp 33],#[22]⟩),bo 35 .lss 3 32 34]:=.mk
theorem Z4:XF 100 12 16 [oa 4 (.assign (.const (.int .i64 (-1))))]:=.mk
theorem abN:XF 100 13 16 [oa 4 (.assign (.const (.int .i64 (0))))]:=.mk
def qh:Code:=.seq (rg 100 2) (.seq (.cond (.tmp 12) (.skip) (.exit 0)) (.seq (.block 1 (.seq (rg 100 3) (.seq (.seq (rg 100 4) (.cond (.tmp 19) (.seq (rg 100 5) (.ret)) (.skip))) (.seq (rg 100 6) (.seq (rg 100 7) (.seq (rg 100 8) (.cond (.tmp 28) (.seq (rg 100 9) (.ret)) (.skip)))))))) (rg 100 10)))
theorem GY(s:St):aj K 100 qh s=aj K 100 (.seq (rg 100 2) (.seq (.cond (.tmp 12) (.skip) (.exit 0)) (.seq (.block 1 (.seq (rg 100 3) (.seq (.seq (rg 100 4) (.cond (.tmp 19) (.seq (rg 100 5) (.ret)) (.skip))) (.seq (rg 100 6) (.seq (rg 100 7) (.seq (rg 100 8) (.cond (.tmp 28) (.seq (rg 100 9) (.ret)) (.skip)))))))) (rg 100 10)))) s:=rfl
def abf:Code:=.seq (rg 100 0) (.seq (.seq (rg 100 1) (.block 0 (.loop qh))) (.seq (.seq (rg 100 11) (.cond (.tmp 35) (.seq (rg 100 12) (.ret)) (.skip))) (.seq (rg 100 13) (.ret))))
theorem asP:KF 100 [.tmp 4] 1 abf:=.mk
end
noncomputable section
theorem Yj:XF 99 0 7 [oa 6 (.assign (.const (.int .i64 (0)))),oa 7 (.assign (.const (.bool false)))]:=.mk
theorem ZP:XF 99 1 263 [mv 12 0,oa 13 (.call ⟨.builtin .len,#[.tmp 12],#[74]⟩),sg 8 13]:=.mk
theorem Y4:XF 99 2 1799 [mv 14 8,oa 9 (.assign (.const (.int .i64 (0)))),sg 10 14]:=.mk
theorem Rw:XF 99 3 132871 [mv 15 9,mv 16 10,bo 17 .lss 3 15 16]:=.mk
theorem adr:XF 99 4 3847 [mv 18 9,mv 19 10,bo 20 .add 3 18 19,oa 21 (.convert 3 195 (.tmp 20)),oa 22 (.binOp .shr 195 (.tmp 21) (.const (.int .u64 (1))) 195),oa 23 (.convert 195 3 (.tmp 22)),sg 11 23]:=.mk
theorem ac5:XF 99 5 2147487495 [mv 24 2,mv 25 0,mv 26 11,ia 27 74 25 26,ld 28 22 27,mv 29 1,oa 30 (.call ⟨.value (.tmp 24),#[.tmp 28,.tmp 29],#[22,22]⟩),bk 31 .lss 3 30 0]:=.mk
theorem aoL:XF 99 6 1799 [mv 32 11,bk 33 .add 3 32 1,sg 9 33]:=.mk
theorem am9:XF 99 7 1799 [mv 34 11,sg 10 34]:=.mk
theorem Zr:XF 99 8 192 [mv 35 9,mv 36 9,mv 37 8,bo 38 .lss 3 36 37,mv 39 38,og 40 4 true (.move (.tmp 2)),og 41 4 true (.move (.tmp 0)),og 42 4 true (.move (.tmp 9)),og 43 4 true (.indexAddr 74 (.tmp 41) (.tmp 42)),og 44 4 true (.load 22 (.tmp 43)),og 45 4 true (.move (.tmp 1)),og 46 4 true (.call ⟨.value (.tmp 40),#[.tmp 44,.tmp 45],#[22,22]⟩),og 47 4 true (.binOp .eql 3 (.tmp 46) (.const (.int .i64 (0))) 3),oa 48 (.pick (.tmp 39) (.tmp 47) (.const (.bool false))),sg 6 35,sg 7 48]:=.mk
def Iz:Code:=.seq (.seq (rg 99 3) (.cond (.tmp 17) (.skip) (.exit 0))) (.block 1 (.seq (rg 99 4) (.seq (rg 99 5) (.cond (.tmp 31) (rg 99 6) (rg 99 7)))))
theorem Q7(s:St):aj K 99 Iz s=aj K 99 (.seq (.seq (rg 99 3) (.cond (.tmp 17) (.skip) (.exit 0))) (.block 1 (.seq (rg 99 4) (.seq (rg 99 5) (.cond (.tmp 31) (rg 99 6) (rg 99 7)))))) s:=rfl
def c99:Code:=.seq (rg 99 0) (.seq (rg 99 1) (.seq (rg 99 2) (.seq (.block 0 (.loop Iz)) (.seq (rg 99 8) (.ret)))))
theorem k99:KF 99 [.tmp 6,.tmp 7] 1 c99:=.mk
end
noncomputable section
@[simp] theorem aAu(t:Nat):K.esc 42 t=[12].elem t:=by kernel_rfl
theorem adU:XF 42 0 798 [bx 4 28 0,oa 8 (.assign (.const (.slice none 0 0))),oa 9 (.assign (.const (.int .i64 (0))))]:=.mk
theorem ac0:XF 42 1 3854 [ld 20 28 4,mv 21 1,mv 22 2,mv 23 3,oa 24 (.call ⟨.value (.func 76),#[.tmp 20,.tmp 21,.tmp 22,.tmp 23],#[28,3,3,3]⟩),mv 19 24,xt 25 19 0,xt 26 19 1,aq 10 99,so 99 10 25,sg 11 26]:=.mk
theorem aec:XF 42 2 268439310 [mv 27 11,bk 28 .neq 30 27 0]:=.mk
theorem aBO:XF 42 3 768 [mv 29 11,oa 8 (.assign (.const (.slice none 0 0))),sg 9 29]:=.mk
theorem adx:XF 42 4 5902 [aq 12 74]:=.mk
theorem aes:XF 42 5 17179875072 [ld 30 99 10,mv 31 1,mv 32 2,mv 33 3,oa 34 (.call ⟨.value (.func 69),#[.tmp 30,.tmp 31,.tmp 32,.tmp 33],#[99,3,3,3]⟩)]:=.mk
theorem apx:XF 42 6 13312 [aq 13 121,so 121 13 35]:=.mk
theorem akV:XF 42 7 29696 [oa 14 (.assign (.const (.slice none 0 0)))]:=.mk
theorem alJ:XF 42 8 1924145369088 [ld 36 99 10,ld 37 121 13,oa 38 (.call ⟨.value (.func 71),#[.tmp 36,.tmp 37],#[99,121]⟩),oa 39 (.call ⟨.builtin .len,#[.tmp 38],#[22]⟩),oa 40 (.move (.const (.int .i64 (0))))]:=.mk
theorem Y1:XF 42 9 4123168624640 [bo 41 .lss 3 40 39]:=.mk
theorem Xa:XF 42 10 1924145434624 [ia 42 22 38 40,ld 43 3 42,sg 16 43]:=.mk
theorem Zy:XF 42 11 1924145369088 [mv 44 14,mv 45 16,oa 46 (.call ⟨.value (.func 98),#[.tmp 45],#[3]⟩),oa 47 (.buildSlice 22 1 #[(0,.tmp 46)]),oa 48 (.call ⟨.builtin .append,#[.tmp 44,.tmp 47],#[22,22]⟩),sg 14 48]:=.mk
@[simp] theorem ak6:K.imm 42 47=false:=by kernel_rfl
@[simp] theorem alk:K.imm 42 48=false:=by kernel_rfl
theorem ZL:XF 42 12 1924145369088 [bk 49 .add 3 40 1,mv 40 49]:=.mk
theorem Vg:XF 42 13 413696 [ld 51 74 12,mv 52 14,oa 53 (.call ⟨.value (.func 99),#[.tmp 51,.tmp 52,.func 100],#[74,22,154]⟩),mv 50 53,xt 54 50 0,xt 55 50 1,sg 17 54,sg 18 55]:=.mk
theorem agF:XF 42 14 144115188076007424 [mv 56 18,oa 57 (.unOp .not 4 (.tmp 56))]:=.mk
theorem Y0:XF 42 15 0 [ld 58 74 12,mv 59 17,mv 60 14,oa 61 (.buildSlice 74 1 #[(0,.tmp 60)]),oa 62 (.call ⟨.value (.func 101),#[.tmp 58,.tmp 59,.tmp 61],#[74,3,74]⟩),so 74 12 62]:=.mk
@[simp] theorem ak7:K.imm 42 61=true:=by kernel_rfl
theorem Yd:XF 42 16 768 [ld 63 74 12,sg 8 63,oa 9 (.assign (.const (.int .i64 (0))))]:=.mk
def yZ:Code:=.seq (rg 42 9) (.seq (.cond (.tmp 41) (.skip) (.exit 2)) (.seq (.block 3 (.seq (rg 42 10) (rg 42 11))) (rg 42 12)))
theorem Xq(s:St):aj K 42 yZ s=aj K 42 (.seq (rg 42 9) (.seq (.cond (.tmp 41) (.skip) (.exit 2)) (.seq (.block 3 (.seq (rg 42 10) (rg 42 11))) (rg 42 12)))) s:=rfl
def EQ:Code:=rg 42 6
def wV:Code:=.block 1 (.seq (rg 42 7) (.seq (.seq (rg 42 8) (.block 2 (.loop yZ))) (.seq (rg 42 13) (.seq (rg 42 14) (.cond (.tmp 57) (rg 42 15) (.skip))))))
def c42:Code:=.seq (rg 42 0) (.seq (rg 42 1) (.seq (.seq (rg 42 2) (.cond (.tmp 28) (.seq (rg 42 3) (.ret)) (.skip))) (.seq (rg 42 4) (.seq (.seq (rg 42 5) (.block 0 (.rangeFunc (.tmp 34) #[35] EQ wV))) (.seq (rg 42 16) (.ret))))))
theorem k42:KF 42 [.tmp 8,.tmp 9] 1 c42:=.mk
end
noncomputable section
theorem Qm:XF 104 0 3 [oa 4 (.assign (.const (.bool false)))]:=.mk
theorem Ot:XF 104 1 1027 [mv 6 0,oa 7 (.call ⟨.builtin .len,#[.tmp 6],#[22]⟩),mv 8 1,oa 9 (.call ⟨.builtin .len,#[.tmp 8],#[22]⟩),bo 10 .neq 3 7 9]:=.mk
theorem ain:XF 104 2 16 [oa 4 (.assign (.const (.bool false)))]:=.mk
theorem WO:XF 104 3 12291 [mv 11 0,oa 12 (.call ⟨.builtin .len,#[.tmp 11],#[22]⟩),oa 13 (.move (.const (.int .i64 (0))))]:=.mk
theorem Qw:XF 104 4 28675 [bo 14 .lss 3 13 12]:=.mk
theorem Zi:XF 104 5 12323 [mv 15 13,sg 5 15]:=.mk
theorem Zw:XP 104 6 16789507 [(3,7)] [mv 16 0,mv 17 5,ia 18 22 16 17,ld 19 3 18,mv 20 1,mv 21 5,ia 22 22 20 21,ld 23 3 22,bo 24 .neq 3 19 23]:=.mk
theorem aha:XF 104 7 16 [oa 4 (.assign (.const (.bool false)))]:=.mk
theorem ahW:XF 104 8 12291 [bk 25 .add 3 13 1,mv 13 25]:=.mk
theorem ah6:XF 104 9 16 [oa 4 (.assign (.const (.bool true)))]:=.mk
def rH:Code:=.seq (rg 104 4) (.seq (.cond (.tmp 14) (.skip) (.exit 0)) (.seq (.block 1 (.seq (rg 104 5) (.seq (rd 104 6) (.cond (.tmp 24) (.seq (rg 104 7) (.ret)) (.skip))))) (rg 104 8)))
theorem Qk(s:St):aj K 104 rH s=aj K 104 (.seq (rg 104 4) (.seq (.cond (.tmp 14) (.skip) (.exit 0)) (.seq (.block 1 (.seq (rg 104 5) (.seq (rd 104 6) (.cond (.tmp 24) (.seq (rg 104 7) (.ret)) (.skip))))) (rg 104 8)))) s:=rfl
def aaE:Code:=.seq (rg 104 0) (.seq (.seq (rg 104 1) (.cond (.tmp 10) (.seq (rg 104 2) (.ret)) (.skip))) (.seq (.seq (rg 104 3) (.block 0 (.loop rH))) (.seq (rg 104 9) (.ret))))
theorem avf:KF 104 [.tmp 4] 1 aaE:=.mk
end
noncomputable section
@[simp] theorem aAy(t:Nat):K.esc 44 t=[8,9,12,13].elem t:=by kernel_rfl
theorem V3:XF 44 0 798 [bx 4 28 0,aq 8 22,aq 9 30]:=.mk
theorem Wy:XF 44 1 3854 [ld 17 28 4,mv 18 1,mv 19 2,mv 20 3,oa 21 (.call ⟨.value (.func 76),#[.tmp 17,.tmp 18,.tmp 19,.tmp 20],#[28,3,3,3]⟩),mv 16 21,xt 22 16 0,xt 23 16 1,aq 10 99,so 99 10 22,sg 11 23]:=.mk
theorem Xe:XF 44 2 33558286 [mv 24 11,bk 25 .neq 30 24 0]:=.mk
theorem aBi:XF 44 3 768 [mv 26 11,on (.store 22 (.tmp 8) (.const (.slice none 0 0))),so 30 9 26]:=.mk
theorem ZM:XF 44 4 5902 [aq 12 22]:=.mk
theorem WM:XF 44 5 14094 [aq 13 4,on (.store 4 (.tmp 13) (.const (.bool false)))]:=.mk
theorem Xi:XF 44 6 2147497728 [ld 27 99 10,mv 28 1,mv 29 2,mv 30 3,oa 31 (.call ⟨.value (.func 69),#[.tmp 27,.tmp 28,.tmp 29,.tmp 30],#[99,3,3,3]⟩)]:=.mk
theorem YM:XF 44 7 30464 [aq 14 121,so 121 14 32]:=.mk
theorem VF:XF 44 8 45824 [ld 33 99 10,ld 34 121 14,oa 35 (.call ⟨.value (.func 71),#[.tmp 33,.tmp 34],#[99,121]⟩),sg 15 35]:=.mk
theorem V9:XF 44 9 4398046556928 [ld 36 4 13,mv 37 36,og 38 1 true (.move (.tmp 15)),og 39 1 true (.load 22 (.tmp 12)),og 40 1 true (.call ⟨.value (.func 104),#[.tmp 38,.tmp 39],#[22,22]⟩),og 41 1 true (.unOp .not 4 (.tmp 40)),oa 42 (.pick (.tmp 37) (.tmp 41) (.const (.bool false)))]:=.mk
theorem afx:XF 44 10 0 [on (.store 22 (.tmp 8) (.const (.slice none 0 0))),on (.store 30 (.tmp 9) (.const (.int .i64 (14))))]:=.mk
theorem WV:XF 44 11 0 [mv 43 15,so 22 12 43,on (.store 4 (.tmp 13) (.const (.bool true)))]:=.mk
theorem Zu:XF 44 12 35184372093696 [ld 44 4 13,oa 45 (.unOp .not 4 (.tmp 44))]:=.mk
theorem agp:XF 44 13 768 [on (.store 22 (.tmp 8) (.const (.slice none 0 0))),on (.store 30 (.tmp 9) (.const (.int .i64 (14))))]:=.mk
theorem afO:XF 44 14 768 [ld 46 22 12,so 22 8 46,on (.store 30 (.tmp 9) (.const (.int .i64 (0))))]:=.mk
def IU:Code:=rg 44 7
def JM:Code:=.block 1 (.seq (rg 44 8) (.seq (.seq (rg 44 9) (.cond (.tmp 42) (.seq (rg 44 10) (.ret)) (.skip))) (rg 44 11)))
def c44:Code:=.seq (rg 44 0) (.seq (rg 44 1) (.seq (.seq (rg 44 2) (.cond (.tmp 25) (.seq (rg 44 3) (.ret)) (.skip))) (.seq (rg 44 4) (.seq (rg 44 5) (.seq (.seq (rg 44 6) (.block 0 (.rangeFunc (.tmp 31) #[32] IU JM))) (.seq (.seq (rg 44 12) (.cond (.tmp 45) (.seq (rg 44 13) (.ret)) (.skip))) (.seq (rg 44 14) (.ret))))))))
theorem k44:KF 44 [.cell 8 22,.cell 9 30] 1 c44:=.mk
end
noncomputable section
theorem aoi:XF 28 0 3 [oa 4 (.assign (.const (.bool false)))]:=.mk
theorem aoQ:XF 28 1 1027 [mv 6 0,oa 7 (.call ⟨.builtin .len,#[.tmp 6],#[22]⟩),mv 8 1,oa 9 (.call ⟨.builtin .len,#[.tmp 8],#[22]⟩),bo 10 .neq 3 7 9]:=.mk
theorem aBF:XF 28 2 16 [oa 4 (.assign (.const (.bool false)))]:=.mk
theorem alF:XF 28 3 35 [oa 5 (.assign (.const (.int .i64 (0))))]:=.mk
theorem adm:XF 28 4 16419 [mv 11 5,mv 12 0,oa 13 (.call ⟨.builtin .len,#[.tmp 12],#[22]⟩),bo 14 .lss 3 11 13]:=.mk
theorem amY:XP 28 6 33554467 [(3,7)] [mv 17 0,mv 18 5,ia 19 22 17 18,ld 20 3 19,mv 21 1,mv 22 5,ia 23 22 21 22,ld 24 3 23,bo 25 .neq 3 20 24]:=.mk
theorem aBB:XF 28 7 16 [oa 4 (.assign (.const (.bool false)))]:=.mk
theorem apG:XF 28 5 35 [mv 15 5,bk 16 .add 3 15 1,sg 5 16]:=.mk
theorem am3:XF 28 8 16 [oa 4 (.assign (.const (.bool true)))]:=.mk
def Jp:Code:=.seq (.seq (rg 28 4) (.cond (.tmp 14) (.skip) (.exit 0))) (.seq (.block 1 (.seq (rd 28 6) (.cond (.tmp 25) (.seq (rg 28 7) (.ret)) (.skip)))) (rg 28 5))
theorem aeb(s:St):aj K 28 Jp s=aj K 28 (.seq (.seq (rg 28 4) (.cond (.tmp 14) (.skip) (.exit 0))) (.seq (.block 1 (.seq (rd 28 6) (.cond (.tmp 25) (.seq (rg 28 7) (.ret)) (.skip)))) (rg 28 5))) s:=rfl
def c28:Code:=.seq (rg 28 0) (.seq (.seq (rg 28 1) (.cond (.tmp 10) (.seq (rg 28 2) (.ret)) (.skip))) (.seq (.seq (rg 28 3) (.block 0 (.loop Jp))) (.seq (rg 28 8) (.ret))))
theorem k28:KF 28 [.tmp 4] 1 c28:=.mk
end
noncomputable section
theorem apu:XF 47 0 3 [oa 4 (.assign (.const (.bool false)))]:=.mk
theorem ak8:XF 47 1 1027 [mv 6 0,oa 7 (.call ⟨.builtin .len,#[.tmp 6],#[74]⟩),mv 8 1,oa 9 (.call ⟨.builtin .len,#[.tmp 8],#[74]⟩),bo 10 .neq 3 7 9]:=.mk
theorem azS:XF 47 2 16 [oa 4 (.assign (.const (.bool false)))]:=.mk
theorem amq:XF 47 3 35 [oa 5 (.assign (.const (.int .i64 (0))))]:=.mk
theorem ami:XF 47 4 16419 [mv 11 5,mv 12 0,oa 13 (.call ⟨.builtin .len,#[.tmp 12],#[74]⟩),bo 14 .lss 3 11 13]:=.mk
theorem amB:XP 47 6 67108899 [(3,7)] [mv 17 0,mv 18 5,ia 19 74 17 18,ld 20 22 19,mv 21 1,mv 22 5,ia 23 74 21 22,ld 24 22 23,oa 25 (.call ⟨.value (.func 28),#[.tmp 20,.tmp 24],#[22,22]⟩),oa 26 (.unOp .not 4 (.tmp 25))]:=.mk
theorem az7:XF 47 7 16 [oa 4 (.assign (.const (.bool false)))]:=.mk
theorem aoO:XF 47 5 35 [mv 15 5,bk 16 .add 3 15 1,sg 5 16]:=.mk
theorem alO:XF 47 8 16 [oa 4 (.assign (.const (.bool true)))]:=.mk
def adQ:Code:=.seq (.seq (rg 47 4) (.cond (.tmp 14) (.skip) (.exit 0))) (.seq (.block 1 (.seq (rd 47 6) (.cond (.tmp 26) (.seq (rg 47 7) (.ret)) (.skip)))) (rg 47 5))
theorem an3(s:St):aj K 47 adQ s=aj K 47 (.seq (.seq (rg 47 4) (.cond (.tmp 14) (.skip) (.exit 0))) (.seq (.block 1 (.seq (rd 47 6) (.cond (.tmp 26) (.seq (rg 47 7) (.ret)) (.skip)))) (rg 47 5))) s:=rfl
def c47:Code:=.seq (rg 47 0) (.seq (.seq (rg 47 1) (.cond (.tmp 10) (.seq (rg 47 2) (.ret)) (.skip))) (.seq (.seq (rg 47 3) (.block 0 (.loop adQ))) (.seq (rg 47 8) (.ret))))
theorem k47:KF 47 [.tmp 4] 1 c47:=.mk
end
noncomputable section
theorem akP:XF 49 0 3 [oa 4 (.assign (.const (.bool false)))]:=.mk
theorem am1:XF 49 1 35 [oa 5 (.assign (.const (.int .i64 (0))))]:=.mk
theorem adD:XF 49 2 32803 [mv 6 5,mv 7 0,oa 8 (.call ⟨.builtin .len,#[.tmp 7],#[22]⟩),bo 9 .lss 3 6 8,mv 10 9,og 11 4 true (.move (.tmp 5)),og 12 4 true (.move (.tmp 1)),og 13 4 true (.call ⟨.builtin .len,#[.tmp 12],#[22]⟩),og 14 4 true (.binOp .lss 3 (.tmp 11) (.tmp 13) 3),oa 15 (.pick (.tmp 10) (.tmp 14) (.const (.bool false)))]:=.mk
theorem adG:XP 49 4 67108899 [(3,7)] [mv 18 0,mv 19 5,ia 20 22 18 19,ld 21 3 20,mv 22 1,mv 23 5,ia 24 22 22 23,ld 25 3 24,bo 26 .neq 3 21 25]:=.mk
theorem anP:XP 49 5 16 [(3,7)] [mv 27 0,mv 28 5,ia 29 22 27 28,ld 30 3 29,mv 31 1,mv 32 5,ia 33 22 31 32,ld 34 3 33,bo 35 .lss 3 30 34,sg 4 35]:=.mk
theorem aea:XF 49 3 35 [mv 16 5,bk 17 .add 3 16 1,sg 5 17]:=.mk
theorem aAW:XF 49 6 16 [mv 36 0,oa 37 (.call ⟨.builtin .len,#[.tmp 36],#[22]⟩),mv 38 1,oa 39 (.call ⟨.builtin .len,#[.tmp 38],#[22]⟩),bo 40 .lss 3 37 39,sg 4 40]:=.mk
def Rq:Code:=.seq (.seq (rg 49 2) (.cond (.tmp 15) (.skip) (.exit 0))) (.seq (.block 1 (.seq (rd 49 4) (.cond (.tmp 26) (.seq (rd 49 5) (.ret)) (.skip)))) (rg 49 3))
theorem adA(s:St):aj K 49 Rq s=aj K 49 (.seq (.seq (rg 49 2) (.cond (.tmp 15) (.skip) (.exit 0))) (.seq (.block 1 (.seq (rd 49 4) (.cond (.tmp 26) (.seq (rd 49 5) (.ret)) (.skip)))) (rg 49 3))) s:=rfl
def c49:Code:=.seq (rg 49 0) (.seq (.seq (rg 49 1) (.block 0 (.loop Rq))) (.seq (rg 49 6) (.ret)))
theorem k49:KF 49 [.tmp 4] 1 c49:=.mk
end
noncomputable section
@[simp] theorem aA5(t:Nat):K.esc 50 t=false:=by kernel_rfl
theorem adb:XF 50 0 1 [oa 2 (.assign (.const (.slice none 0 0)))]:=.mk
theorem adT:XF 50 1 9 [oa 3 (.assign (.const (.slice none 0 0)))]:=.mk
theorem adK:XF 50 2 25 [oa 4 (.assign (.const (.int .i64 (0))))]:=.mk
theorem BL:XF 50 3 281 [mv 5 4,mv 6 0,oa 7 (.call ⟨.builtin .len,#[.tmp 6],#[22]⟩),bo 8 .lss 3 5 7]:=.mk
theorem Ey:XF 50 5 25 [mv 11 3,mv 12 0,mv 13 4,ia 14 22 12 13,ld 15 3 14,oa 16 (.call ⟨.builtin .min,#[.const (.int .i64 (1)),.tmp 15],#[3,3]⟩),oa 17 (.call ⟨.builtin .max,#[.const (.int .i64 (-1)),.tmp 16],#[3,3]⟩),oa 18 (.buildSlice 22 1 #[(0,.tmp 17)]),oa 19 (.call ⟨.builtin .append,#[.tmp 11,.tmp 18],#[22,22]⟩),sg 3 19]:=.mk
@[simp] theorem akR:K.imm 50 18=false:=by kernel_rfl
@[simp] theorem akl:K.imm 50 19=false:=by kernel_rfl
theorem Ew:XF 50 4 25 [mv 9 4,bk 10 .add 3 9 1,sg 4 10]:=.mk
theorem adO:XF 50 6 4 [mv 20 3,sg 2 20]:=.mk
def CG:Code:=.seq (.seq (rg 50 3) (.cond (.tmp 8) (.skip) (.exit 0))) (.seq (.block 1 (rg 50 5)) (rg 50 4))
theorem AA(s:St):aj K 50 CG s=aj K 50 (.seq (.seq (rg 50 3) (.cond (.tmp 8) (.skip) (.exit 0))) (.seq (.block 1 (rg 50 5)) (rg 50 4))) s:=rfl
def c50:Code:=.seq (rg 50 0) (.seq (rg 50 1) (.seq (.seq (rg 50 2) (.block 0 (.loop CG))) (.seq (rg 50 6) (.ret))))
theorem k50:KF 50 [.tmp 2] 1 c50:=.mk
end
noncomputable section
@[simp] theorem aCh(t:Nat):K.esc 8 t=false:=by kernel_rfl
theorem awW:XF 8 0 1 [oa 2 (.assign (.const (.bool false)))]:=.mk
theorem asq:XF 8 1 8 [mv 21 0,oa 22 (.call ⟨.value (.func 12),#[.tmp 21],#[22]⟩),sg 3 22]:=.mk
theorem azx:XF 8 2 24 [mv 23 3,oa 24 (.call ⟨.value (.func 13),#[.tmp 23,.const (.int .i64 (3))],#[23,3]⟩),aq 4 28,so 28 4 24]:=.mk
theorem au6:XP 8 3 240 [(2,8),(3,8),(5,8),(2,9),(3,9),(5,9)] [mv 25 3,fa 26 28 4 1,ld 27 26 26,oa 28 (.call ⟨.builtin .len,#[.tmp 27],#[26]⟩),bk 29 .sub 3 28 1,oa 30 (.call ⟨.value (.func 20),#[.tmp 25,.tmp 29],#[23,3]⟩),mv 31 3,fa 32 28 4 1,ld 33 26 32,oa 34 (.call ⟨.builtin .len,#[.tmp 33],#[26]⟩),bk 35 .sub 3 34 1,oa 36 (.call ⟨.value (.func 20),#[.tmp 31,.tmp 35],#[23,3]⟩),mv 37 3,oa 38 (.call ⟨.value (.func 21),#[.tmp 37,.const (.int .i64 (1)),.const (.int .i64 (3))],#[23,3,3]⟩),sg 5 30,sg 6 36,sg 7 38]:=.mk
theorem axf:XF 8 4 1008 [ld 40 28 4,mv 41 5,mv 42 6,mv 43 7,oa 44 (.call ⟨.value (.func 24),#[.tmp 40,.tmp 41,.tmp 42,.tmp 43],#[28,3,3,3]⟩),mv 39 44,xt 45 39 0,xt 46 39 1,sg 8 45,sg 9 46]:=.mk
theorem aye:XF 8 5 8176 [ld 48 28 4,mv 49 5,mv 50 6,mv 51 7,oa 52 (.call ⟨.value (.func 26),#[.tmp 48,.tmp 49,.tmp 50,.tmp 51],#[28,3,3,3]⟩),mv 47 52,xt 53 47 0,xt 54 47 1,xt 55 47 2,sg 10 53,sg 11 54,sg 12 55]:=.mk
theorem axT:XF 8 6 32752 [ld 57 28 4,mv 58 5,mv 59 6,mv 60 7,oa 61 (.call ⟨.value (.func 42),#[.tmp 57,.tmp 58,.tmp 59,.tmp 60],#[28,3,3,3]⟩),mv 56 61,xt 62 56 0,xt 63 56 1,sg 13 62,sg 14 63]:=.mk
theorem atf:XF 8 7 131056 [ld 65 28 4,mv 66 5,mv 67 6,mv 68 7,oa 69 (.call ⟨.value (.func 44),#[.tmp 65,.tmp 66,.tmp 67,.tmp 68],#[28,3,3,3]⟩),mv 64 69,xt 70 64 0,xt 71 64 1,sg 15 70,sg 16 71]:=.mk
theorem atN:XP 8 8 262128 [(1,8),(5,8),(6,8),(1,12),(5,12),(6,12),(1,13),(5,13),(6,13)] [fa 72 28 4 1,ld 73 26 72,mv 74 5,ia 75 26 73 74,fa 76 47 75 0,ld 77 22 76,oa 78 (.call ⟨.builtin .len,#[.tmp 77],#[22]⟩),fa 79 28 4 1,ld 80 26 79,mv 81 6,ia 82 26 80 81,fa 83 47 82 0,ld 84 22 83,oa 85 (.call ⟨.builtin .len,#[.tmp 84],#[22]⟩),oa 86 (.call ⟨.builtin .min,#[.tmp 78,.tmp 85],#[3,3]⟩),sg 17 86]:=.mk
def acF:List Oper:=[mv 87 9,
 bk 88 .neq 30 87 0,
 mv 89 88,
 og 90 2 false (.move (.tmp 14)),
 og 91 2 false (.binOp .neq 30 (.tmp 90) (.const (.int .i64 (0))) 30),
 oa 92 (.pick (.tmp 89) (.const (.bool true)) (.tmp 91)),
 mv 93 92,
 og 94 6 false (.move (.tmp 12)),
 og 95 6 false (.call ⟨.value (.func 48),#[.tmp 94],#[30]⟩),
 og 96 6 false (.unOp .not 4 (.tmp 95)),
 oa 97 (.pick (.tmp 93) (.const (.bool true)) (.tmp 96)),
 mv 98 97,
 og 99 11 false (.move (.tmp 16)),
 og 100 11 false (.call ⟨.value (.func 48),#[.tmp 99],#[30]⟩),
 og 101 11 false (.unOp .not 4 (.tmp 100)),
 oa 102 (.pick (.tmp 98) (.const (.bool true)) (.tmp 101)),
 mv 103 102,
 og 104 16 false (.move (.tmp 8)),
 og 105 16 false (.binOp .lss 3 (.tmp 104) (.const (.int .i64 (0))) 3),
 oa 106 (.pick (.tmp 103) (.const (.bool true)) (.tmp 105)),
 mv 107 106,
 og 108 20 false (.move (.tmp 8)),
 og 109 20 false (.binOp .gtr 3 (.tmp 108) (.const (.int .i64 (0))) 3),
 og 110 20 false (.move (.tmp 12)),
 og 111 20 false (.binOp .eql 30 (.tmp 110) (.const (.int .i64 (0))) 30),
 og 112 20 false (.binOp .neq 4 (.tmp 109) (.tmp 111) 4),
 oa 113 (.pick (.tmp 107) (.const (.bool true)) (.tmp 112)),
 mv 114 113,
 og 115 27 false (.move (.tmp 8)),
 og 116 27 false (.binOp .gtr 3 (.tmp 115) (.const (.int .i64 (0))) 3),
 og 117 27 false (.move (.tmp 13)),
 og 118 27 false (.call ⟨.builtin .len,#[.tmp 117],#[74]⟩),
 og 119 27 false (.binOp .gtr 3 (.tmp 118) (.const (.int .i64 (0))) 3),
 og 120 27 false (.binOp .neq 4 (.tmp 116) (.tmp 119) 4),
 oa 121 (.pick (.tmp 114) (.const (.bool true)) (.tmp 120)),
 mv 122 121,
 og 123 35 false (.move (.tmp 13)),
 og 124 35 false (.call ⟨.builtin .len,#[.tmp 123],#[74]⟩),
 og 125 35 false (.binOp .gtr 3 (.tmp 124) (.const (.int .i64 (100))) 3),
 oa 126 (.pick (.tmp 122) (.const (.bool true)) (.tmp 125)),
 mv 127 126,
 og 128 40 false (.move (.tmp 8)),
 og 129 40 false (.binOp .eql 3 (.tmp 128) (.const (.int .i64 (0))) 3),
 og 130 40 false (.move (.tmp 129)),
 og 131 43 true (.move (.tmp 16)),
 og 132 43 true (.binOp .eql 30 (.tmp 131) (.const (.int .i64 (0))) 30),
 og 133 40 false (.pick (.tmp 130) (.tmp 132) (.const (.bool false))),
 oa 134 (.pick (.tmp 127) (.const (.bool true)) (.tmp 133))]
theorem ayR:XF 8 9 21778071482940061661655974875633165778160 acF:=.mk
theorem aAa:XF 8 10 4 [oa 2 (.assign (.const (.bool false)))]:=.mk
theorem amK:XF 8 11 507120 [oa 18 (.assign (.const (.int .i64 (0))))]:=.mk
theorem JR:XF 8 12 348449143727040986586495598010130649038064 [mv 135 18,mv 136 13,oa 137 (.call ⟨.builtin .len,#[.tmp 136],#[74]⟩),bo 138 .lss 3 135 137]:=.mk
theorem Sj:XP 8 14 23384026197294446691258957323460528314494921194736 [(15,19)] [mv 141 13,mv 142 18,ia 143 74 141 142,ld 144 22 143,oa 145 (.call ⟨.builtin .len,#[.tmp 144],#[22]⟩),mv 146 17,bo 147 .neq 3 145 146,mv 148 147,og 149 7 false (.move (.tmp 18)),og 150 7 false (.binOp .gtr 3 (.tmp 149) (.const (.int .i64 (0))) 3),og 151 7 false (.move (.tmp 150)),og 152 10 true (.move (.tmp 13)),og 153 10 true (.move (.tmp 18)),og 154 10 true (.binOp .sub 3 (.tmp 153) (.const (.int .i64 (1))) 3),og 155 10 true (.indexAddr 74 (.tmp 152) (.tmp 154)),og 156 10 true (.load 22 (.tmp 155)),og 157 10 true (.move (.tmp 13)),og 158 10 true (.move (.tmp 18)),og 159 10 true (.indexAddr 74 (.tmp 157) (.tmp 158)),og 160 10 true (.load 22 (.tmp 159)),og 161 10 true (.call ⟨.value (.func 49),#[.tmp 156,.tmp 160],#[22,22]⟩),og 162 10 true (.unOp .not 4 (.tmp 161)),og 163 7 false (.pick (.tmp 151) (.tmp 162) (.const (.bool false))),oa 164 (.pick (.tmp 148) (.const (.bool true)) (.tmp 163))]:=.mk
theorem azP:XF 8 15 4 [oa 2 (.assign (.const (.bool false)))]:=.mk
theorem Rx:XF 8 16 1031408 [oa 19 (.assign (.const (.int .i64 (0))))]:=.mk
theorem Tc:XF 8 17 2079984 [oa 20 (.assign (.const (.int .i64 (0))))]:=.mk
theorem Yp:XF 8 18 187072209578355573530071658587684226515959367580912 [mv 165 20,mv 166 17,bo 167 .lss 3 165 166]:=.mk
theorem ac9:XF 8 20 196159429230833773869868419475239575503198607639503158512 [mv 170 13,mv 171 18,ia 172 74 170 171,ld 173 22 172,mv 174 20,ia 175 22 173 174,ld 176 3 175,bk 177 .lss 3 176 (-1),mv 178 177,og 179 8 false (.move (.tmp 13)),og 180 8 false (.move (.tmp 18)),og 181 8 false (.indexAddr 74 (.tmp 179) (.tmp 180)),og 182 8 false (.load 22 (.tmp 181)),og 183 8 false (.move (.tmp 20)),og 184 8 false (.indexAddr 22 (.tmp 182) (.tmp 183)),og 185 8 false (.load 3 (.tmp 184)),og 186 8 false (.binOp .gtr 3 (.tmp 185) (.const (.int .i64 (1))) 3),oa 187 (.pick (.tmp 178) (.const (.bool true)) (.tmp 186))]:=.mk
theorem aAB:XF 8 21 4 [oa 2 (.assign (.const (.bool false)))]:=.mk
theorem ad3:XF 8 22 784637716923335095479473677900958302012794430558006394096 [mv 188 19,bk 189 .eql 3 188 0]:=.mk
theorem aj8:XF 8 23 2079984 [mv 190 13,mv 191 18,ia 192 74 190 191,ld 193 22 192,mv 194 20,ia 195 22 193 194,ld 196 3 195,sg 19 196]:=.mk
theorem aed:XF 8 19 2079984 [mv 168 20,bk 169 .add 3 168 1,sg 20 169]:=.mk
theorem SV:XF 8 24 12855504354071922204335696738729300820177623950262342682918128 [mv 197 5,mv 198 6,bo 199 .eql 3 197 198,mv 200 199,og 201 3 true (.move (.tmp 19)),og 202 3 true (.binOp .neq 3 (.tmp 201) (.const (.int .i64 (1))) 3),oa 203 (.pick (.tmp 200) (.tmp 202) (.const (.bool false)))]:=.mk
theorem azT:XF 8 25 4 [oa 2 (.assign (.const (.bool false)))]:=.mk
theorem QR:XF 8 13 507120 [mv 139 18,bk 140 .add 3 139 1,sg 18 140]:=.mk
def Jq:List Oper:=[mv 204 16,
 bk 205 .eql 30 204 0,
 mv 206 205,
 og 207 2 true (.move (.tmp 15)),
 og 208 2 true (.call ⟨.builtin .len,#[.tmp 207],#[22]⟩),
 og 209 2 true (.move (.tmp 17)),
 og 210 2 true (.binOp .neq 3 (.tmp 208) (.tmp 209) 3),
 og 211 2 true (.move (.tmp 210)),
 og 212 7 false (.move (.tmp 13)),
 og 213 7 false (.move (.tmp 15)),
 og 214 7 false (.call ⟨.value (.func 50),#[.tmp 213],#[22]⟩),
 og 215 7 false (.buildSlice 74 1 #[(0,.tmp 214)]),
 og 216 7 false (.call ⟨.value (.func 47),#[.tmp 212,.tmp 215],#[74,74]⟩),
 og 217 7 false (.unOp .not 4 (.tmp 216)),
 og 218 2 true (.pick (.tmp 211) (.const (.bool true)) (.tmp 217)),
 oa 219 (.pick (.tmp 206) (.tmp 218) (.const (.bool false)))]
theorem amz:XF 8 26 842498333348457493583344221469363458551160763204392890034487827600 Jq:=.mk
@[simp] theorem anr:K.imm 8 215=false:=by kernel_rfl
theorem aBK:XF 8 27 4 [oa 2 (.assign (.const (.bool false)))]:=.mk
def Jw:List Oper:=[mv 220 12,
 bk 221 .neq 30 220 0,
 mv 222 221,
 og 223 2 false (.load 28 (.tmp 4)),
 og 224 2 false (.move (.tmp 10)),
 og 225 2 false (.call ⟨.value (.func 51),#[.tmp 223,.tmp 224],#[28,3]⟩),
 og 226 2 false (.move (.tmp 225)),
 og 227 6 true (.load 28 (.tmp 4)),
 og 228 6 true (.move (.tmp 11)),
 og 229 6 true (.call ⟨.value (.func 51),#[.tmp 227,.tmp 228],#[28,3]⟩),
 og 230 2 false (.pick (.tmp 226) (.tmp 229) (.const (.bool false))),
 og 231 2 false (.move (.tmp 230)),
 og 232 11 true (.load 28 (.tmp 4)),
 og 233 11 true (.call ⟨.value (.func 15),#[.tmp 232],#[28]⟩),
 og 234 11 true (.move (.tmp 10)),
 og 235 11 true (.move (.tmp 11)),
 og 236 11 true (.move (.tmp 7)),
 og 237 11 true (.call ⟨.value (.func 52),#[.tmp 233,.tmp 234,.tmp 235,.tmp 236],#[33,3,3,3]⟩),
 og 238 2 false (.pick (.tmp 231) (.tmp 237) (.const (.bool false))),
 oa 239 (.pick (.tmp 222) (.const (.bool true)) (.tmp 238)),
 mv 240 239,
 og 241 20 true (.call ⟨.value (.func 18),#[],#[]⟩),
 oa 242 (.pick (.tmp 240) (.tmp 241) (.const (.bool false))),
 sg 2 242]
theorem amW:XF 8 28 4 Jw:=.mk
def Py:Code:=.seq (.seq (rg 8 18) (.cond (.tmp 167) (.skip) (.exit 2))) (.seq (.block 3 (.seq (.seq (rg 8 20) (.cond (.tmp 187) (.seq (rg 8 21) (.ret)) (.skip))) (.seq (rg 8 22) (.cond (.tmp 189) (rg 8 23) (.skip))))) (rg 8 19))
theorem ag0(s:St):aj K 8 Py s=aj K 8 (.seq (.seq (rg 8 18) (.cond (.tmp 167) (.skip) (.exit 2))) (.seq (.block 3 (.seq (.seq (rg 8 20) (.cond (.tmp 187) (.seq (rg 8 21) (.ret)) (.skip))) (.seq (rg 8 22) (.cond (.tmp 189) (rg 8 23) (.skip))))) (rg 8 19))) s:=rfl
def UB:Code:=.seq (.seq (rg 8 12) (.cond (.tmp 138) (.skip) (.exit 0))) (.seq (.block 1 (.seq (.seq (rd 8 14) (.cond (.tmp 164) (.seq (rg 8 15) (.ret)) (.skip))) (.seq (rg 8 16) (.seq (.seq (rg 8 17) (.block 2 (.loop Py))) (.seq (rg 8 24) (.cond (.tmp 203) (.seq (rg 8 25) (.ret)) (.skip))))))) (rg 8 13))
theorem Vw(s:St):aj K 8 UB s=aj K 8 (.seq (.seq (rg 8 12) (.cond (.tmp 138) (.skip) (.exit 0))) (.seq (.block 1 (.seq (.seq (rd 8 14) (.cond (.tmp 164) (.seq (rg 8 15) (.ret)) (.skip))) (.seq (rg 8 16) (.seq (.seq (rg 8 17) (.block 2 (.loop Py))) (.seq (rg 8 24) (.cond (.tmp 203) (.seq (rg 8 25) (.ret)) (.skip))))))) (rg 8 13))) s:=rfl
def c8:Code:=.seq (rg 8 0) (.seq (rg 8 1) (.seq (rg 8 2) (.seq (rd 8 3) (.seq (rg 8 4) (.seq (rg 8 5) (.seq (rg 8 6) (.seq (rg 8 7) (.seq (rd 8 8) (.seq (.seq (rg 8 9) (.cond (.tmp 134) (.seq (rg 8 10) (.ret)) (.skip))) (.seq (.seq (rg 8 11) (.block 0 (.loop UB))) (.seq (.seq (rg 8 26) (.cond (.tmp 219) (.seq (rg 8 27) (.ret)) (.skip))) (.seq (rg 8 28) (.ret)))))))))))))
theorem k8:KF 8 [.tmp 2] 1 c8:=.mk
end
noncomputable section
theorem Bz:XF 52 0 15 [oa 8 (.assign (.const (.bool false)))]:=.mk
theorem Cb:XF 52 1 32783 [mv 13 1,mv 14 2,bo 15 .geq 3 13 14]:=.mk
theorem aBC:XF 52 2 256 [oa 8 (.assign (.const (.bool false)))]:=.mk
theorem C9:XP 52 3 1544 [(3,7)] [mv 16 0,mv 17 1,ia 18 33 16 17,ld 19 87 18,mv 20 0,mv 21 2,ia 22 33 20 21,ld 23 87 22,sg 9 19,sg 10 23]:=.mk
theorem CU:XF 52 4 16778752 [mv 24 3]:=.mk
theorem Bo:XF 52 5 50333184 [bk 26 .eql 3 24 3,sg 25 26]:=.mk
theorem Wi:XP 52 6 256 [(2,5)] [mv 27 9,oa 28 (.indexAddr 87 (.tmp 27) (.const (.int .i64 (0)))),ld 29 86 28,mv 30 10,oa 31 (.indexAddr 87 (.tmp 30) (.const (.int .i64 (0)))),ld 32 86 31,bo 33 .eql 86 29 32,sg 8 33]:=.mk
theorem QT:XF 52 7 17179870720 [bk 35 .eql 3 24 2,sg 34 35]:=.mk
theorem adg:XF 52 8 3584 [oa 11 (.assign (.const (.int .i64 (1))))]:=.mk
theorem SK:XF 52 9 549755817472 [mv 36 11,mv 37 9,oa 38 (.call ⟨.builtin .len,#[.tmp 37],#[87]⟩),bo 39 .lss 3 36 38]:=.mk
theorem J9:XP 52 11 562949953424896 [(3,6)] [mv 42 9,mv 43 11,ia 44 87 42 43,ld 45 86 44,mv 46 10,oa 47 (.indexAddr 87 (.tmp 46) (.const (.int .i64 (0)))),ld 48 86 47,bo 49 .eql 86 45 48]:=.mk
theorem Nu:XF 52 12 256 [oa 8 (.assign (.const (.bool true)))]:=.mk
theorem PS:XF 52 10 3584 [mv 40 11,bk 41 .add 3 40 1,sg 11 41]:=.mk
theorem Y9:XF 52 13 256 [oa 8 (.assign (.const (.bool false)))]:=.mk
theorem Xd:XF 52 14 5632 [oa 12 (.assign (.const (.int .i64 (1))))]:=.mk
theorem Gl:XF 52 15 9007199254746624 [mv 50 12,mv 51 10,oa 52 (.call ⟨.builtin .len,#[.tmp 51],#[87]⟩),bo 53 .lss 3 50 52]:=.mk
theorem MN:XP 52 17 9223372036854781440 [(3,6)] [mv 56 10,mv 57 12,ia 58 87 56 57,ld 59 86 58,mv 60 9,oa 61 (.indexAddr 87 (.tmp 60) (.const (.int .i64 (0)))),ld 62 86 61,bo 63 .eql 86 59 62]:=.mk
theorem LG:XF 52 18 256 [oa 8 (.assign (.const (.bool true)))]:=.mk
theorem NK:XF 52 16 5632 [mv 54 12,bk 55 .add 3 54 1,sg 12 55]:=.mk
theorem XO:XF 52 19 256 [oa 8 (.assign (.const (.bool false)))]:=.mk
def En:Code:=.seq (.seq (rg 52 9) (.cond (.tmp 39) (.skip) (.exit 1))) (.seq (.block 2 (.seq (rd 52 11) (.cond (.tmp 49) (.seq (rg 52 12) (.ret)) (.skip)))) (rg 52 10))
theorem QM(s:St):aj K 52 En s=aj K 52 (.seq (.seq (rg 52 9) (.cond (.tmp 39) (.skip) (.exit 1))) (.seq (.block 2 (.seq (rd 52 11) (.cond (.tmp 49) (.seq (rg 52 12) (.ret)) (.skip)))) (rg 52 10))) s:=rfl
def Eu:Code:=.seq (.seq (rg 52 15) (.cond (.tmp 53) (.skip) (.exit 3))) (.seq (.block 4 (.seq (rd 52 17) (.cond (.tmp 63) (.seq (rg 52 18) (.ret)) (.skip)))) (rg 52 16))
theorem RX(s:St):aj K 52 Eu s=aj K 52 (.seq (.seq (rg 52 15) (.cond (.tmp 53) (.skip) (.exit 3))) (.seq (.block 4 (.seq (rd 52 17) (.cond (.tmp 63) (.seq (rg 52 18) (.ret)) (.skip)))) (rg 52 16))) s:=rfl
def c52:Code:=.seq (rg 52 0) (.seq (.seq (rg 52 1) (.cond (.tmp 15) (.seq (rg 52 2) (.ret)) (.skip))) (.seq (rd 52 3) (.seq (.seq (rg 52 4) (.block 0 (.seq (rg 52 5) (.cond (.tmp 25) (.seq (rd 52 6) (.ret)) (.seq (rg 52 7) (.cond (.tmp 34) (.seq (.seq (rg 52 8) (.block 1 (.loop En))) (.seq (rg 52 13) (.ret))) (.skip))))))) (.seq (.seq (rg 52 14) (.block 3 (.loop Eu))) (.seq (rg 52 19) (.ret))))))
theorem k52:KF 52 [.tmp 8] 1 c52:=.mk
end
end Mw
