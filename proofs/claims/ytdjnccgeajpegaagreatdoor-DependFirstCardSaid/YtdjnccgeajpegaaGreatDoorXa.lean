/- DependFirst's tied card holds; no condition beyond the card's own. -/
import Derived.Test.YtdjnccgeajpegaaGreatDoorKc
set_option linter.unusedVariables false
set_option linter.unusedSimpArgs false
namespace Mw
open Go Go.Proofs
set_option maxRecDepth 100000
noncomputable section
@[simp] theorem ax5(t:Nat):K.esc 191 t=false:=by kernel_rfl
theorem QE:XF 191 0 15 [oa 5 (.assign (.const (.bool false)))]:=.mk
theorem Pz:XF 191 1 2063 [mv 7 0,oa 8 (.call ⟨.builtin .len,#[.tmp 7],#[22]⟩),ld 9 22 1,oa 10 (.call ⟨.builtin .len,#[.tmp 9],#[22]⟩),bo 11 .eql 3 8 10]:=.mk
theorem ahO:XF 191 2 32 [ld 12 49 2,mv 13 0,oa 14 (.call ⟨.value (.tmp 12),#[.tmp 13],#[22]⟩),sg 5 14]:=.mk
theorem YA:XF 191 3 1572873 [ld 15 22 1,mv 16 0,oa 17 (.call ⟨.builtin .len,#[.tmp 16],#[22]⟩),ia 18 22 15 17,ld 19 3 18,oa 20 (.move (.const (.int .i64 (0))))]:=.mk
theorem Nq:XF 191 4 3670025 [bo 21 .lss 3 20 19]:=.mk
theorem Vh:XF 191 5 1572937 [mv 22 20,sg 6 22]:=.mk
theorem Zp:XP 191 6 17181442057 [(0,3),(0,5),(3,5),(0,6),(0,8),(3,8),(5,8),(6,8),(0,9)] [ld 23 49 3,mv 24 0,mv 25 0,oa 26 (.call ⟨.builtin .len,#[.tmp 25],#[22]⟩),mv 27 0,oa 28 (.call ⟨.builtin .len,#[.tmp 27],#[22]⟩),oa 29 (.slice 22 (.tmp 24) none (some (.tmp 26)) (some (.tmp 28))),mv 30 6,oa 31 (.buildSlice 22 1 #[(0,.tmp 30)]),oa 32 (.call ⟨.builtin .append,#[.tmp 29,.tmp 31],#[22,22]⟩),oa 33 (.call ⟨.value (.tmp 23),#[.tmp 32],#[22]⟩),oa 34 (.unOp .not 4 (.tmp 33))]:=.mk
@[simp] theorem ajt:K.imm 191 31=false:=by kernel_rfl
@[simp] theorem ai9:K.imm 191 32=true:=by kernel_rfl
theorem Zl:XF 191 7 32 [oa 5 (.assign (.const (.bool false)))]:=.mk
theorem Vp:XF 191 8 1572873 [bk 35 .add 3 20 1,mv 20 35]:=.mk
theorem Xu:XF 191 9 32 [oa 5 (.assign (.const (.bool true)))]:=.mk
def Gj:Code:=.seq (rg 191 4) (.seq (.cond (.tmp 21) (.skip) (.exit 0)) (.seq (.block 1 (.seq (rg 191 5) (.seq (rd 191 6) (.cond (.tmp 34) (.seq (rg 191 7) (.ret)) (.skip))))) (rg 191 8)))
theorem LW(s:St):aj K 191 Gj s=aj K 191 (.seq (rg 191 4) (.seq (.cond (.tmp 21) (.skip) (.exit 0)) (.seq (.block 1 (.seq (rg 191 5) (.seq (rd 191 6) (.cond (.tmp 34) (.seq (rg 191 7) (.ret)) (.skip))))) (rg 191 8)))) s:=rfl
def abL:Code:=.seq (rg 191 0) (.seq (.seq (rg 191 1) (.cond (.tmp 11) (.seq (rg 191 2) (.ret)) (.skip))) (.seq (.seq (rg 191 3) (.block 0 (.loop Gj))) (.seq (rg 191 9) (.ret))))
theorem aom:KF 191 [.tmp 5] 1 abL:=.mk
end
noncomputable section
@[simp] theorem ate(t:Nat):K.esc 133 t=false:=by kernel_rfl
theorem pW:XF 133 0 85 [bx 4 39 1,aq 6 110]:=.mk
theorem pq:XF 133 1 213 [oa 7 (.assign (.const (.int .i64 (0))))]:=.mk
theorem pY:XF 133 2 57557 [fa 12 39 4 1,ld 13 37 12,oa 14 (.call ⟨.builtin .len,#[.tmp 13],#[37]⟩),oa 15 (.move (.const (.int .i64 (0))))]:=.mk
theorem oU:XF 133 3 123093 [bo 16 .lss 3 15 14]:=.mk
theorem pM:XF 133 4 58325 [mv 17 15,ia 18 37 13 15,ld 19 142 18,aq 9 142,sg 8 17,so 142 9 19]:=.mk
theorem pO:XP 133 5 58069 [(5,7)] [mv 20 7,mv 21 0,oa 22 (.nilCheck (.tmp 21)),fa 23 105 22 0,fa 24 28 23 0,ld 25 25 24,fa 26 39 4 0,ld 27 3 26,ia 28 25 25 27,fa 29 168 28 1,ld 30 22 29,mv 31 8,ia 32 22 30 31,ld 33 3 32,bo 34 .mul 3 20 33,sg 7 34]:=.mk
theorem o9:XF 133 6 58069 [mv 35 7,fa 36 142 9 0,ld 37 3 36,bo 38 .add 3 35 37,sg 7 38]:=.mk
theorem pU:XF 133 7 7696581451989 [fa 39 142 9 1,ld 40 22 39,oa 41 (.call ⟨.builtin .len,#[.tmp 40],#[22]⟩),oa 42 (.move (.const (.int .i64 (0))))]:=.mk
theorem pG:XF 133 8 16492674474197 [bo 43 .lss 3 42 41]:=.mk
theorem pX:XF 133 9 7696581455061 [mv 44 42,ia 45 22 40 42,ld 46 3 45,sg 10 44,sg 11 46]:=.mk
theorem lY:XF 133 10 7696581451989 [mv 47 7,mv 48 11,mv 49 2,mv 50 10,ia 51 22 49 50,ld 52 3 51,bo 53 .mul 3 48 52,bo 54 .add 3 47 53,sg 7 54]:=.mk
theorem lV:XF 133 11 7696581451989 [bk 55 .add 3 42 1,mv 42 55]:=.mk
theorem lU:XF 133 12 57557 [bk 56 .add 3 15 1,mv 15 56]:=.mk
theorem lZ:XF 133 13 64 [fa 57 39 4 0,ld 58 3 57,mv 59 7,oa 60 (.build 110 #[(0,.tmp 58),(1,.tmp 59)]),so 110 6 60]:=.mk
def Lu:Code:=.seq (rg 133 8) (.seq (.cond (.tmp 43) (.skip) (.exit 2)) (.seq (.block 3 (.seq (rg 133 9) (rg 133 10))) (rg 133 11)))
theorem pV(s:St):aj K 133 Lu s=aj K 133 (.seq (rg 133 8) (.seq (.cond (.tmp 43) (.skip) (.exit 2)) (.seq (.block 3 (.seq (rg 133 9) (rg 133 10))) (rg 133 11)))) s:=rfl
def Y2:Code:=.seq (rg 133 3) (.seq (.cond (.tmp 16) (.skip) (.exit 0)) (.seq (.block 1 (.seq (rg 133 4) (.seq (rd 133 5) (.seq (rg 133 6) (.seq (rg 133 7) (.block 2 (.loop Lu))))))) (rg 133 12)))
theorem pK(s:St):aj K 133 Y2 s=aj K 133 (.seq (rg 133 3) (.seq (.cond (.tmp 16) (.skip) (.exit 0)) (.seq (.block 1 (.seq (rg 133 4) (.seq (rd 133 5) (.seq (rg 133 6) (.seq (rg 133 7) (.block 2 (.loop Lu))))))) (rg 133 12)))) s:=rfl
def DZ:Code:=.seq (rg 133 0) (.seq (rg 133 1) (.seq (.seq (rg 133 2) (.block 0 (.loop Y2))) (.seq (rg 133 13) (.ret))))
theorem He:KF 133 [.cell 6 110] 1 DZ:=.mk
end
noncomputable section
@[simp] theorem aui(t:Nat):K.esc 175 t=[2,3].elem t:=by kernel_rfl
theorem aiV:XF 175 0 12 [bx 2 28 0,bx 3 47 1,oa 4 (.assign (.const (.int .i64 (0))))]:=.mk
theorem agA:XF 175 1 44 [fa 9 47 3 0,ld 10 22 9,oa 11 (.call ⟨.value (.func 172),#[.tmp 10],#[22]⟩),sg 5 11]:=.mk
theorem aip:XF 175 2 8236 [mv 12 5,bk 13 .neq 30 12 0]:=.mk
theorem ahs:XF 175 3 16 [mv 14 5,sg 4 14]:=.mk
theorem ahF:XF 175 4 76 [ld 15 28 2,fa 16 47 3 1,ld 17 39 16,fa 18 47 3 0,ld 19 22 18,oa 20 (.call ⟨.value (.func 208),#[.tmp 15,.tmp 17,.tmp 19],#[28,39,22]⟩),sg 6 20]:=.mk
theorem aiK:XF 175 5 4194380 [mv 21 6,bk 22 .neq 30 21 0]:=.mk
theorem afm:XF 175 6 16 [mv 23 6,sg 4 23]:=.mk
theorem ahx:XF 175 7 134217740 [fa 24 47 3 2,ld 25 40 24,oa 26 (.call ⟨.builtin .len,#[.tmp 25],#[40]⟩),bk 27 .gtr 3 26 6]:=.mk
theorem agV:XF 175 8 16 [oa 4 (.assign (.const (.int .i64 (7))))]:=.mk
theorem aeU:XF 175 9 136 [fa 28 47 3 2,ld 29 40 28,oa 30 (.makeFunc (.func 210) #[] #[.tmp 2,.tmp 3]),oa 31 (.call ⟨.value (.func 209),#[.tmp 29,.tmp 30],#[40,248]⟩),sg 7 31]:=.mk
theorem ZU:XF 175 10 8589934728 [mv 32 7,bk 33 .neq 30 32 0]:=.mk
theorem aaB:XF 175 11 16 [mv 34 7,sg 4 34]:=.mk
theorem aas:XF 175 12 264 [fa 35 47 3 3,ld 36 45 35,oa 37 (.call ⟨.value (.func 171),#[.tmp 36],#[45]⟩),sg 8 37]:=.mk
theorem aan:XF 175 13 549755814152 [mv 38 8,bk 39 .neq 30 38 0]:=.mk
theorem acK:XF 175 14 16 [mv 40 8,sg 4 40]:=.mk
theorem aaz:XF 175 15 16 [fa 41 47 3 3,ld 42 45 41,fa 43 47 3 2,ld 44 40 43,oa 45 (.call ⟨.builtin .len,#[.tmp 44],#[40]⟩),fa 46 47 3 0,ld 47 22 46,oa 48 (.call ⟨.builtin .len,#[.tmp 47],#[22]⟩),oa 49 (.call ⟨.value (.func 211),#[.tmp 42,.tmp 45,.tmp 48],#[45,3,3]⟩),sg 4 49]:=.mk
def c175:Code:=.seq (rg 175 0) (.seq (.seq (rg 175 1) (.seq (rg 175 2) (.cond (.tmp 13) (.seq (rg 175 3) (.ret)) (.skip)))) (.seq (.seq (rg 175 4) (.seq (rg 175 5) (.cond (.tmp 22) (.seq (rg 175 6) (.ret)) (.skip)))) (.seq (.seq (rg 175 7) (.cond (.tmp 27) (.seq (rg 175 8) (.ret)) (.skip))) (.seq (.seq (rg 175 9) (.seq (rg 175 10) (.cond (.tmp 33) (.seq (rg 175 11) (.ret)) (.skip)))) (.seq (.seq (rg 175 12) (.seq (rg 175 13) (.cond (.tmp 39) (.seq (rg 175 14) (.ret)) (.skip)))) (.seq (rg 175 15) (.ret)))))))
theorem awv:KF 175 [.tmp 4] 1 c175:=.mk
end
noncomputable section
@[simp] theorem awq(t:Nat):K.esc 210 t=false:=by kernel_rfl
theorem ags:XF 210 0 44 [bx 5 39 1,oa 6 (.assign (.const (.int .i64 (0))))]:=.mk
theorem ag5:XF 210 1 64 [ld 7 28 2,ld 8 39 5,fa 9 47 3 0,ld 10 22 9,oa 11 (.call ⟨.value (.func 208),#[.tmp 7,.tmp 8,.tmp 10],#[28,39,22]⟩),sg 6 11]:=.mk
def c210:Code:=.seq (rg 210 0) (.seq (rg 210 1) (.ret))
theorem ayP:KF 210 [.tmp 6] 1 c210:=.mk
end
noncomputable section
@[simp] theorem awl(t:Nat):K.esc 174 t=false:=by kernel_rfl
theorem ah8:XF 174 0 20 [bx 4 47 1,oa 5 (.assign (.const (.int .i64 (0))))]:=.mk
theorem afJ:XF 174 1 32 [ld 6 28 2,ld 7 47 4,oa 8 (.call ⟨.value (.func 175),#[.tmp 6,.tmp 7],#[28,47]⟩),sg 5 8]:=.mk
def alX:Code:=.seq (rg 174 0) (.seq (rg 174 1) (.ret))
theorem ax1:KF 174 [.tmp 5] 1 alX:=.mk
end
noncomputable section
@[simp] theorem asv(t:Nat):K.esc 209 t=false:=by kernel_rfl
theorem Gq:XF 209 0 3 [oa 4 (.assign (.const (.int .i64 (0))))]:=.mk
theorem FC:XF 209 1 1794 [mv 8 0,oa 9 (.call ⟨.builtin .len,#[.tmp 8],#[40]⟩),oa 10 (.move (.const (.int .i64 (0))))]:=.mk
theorem GV:XF 209 2 3842 [bo 11 .lss 3 10 9]:=.mk
theorem Gw:XF 209 3 1890 [mv 12 10,ia 13 40 8 10,ld 14 39 13,aq 6 39,sg 5 12,so 39 6 14]:=.mk
theorem Hg:XF 209 4 1922 [mv 15 1,mv 16 5,ld 17 39 6,oa 18 (.call ⟨.value (.tmp 15),#[.tmp 16,.tmp 17],#[3,39]⟩),sg 7 18]:=.mk
theorem GH:XF 209 5 1050498 [mv 19 7,bk 20 .neq 30 19 0]:=.mk
theorem EX:XF 209 6 16 [mv 21 7,sg 4 21]:=.mk
theorem GL:XF 209 7 1794 [bk 22 .add 3 10 1,mv 10 22]:=.mk
theorem GR:XF 209 8 16 [oa 4 (.assign (.const (.int .i64 (0))))]:=.mk
def WR:Code:=.seq (rg 209 2) (.seq (.cond (.tmp 11) (.skip) (.exit 0)) (.seq (.block 1 (.seq (rg 209 3) (.seq (rg 209 4) (.seq (rg 209 5) (.cond (.tmp 20) (.seq (rg 209 6) (.ret)) (.skip)))))) (rg 209 7)))
theorem Fe(s:St):aj K 209 WR s=aj K 209 (.seq (rg 209 2) (.seq (.cond (.tmp 11) (.skip) (.exit 0)) (.seq (.block 1 (.seq (rg 209 3) (.seq (rg 209 4) (.seq (rg 209 5) (.cond (.tmp 20) (.seq (rg 209 6) (.ret)) (.skip)))))) (rg 209 7)))) s:=rfl
def ZG:Code:=.seq (rg 209 0) (.seq (.seq (rg 209 1) (.block 0 (.loop WR))) (.seq (rg 209 8) (.ret)))
theorem aaI:KF 209 [.tmp 4] 1 ZG:=.mk
end
noncomputable section
theorem ahY:XF 109 0 7 [oa 6 (.assign (.const (.bool false)))]:=.mk
theorem ais:XF 109 1 64 [mv 7 1,mv 8 0,bo 9 .leq 3 7 8,mv 10 9,og 11 3 true (.move (.tmp 0)),og 12 3 true (.move (.tmp 2)),og 13 3 true (.binOp .leq 3 (.tmp 11) (.tmp 12) 3),oa 14 (.pick (.tmp 10) (.tmp 13) (.const (.bool false))),sg 6 14]:=.mk
def c109:Code:=.seq (rg 109 0) (.seq (rg 109 1) (.ret))
theorem avV:KF 109 [.tmp 6] 1 c109:=.mk
end
noncomputable section
theorem NG:XF 206 0 3 [oa 4 (.assign (.const (.int .i64 (0))))]:=.mk
theorem Px:XF 206 1 1794 [mv 8 0,oa 9 (.call ⟨.builtin .len,#[.tmp 8],#[22]⟩),oa 10 (.move (.const (.int .i64 (0))))]:=.mk
theorem CV:XF 206 2 3842 [bo 11 .lss 3 10 9]:=.mk
theorem Xb:XF 206 3 1890 [mv 12 10,ia 13 22 8 10,ld 14 3 13,sg 5 12,sg 6 14]:=.mk
theorem XU:XF 206 4 1922 [mv 15 1,mv 16 5,mv 17 6,oa 18 (.call ⟨.value (.tmp 15),#[.tmp 16,.tmp 17],#[3,3]⟩),sg 7 18]:=.mk
theorem ZK:XF 206 5 1050498 [mv 19 7,bk 20 .neq 30 19 0]:=.mk
theorem VB:XF 206 6 16 [mv 21 7,sg 4 21]:=.mk
theorem Yt:XF 206 7 1794 [bk 22 .add 3 10 1,mv 10 22]:=.mk
theorem OD:XF 206 8 16 [oa 4 (.assign (.const (.int .i64 (0))))]:=.mk
def FK:Code:=.seq (rg 206 2) (.seq (.cond (.tmp 11) (.skip) (.exit 0)) (.seq (.block 1 (.seq (rg 206 3) (.seq (rg 206 4) (.seq (rg 206 5) (.cond (.tmp 20) (.seq (rg 206 6) (.ret)) (.skip)))))) (rg 206 7)))
theorem AB(s:St):aj K 206 FK s=aj K 206 (.seq (rg 206 2) (.seq (.cond (.tmp 11) (.skip) (.exit 0)) (.seq (.block 1 (.seq (rg 206 3) (.seq (rg 206 4) (.seq (rg 206 5) (.cond (.tmp 20) (.seq (rg 206 6) (.ret)) (.skip)))))) (rg 206 7)))) s:=rfl
def c206:Code:=.seq (rg 206 0) (.seq (.seq (rg 206 1) (.block 0 (.loop FK))) (.seq (rg 206 8) (.ret)))
theorem afW:KF 206 [.tmp 4] 1 c206:=.mk
end
noncomputable section
theorem afK:XF 207 0 2 [oa 4 (.assign (.const (.int .i64 (0))))]:=.mk
theorem ahu:XF 207 1 128 [mv 5 1,oa 6 (.call ⟨.value (.func 109),#[.tmp 5,.const (.int .i64 (1)),.const (.int .i64 (12))],#[3,3,3]⟩),oa 7 (.unOp .not 4 (.tmp 6))]:=.mk
theorem aeH:XF 207 2 16 [oa 4 (.assign (.const (.int .i64 (2))))]:=.mk
theorem ahl:XF 207 3 16 [oa 4 (.assign (.const (.int .i64 (0))))]:=.mk
def aoM:Code:=.seq (rg 207 0) (.seq (.seq (rg 207 1) (.cond (.tmp 7) (.seq (rg 207 2) (.ret)) (.skip))) (.seq (rg 207 3) (.ret)))
theorem aw3:KF 207 [.tmp 4] 1 aoM:=.mk
end
noncomputable section
theorem afR:XF 270 0 2 [oa 4 (.assign (.const (.int .i64 (0))))]:=.mk
theorem aeK:XF 270 1 128 [mv 5 1,oa 6 (.call ⟨.value (.func 109),#[.tmp 5,.const (.int .i64 (-99)),.const (.int .i64 (99))],#[3,3,3]⟩),oa 7 (.unOp .not 4 (.tmp 6))]:=.mk
theorem ahd:XF 270 2 16 [oa 4 (.assign (.const (.int .i64 (2))))]:=.mk
theorem afi:XF 270 3 16 [oa 4 (.assign (.const (.int .i64 (0))))]:=.mk
def ank:Code:=.seq (rg 270 0) (.seq (.seq (rg 270 1) (.cond (.tmp 7) (.seq (rg 270 2) (.ret)) (.skip))) (.seq (rg 270 3) (.ret)))
theorem asQ:KF 270 [.tmp 4] 1 ank:=.mk
end
noncomputable section
theorem WX:XF 172 0 1 [oa 2 (.assign (.const (.int .i64 (0))))]:=.mk
theorem WG:XF 172 1 33 [mv 3 0,oa 4 (.call ⟨.builtin .len,#[.tmp 3],#[22]⟩),bk 5 .gtr 3 4 4]:=.mk
theorem X8:XF 172 2 4 [oa 2 (.assign (.const (.int .i64 (7))))]:=.mk
theorem YH:XF 172 3 4 [mv 6 0,oa 7 (.call ⟨.value (.func 206),#[.tmp 6,.func 207],#[22,245]⟩),sg 2 7]:=.mk
def afS:Code:=.seq (rg 172 0) (.seq (.seq (rg 172 1) (.cond (.tmp 5) (.seq (rg 172 2) (.ret)) (.skip))) (.seq (rg 172 3) (.ret)))
theorem atx:KF 172 [.tmp 2] 1 afS:=.mk
end
noncomputable section
@[simp] theorem aA2(t:Nat):K.esc 81 t=[7].elem t:=by kernel_rfl
theorem ad9:XF 81 0 1 [oa 2 (.assign (.const (.slice none 0 0)))]:=.mk
theorem ady:XF 81 1 17 [mv 3 0,oa 4 (.binOp .eql 22 (.tmp 3) (.const (.slice none 0 0)) 22)]:=.mk
theorem adu:XF 81 2 4 [oa 2 (.assign (.const (.slice none 0 0)))]:=.mk
theorem adq:XF 81 3 4 [oa 5 (.buildSlice 22 0 #[]),mv 6 0,oa 7 (.call ⟨.builtin .append,#[.tmp 5,.tmp 6],#[22,22]⟩),sg 2 7]:=.mk
@[simp] theorem aqC:K.imm 81 5=false:=by kernel_rfl
@[simp] theorem aqY:K.imm 81 7=false:=by kernel_rfl
def c81:Code:=.seq (rg 81 0) (.seq (.seq (rg 81 1) (.cond (.tmp 4) (.seq (rg 81 2) (.ret)) (.skip))) (.seq (rg 81 3) (.ret)))
theorem k81:KF 81 [.tmp 2] 0 c81:=.mk
end
noncomputable section
theorem aiQ:XF 108 0 3 [oa 4 (.assign (.const (.int .i64 (0))))]:=.mk
theorem ae7:XF 108 1 35 [mv 6 0,oa 7 (.call ⟨.builtin .len,#[.tmp 6],#[22]⟩),mv 8 1,bo 9 .lss 3 7 8,sg 5 9]:=.mk
theorem agR:XF 108 2 16 [oa 4 (.assign (.const (.int .i64 (8))))]:=.mk
theorem agH:XF 108 3 1024 [mv 11 0,oa 12 (.call ⟨.builtin .len,#[.tmp 11],#[22]⟩),mv 13 1,bo 14 .gtr 3 12 13,sg 10 14]:=.mk
theorem agL:XF 108 4 16 [oa 4 (.assign (.const (.int .i64 (7))))]:=.mk
theorem agv:XF 108 5 16 [oa 4 (.assign (.const (.int .i64 (0))))]:=.mk
def apj:Code:=.seq (rg 108 0) (.seq (.block 0 (.seq (rg 108 1) (.cond (.tmp 5) (.seq (rg 108 2) (.ret)) (.seq (rg 108 3) (.cond (.tmp 10) (.seq (rg 108 4) (.ret)) (.skip)))))) (.seq (rg 108 5) (.ret)))
theorem axD:KF 108 [.tmp 4] 1 apj:=.mk
end
noncomputable section
theorem PD:XF 110 0 1 [oa 2 (.assign (.const (.int .i64 (0))))]:=.mk
theorem Me:XF 110 1 9 [oa 3 (.assign (.const (.int .i64 (1))))]:=.mk
theorem MB:XF 110 2 456 [mv 6 0,oa 7 (.call ⟨.builtin .len,#[.tmp 6],#[22]⟩),oa 8 (.move (.const (.int .i64 (0))))]:=.mk
theorem Oh:XF 110 3 968 [bo 9 .lss 3 8 7]:=.mk
theorem Qd:XF 110 4 488 [ia 10 22 6 8,ld 11 3 10,sg 5 11]:=.mk
theorem Oy:XF 110 5 456 [mv 12 3,mv 13 5,bo 14 .mul 3 12 13,sg 3 14]:=.mk
theorem Qx:XF 110 6 456 [bk 15 .add 3 8 1,mv 8 15]:=.mk
theorem NV:XF 110 7 4 [mv 16 3,sg 2 16]:=.mk
def Xv:Code:=.seq (rg 110 3) (.seq (.cond (.tmp 9) (.skip) (.exit 0)) (.seq (.block 1 (.seq (rg 110 4) (rg 110 5))) (rg 110 6)))
theorem MI(s:St):aj K 110 Xv s=aj K 110 (.seq (rg 110 3) (.seq (.cond (.tmp 9) (.skip) (.exit 0)) (.seq (.block 1 (.seq (rg 110 4) (rg 110 5))) (rg 110 6)))) s:=rfl
def abo:Code:=.seq (rg 110 0) (.seq (rg 110 1) (.seq (.seq (rg 110 2) (.block 0 (.loop Xv))) (.seq (rg 110 7) (.ret))))
theorem azg:KF 110 [.tmp 2] 1 abo:=.mk
end
noncomputable section
@[simp] theorem auF(t:Nat):K.esc 128 t=false:=by kernel_rfl
theorem Ko:XF 128 0 271 [aq 8 39]:=.mk
theorem O9:XF 128 1 783 [mv 11 3,oa 12 (.build 39 #[(0,.tmp 11)]),aq 9 39,so 39 9 12]:=.mk
theorem Mc:XF 128 2 1807 [oa 10 (.assign (.const (.int .i64 (0))))]:=.mk
theorem Nv:XF 128 3 1050383 [mv 13 10,mv 14 1,mv 15 3,ia 16 25 14 15,fa 17 168 16 1,ld 18 22 17,oa 19 (.call ⟨.builtin .len,#[.tmp 18],#[22]⟩),bo 20 .lss 3 13 19]:=.mk
theorem NS:XP 128 5 1807 [(1,8),(1,11),(1,12),(1,13)] [fa 23 39 9 1,ld 24 37 23,mv 25 0,mv 26 2,mv 27 1,mv 28 3,ia 29 25 27 28,fa 30 168 29 1,ld 31 22 30,mv 32 10,ia 33 22 31 32,ld 34 3 33,oa 35 (.call ⟨.value (.func 186),#[.tmp 25,.tmp 26,.tmp 34],#[23,22,3]⟩),oa 36 (.buildSlice 37 1 #[(0,.tmp 35)]),oa 37 (.call ⟨.builtin .append,#[.tmp 24,.tmp 36],#[37,37]⟩),fa 38 39 9 1,so 37 38 37]:=.mk
@[simp] theorem ajs:K.imm 128 36=false:=by kernel_rfl
@[simp] theorem ajG:K.imm 128 37=false:=by kernel_rfl
theorem Pn:XF 128 4 1807 [mv 21 10,bk 22 .add 3 21 1,sg 10 22]:=.mk
theorem Qz:XF 128 6 256 [ld 39 39 9,so 39 8 39]:=.mk
def Vq:Code:=.seq (.seq (rg 128 3) (.cond (.tmp 20) (.skip) (.exit 0))) (.seq (.block 1 (rd 128 5)) (rg 128 4))
theorem Ov(s:St):aj K 128 Vq s=aj K 128 (.seq (.seq (rg 128 3) (.cond (.tmp 20) (.skip) (.exit 0))) (.seq (.block 1 (rd 128 5)) (rg 128 4))) s:=rfl
def acv:Code:=.seq (rg 128 0) (.seq (rg 128 1) (.seq (.seq (rg 128 2) (.block 0 (.loop Vq))) (.seq (rg 128 6) (.ret))))
theorem aiB:KF 128 [.cell 8 39] 0 acv:=.mk
end
noncomputable section
@[simp] theorem asH(t:Nat):K.esc 186 t=false:=by kernel_rfl
theorem OE:XF 186 0 71 [aq 6 142]:=.mk
theorem Pe:XF 186 1 199 [mv 12 1,oa 13 (.call ⟨.builtin .len,#[.tmp 12],#[22]⟩),oa 14 (.makeSlice 22 (.tmp 13) (.tmp 13)),oa 15 (.build 142 #[(1,.tmp 14)]),aq 7 142,so 142 7 15]:=.mk
theorem Ku:XF 186 2 451 [mv 16 2,bk 17 .sub 3 16 1,sg 8 17]:=.mk
theorem Ox:XF 186 3 963 [mv 18 0,oa 19 (.call ⟨.value (.func 20),#[.tmp 18,.const (.int .i64 (2))],#[23,3]⟩),sg 9 19]:=.mk
theorem rq:XF 186 4 67109827 [mv 20 9,bk 21 .gtr 3 20 0,mv 22 21,og 23 2 true (.move (.tmp 1)),og 24 2 true (.call ⟨.builtin .len,#[.tmp 23],#[22]⟩),og 25 2 true (.binOp .gtr 3 (.tmp 24) (.const (.int .i64 (0))) 3),oa 26 (.pick (.tmp 22) (.tmp 25) (.const (.bool false)))]:=.mk
theorem EU:XF 186 6 1987 [mv 29 0,mv 30 1,oa 31 (.call ⟨.builtin .len,#[.tmp 30],#[22]⟩),bk 32 .sub 3 31 1,oa 33 (.call ⟨.value (.func 20),#[.tmp 29,.tmp 32],#[23,3]⟩),sg 10 33]:=.mk
theorem EW:XF 186 7 4035 [mv 34 1,mv 35 10,ia 36 22 34 35,ld 37 3 36,bk 38 .sub 3 37 1,sg 11 38]:=.mk
theorem GX:XF 186 8 562949953425347 [fa 39 142 7 1,ld 40 22 39,mv 41 10,ia 42 22 40 41,ld 43 3 42,bk 44 .neq 3 43 0,mv 45 44,og 46 6 false (.move (.tmp 11)),og 47 6 false (.move (.tmp 8)),og 48 6 false (.binOp .gtr 3 (.tmp 46) (.tmp 47) 3),oa 49 (.pick (.tmp 45) (.const (.bool true)) (.tmp 48))]:=.mk
theorem FH:XF 186 9 4035 [mv 50 8,mv 51 11,bo 52 .sub 3 50 51,sg 8 52]:=.mk
theorem zT:XF 186 10 4035 [fa 53 142 7 1,ld 54 22 53,mv 55 10,ia 56 22 54 55,on (.store 3 (.tmp 56) (.const (.int .i64 (1))))]:=.mk
theorem zX:XF 186 11 288230376151715779 [mv 57 0,oa 58 (.call ⟨.value (.func 129),#[.tmp 57,.const (.int .i64 (4))],#[23,3]⟩)]:=.mk
theorem Af:XF 186 12 3011 [fa 59 142 7 1,ld 60 22 59,mv 61 10,ia 62 22 60 61,on (.store 3 (.tmp 62) (.const (.int .i64 (-1))))]:=.mk
theorem Ak:XF 186 13 963 [fa 63 142 7 0,ld 64 3 63,mv 65 11,bo 66 .add 3 64 65,fa 67 142 7 0,so 3 67 66]:=.mk
theorem Gn:XF 186 5 963 [mv 27 9,bk 28 .sub 3 27 1,sg 9 28]:=.mk
theorem FV:XP 186 14 192 [(1,4)] [fa 68 142 7 0,ld 69 3 68,mv 70 0,mv 71 8,oa 72 (.call ⟨.value (.func 20),#[.tmp 70,.tmp 71],#[23,3]⟩),bo 73 .add 3 69 72,fa 74 142 7 0,so 3 74 73]:=.mk
theorem FX:XF 186 15 64 [ld 75 142 7,so 142 6 75]:=.mk
def KH:Code:=.seq (.seq (rg 186 4) (.cond (.tmp 26) (.skip) (.exit 0))) (.seq (.block 1 (.seq (rg 186 6) (.seq (rg 186 7) (.seq (.seq (rg 186 8) (.cond (.tmp 49) (.exit 1) (.skip))) (.seq (rg 186 9) (.seq (rg 186 10) (.seq (rg 186 11) (.cond (.tmp 58) (.seq (rg 186 12) (rg 186 13)) (.skip))))))))) (rg 186 5))
theorem uF(s:St):aj K 186 KH s=aj K 186 (.seq (.seq (rg 186 4) (.cond (.tmp 26) (.skip) (.exit 0))) (.seq (.block 1 (.seq (rg 186 6) (.seq (rg 186 7) (.seq (.seq (rg 186 8) (.cond (.tmp 49) (.exit 1) (.skip))) (.seq (rg 186 9) (.seq (rg 186 10) (.seq (rg 186 11) (.cond (.tmp 58) (.seq (rg 186 12) (rg 186 13)) (.skip))))))))) (rg 186 5))) s:=rfl
def abz:Code:=.seq (rg 186 0) (.seq (rg 186 1) (.seq (rg 186 2) (.seq (.seq (rg 186 3) (.block 0 (.loop KH))) (.seq (rd 186 14) (.seq (rg 186 15) (.ret))))))
theorem amZ:KF 186 [.cell 6 142] 1 abz:=.mk
end
noncomputable section
theorem adZ:XF 20 0 3 [oa 4 (.assign (.const (.int .i64 (0))))]:=.mk
theorem adt:XF 20 1 34 [mv 6 0,oa 7 (.call ⟨.value (.func 73),#[.tmp 6],#[23]⟩),sg 5 7]:=.mk
theorem aei:XF 20 2 546 [mv 8 1,bk 9 .lss 3 8 1]:=.mk
theorem aej:XF 20 3 16 [oa 4 (.assign (.const (.int .i64 (0))))]:=.mk
theorem anO:XF 20 4 16 [mv 10 5,mv 11 1,oa 12 (.convert 3 94 (.tmp 11)),oa 13 (.binOp .add 94 (.tmp 12) (.const (.int .u64 (1))) 94),bo 14 .rem 94 10 13,oa 15 (.convert 94 3 (.tmp 14)),sg 4 15]:=.mk
def c20:Code:=.seq (rg 20 0) (.seq (rg 20 1) (.seq (.seq (rg 20 2) (.cond (.tmp 9) (.seq (rg 20 3) (.ret)) (.skip))) (.seq (rg 20 4) (.ret))))
theorem k20:KF 20 [.tmp 4] 1 c20:=.mk
end
noncomputable section
theorem amE:XF 21 0 7 [oa 6 (.assign (.const (.int .i64 (0))))]:=.mk
theorem anc:XF 21 1 64 [mv 7 1,mv 8 0,mv 9 2,mv 10 1,bo 11 .sub 3 9 10,oa 12 (.call ⟨.value (.func 20),#[.tmp 8,.tmp 11],#[23,3]⟩),bo 13 .add 3 7 12,sg 6 13]:=.mk
def c21:Code:=.seq (rg 21 0) (.seq (rg 21 1) (.ret))
theorem k21:KF 21 [.tmp 6] 1 c21:=.mk
end
noncomputable section
theorem amd:XF 58 0 3 [oa 4 (.assign (.const (.int .i64 (0))))]:=.mk
theorem alp:XF 58 1 16 [mv 5 1,mv 6 0,mv 7 1,oa 8 (.call ⟨.builtin .len,#[.tmp 7],#[22]⟩),bk 9 .sub 3 8 1,oa 10 (.call ⟨.value (.func 20),#[.tmp 6,.tmp 9],#[23,3]⟩),ia 11 22 5 10,ld 12 3 11,sg 4 12]:=.mk
def c58:Code:=.seq (rg 58 0) (.seq (rg 58 1) (.ret))
theorem k58:KF 58 [.tmp 4] 1 c58:=.mk
end
noncomputable section
theorem afw:XF 129 0 3 [oa 4 (.assign (.const (.bool false)))]:=.mk
theorem aij:XF 129 1 16 [mv 5 0,mv 6 1,bk 7 .sub 3 6 1,oa 8 (.call ⟨.value (.func 20),#[.tmp 5,.tmp 7],#[23,3]⟩),bk 9 .eql 3 8 0,sg 4 9]:=.mk
def alU:Code:=.seq (rg 129 0) (.seq (rg 129 1) (.ret))
theorem aup:KF 129 [.tmp 4] 1 alU:=.mk
end
noncomputable section
theorem VJ:XF 73 0 1 [oa 2 (.assign (.const (.int .u64 (0))))]:=.mk
theorem apw:XF 73 1 9 [mv 5 0,oa 6 (.nilCheck (.tmp 5)),fa 7 96 6 1,ld 8 3 7,bk 9 .add 3 8 1,oa 10 (.convert 3 94 (.tmp 9)),oa 11 (.binOp .mul 94 (.tmp 10) (.const (.int .u64 (13503953896175478587))) 94),sg 3 11]:=.mk
theorem V6:XP 73 2 2097161 [(3,7),(3,8)] [mv 12 0,oa 13 (.nilCheck (.tmp 12)),fa 14 96 13 1,ld 15 3 14,mv 16 0,oa 17 (.nilCheck (.tmp 16)),fa 18 96 17 0,ld 19 22 18,oa 20 (.call ⟨.builtin .len,#[.tmp 19],#[22]⟩),bo 21 .lss 3 15 20]:=.mk
theorem alS:XP 73 3 9 [(4,8)] [mv 22 3,mv 23 0,oa 24 (.nilCheck (.tmp 23)),fa 25 96 24 0,ld 26 22 25,mv 27 0,oa 28 (.nilCheck (.tmp 27)),fa 29 96 28 1,ld 30 3 29,ia 31 22 26 30,ld 32 3 31,oa 33 (.convert 3 94 (.tmp 32)),oa 34 (.binOp .mul 94 (.tmp 33) (.const (.int .u64 (4354685564936845355))) 94),bo 35 .add 94 22 34,sg 3 35]:=.mk
theorem Y8:XF 73 4 9 [mv 36 0,oa 37 (.nilCheck (.tmp 36)),fa 38 96 37 1,ld 39 3 38,bk 40 .add 3 39 1,oa 41 (.nilCheck (.tmp 36)),fa 42 96 41 1,so 3 42 40]:=.mk
theorem amf:XF 73 5 1 [mv 43 0,mv 44 0,oa 45 (.nilCheck (.tmp 44)),fa 46 96 45 2,ld 47 94 46,mv 48 3,bo 49 .xor 94 47 48,oa 50 (.binOp .mul 94 (.tmp 49) (.const (.int .u64 (11912009170470909681))) 94),oa 51 (.nilCheck (.tmp 43)),fa 52 96 51 2,so 94 52 50]:=.mk
theorem WS:XP 73 6 1 [(4,8)] [mv 53 0,mv 54 0,oa 55 (.nilCheck (.tmp 54)),fa 56 96 55 2,ld 57 94 56,mv 58 0,oa 59 (.nilCheck (.tmp 58)),fa 60 96 59 2,ld 61 94 60,oa 62 (.binOp .shr 94 (.tmp 61) (.const (.int .u64 (31))) 195),bo 63 .xor 94 57 62,oa 64 (.nilCheck (.tmp 53)),fa 65 96 64 2,so 94 65 63]:=.mk
theorem alR:XF 73 7 16 [mv 66 0,oa 67 (.nilCheck (.tmp 66)),fa 68 96 67 2,ld 69 94 68,oa 70 (.binOp .mul 94 (.tmp 69) (.const (.int .u64 (5840696475078001361))) 94),sg 4 70]:=.mk
theorem Wh:XF 73 8 4 [mv 71 4,mv 72 4,oa 73 (.binOp .shr 94 (.tmp 72) (.const (.int .u64 (29))) 195),bo 74 .xor 94 71 73,oa 75 (.binOp .shr 94 (.tmp 74) (.const (.int .u64 (11))) 195),sg 2 75]:=.mk
def c73:Code:=.seq (rg 73 0) (.seq (rg 73 1) (.seq (.seq (rd 73 2) (.cond (.tmp 21) (rd 73 3) (.skip))) (.seq (rg 73 4) (.seq (rg 73 5) (.seq (rd 73 6) (.seq (rg 73 7) (.seq (rg 73 8) (.ret))))))))
theorem k73:KF 73 [.tmp 2] 1 c73:=.mk
end
noncomputable section
@[simp] theorem ayf(t:Nat):K.esc 173 t=false:=by kernel_rfl
theorem Pv:XF 173 0 3 [oa 4 (.assign (.const (.int .i64 (0))))]:=.mk
theorem PK:XF 173 1 1794 [mv 8 0,oa 9 (.call ⟨.builtin .len,#[.tmp 8],#[26]⟩),oa 10 (.move (.const (.int .i64 (0))))]:=.mk
theorem Lj:XF 173 2 3842 [bo 11 .lss 3 10 9]:=.mk
theorem QC:XF 173 3 1890 [mv 12 10,ia 13 26 8 10,ld 14 47 13,aq 6 47,sg 5 12,so 47 6 14]:=.mk
theorem KT:XF 173 4 1922 [mv 15 1,mv 16 5,ld 17 47 6,oa 18 (.call ⟨.value (.tmp 15),#[.tmp 16,.tmp 17],#[3,47]⟩),sg 7 18]:=.mk
theorem P7:XF 173 5 1050498 [mv 19 7,bk 20 .neq 30 19 0]:=.mk
theorem Ky:XF 173 6 16 [mv 21 7,sg 4 21]:=.mk
theorem NZ:XF 173 7 1794 [bk 22 .add 3 10 1,mv 10 22]:=.mk
theorem Ny:XF 173 8 16 [oa 4 (.assign (.const (.int .i64 (0))))]:=.mk
def XB:Code:=.seq (rg 173 2) (.seq (.cond (.tmp 11) (.skip) (.exit 0)) (.seq (.block 1 (.seq (rg 173 3) (.seq (rg 173 4) (.seq (rg 173 5) (.cond (.tmp 20) (.seq (rg 173 6) (.ret)) (.skip)))))) (rg 173 7)))
theorem Nj(s:St):aj K 173 XB s=aj K 173 (.seq (rg 173 2) (.seq (.cond (.tmp 11) (.skip) (.exit 0)) (.seq (.block 1 (.seq (rg 173 3) (.seq (rg 173 4) (.seq (rg 173 5) (.cond (.tmp 20) (.seq (rg 173 6) (.ret)) (.skip)))))) (rg 173 7)))) s:=rfl
def c173:Code:=.seq (rg 173 0) (.seq (.seq (rg 173 1) (.block 0 (.loop XB))) (.seq (rg 173 8) (.ret)))
theorem afb:KF 173 [.tmp 4] 1 c173:=.mk
end
noncomputable section
@[simp] theorem awI(t:Nat):K.esc 240 t=false:=by kernel_rfl
theorem aiC:XF 240 0 45 [bx 5 142 1,oa 6 (.assign (.const (.int .i64 (0))))]:=.mk
theorem ag2:XF 240 1 173 [ld 10 142 5,ld 11 22 2,oa 12 (.call ⟨.value (.func 241),#[.tmp 10,.tmp 11],#[142,22]⟩),sg 7 12]:=.mk
theorem afD:XF 240 2 16557 [mv 13 7,bk 14 .neq 30 13 0]:=.mk
theorem afB:XF 240 3 64 [mv 15 7,sg 6 15]:=.mk
theorem aiI:XF 240 4 777 [ld 17 142 5,ld 18 22 2,oa 19 (.call ⟨.value (.func 242),#[.tmp 17,.tmp 18],#[142,22]⟩),mv 16 19,xt 20 16 0,xt 21 16 1,sg 8 20,sg 9 21]:=.mk
theorem ahS:XF 240 5 2147483648 [mv 22 8,bk 23 .lss 3 22 0,mv 24 23,og 25 2 false (.move (.tmp 9)),og 26 2 false (.load 22 (.tmp 3)),og 27 2 false (.move (.tmp 0)),og 28 2 false (.indexAddr 22 (.tmp 26) (.tmp 27)),og 29 2 false (.load 3 (.tmp 28)),og 30 2 false (.binOp .geq 3 (.tmp 25) (.tmp 29) 3),oa 31 (.pick (.tmp 24) (.const (.bool true)) (.tmp 30))]:=.mk
theorem aeA:XF 240 6 64 [oa 6 (.assign (.const (.int .i64 (3))))]:=.mk
theorem agw:XF 240 7 64 [oa 6 (.assign (.const (.int .i64 (0))))]:=.mk
def aoP:Code:=.seq (rg 240 0) (.seq (.seq (rg 240 1) (.seq (rg 240 2) (.cond (.tmp 14) (.seq (rg 240 3) (.ret)) (.skip)))) (.seq (.seq (rg 240 4) (.seq (rg 240 5) (.cond (.tmp 31) (.seq (rg 240 6) (.ret)) (.skip)))) (.seq (rg 240 7) (.ret))))
theorem avh:KF 240 [.tmp 6] 1 aoP:=.mk
end
noncomputable section
@[simp] theorem auc(t:Nat):K.esc 239 t=false:=by kernel_rfl
theorem NH:XF 239 0 3 [oa 4 (.assign (.const (.int .i64 (0))))]:=.mk
theorem Lm:XF 239 1 1794 [mv 8 0,oa 9 (.call ⟨.builtin .len,#[.tmp 8],#[37]⟩),oa 10 (.move (.const (.int .i64 (0))))]:=.mk
theorem KO:XF 239 2 3842 [bo 11 .lss 3 10 9]:=.mk
theorem Qa:XF 239 3 1890 [mv 12 10,ia 13 37 8 10,ld 14 142 13,aq 6 142,sg 5 12,so 142 6 14]:=.mk
theorem NY:XF 239 4 1922 [mv 15 1,mv 16 5,ld 17 142 6,oa 18 (.call ⟨.value (.tmp 15),#[.tmp 16,.tmp 17],#[3,142]⟩),sg 7 18]:=.mk
theorem L8:XF 239 5 1050498 [mv 19 7,bk 20 .neq 30 19 0]:=.mk
theorem Qe:XF 239 6 16 [mv 21 7,sg 4 21]:=.mk
theorem OH:XF 239 7 1794 [bk 22 .add 3 10 1,mv 10 22]:=.mk
theorem Qc:XF 239 8 16 [oa 4 (.assign (.const (.int .i64 (0))))]:=.mk
def U8:Code:=.seq (rg 239 2) (.seq (.cond (.tmp 11) (.skip) (.exit 0)) (.seq (.block 1 (.seq (rg 239 3) (.seq (rg 239 4) (.seq (rg 239 5) (.cond (.tmp 20) (.seq (rg 239 6) (.ret)) (.skip)))))) (rg 239 7)))
theorem MS(s:St):aj K 239 U8 s=aj K 239 (.seq (rg 239 2) (.seq (.cond (.tmp 11) (.skip) (.exit 0)) (.seq (.block 1 (.seq (rg 239 3) (.seq (rg 239 4) (.seq (rg 239 5) (.cond (.tmp 20) (.seq (rg 239 6) (.ret)) (.skip)))))) (rg 239 7)))) s:=rfl
def abn:Code:=.seq (rg 239 0) (.seq (.seq (rg 239 1) (.block 0 (.loop U8))) (.seq (rg 239 8) (.ret)))
theorem asG:KF 239 [.tmp 4] 1 abn:=.mk
end
noncomputable section
@[simp] theorem azB(t:Nat):K.esc 208 t=[5,7].elem t:=by kernel_rfl
theorem PZ:XF 208 0 56 [bx 3 28 0,bx 4 39 1,bx 5 22 2,oa 6 (.assign (.const (.int .i64 (0))))]:=.mk
theorem OA:XF 208 1 65592 [fa 9 39 4 0,ld 10 3 9,fa 11 28 3 0,ld 12 25 11,oa 13 (.call ⟨.builtin .len,#[.tmp 12],#[25]⟩),bk 14 .sub 3 13 1,oa 15 (.call ⟨.value (.func 109),#[.tmp 10,.const (.int .i64 (0)),.tmp 14],#[3,3,3]⟩),oa 16 (.unOp .not 4 (.tmp 15))]:=.mk
theorem MW:XF 208 2 64 [oa 6 (.assign (.const (.int .i64 (3))))]:=.mk
theorem MH:XF 208 3 176 [fa 17 28 3 0,ld 18 25 17,fa 19 39 4 0,ld 20 3 19,ia 21 25 18 20,fa 22 168 21 1,ld 23 22 22,aq 7 22,so 22 7 23]:=.mk
theorem LP:XF 208 4 432 [fa 24 39 4 1,ld 25 37 24,ld 26 22 7,oa 27 (.call ⟨.builtin .len,#[.tmp 26],#[22]⟩),oa 28 (.call ⟨.value (.func 238),#[.tmp 25,.tmp 27],#[37,3]⟩),sg 8 28]:=.mk
theorem LC:XF 208 5 1073742256 [mv 29 8,bk 30 .neq 30 29 0]:=.mk
theorem J8:XF 208 6 64 [mv 31 8,sg 6 31]:=.mk
theorem Ol:XF 208 7 64 [fa 32 39 4 1,ld 33 37 32,oa 34 (.makeFunc (.func 240) #[] #[.tmp 5,.tmp 7]),oa 35 (.call ⟨.value (.func 239),#[.tmp 33,.tmp 34],#[37,282]⟩),sg 6 35]:=.mk
def c208:Code:=.seq (rg 208 0) (.seq (.seq (rg 208 1) (.cond (.tmp 16) (.seq (rg 208 2) (.ret)) (.skip))) (.seq (rg 208 3) (.seq (.seq (rg 208 4) (.seq (rg 208 5) (.cond (.tmp 30) (.seq (rg 208 6) (.ret)) (.skip)))) (.seq (rg 208 7) (.ret)))))
theorem avL:KF 208 [.tmp 6] 1 c208:=.mk
end
noncomputable section
theorem WL:XF 238 0 3 [oa 4 (.assign (.const (.int .i64 (0))))]:=.mk
theorem WC:XF 238 1 35 [mv 6 0,oa 7 (.call ⟨.builtin .len,#[.tmp 6],#[37]⟩),mv 8 1,bo 9 .lss 3 7 8,sg 5 9]:=.mk
theorem YL:XF 238 2 16 [oa 4 (.assign (.const (.int .i64 (8))))]:=.mk
theorem Zn:XF 238 3 1024 [mv 11 0,oa 12 (.call ⟨.builtin .len,#[.tmp 11],#[37]⟩),mv 13 1,bo 14 .gtr 3 12 13,sg 10 14]:=.mk
theorem WI:XF 238 4 16 [oa 4 (.assign (.const (.int .i64 (7))))]:=.mk
theorem Va:XF 238 5 16 [oa 4 (.assign (.const (.int .i64 (0))))]:=.mk
def ae9:Code:=.seq (rg 238 0) (.seq (.block 0 (.seq (rg 238 1) (.cond (.tmp 5) (.seq (rg 238 2) (.ret)) (.seq (rg 238 3) (.cond (.tmp 10) (.seq (rg 238 4) (.ret)) (.skip)))))) (.seq (rg 238 5) (.ret)))
theorem as3:KF 238 [.tmp 4] 1 ae9:=.mk
end
noncomputable section
@[simp] theorem atT(t:Nat):K.esc 241 t=false:=by kernel_rfl
theorem Zk:XF 241 0 6 [bx 2 142 0,oa 4 (.assign (.const (.int .i64 (0))))]:=.mk
theorem YX:XF 241 1 36 [fa 6 142 2 1,ld 7 22 6,mv 8 1,oa 9 (.call ⟨.builtin .len,#[.tmp 8],#[22]⟩),oa 10 (.call ⟨.value (.func 108),#[.tmp 7,.tmp 9],#[22,3]⟩),sg 5 10]:=.mk
theorem V5:XF 241 2 4132 [mv 11 5,bk 12 .neq 30 11 0]:=.mk
theorem WT:XF 241 3 16 [mv 13 5,sg 4 13]:=.mk
theorem V8:XP 241 4 16 [(1,4),(2,4),(1,5),(2,5)] [fa 14 142 2 1,ld 15 22 14,oa 16 (.call ⟨.value (.func 81),#[.tmp 15],#[22]⟩),fa 17 142 2 0,ld 18 3 17,oa 19 (.buildSlice 22 1 #[(0,.tmp 18)]),oa 20 (.call ⟨.value (.func 117),#[.tmp 16,.const (.int .i64 (0)),.tmp 19],#[22,3,22]⟩),oa 21 (.call ⟨.value (.func 206),#[.tmp 20,.func 270],#[22,245]⟩),sg 4 21]:=.mk
@[simp] theorem ajH:K.imm 241 19=true:=by kernel_rfl
def ahC:Code:=.seq (rg 241 0) (.seq (.seq (rg 241 1) (.seq (rg 241 2) (.cond (.tmp 12) (.seq (rg 241 3) (.ret)) (.skip)))) (.seq (rd 241 4) (.ret)))
theorem ayX:KF 241 [.tmp 4] 1 ahC:=.mk
end
noncomputable section
@[simp] theorem azO(t:Nat):K.esc 242 t=false:=by kernel_rfl
theorem OB:XF 242 0 6 [bx 2 142 0,oa 4 (.assign (.const (.int .i64 (0)))),oa 5 (.assign (.const (.int .i64 (0))))]:=.mk
theorem QH:XP 242 1 54 [(1,3)] [fa 9 142 2 0,ld 10 3 9,fa 11 142 2 0,ld 12 3 11,sg 4 10,sg 5 12]:=.mk
theorem MO:XF 242 2 114738 [fa 13 142 2 1,ld 14 22 13,oa 15 (.call ⟨.builtin .len,#[.tmp 14],#[22]⟩),oa 16 (.move (.const (.int .i64 (0))))]:=.mk
theorem P6:XF 242 3 245810 [bo 17 .lss 3 16 15]:=.mk
theorem PV:XF 242 4 114930 [mv 18 16,ia 19 22 14 16,ld 20 3 19,sg 6 18,sg 7 20]:=.mk
theorem KP:XF 242 5 114994 [mv 21 7,mv 22 1,mv 23 6,ia 24 22 22 23,ld 25 3 24,bk 26 .sub 3 25 1,bo 27 .mul 3 21 26,sg 8 27]:=.mk
theorem Qr:XF 242 6 114738 [mv 28 4,mv 29 8,oa 30 (.call ⟨.builtin .min,#[.const (.int .i64 (0)),.tmp 29],#[3,3]⟩),bo 31 .add 3 28 30,mv 32 5,mv 33 8,oa 34 (.call ⟨.builtin .max,#[.const (.int .i64 (0)),.tmp 33],#[3,3]⟩),bo 35 .add 3 32 34,sg 4 31,sg 5 35]:=.mk
theorem Pj:XF 242 7 114738 [bk 36 .add 3 16 1,mv 16 36]:=.mk
theorem O4:XF 242 8 48 [mv 37 4,mv 38 5,sg 4 37,sg 5 38]:=.mk
def Wj:Code:=.seq (rg 242 3) (.seq (.cond (.tmp 17) (.skip) (.exit 0)) (.seq (.block 1 (.seq (rg 242 4) (.seq (rg 242 5) (rg 242 6)))) (rg 242 7)))
theorem OC(s:St):aj K 242 Wj s=aj K 242 (.seq (rg 242 3) (.seq (.cond (.tmp 17) (.skip) (.exit 0)) (.seq (.block 1 (.seq (rg 242 4) (.seq (rg 242 5) (rg 242 6)))) (rg 242 7)))) s:=rfl
def abr:Code:=.seq (rg 242 0) (.seq (rd 242 1) (.seq (.seq (rg 242 2) (.block 0 (.loop Wj))) (.seq (rg 242 8) (.ret))))
theorem ahT:KF 242 [.tmp 4,.tmp 5] 1 abr:=.mk
end
noncomputable section
@[simp] theorem avG(t:Nat):K.esc 211 t=[4,5].elem t:=by kernel_rfl
theorem Dn:XF 211 0 56 [bx 3 45 0,bx 4 3 1,bx 5 3 2,oa 6 (.assign (.const (.int .i64 (0))))]:=.mk
theorem Bq:XF 211 1 312 [fa 7 45 3 0,ld 8 3 7]:=.mk
theorem Di:XF 211 3 824 [bk 10 .eql 3 8 0,sg 9 10]:=.mk
theorem CZ:XF 211 4 8248 [fa 11 45 3 2,ld 12 9 11,oa 13 (.binOp .neq 9 (.tmp 12) (.const (.string ⟨#[]⟩)) 9)]:=.mk
theorem BB:XF 211 5 64 [oa 6 (.assign (.const (.int .i64 (9))))]:=.mk
theorem Dh:XF 211 6 16696 [bk 15 .eql 3 8 1,sg 14 15]:=.mk
theorem BV:XF 211 7 134217784 [fa 16 45 3 2,ld 17 9 16,ld 18 3 4,oa 19 (.call ⟨.value (.func 165),#[.tmp 17,.const (.int .u8 (114)),.tmp 18],#[9,5,3]⟩),bk 20 .lss 3 19 0,mv 21 20,og 22 5 true (.fieldAddr 45 (.tmp 3) 2),og 23 5 true (.load 9 (.tmp 22)),og 24 5 true (.load 3 (.tmp 5)),og 25 5 true (.call ⟨.value (.func 165),#[.tmp 23,.const (.int .u8 (105)),.tmp 24],#[9,5,3]⟩),og 26 5 true (.binOp .lss 3 (.tmp 25) (.const (.int .i64 (0))) 3),oa 27 (.pick (.tmp 21) (.tmp 26) (.const (.bool false)))]:=.mk
theorem BF:XF 211 8 64 [oa 6 (.assign (.const (.int .i64 (4))))]:=.mk
theorem BZ:XF 211 9 268435768 [bk 29 .eql 3 8 2,sg 28 29]:=.mk
theorem xB:XF 211 10 268435768 [bk 30 .eql 3 8 3,sg 28 30]:=.mk
theorem wR:XF 211 11 268435768 [bk 31 .eql 3 8 4,sg 28 31]:=.mk
theorem vW:XF 211 12 268435768 [bk 32 .eql 3 8 5,sg 28 32]:=.mk
theorem xu:XF 211 13 268435768 [bk 33 .eql 3 8 6,sg 28 33]:=.mk
theorem vV:XF 211 14 268435512 [bk 34 .eql 3 8 7,sg 28 34]:=.mk
theorem BX:XF 211 2 64 [oa 6 (.assign (.const (.int .i64 (9))))]:=.mk
theorem wJ:XF 211 15 64 [fa 35 45 3 4,ld 36 43 35,oa 37 (.makeFunc (.func 244) #[] #[.tmp 4,.tmp 5]),oa 38 (.call ⟨.value (.func 243),#[.tmp 36,.tmp 37],#[43,284]⟩),sg 6 38]:=.mk
def UL:Code:=.seq (rg 211 0) (.seq (.seq (rg 211 1) (.block 0 (.seq (rg 211 3) (.cond (.tmp 9) (.seq (rg 211 4) (.cond (.tmp 13) (.seq (rg 211 5) (.ret)) (.skip))) (.seq (rg 211 6) (.cond (.tmp 14) (.seq (rg 211 7) (.cond (.tmp 27) (.seq (rg 211 8) (.ret)) (.skip))) (.seq (.seq (rg 211 9) (.cond (.tmp 28) (.skip) (.seq (rg 211 10) (.cond (.tmp 28) (.skip) (.seq (rg 211 11) (.cond (.tmp 28) (.skip) (.seq (rg 211 12) (.cond (.tmp 28) (.skip) (.seq (rg 211 13) (.cond (.tmp 28) (.skip) (rg 211 14))))))))))) (.cond (.tmp 28) (.skip) (.seq (rg 211 2) (.ret)))))))))) (.seq (rg 211 15) (.ret)))
theorem VA:KF 211 [.tmp 6] 1 UL:=.mk
end
noncomputable section
@[simp] theorem av7(t:Nat):K.esc 244 t=false:=by kernel_rfl
theorem aiT:XF 244 0 44 [bx 5 45 1,oa 6 (.assign (.const (.int .i64 (0))))]:=.mk
theorem af5:XF 244 1 64 [ld 7 45 5,ld 8 3 2,ld 9 3 3,oa 10 (.call ⟨.value (.func 211),#[.tmp 7,.tmp 8,.tmp 9],#[45,3,3]⟩),sg 6 10]:=.mk
def akd:Code:=.seq (rg 244 0) (.seq (rg 244 1) (.ret))
theorem atj:KF 244 [.tmp 6] 1 akd:=.mk
end
noncomputable section
@[simp] theorem ayt(t:Nat):K.esc 243 t=false:=by kernel_rfl
theorem ML:XF 243 0 3 [oa 4 (.assign (.const (.int .i64 (0))))]:=.mk
theorem Qo:XF 243 1 1794 [mv 8 0,oa 9 (.call ⟨.builtin .len,#[.tmp 8],#[43]⟩),oa 10 (.move (.const (.int .i64 (0))))]:=.mk
theorem OJ:XF 243 2 3842 [bo 11 .lss 3 10 9]:=.mk
theorem Oc:XF 243 3 1890 [mv 12 10,ia 13 43 8 10,ld 14 45 13,aq 6 45,sg 5 12,so 45 6 14]:=.mk
theorem PL:XF 243 4 1922 [mv 15 1,mv 16 5,ld 17 45 6,oa 18 (.call ⟨.value (.tmp 15),#[.tmp 16,.tmp 17],#[3,45]⟩),sg 7 18]:=.mk
theorem Qn:XF 243 5 1050498 [mv 19 7,bk 20 .neq 30 19 0]:=.mk
theorem L6:XF 243 6 16 [mv 21 7,sg 4 21]:=.mk
theorem MZ:XF 243 7 1794 [bk 22 .add 3 10 1,mv 10 22]:=.mk
theorem MR:XF 243 8 16 [oa 4 (.assign (.const (.int .i64 (0))))]:=.mk
def Y7:Code:=.seq (rg 243 2) (.seq (.cond (.tmp 11) (.skip) (.exit 0)) (.seq (.block 1 (.seq (rg 243 3) (.seq (rg 243 4) (.seq (rg 243 5) (.cond (.tmp 20) (.seq (rg 243 6) (.ret)) (.skip)))))) (rg 243 7)))
theorem P9(s:St):aj K 243 Y7 s=aj K 243 (.seq (rg 243 2) (.seq (.cond (.tmp 11) (.skip) (.exit 0)) (.seq (.block 1 (.seq (rg 243 3) (.seq (rg 243 4) (.seq (rg 243 5) (.cond (.tmp 20) (.seq (rg 243 6) (.ret)) (.skip)))))) (rg 243 7)))) s:=rfl
def abP:Code:=.seq (rg 243 0) (.seq (.seq (rg 243 1) (.block 0 (.loop Y7))) (.seq (rg 243 8) (.ret)))
theorem afs:KF 243 [.tmp 4] 1 abP:=.mk
end
noncomputable section
@[simp] theorem awT(t:Nat):K.esc 205 t=false:=by kernel_rfl
theorem xE:XF 205 0 6 [bx 2 45 0]:=.mk
theorem xH:XF 205 1 6 [mv 6 1,bk 7 .geq 3 6 30,oa 8 (.call ⟨.value (.func 236),#[.tmp 7,.const (.int .i64 (7))],#[4,30]⟩)]:=.mk
theorem yA:XF 205 2 6 [ld 9 45 2,oa 10 (.call ⟨.value (.func 237),#[.tmp 9],#[45]⟩)]:=.mk
theorem xZ:XF 205 3 28674 [fa 11 45 2 4,ld 12 43 11,oa 13 (.call ⟨.builtin .len,#[.tmp 12],#[43]⟩),oa 14 (.move (.const (.int .i64 (0))))]:=.mk
theorem x9:XF 205 4 61442 [bo 15 .lss 3 14 13]:=.mk
theorem yw:XF 205 5 28706 [ia 16 43 12 14,ld 17 45 16,aq 5 45,so 45 5 17]:=.mk
theorem yh:XF 205 6 28674 [ld 18 45 5,mv 19 1,bk 20 .add 3 19 1,oa 21 (.call ⟨.value (.func 205),#[.tmp 18,.tmp 20],#[45,3]⟩)]:=.mk
theorem yE:XF 205 7 28674 [bk 22 .add 3 14 1,mv 14 22]:=.mk
def XJ:Code:=.seq (rg 205 4) (.seq (.cond (.tmp 15) (.skip) (.exit 0)) (.seq (.block 1 (.seq (rg 205 5) (rg 205 6))) (rg 205 7)))
theorem yD(s:St):aj K 205 XJ s=aj K 205 (.seq (rg 205 4) (.seq (.cond (.tmp 15) (.skip) (.exit 0)) (.seq (.block 1 (.seq (rg 205 5) (rg 205 6))) (rg 205 7)))) s:=rfl
def OU:Code:=.seq (rg 205 0) (.seq (rg 205 1) (.seq (rg 205 2) (.seq (rg 205 3) (.block 0 (.loop XJ)))))
theorem TJ:KF 205 [] 1 OU:=.mk
end
noncomputable section
theorem afv:XF 236 0 18 [mv 4 0]:=.mk
theorem agf:XF 236 1 0 [mv 5 1,oa 6 (.build 274 #[(0,.tmp 5)]),oa 7 (.makeInterface 274 (.tmp 6)),on (.panic (.tmp 7))]:=.mk
def c236:Code:=.seq (rg 236 0) (.cond (.tmp 4) (rg 236 1) (.skip))
theorem aty:KF 236 [] 1 c236:=.mk
end
noncomputable section
@[simp] theorem azb(t:Nat):K.esc 237 t=false:=by kernel_rfl
theorem FN:XF 237 0 2 [bx 1 45 0]:=.mk
theorem Gm:XF 237 1 2 [fa 4 45 1 0,ld 5 3 4,oa 6 (.call ⟨.value (.func 264),#[.tmp 5,.const (.int .i64 (0)),.const (.int .i64 (14))],#[3,3,3]⟩),oa 7 (.unOp .not 4 (.tmp 6)),oa 8 (.call ⟨.value (.func 236),#[.tmp 7,.const (.int .i64 (9))],#[4,30]⟩)]:=.mk
theorem FT:XF 237 2 6 [fa 9 45 1 0,ld 10 3 9,oa 11 (.call ⟨.value (.func 265),#[.tmp 10],#[3]⟩),aq 2 309,so 309 2 11]:=.mk
theorem F5:XF 237 3 6 [fa 12 45 1 4,ld 13 43 12,oa 14 (.call ⟨.builtin .len,#[.tmp 13],#[43]⟩),oa 15 (.indexAddr 309 (.tmp 2) (.const (.int .i64 (0)))),ld 16 3 15,bo 17 .lss 3 14 16,oa 18 (.call ⟨.value (.func 236),#[.tmp 17,.const (.int .i64 (8))],#[4,30]⟩)]:=.mk
theorem Gv:XF 237 4 6 [fa 19 45 1 4,ld 20 43 19,oa 21 (.call ⟨.builtin .len,#[.tmp 20],#[43]⟩),oa 22 (.indexAddr 309 (.tmp 2) (.const (.int .i64 (1)))),ld 23 3 22,bo 24 .gtr 3 21 23,oa 25 (.call ⟨.value (.func 236),#[.tmp 24,.const (.int .i64 (7))],#[4,30]⟩)]:=.mk
theorem Gu:XF 237 5 268435462 [fa 26 45 1 0,ld 27 3 26,bk 28 .eql 3 27 0]:=.mk
theorem EY:XF 237 6 14 [fa 29 45 1 1,ld 30 42 29,oa 31 (.call ⟨.value (.func 266),#[.tmp 30],#[42]⟩),sg 3 31]:=.mk
theorem Gf:XF 237 7 6 [mv 32 3,bk 33 .neq 30 32 0,mv 34 3,oa 35 (.call ⟨.value (.func 236),#[.tmp 33,.tmp 34],#[4,30]⟩)]:=.mk
theorem FW:XF 237 8 6 [fa 36 45 1 1,fa 37 42 36 0,ld 38 9 37,oa 39 (.index 9 (.tmp 38) (.const (.int .i64 (0)))),oa 40 (.binOp .eql 5 (.tmp 39) (.const (.int .u8 (45))) 5),oa 41 (.call ⟨.value (.func 236),#[.tmp 40,.const (.int .i64 (2))],#[4,30]⟩)]:=.mk
theorem Gy:XF 237 9 6 [fa 42 45 1 1,ld 43 42 42,oa 44 (.build 42 #[]),bo 45 .neq 42 43 44,oa 46 (.call ⟨.value (.func 236),#[.tmp 45,.const (.int .i64 (1))],#[4,30]⟩)]:=.mk
theorem zF:XF 237 10 281474976710662 [fa 47 45 1 0,ld 48 3 47]:=.mk
theorem zN:XF 237 12 9288674231451654 [bk 54 .eql 3 48 0,sg 53 54]:=.mk
theorem Ai:XF 237 13 6 [fa 55 45 1 2,ld 56 9 55,oa 57 (.binOp .neq 9 (.tmp 56) (.const (.string ⟨#[]⟩)) 9),mv 58 57,og 59 3 true (.fieldAddr 45 (.tmp 1) 2),og 60 3 true (.load 9 (.tmp 59)),og 61 3 true (.call ⟨.value (.func 267),#[.tmp 60],#[9]⟩),og 62 3 true (.unOp .not 4 (.tmp 61)),oa 63 (.pick (.tmp 58) (.tmp 62) (.const (.bool false))),oa 64 (.call ⟨.value (.func 236),#[.tmp 63,.const (.int .i64 (4))],#[4,30]⟩)]:=.mk
theorem zY:XF 237 14 36893769622395813894 [bk 66 .eql 3 48 1,sg 65 66]:=.mk
theorem zQ:XF 237 15 36893769622395813894 [bk 67 .eql 3 48 10,sg 65 67]:=.mk
theorem Ac:XF 237 16 36893769622395813894 [bk 68 .eql 3 48 11,sg 65 68]:=.mk
theorem zI:XF 237 17 36893769622395813894 [bk 69 .eql 3 48 13,sg 65 69]:=.mk
theorem zD:XF 237 18 36893488147419103238 [bk 70 .eql 3 48 14,sg 65 70]:=.mk
theorem Aa:XF 237 19 6 [fa 71 45 1 2,ld 72 9 71,oa 73 (.call ⟨.value (.func 268),#[.tmp 72],#[9]⟩),oa 74 (.unOp .not 4 (.tmp 73)),oa 75 (.call ⟨.value (.func 236),#[.tmp 74,.const (.int .i64 (4))],#[4,30]⟩)]:=.mk
theorem zV:XF 237 11 6 [fa 49 45 1 2,ld 50 9 49,oa 51 (.binOp .neq 9 (.tmp 50) (.const (.string ⟨#[]⟩)) 9),oa 52 (.call ⟨.value (.func 236),#[.tmp 51,.const (.int .i64 (4))],#[4,30]⟩)]:=.mk
theorem zO:XF 237 20 6 [fa 76 45 1 0,ld 77 3 76,oa 78 (.call ⟨.value (.func 269),#[.tmp 77],#[3]⟩),so 309 2 78]:=.mk
theorem Ae:XF 237 21 2417851639229258349412358 [ld 79 309 2,oa 80 (.build 309 #[]),bo 81 .eql 309 79 80]:=.mk
theorem zZ:XF 237 22 6 [fa 82 45 1 3,ld 83 3 82,bk 84 .neq 3 83 0,oa 85 (.call ⟨.value (.func 236),#[.tmp 84,.const (.int .i64 (2))],#[4,30]⟩)]:=.mk
theorem zL:XF 237 23 0 [fa 86 45 1 3,ld 87 3 86,oa 88 (.indexAddr 309 (.tmp 2) (.const (.int .i64 (0)))),ld 89 3 88,oa 90 (.indexAddr 309 (.tmp 2) (.const (.int .i64 (1)))),ld 91 3 90,oa 92 (.call ⟨.value (.func 264),#[.tmp 87,.tmp 89,.tmp 91],#[3,3,3]⟩),oa 93 (.unOp .not 4 (.tmp 92)),oa 94 (.call ⟨.value (.func 236),#[.tmp 93,.const (.int .i64 (2))],#[4,30]⟩)]:=.mk
def XG:Code:=.seq (rg 237 0) (.seq (rg 237 1) (.seq (rg 237 2) (.seq (rg 237 3) (.seq (rg 237 4) (.seq (.seq (rg 237 5) (.cond (.tmp 28) (.seq (rg 237 6) (.seq (rg 237 7) (rg 237 8))) (rg 237 9))) (.seq (.seq (rg 237 10) (.block 0 (.seq (rg 237 12) (.cond (.tmp 53) (rg 237 13) (.seq (.seq (rg 237 14) (.cond (.tmp 65) (.skip) (.seq (rg 237 15) (.cond (.tmp 65) (.skip) (.seq (rg 237 16) (.cond (.tmp 65) (.skip) (.seq (rg 237 17) (.cond (.tmp 65) (.skip) (rg 237 18))))))))) (.cond (.tmp 65) (rg 237 19) (rg 237 11))))))) (.seq (rg 237 20) (.seq (.seq (rg 237 21) (.cond (.tmp 81) (rg 237 22) (.skip))) (rg 237 23)))))))))
theorem abV:KF 237 [] 1 XG:=.mk
end
end Mw
