/- DependFirst's tied card holds; no condition beyond the card's own. -/
import Derived.Test.YtdjnccgeajpegaaGreatDoorKc
set_option linter.unusedVariables false
set_option linter.unusedSimpArgs false
namespace Mw
open Go Go.Proofs
set_option maxRecDepth 100000
noncomputable section
theorem aff:XF 264 0 7 [oa 6 (.assign (.const (.bool false)))]:=.mk
theorem afy:XF 264 1 64 [mv 7 1,mv 8 0,bo 9 .leq 3 7 8,mv 10 9,og 11 3 true (.move (.tmp 0)),og 12 3 true (.move (.tmp 2)),og 13 3 true (.binOp .leq 3 (.tmp 11) (.tmp 12) 3),oa 14 (.pick (.tmp 10) (.tmp 13) (.const (.bool false))),sg 6 14]:=.mk
def ann:Code:=.seq (rg 264 0) (.seq (rg 264 1) (.ret))
theorem avc:KF 264 [.tmp 6] 1 ann:=.mk
end
noncomputable section
@[simp] theorem azr(t:Nat):K.esc 265 t=false:=by kernel_rfl
theorem uQ:XF 265 0 5 [aq 2 309]:=.mk
theorem vg:XF 265 1 13 [oa 4 (.build 309 #[(0,.const (.int .i64 (2))),(1,.const (.int .i64 (2)))]),aq 3 309,so 309 3 4]:=.mk
theorem vG:XF 265 2 45 [mv 5 0]:=.mk
theorem uZ:XF 265 3 109 [bk 7 .eql 3 5 0,sg 6 7]:=.mk
theorem uO:XF 265 4 109 [bk 8 .eql 3 5 1,sg 6 8]:=.mk
theorem uU:XF 265 5 557 [bk 10 .eql 3 5 2,sg 9 10]:=.mk
theorem vJ:XF 265 6 557 [bk 11 .eql 3 5 7,sg 9 11]:=.mk
theorem vF:XF 265 7 557 [bk 12 .eql 3 5 10,sg 9 12]:=.mk
theorem uY:XF 265 8 557 [bk 13 .eql 3 5 11,sg 9 13]:=.mk
theorem uS:XF 265 9 16429 [bk 15 .eql 3 5 12,sg 14 15]:=.mk
theorem qA:XF 265 10 65581 [bk 17 .eql 3 5 8,sg 16 17]:=.mk
theorem qg:XF 265 11 262157 [bk 19 .eql 3 5 14,sg 18 19]:=.mk
theorem oV:XF 265 12 12 [oa 20 (.build 309 #[]),so 309 3 20]:=.mk
theorem pR:XF 265 13 12 [oa 21 (.build 309 #[(0,.const (.int .i64 (1))),(1,.const (.int .i64 (1)))]),so 309 3 21]:=.mk
theorem qp:XF 265 14 12 [oa 22 (.build 309 #[(0,.const (.int .i64 (4))),(1,.const (.int .i64 (4)))]),so 309 3 22]:=.mk
theorem oW:XF 265 15 13 [oa 23 (.indexAddr 309 (.tmp 3) (.const (.int .i64 (0)))),ld 24 3 23,bk 25 .sub 3 24 1,oa 26 (.indexAddr 309 (.tmp 3) (.const (.int .i64 (0)))),so 3 26 25]:=.mk
theorem qB:XF 265 16 13 [oa 27 (.indexAddr 309 (.tmp 3) (.const (.int .i64 (1)))),on (.store 3 (.tmp 27) (.const (.int .i64 (8))))]:=.mk
theorem qw:XF 265 17 536870924 [mv 28 0,bk 29 .eql 3 28 14]:=.mk
theorem qy:XF 265 18 12 [oa 30 (.indexAddr 309 (.tmp 3) (.const (.int .i64 (0)))),on (.store 3 (.tmp 30) (.const (.int .i64 (0))))]:=.mk
theorem qc:XF 265 19 4 [ld 31 309 3,so 309 2 31]:=.mk
def Jv:Code:=.seq (rg 265 0) (.seq (rg 265 1) (.seq (.seq (rg 265 2) (.block 0 (.seq (.block 5 (.seq (.block 4 (.seq (.block 3 (.seq (.block 2 (.seq (.block 1 (.seq (.seq (.seq (.seq (rg 265 3) (.cond (.tmp 6) (.skip) (rg 265 4))) (.cond (.tmp 6) (.exit 1) (.skip))) (.seq (.seq (.seq (rg 265 5) (.cond (.tmp 9) (.skip) (.seq (rg 265 6) (.cond (.tmp 9) (.skip) (.seq (rg 265 7) (.cond (.tmp 9) (.skip) (rg 265 8))))))) (.cond (.tmp 9) (.exit 2) (.skip))) (.seq (.seq (rg 265 9) (.cond (.tmp 14) (.exit 3) (.skip))) (.seq (.seq (rg 265 10) (.cond (.tmp 16) (.exit 4) (.skip))) (.seq (rg 265 11) (.cond (.tmp 18) (.exit 5) (.skip))))))) (.exit 0))) (.seq (rg 265 12) (.exit 0)))) (.seq (rg 265 13) (.exit 0)))) (.seq (rg 265 14) (.exit 0)))) (rg 265 15))) (.seq (.seq (rg 265 16) (.seq (rg 265 17) (.cond (.tmp 29) (rg 265 18) (.skip)))) (.exit 0))))) (.seq (rg 265 19) (.ret))))
theorem LZ:KF 265 [.cell 2 309] 1 Jv:=.mk
end
noncomputable section
@[simp] theorem awX(t:Nat):K.esc 269 t=false:=by kernel_rfl
theorem ve:XF 269 0 5 [aq 2 309]:=.mk
theorem uV:XF 269 1 12 [mv 3 0]:=.mk
theorem vP:XF 269 2 28 [bk 5 .eql 3 3 7,sg 4 5]:=.mk
theorem uI:XF 269 3 4 [oa 6 (.build 309 #[(0,.const (.int .i64 (-9))),(1,.const (.int .i64 (9)))]),so 309 2 6]:=.mk
theorem vM:XF 269 4 140 [bk 8 .eql 3 3 10,sg 7 8]:=.mk
theorem vH:XF 269 5 132 [bk 9 .eql 3 3 11,sg 7 9]:=.mk
theorem uM:XF 269 6 4 [oa 10 (.build 309 #[(0,.const (.int .i64 (1))),(1,.const (.int .i64 (99)))]),so 309 2 10]:=.mk
theorem uP:XF 269 7 4 [oa 11 (.build 309 #[]),so 309 2 11]:=.mk
def IB:Code:=.seq (rg 269 0) (.seq (.seq (rg 269 1) (.block 0 (.seq (rg 269 2) (.cond (.tmp 4) (.seq (rg 269 3) (.ret)) (.seq (.seq (rg 269 4) (.cond (.tmp 7) (.skip) (rg 269 5))) (.cond (.tmp 7) (.seq (rg 269 6) (.ret)) (.skip))))))) (.seq (rg 269 7) (.ret)))
theorem Lh:KF 269 [.cell 2 309] 1 IB:=.mk
end
noncomputable section
@[simp] theorem aw0(t:Nat):K.esc 171 t=[2].elem t:=by kernel_rfl
theorem U9:XF 171 0 6 [bx 1 45 0,aq 2 30]:=.mk
theorem XY:XF 171 1 6 [oa 3 (.makeFunc (.func 203) #[] #[.tmp 2]),on (.defer ⟨.value (.tmp 3),#[],#[]⟩)]:=.mk
theorem VP:XF 171 2 4 [ld 4 45 1,oa 5 (.call ⟨.value (.func 205),#[.tmp 4,.const (.int .i64 (0))],#[45,3]⟩)]:=.mk
theorem XI:XF 171 3 4 [on (.store 30 (.tmp 2) (.const (.int .i64 (0))))]:=.mk
def c171:Code:=.seq (rg 171 0) (.seq (rg 171 1) (.seq (rg 171 2) (.seq (rg 171 3) (.ret))))
theorem akF:KF 171 [.cell 2 30] 1 c171:=.mk
end
noncomputable section
theorem aeR:XF 203 0 0 [oa 1 (.call ⟨.builtin .recover,#[],#[]⟩),oa 2 (.call ⟨.value (.func 204),#[.tmp 1],#[20]⟩),so 30 0 2]:=.mk
def c203:Code:=rg 203 0
theorem ati:KF 203 [] 1 c203:=.mk
end
noncomputable section
@[simp] theorem atC(t:Nat):K.esc 204 t=[5].elem t:=by kernel_rfl
theorem ag8:XF 204 0 1 [oa 2 (.assign (.const (.int .i64 (0))))]:=.mk
theorem af0:XF 204 1 24 [mv 7 0,oa 8 (.typeAssert (.tmp 7) 20 271 true),mv 6 8,xt 9 6 0,xt 10 6 1,sg 3 9,sg 4 10]:=.mk
theorem ae0:XF 204 2 4104 [mv 11 4,oa 12 (.unOp .not 4 (.tmp 11))]:=.mk
theorem ah1:XF 204 3 4 [oa 2 (.assign (.const (.int .i64 (0))))]:=.mk
theorem aie:XF 204 4 40 [aq 5 274]:=.mk
theorem ayn:XF 204 5 65568 [mv 13 3,oa 14 (.makeInterface 276 (.tmp 5)),oa 15 (.call ⟨.value (.func 235),#[.tmp 13,.tmp 14],#[271,20]⟩),oa 16 (.unOp .not 4 (.tmp 15))]:=.mk
theorem aya:XF 204 6 4 [oa 2 (.assign (.const (.int .i64 (1))))]:=.mk
theorem aum:XF 204 7 4 [fa 17 274 5 0,ld 18 30 17,sg 2 18]:=.mk
def akS:Code:=.seq (rg 204 0) (.seq (rg 204 1) (.seq (.seq (rg 204 2) (.cond (.tmp 12) (.seq (rg 204 3) (.ret)) (.skip))) (.seq (rg 204 4) (.seq (.seq (rg 204 5) (.cond (.tmp 16) (.seq (rg 204 6) (.ret)) (.skip))) (.seq (rg 204 7) (.ret))))))
theorem avw:KF 204 [.tmp 2] 1 akS:=.mk
end
noncomputable section
@[simp] theorem azw(t:Nat):K.esc 131 t=false:=by kernel_rfl
theorem AY:XF 131 0 71 [aq 6 45]:=.mk
theorem Aq:XF 131 1 199 [mv 10 0,oa 11 (.call ⟨.value (.func 20),#[.tmp 10,.const (.int .i64 (5))],#[23,3]⟩),oa 12 (.call ⟨.value (.func 188),#[.tmp 11,.const (.int .i64 (1))],#[3,3]⟩),oa 13 (.call ⟨.value (.func 187),#[.tmp 12],#[42]⟩),aq 7 45,so 45 7 13]:=.mk
theorem CY:XF 131 2 455 [oa 8 (.assign (.const (.int .i64 (0))))]:=.mk
theorem kP:XF 131 3 65991 [mv 14 8,mv 15 1,bo 16 .lss 3 14 15]:=.mk
theorem lG:XF 131 5 967 [mv 19 8,oa 20 (.call ⟨.value (.func 189),#[.tmp 19],#[3]⟩),oa 21 (.binOp .add 9 (.const (.string ⟨#[114]⟩)) (.tmp 20) 9),oa 22 (.call ⟨.value (.func 114),#[.tmp 21],#[9]⟩),aq 9 45,so 45 9 22]:=.mk
theorem lK:XF 131 6 16778183 [mv 23 0,oa 24 (.call ⟨.value (.func 20),#[.tmp 23,.const (.int .i64 (4))],#[23,3]⟩)]:=.mk
theorem lH:XF 131 8 285213639 [bk 29 .eql 3 24 0,sg 28 29]:=.mk
theorem lI:XF 131 9 455 [ld 30 45 7,ld 31 45 9,oa 32 (.call ⟨.value (.func 113),#[.const (.int .i64 (4)),.tmp 30,.tmp 31],#[3,45,45]⟩),so 45 7 32]:=.mk
theorem ji:XF 131 10 8606712775 [bk 34 .eql 3 24 1,sg 33 34]:=.mk
theorem jl:XP 131 11 455 [(1,6),(3,6),(4,6),(5,6),(1,8),(3,8),(4,8),(5,8),(6,8),(7,8)] [mv 35 0,oa 36 (.call ⟨.value (.func 21),#[.tmp 35,.const (.int .i64 (1)),.const (.int .i64 (2))],#[23,3,3]⟩),mv 37 0,oa 38 (.call ⟨.value (.func 21),#[.tmp 37,.const (.int .i64 (1)),.const (.int .i64 (3))],#[23,3,3]⟩),oa 39 (.call ⟨.value (.func 188),#[.tmp 36,.tmp 38],#[3,3]⟩),oa 40 (.call ⟨.value (.func 187),#[.tmp 39],#[42]⟩),ld 41 45 9,oa 42 (.call ⟨.value (.func 113),#[.const (.int .i64 (5)),.tmp 40,.tmp 41],#[3,45,45]⟩),ld 43 45 7,oa 44 (.call ⟨.value (.func 113),#[.const (.int .i64 (3)),.tmp 42,.tmp 43],#[3,45,45]⟩),so 45 7 44]:=.mk
theorem jh:XF 131 12 35184372089799 [bk 46 .eql 3 24 2,sg 45 46]:=.mk
theorem jg:XF 131 13 455 [ld 47 45 7,ld 48 45 9,oa 49 (.buildSlice 43 1 #[(0,.tmp 48)]),oa 50 (.build 45 #[(0,.const (.int .i64 (2))),(4,.tmp 49)]),oa 51 (.call ⟨.value (.func 113),#[.const (.int .i64 (3)),.tmp 47,.tmp 50],#[3,45,45]⟩),so 45 7 51]:=.mk
@[simp] theorem ajC:K.imm 131 49=false:=by kernel_rfl
theorem lM:XF 131 7 455 [ld 25 45 9,ld 26 45 7,oa 27 (.call ⟨.value (.func 113),#[.const (.int .i64 (3)),.tmp 25,.tmp 26],#[3,45,45]⟩),so 45 7 27]:=.mk
theorem lF:XF 131 4 455 [mv 17 8,bk 18 .add 3 17 1,sg 8 18]:=.mk
theorem Ag:XF 131 14 144115188075856071 [mv 52 2,bk 53 .gtr 3 52 0,mv 54 53,og 55 2 true (.move (.tmp 0)),og 56 2 true (.call ⟨.value (.func 129),#[.tmp 55,.const (.int .i64 (2))],#[23,3]⟩),oa 57 (.pick (.tmp 54) (.tmp 56) (.const (.bool false)))]:=.mk
theorem zK:XP 131 15 195 [(1,3),(2,3),(3,7),(3,8),(3,10)] [mv 58 0,oa 59 (.buildSlice 22 3 #[(0,.const (.int .i64 (3))),(1,.const (.int .i64 (5))),(2,.const (.int .i64 (4)))]),oa 60 (.call ⟨.value (.func 58),#[.tmp 58,.tmp 59],#[23,22]⟩),ld 61 45 7,mv 62 0,mv 63 2,bk 64 .sub 3 63 1,oa 65 (.call ⟨.value (.func 20),#[.tmp 62,.tmp 64],#[23,3]⟩),oa 66 (.call ⟨.value (.func 189),#[.tmp 65],#[3]⟩),oa 67 (.binOp .add 9 (.const (.string ⟨#[105]⟩)) (.tmp 66) 9),oa 68 (.call ⟨.value (.func 114),#[.tmp 67],#[9]⟩),oa 69 (.call ⟨.value (.func 113),#[.tmp 60,.tmp 61,.tmp 68],#[3,45,45]⟩),so 45 7 69]:=.mk
@[simp] theorem ai8:K.imm 131 59=false:=by kernel_rfl
theorem wZ:XF 131 16 37778931862957161709760 [mv 70 0,oa 71 (.call ⟨.value (.func 129),#[.tmp 70,.const (.int .i64 (9))],#[23,3]⟩),mv 72 71,og 73 2 true (.move (.tmp 1)),og 74 2 true (.binOp .gtr 3 (.tmp 73) (.const (.int .i64 (0))) 3),oa 75 (.pick (.tmp 72) (.tmp 74) (.const (.bool false)))]:=.mk
theorem xg:XP 131 17 192 [(0,1)] [ld 76 45 7,oa 77 (.call ⟨.value (.func 114),#[.const (.string ⟨#[114,48]⟩)],#[9]⟩),oa 78 (.call ⟨.value (.func 113),#[.const (.int .i64 (6)),.tmp 76,.tmp 77],#[3,45,45]⟩),so 45 7 78]:=.mk
theorem xh:XF 131 18 64 [ld 79 45 7,so 45 6 79]:=.mk
def iM:Code:=.seq (.seq (rg 131 3) (.cond (.tmp 16) (.skip) (.exit 0))) (.seq (.block 1 (.seq (rg 131 5) (.seq (rg 131 6) (.block 2 (.seq (rg 131 8) (.cond (.tmp 28) (rg 131 9) (.seq (rg 131 10) (.cond (.tmp 33) (rd 131 11) (.seq (rg 131 12) (.cond (.tmp 45) (rg 131 13) (rg 131 7))))))))))) (rg 131 4))
theorem kG(s:St):aj K 131 iM s=aj K 131 (.seq (.seq (rg 131 3) (.cond (.tmp 16) (.skip) (.exit 0))) (.seq (.block 1 (.seq (rg 131 5) (.seq (rg 131 6) (.block 2 (.seq (rg 131 8) (.cond (.tmp 28) (rg 131 9) (.seq (rg 131 10) (.cond (.tmp 33) (rd 131 11) (.seq (rg 131 12) (.cond (.tmp 45) (rg 131 13) (rg 131 7))))))))))) (rg 131 4))) s:=rfl
def c131:Code:=.seq (rg 131 0) (.seq (rg 131 1) (.seq (.seq (rg 131 2) (.block 0 (.loop iM))) (.seq (.seq (rg 131 14) (.cond (.tmp 57) (rd 131 15) (.skip))) (.seq (.seq (rg 131 16) (.cond (.tmp 75) (rd 131 17) (.skip))) (.seq (rg 131 18) (.ret))))))
theorem aw6:KF 131 [.cell 6 45] 0 c131:=.mk
end
noncomputable section
@[simp] theorem awV(t:Nat):K.esc 113 t=false:=by kernel_rfl
theorem agj:XF 113 0 113 [bx 4 45 1,bx 5 45 2,aq 6 45]:=.mk
theorem aeP:XF 113 1 64 [mv 7 0,ld 8 45 4,ld 9 45 5,oa 10 (.buildSlice 43 2 #[(0,.tmp 8),(1,.tmp 9)]),oa 11 (.build 45 #[(0,.tmp 7),(4,.tmp 10)]),so 45 6 11]:=.mk
@[simp] theorem ajr:K.imm 113 10=false:=by kernel_rfl
def alz:Code:=.seq (rg 113 0) (.seq (rg 113 1) (.ret))
theorem axH:KF 113 [.cell 6 45] 1 alz:=.mk
end
noncomputable section
@[simp] theorem asr(t:Nat):K.esc 114 t=false:=by kernel_rfl
theorem afV:XF 114 0 5 [aq 2 45]:=.mk
theorem afe:XF 114 1 4 [mv 3 0,oa 4 (.build 45 #[(0,.const (.int .i64 (1))),(2,.tmp 3)]),so 45 2 4]:=.mk
def akj:Code:=.seq (rg 114 0) (.seq (rg 114 1) (.ret))
theorem avW:KF 114 [.cell 2 45] 1 akj:=.mk
end
noncomputable section
@[simp] theorem awe(t:Nat):K.esc 187 t=false:=by kernel_rfl
theorem afY:XF 187 0 6 [bx 1 42 0,aq 2 45]:=.mk
theorem aiA:XF 187 1 4 [ld 3 42 1,oa 4 (.build 45 #[(0,.const (.int .i64 (0))),(1,.tmp 3)]),so 45 2 4]:=.mk
def alH:Code:=.seq (rg 187 0) (.seq (rg 187 1) (.ret))
theorem axu:KF 187 [.cell 2 45] 1 alH:=.mk
end
noncomputable section
@[simp] theorem au0(t:Nat):K.esc 146 t=false:=by kernel_rfl
theorem V4:XF 146 0 1 [oa 2 (.assign (.const (.slice none 0 0)))]:=.mk
theorem ZA:XF 146 1 4 [oa 3 (.buildSlice 22 0 #[]),mv 4 0,oa 5 (.call ⟨.builtin .append,#[.tmp 3,.tmp 4],#[22,22]⟩),sg 2 5]:=.mk
@[simp] theorem amI:K.imm 146 3=false:=by kernel_rfl
@[simp] theorem akh:K.imm 146 5=true:=by kernel_rfl
def c146:Code:=.seq (rg 146 0) (.seq (rg 146 1) (.ret))
theorem azd:KF 146 [.tmp 2] 1 c146:=.mk
end
noncomputable section
@[simp] theorem au5(t:Nat):K.esc 130 t=false:=by kernel_rfl
theorem KR:XF 130 0 6 [bx 1 39 0,aq 2 39]:=.mk
theorem PY:XF 130 1 14 [fa 5 39 1 0,ld 6 3 5,oa 7 (.build 39 #[(0,.tmp 6)]),aq 3 39,so 39 3 7]:=.mk
theorem KZ:XF 130 2 30 [oa 4 (.assign (.const (.int .i64 (0))))]:=.mk
theorem OO:XF 130 3 4126 [mv 8 4,fa 9 39 1 1,ld 10 37 9,oa 11 (.call ⟨.builtin .len,#[.tmp 10],#[37]⟩),bo 12 .lss 3 8 11]:=.mk
theorem LX:XP 130 5 30 [(1,3),(1,7),(1,9),(3,9),(7,9),(1,13),(3,13),(7,13),(1,14),(3,14),(7,14),(1,16)] [fa 15 39 3 1,ld 16 37 15,fa 17 39 1 1,ld 18 37 17,mv 19 4,ia 20 37 18 19,fa 21 142 20 0,ld 22 3 21,fa 23 39 1 1,ld 24 37 23,mv 25 4,ia 26 37 24 25,fa 27 142 26 1,ld 28 22 27,oa 29 (.call ⟨.value (.func 146),#[.tmp 28],#[22]⟩),oa 30 (.build 142 #[(0,.tmp 22),(1,.tmp 29)]),oa 31 (.buildSlice 37 1 #[(0,.tmp 30)]),oa 32 (.call ⟨.builtin .append,#[.tmp 16,.tmp 31],#[37,37]⟩),fa 33 39 3 1,so 37 33 32]:=.mk
@[simp] theorem ajq:K.imm 130 31=false:=by kernel_rfl
@[simp] theorem ajj:K.imm 130 32=false:=by kernel_rfl
theorem O7:XF 130 4 30 [mv 13 4,bk 14 .add 3 13 1,sg 4 14]:=.mk
theorem KY:XF 130 6 4 [ld 34 39 3,so 39 2 34]:=.mk
def YR:Code:=.seq (.seq (rg 130 3) (.cond (.tmp 12) (.skip) (.exit 0))) (.seq (.block 1 (rd 130 5)) (rg 130 4))
theorem P5(s:St):aj K 130 YR s=aj K 130 (.seq (.seq (rg 130 3) (.cond (.tmp 12) (.skip) (.exit 0))) (.seq (.block 1 (rd 130 5)) (rg 130 4))) s:=rfl
def c130:Code:=.seq (rg 130 0) (.seq (rg 130 1) (.seq (.seq (rg 130 2) (.block 0 (.loop YR))) (.seq (rg 130 6) (.ret))))
theorem atl:KF 130 [.cell 2 39] 1 c130:=.mk
end
noncomputable section
@[simp] theorem azV(t:Nat):K.esc 63 t=false:=by kernel_rfl
theorem ku:XF 63 0 19 [aq 4 47]:=.mk
theorem jV:XF 63 1 51 [oa 9 (.build 47 #[]),aq 5 47,so 47 5 9]:=.mk
theorem kF:XF 63 2 115 [mv 10 0,oa 11 (.buildSlice 22 5 #[(0,.const (.int .i64 (0))),(1,.const (.int .i64 (1))),(2,.const (.int .i64 (1))),(3,.const (.int .i64 (2))),(4,.const (.int .i64 (2)))]),oa 12 (.call ⟨.value (.func 58),#[.tmp 10,.tmp 11],#[23,22]⟩),sg 6 12]:=.mk
@[simp] theorem aow:K.imm 63 11=false:=by kernel_rfl
theorem kD:XF 63 3 16499 [mv 13 6,bk 14 .gtr 3 13 0]:=.mk
theorem kC:XP 63 5 115 [(1,3),(1,4)] [fa 17 47 5 0,ld 18 22 17,mv 19 0,oa 20 (.call ⟨.value (.func 21),#[.tmp 19,.const (.int .i64 (1)),.const (.int .i64 (4))],#[23,3,3]⟩),oa 21 (.buildSlice 22 1 #[(0,.tmp 20)]),oa 22 (.call ⟨.builtin .append,#[.tmp 18,.tmp 21],#[22,22]⟩),fa 23 47 5 0,so 22 23 22]:=.mk
@[simp] theorem aot:K.imm 63 21=false:=by kernel_rfl
@[simp] theorem anW:K.imm 63 22=false:=by kernel_rfl
theorem jU:XF 63 4 115 [mv 15 6,bk 16 .sub 3 15 1,sg 6 16]:=.mk
theorem jW:XF 63 6 179 [mv 24 1,oa 25 (.call ⟨.builtin .len,#[.tmp 24],#[25]⟩),bk 26 .sub 3 25 1,sg 7 26]:=.mk
theorem jZ:XP 63 7 179 [(3,6)] [mv 27 0,mv 28 1,fa 29 47 5 0,ld 30 22 29,mv 31 0,mv 32 7,oa 33 (.call ⟨.value (.func 20),#[.tmp 31,.tmp 32],#[23,3]⟩),oa 34 (.call ⟨.value (.func 128),#[.tmp 27,.tmp 28,.tmp 30,.tmp 33],#[23,25,22,3]⟩),fa 35 47 5 1,so 39 35 34]:=.mk
theorem jX:XF 63 8 435 [mv 36 0,oa 37 (.call ⟨.value (.func 20),#[.tmp 36,.const (.int .i64 (2))],#[23,3]⟩),sg 8 37]:=.mk
theorem jY:XF 63 9 549755814323 [mv 38 8,bk 39 .gtr 3 38 0]:=.mk
theorem iG:XP 63 11 435 [(1,5),(1,8),(5,8),(1,9),(1,10)] [fa 42 47 5 2,ld 43 40 42,mv 44 0,mv 45 1,fa 46 47 5 0,ld 47 22 46,mv 48 0,mv 49 7,oa 50 (.call ⟨.value (.func 20),#[.tmp 48,.tmp 49],#[23,3]⟩),oa 51 (.call ⟨.value (.func 128),#[.tmp 44,.tmp 45,.tmp 47,.tmp 50],#[23,25,22,3]⟩),oa 52 (.buildSlice 40 1 #[(0,.tmp 51)]),oa 53 (.call ⟨.builtin .append,#[.tmp 43,.tmp 52],#[40,40]⟩),fa 54 47 5 2,so 40 54 53]:=.mk
@[simp] theorem aoU:K.imm 63 52=false:=by kernel_rfl
@[simp] theorem aj0:K.imm 63 53=false:=by kernel_rfl
theorem iJ:XF 63 10 435 [mv 40 8,bk 41 .sub 3 40 1,sg 8 41]:=.mk
theorem iD:XF 63 12 72057594037927985 [mv 55 0,oa 56 (.call ⟨.value (.func 129),#[.tmp 55,.const (.int .i64 (3))],#[23,3]⟩)]:=.mk
theorem iH:XP 63 13 49 [(1,3),(1,4),(1,5)] [fa 57 47 5 2,ld 58 40 57,fa 59 47 5 1,ld 60 39 59,oa 61 (.call ⟨.value (.func 130),#[.tmp 60],#[39]⟩),oa 62 (.buildSlice 40 1 #[(0,.tmp 61)]),oa 63 (.call ⟨.builtin .append,#[.tmp 58,.tmp 62],#[40,40]⟩),fa 64 47 5 2,so 40 64 63]:=.mk
@[simp] theorem alf:K.imm 63 62=false:=by kernel_rfl
@[simp] theorem apB:K.imm 63 63=false:=by kernel_rfl
theorem iE:XF 63 14 48 [mv 65 0,fa 66 47 5 2,ld 67 40 66,oa 68 (.call ⟨.builtin .len,#[.tmp 67],#[40]⟩),fa 69 47 5 0,ld 70 22 69,oa 71 (.call ⟨.builtin .len,#[.tmp 70],#[22]⟩),oa 72 (.call ⟨.value (.func 131),#[.tmp 65,.tmp 68,.tmp 71],#[23,3,3]⟩),fa 73 47 5 3,so 45 73 72]:=.mk
theorem iI:XF 63 15 16 [ld 74 47 5,so 47 4 74]:=.mk
def aeh:Code:=.seq (.seq (rg 63 3) (.cond (.tmp 14) (.skip) (.exit 0))) (.seq (.block 1 (rd 63 5)) (rg 63 4))
theorem kz(s:St):aj K 63 aeh s=aj K 63 (.seq (.seq (rg 63 3) (.cond (.tmp 14) (.skip) (.exit 0))) (.seq (.block 1 (rd 63 5)) (rg 63 4))) s:=rfl
def ada:Code:=.seq (.seq (rg 63 9) (.cond (.tmp 39) (.skip) (.exit 2))) (.seq (.block 3 (rd 63 11)) (rg 63 10))
theorem kE(s:St):aj K 63 ada s=aj K 63 (.seq (.seq (rg 63 9) (.cond (.tmp 39) (.skip) (.exit 2))) (.seq (.block 3 (rd 63 11)) (rg 63 10))) s:=rfl
def Fz:Code:=.seq (rg 63 0) (.seq (rg 63 1) (.seq (.seq (rg 63 2) (.block 0 (.loop aeh))) (.seq (rg 63 6) (.seq (rd 63 7) (.seq (.seq (rg 63 8) (.block 2 (.loop ada))) (.seq (.seq (rg 63 12) (.cond (.tmp 56) (rd 63 13) (.skip))) (.seq (rg 63 14) (.seq (rg 63 15) (.ret)))))))))
theorem Hq:KF 63 [.cell 4 47] 1 Fz:=.mk
end
noncomputable section
theorem akC:XF 62 0 0 [oa 0 (.assign (.const (.slice none 0 0)))]:=.mk
theorem amF:XF 62 1 1 [oa 1 (.buildSlice 22 1 #[(0,.const (.int .i64 (5)))]),oa 2 (.build 168 #[(0,.const (.string ⟨#[97]⟩)),(1,.tmp 1)]),oa 3 (.buildSlice 22 2 #[(0,.const (.int .i64 (4))),(1,.const (.int .i64 (4)))]),oa 4 (.build 168 #[(0,.const (.string ⟨#[98]⟩)),(1,.tmp 3)]),oa 5 (.build 168 #[(0,.const (.string ⟨#[99]⟩))]),oa 6 (.buildSlice 25 3 #[(0,.tmp 2),(1,.tmp 4),(2,.tmp 5)]),sg 0 6]:=.mk
@[simp] theorem asc:K.imm 62 1=false:=by kernel_rfl
@[simp] theorem aqd:K.imm 62 3=false:=by kernel_rfl
@[simp] theorem aqJ:K.imm 62 6=false:=by kernel_rfl
def c62:Code:=.seq (rg 62 0) (.seq (rg 62 1) (.ret))
theorem k62:KF 62 [.tmp 0] 1 c62:=.mk
end
noncomputable section
@[simp] theorem aBw(t:Nat):K.esc 13 t=false:=by kernel_rfl
theorem Zz:XF 13 0 19 [aq 4 28]:=.mk
theorem Yq:XF 13 1 51 [oa 7 (.call ⟨.value (.func 62),#[],#[]⟩),oa 8 (.build 28 #[(0,.tmp 7)]),aq 5 28,so 28 5 8]:=.mk
theorem YS:XF 13 2 113 [mv 9 0,mv 10 1,oa 11 (.call ⟨.value (.func 21),#[.tmp 9,.const (.int .i64 (1)),.tmp 10],#[23,3,3]⟩),sg 6 11]:=.mk
theorem WW:XF 13 3 8305 [mv 12 6,bk 13 .gtr 3 12 0]:=.mk
theorem Xy:XP 13 5 113 [(1,4),(1,5),(1,6)] [fa 16 28 5 1,ld 17 26 16,mv 18 0,fa 19 28 5 0,ld 20 25 19,oa 21 (.call ⟨.value (.func 63),#[.tmp 18,.tmp 20],#[23,25]⟩),oa 22 (.buildSlice 26 1 #[(0,.tmp 21)]),oa 23 (.call ⟨.builtin .append,#[.tmp 17,.tmp 22],#[26,26]⟩),fa 24 28 5 1,so 26 24 23]:=.mk
@[simp] theorem amG:K.imm 13 22=false:=by kernel_rfl
@[simp] theorem apm:K.imm 13 23=false:=by kernel_rfl
theorem XR:XF 13 4 113 [mv 14 6,bk 15 .sub 3 14 1,sg 6 15]:=.mk
theorem XA:XF 13 6 16 [ld 25 28 5,so 28 4 25]:=.mk
def ad6:Code:=.seq (.seq (rg 13 3) (.cond (.tmp 13) (.skip) (.exit 0))) (.seq (.block 1 (rd 13 5)) (rg 13 4))
theorem XZ(s:St):aj K 13 ad6 s=aj K 13 (.seq (.seq (rg 13 3) (.cond (.tmp 13) (.skip) (.exit 0))) (.seq (.block 1 (rd 13 5)) (rg 13 4))) s:=rfl
def c13:Code:=.seq (rg 13 0) (.seq (rg 13 1) (.seq (.seq (rg 13 2) (.block 0 (.loop ad6))) (.seq (rg 13 6) (.ret))))
theorem k13:KF 13 [.cell 4 28] 1 c13:=.mk
end
noncomputable section
@[simp] theorem aAC(t:Nat):K.esc 12 t=[5].elem t:=by kernel_rfl
theorem apc:XF 12 0 1 [oa 2 (.assign (.const (.pointer none)))]:=.mk
theorem al6:XF 12 1 4 [mv 3 0,oa 4 (.build 96 #[(0,.tmp 3),(2,.const (.int .u64 (7640891576956012809)))]),bx 5 96 4,sg 2 5]:=.mk
def c12:Code:=.seq (rg 12 0) (.seq (rg 12 1) (.ret))
theorem k12:KF 12 [.tmp 2] 0 c12:=.mk
end
noncomputable section
@[simp] theorem ayV(t:Nat):K.esc 170 t=false:=by kernel_rfl
theorem afE:XF 170 0 20 [bx 4 168 1,oa 5 (.assign (.const (.int .i64 (0))))]:=.mk
theorem ait:XF 170 1 4116 [fa 8 168 4 0,ld 9 9 8,oa 10 (.build 45 #[(0,.const (.int .i64 (1))),(2,.tmp 9)]),oa 11 (.call ⟨.value (.func 171),#[.tmp 10],#[45]⟩),bk 12 .neq 30 11 0]:=.mk
theorem afg:XF 170 2 32 [oa 5 (.assign (.const (.int .i64 (4))))]:=.mk
theorem afd:XF 170 3 148 [ld 14 216 2,fa 15 168 4 0,ld 16 9 15,oa 17 (.lookup 216 (.tmp 14) (.tmp 16) true),mv 13 17,xt 18 13 0,xt 19 13 1,sg 6 18,sg 7 19]:=.mk
theorem aeB:XF 170 4 1048596 [mv 20 7]:=.mk
theorem agh:XF 170 5 32 [oa 5 (.assign (.const (.int .i64 (5))))]:=.mk
theorem agy:XF 170 6 16 [ld 21 216 2,fa 22 168 4 0,ld 23 9 22,on (.mapUpdate 216 (.tmp 21) (.tmp 23) (.const (.bool true)))]:=.mk
theorem ag1:XF 170 7 32 [fa 24 168 4 1,ld 25 22 24,oa 26 (.call ⟨.value (.func 172),#[.tmp 25],#[22]⟩),sg 5 26]:=.mk
def alP:Code:=.seq (rg 170 0) (.seq (.seq (rg 170 1) (.cond (.tmp 12) (.seq (rg 170 2) (.ret)) (.skip))) (.seq (.seq (rg 170 3) (.seq (rg 170 4) (.cond (.tmp 20) (.seq (rg 170 5) (.ret)) (.skip)))) (.seq (rg 170 6) (.seq (rg 170 7) (.ret)))))
theorem ayc:KF 170 [.tmp 5] 1 alP:=.mk
end
noncomputable section
@[simp] theorem atm(t:Nat):K.esc 169 t=false:=by kernel_rfl
theorem afP:XF 169 0 3 [oa 4 (.assign (.const (.int .i64 (0))))]:=.mk
theorem agU:XF 169 1 1794 [mv 8 0,oa 9 (.call ⟨.builtin .len,#[.tmp 8],#[25]⟩),oa 10 (.move (.const (.int .i64 (0))))]:=.mk
theorem agq:XF 169 2 3842 [bo 11 .lss 3 10 9]:=.mk
theorem aev:XF 169 3 1890 [mv 12 10,ia 13 25 8 10,ld 14 168 13,aq 6 168,sg 5 12,so 168 6 14]:=.mk
theorem agP:XF 169 4 1922 [mv 15 1,mv 16 5,ld 17 168 6,oa 18 (.call ⟨.value (.tmp 15),#[.tmp 16,.tmp 17],#[3,168]⟩),sg 7 18]:=.mk
theorem aiD:XF 169 5 1050498 [mv 19 7,bk 20 .neq 30 19 0]:=.mk
theorem ahK:XF 169 6 16 [mv 21 7,sg 4 21]:=.mk
theorem aiL:XF 169 7 1794 [bk 22 .add 3 10 1,mv 10 22]:=.mk
theorem aeV:XF 169 8 16 [oa 4 (.assign (.const (.int .i64 (0))))]:=.mk
def Y6:Code:=.seq (rg 169 2) (.seq (.cond (.tmp 11) (.skip) (.exit 0)) (.seq (.block 1 (.seq (rg 169 3) (.seq (rg 169 4) (.seq (rg 169 5) (.cond (.tmp 20) (.seq (rg 169 6) (.ret)) (.skip)))))) (rg 169 7)))
theorem ahy(s:St):aj K 169 Y6 s=aj K 169 (.seq (rg 169 2) (.seq (.cond (.tmp 11) (.skip) (.exit 0)) (.seq (.block 1 (.seq (rg 169 3) (.seq (rg 169 4) (.seq (rg 169 5) (.cond (.tmp 20) (.seq (rg 169 6) (.ret)) (.skip)))))) (rg 169 7)))) s:=rfl
def anK:Code:=.seq (rg 169 0) (.seq (.seq (rg 169 1) (.block 0 (.loop Y6))) (.seq (rg 169 8) (.ret)))
theorem auh:KF 169 [.tmp 4] 1 anK:=.mk
end
noncomputable section
@[simp] theorem atz(t:Nat):K.esc 176 t=false:=by kernel_rfl
theorem NC:XF 176 0 1 [oa 2 (.assign (.const (.int .i64 (0))))]:=.mk
theorem Qg:XF 176 1 9 [oa 3 (.assign (.const (.int .i64 (0))))]:=.mk
theorem KJ:XF 176 2 7176 [mv 6 0,oa 7 (.nilCheck (.tmp 6)),fa 8 164 7 0,fa 9 28 8 1,ld 10 26 9,oa 11 (.call ⟨.builtin .len,#[.tmp 10],#[26]⟩),oa 12 (.move (.const (.int .i64 (0))))]:=.mk
theorem NP:XF 176 3 15368 [bo 13 .lss 3 12 11]:=.mk
theorem MG:XF 176 4 7208 [ia 14 26 10 12,ld 15 47 14,aq 5 47,so 47 5 15]:=.mk
theorem Kt:XF 176 5 7176 [mv 16 3,fa 17 47 5 0,ld 18 22 17,oa 19 (.call ⟨.value (.func 110),#[.tmp 18],#[22]⟩),bo 20 .add 3 16 19,sg 3 20]:=.mk
theorem OV:XF 176 6 7176 [bk 21 .add 3 12 1,mv 12 21]:=.mk
theorem Pg:XF 176 7 4 [mv 22 3,sg 2 22]:=.mk
def W9:Code:=.seq (rg 176 3) (.seq (.cond (.tmp 13) (.skip) (.exit 0)) (.seq (.block 1 (.seq (rg 176 4) (rg 176 5))) (rg 176 6)))
theorem QG(s:St):aj K 176 W9 s=aj K 176 (.seq (rg 176 3) (.seq (.cond (.tmp 13) (.skip) (.exit 0)) (.seq (.block 1 (.seq (rg 176 4) (rg 176 5))) (rg 176 6)))) s:=rfl
def acO:Code:=.seq (rg 176 0) (.seq (rg 176 1) (.seq (.seq (rg 176 2) (.block 0 (.loop W9))) (.seq (rg 176 7) (.ret))))
theorem afA:KF 176 [.tmp 2] 1 acO:=.mk
end
noncomputable section
@[simp] theorem awk(t:Nat):K.esc 120 t=[1,3,16,33].elem t:=by kernel_rfl
theorem af2:XF 120 0 2 [bx 1 28 0,oa 2 (.assign (.const (.int .i64 (0))))]:=.mk
theorem af4:XF 120 1 32770 [fa 6 28 1 0,ld 7 25 6,oa 8 (.call ⟨.builtin .len,#[.tmp 7],#[25]⟩),bk 9 .gtr 3 8 12,mv 10 9,og 11 4 false (.fieldAddr 28 (.tmp 1) 1),og 12 4 false (.load 26 (.tmp 11)),og 13 4 false (.call ⟨.builtin .len,#[.tmp 12],#[26]⟩),og 14 4 false (.binOp .gtr 3 (.tmp 13) (.const (.int .i64 (12))) 3),oa 15 (.pick (.tmp 10) (.const (.bool true)) (.tmp 14))]:=.mk
theorem aeF:XF 120 2 4 [oa 2 (.assign (.const (.int .i64 (7))))]:=.mk
theorem afq:XF 120 3 10 [oa 16 (.makeMap 216 none),aq 3 216,so 216 3 16]:=.mk
theorem agC:XF 120 4 18 [fa 17 28 1 0,ld 18 25 17,oa 19 (.makeFunc (.func 170) #[] #[.tmp 3]),oa 20 (.call ⟨.value (.func 169),#[.tmp 18,.tmp 19],#[25,220]⟩),sg 4 20]:=.mk
theorem aif:XF 120 5 4194322 [mv 21 4,bk 22 .neq 30 21 0]:=.mk
theorem ahI:XF 120 6 4 [mv 23 4,sg 2 23]:=.mk
theorem afo:XF 120 7 34 [fa 24 28 1 1,ld 25 26 24,oa 26 (.makeFunc (.func 174) #[] #[.tmp 1]),oa 27 (.call ⟨.value (.func 173),#[.tmp 25,.tmp 26],#[26,223]⟩),sg 5 27]:=.mk
theorem ahk:XF 120 8 536870946 [mv 28 5,bk 29 .neq 30 28 0]:=.mk
theorem afh:XF 120 9 4 [mv 30 5,sg 2 30]:=.mk
theorem acH:XF 120 10 34359738368 [ld 31 28 1,oa 32 (.build 164 #[(0,.tmp 31)]),bx 33 164 32,oa 34 (.call ⟨.value (.func 176),#[.tmp 33],#[158]⟩),bk 35 .gtr 3 34 2000]:=.mk
theorem acs:XF 120 11 4 [oa 2 (.assign (.const (.int .i64 (13))))]:=.mk
theorem ZQ:XF 120 12 4 [oa 2 (.assign (.const (.int .i64 (0))))]:=.mk
def ajM:Code:=.seq (rg 120 0) (.seq (.seq (rg 120 1) (.cond (.tmp 15) (.seq (rg 120 2) (.ret)) (.skip))) (.seq (rg 120 3) (.seq (rg 120 4) (.seq (.seq (rg 120 5) (.cond (.tmp 22) (.seq (rg 120 6) (.ret)) (.skip))) (.seq (.seq (rg 120 7) (.seq (rg 120 8) (.cond (.tmp 29) (.seq (rg 120 9) (.ret)) (.skip)))) (.seq (.seq (rg 120 10) (.cond (.tmp 35) (.seq (rg 120 11) (.ret)) (.skip))) (.seq (rg 120 12) (.ret))))))))
theorem azy:KF 120 [.tmp 2] 1 ajM:=.mk
end
noncomputable section
@[simp] theorem aAP(t:Nat):K.esc 64 t=[19,70].elem t:=by kernel_rfl
theorem aov:XF 64 0 14 [bx 1 28 0,oa 2 (.assign (.const (.pointer none))),oa 3 (.assign (.const (.int .i64 (0))))]:=.mk
theorem amb:XF 64 1 30 [ld 12 28 1,oa 13 (.call ⟨.value (.func 120),#[.tmp 12],#[28]⟩),sg 4 13]:=.mk
theorem ama:XF 64 2 32798 [mv 14 4,bk 15 .neq 30 14 0]:=.mk
theorem anu:XF 64 3 12 [mv 16 4,oa 2 (.assign (.const (.pointer none))),sg 3 16]:=.mk
theorem alA:XF 64 4 46 [ld 17 28 1,oa 18 (.build 105 #[(0,.tmp 17)]),bx 19 105 18,aq 5 99,so 99 5 19]:=.mk
theorem an9:XF 64 5 14680108 [fa 20 28 1 1,ld 21 26 20,oa 22 (.call ⟨.builtin .len,#[.tmp 21],#[26]⟩),oa 23 (.move (.const (.int .i64 (0))))]:=.mk
theorem YB:XF 64 6 31457324 [bo 24 .lss 3 23 22]:=.mk
theorem ad5:XF 64 7 14680300 [mv 25 23,ia 26 26 21 23,ld 27 47 26,aq 6 3,aq 7 47,so 3 6 25,so 47 7 27]:=.mk
theorem aem:XF 64 8 1088422124 [fa 28 47 7 0,ld 29 22 28,oa 30 (.call ⟨.value (.func 132),#[.tmp 29],#[22]⟩)]:=.mk
theorem yK:XF 64 9 480 [sg 8 31]:=.mk
theorem ru:XP 64 10 928 [(0,1),(0,4),(0,5),(0,7),(1,7),(4,7),(5,7),(0,9),(1,9),(4,9),(5,9),(7,9),(0,11),(1,11),(4,11),(5,11),(0,12),(1,12),(4,12),(5,12),(0,14),(1,14),(4,14),(5,14),(7,14),(9,14),(11,14),(12,14)] [ld 32 3 6,ld 33 99 5,oa 34 (.nilCheck (.tmp 33)),fa 35 105 34 1,ld 36 103 35,oa 37 (.call ⟨.builtin .len,#[.tmp 36],#[103]⟩),mv 38 8,ld 39 99 5,fa 40 47 7 1,ld 41 39 40,mv 42 8,oa 43 (.call ⟨.value (.func 133),#[.tmp 39,.tmp 41,.tmp 42],#[99,39,22]⟩),oa 44 (.buildSlice 106 1 #[(0,.tmp 43)]),oa 45 (.build 108 #[(0,.tmp 32),(1,.tmp 37),(2,.tmp 38),(3,.tmp 44)]),aq 9 108,so 108 9 45]:=.mk
@[simp] theorem apl:K.imm 64 44=false:=by kernel_rfl
theorem rJ:XF 64 11 985162418488096 [fa 46 47 7 2,ld 47 40 46,oa 48 (.call ⟨.builtin .len,#[.tmp 47],#[40]⟩),oa 49 (.move (.const (.int .i64 (0))))]:=.mk
theorem rQ:XF 64 12 2111062325330720 [bo 50 .lss 3 49 48]:=.mk
theorem sN:XF 64 13 985162418490144 [ia 51 40 47 49,ld 52 39 51,aq 11 39,so 39 11 52]:=.mk
theorem sD:XP 64 14 985162418488096 [(1,2),(1,3),(2,3),(1,5),(1,6)] [fa 53 108 9 3,ld 54 106 53,ld 55 99 5,ld 56 39 11,mv 57 8,oa 58 (.call ⟨.value (.func 133),#[.tmp 55,.tmp 56,.tmp 57],#[99,39,22]⟩),oa 59 (.buildSlice 106 1 #[(0,.tmp 58)]),oa 60 (.call ⟨.builtin .append,#[.tmp 54,.tmp 59],#[106,106]⟩),fa 61 108 9 3,so 106 61 60]:=.mk
@[simp] theorem am8:K.imm 64 59=false:=by kernel_rfl
@[simp] theorem amU:K.imm 64 60=false:=by kernel_rfl
theorem rX:XF 64 15 985162418488096 [bk 62 .add 3 49 1,mv 49 62]:=.mk
theorem sK:XP 64 16 0 [(0,1),(0,4),(0,5),(1,5),(4,5),(0,6),(1,6),(4,6),(0,7)] [ld 63 99 5,ld 64 99 5,oa 65 (.nilCheck (.tmp 64)),fa 66 105 65 1,ld 67 103 66,ld 68 108 9,oa 69 (.buildSlice 103 1 #[(0,.tmp 68)]),oa 70 (.call ⟨.builtin .append,#[.tmp 67,.tmp 69],#[103,103]⟩),oa 71 (.nilCheck (.tmp 63)),fa 72 105 71 1,so 103 72 70]:=.mk
@[simp] theorem anZ:K.imm 64 69=false:=by kernel_rfl
@[simp] theorem aoj:K.imm 64 70=false:=by kernel_rfl
theorem VR:XF 64 17 14680108 [bk 73 .add 3 23 1,mv 23 73]:=.mk
theorem af6:XF 64 18 12 [ld 74 99 5,sg 2 74,oa 3 (.assign (.const (.int .i64 (0))))]:=.mk
def X7:Code:=.seq (rg 64 12) (.seq (.cond (.tmp 50) (.skip) (.exit 4)) (.seq (.block 5 (.seq (rg 64 13) (rd 64 14))) (rg 64 15)))
theorem zi(s:St):aj K 64 X7 s=aj K 64 (.seq (rg 64 12) (.seq (.cond (.tmp 50) (.skip) (.exit 4)) (.seq (.block 5 (.seq (rg 64 13) (rd 64 14))) (rg 64 15)))) s:=rfl
def ja:Code:=rg 64 9
def iZ:Code:=.block 3 (.seq (rd 64 10) (.seq (.seq (rg 64 11) (.block 4 (.loop X7))) (rd 64 16)))
def Ez:Code:=.seq (rg 64 6) (.seq (.cond (.tmp 24) (.skip) (.exit 0)) (.seq (.block 1 (.seq (rg 64 7) (.seq (rg 64 8) (.block 2 (.rangeFunc (.tmp 30) #[31] ja iZ))))) (rg 64 17)))
theorem ZI(s:St):aj K 64 Ez s=aj K 64 (.seq (rg 64 6) (.seq (.cond (.tmp 24) (.skip) (.exit 0)) (.seq (.block 1 (.seq (rg 64 7) (.seq (rg 64 8) (.block 2 (.rangeFunc (.tmp 30) #[31] ja iZ))))) (rg 64 17)))) s:=rfl
def c64:Code:=.seq (rg 64 0) (.seq (.seq (rg 64 1) (.seq (rg 64 2) (.cond (.tmp 15) (.seq (rg 64 3) (.ret)) (.skip)))) (.seq (rg 64 4) (.seq (.seq (rg 64 5) (.block 0 (.loop Ez))) (.seq (rg 64 18) (.ret)))))
theorem k64:KF 64 [.tmp 2,.tmp 3] 1 c64:=.mk
end
noncomputable section
@[simp] theorem ay9(t:Nat):K.esc 190 t=[2,3].elem t:=by kernel_rfl
theorem aiJ:XF 190 0 6 [bx 2 49 0]:=.mk
theorem aiF:XF 190 1 14 [aq 3 49]:=.mk
theorem aib:XF 190 2 8 [oa 4 (.makeFunc (.func 191) #[] #[.tmp 1,.tmp 2,.tmp 3]),so 49 3 4]:=.mk
theorem afc:XF 190 3 0 [ld 5 49 3,oa 6 (.call ⟨.value (.tmp 5),#[.const (.slice none 0 0)],#[22]⟩)]:=.mk
def ajQ:Code:=.seq (rg 190 0) (.seq (rg 190 1) (.seq (rg 190 2) (rg 190 3)))
theorem awo:KF 190 [] 1 ajQ:=.mk
end
noncomputable section
@[simp] theorem ax3(t:Nat):K.esc 132 t=[1].elem t:=by kernel_rfl
theorem ae6:XF 132 0 2 [bx 1 22 0,oa 2 (.assign (.const (.nilFunc)))]:=.mk
theorem agt:XF 132 1 4 [oa 3 (.makeFunc (.func 190) #[] #[.tmp 1]),sg 2 3]:=.mk
def aoJ:Code:=.seq (rg 132 0) (.seq (rg 132 1) (.ret))
theorem av6:KF 132 [.tmp 2] 1 aoJ:=.mk
end
noncomputable section
theorem apv:XF 97 0 7 [oa 6 (.assign (.const (.bool false)))]:=.mk
theorem alB:XF 97 1 64 [mv 7 1,mv 8 0,bo 9 .leq 3 7 8,mv 10 9,og 11 3 true (.move (.tmp 0)),og 12 3 true (.move (.tmp 2)),og 13 3 true (.binOp .leq 3 (.tmp 11) (.tmp 12) 3),oa 14 (.pick (.tmp 10) (.tmp 13) (.const (.bool false))),sg 6 14]:=.mk
def c97:Code:=.seq (rg 97 0) (.seq (rg 97 1) (.ret))
theorem k97:KF 97 [.tmp 6] 1 c97:=.mk
end
noncomputable section
theorem alx:XF 68 0 3 [oa 4 (.assign (.const (.bool false)))]:=.mk
theorem anR:XF 68 1 16 [mv 5 1,mv 6 0,oa 7 (.nilCheck (.tmp 6)),fa 8 105 7 0,fa 9 28 8 1,ld 10 26 9,oa 11 (.call ⟨.builtin .len,#[.tmp 10],#[26]⟩),bk 12 .sub 3 11 1,oa 13 (.call ⟨.value (.func 97),#[.tmp 5,.const (.int .i64 (0)),.tmp 12],#[3,3,3]⟩),sg 4 13]:=.mk
def c68:Code:=.seq (rg 68 0) (.seq (rg 68 1) (.ret))
theorem k68:KF 68 [.tmp 4] 1 c68:=.mk
end
noncomputable section
@[simp] theorem atY(t:Nat):K.esc 196 t=false:=by kernel_rfl
theorem NT:XF 196 0 9 [bx 3 110 1,oa 4 (.assign (.const (.int .i64 (0))))]:=.mk
theorem LJ:XF 196 1 393 [mv 6 0,oa 7 (.call ⟨.builtin .len,#[.tmp 6],#[106]⟩),oa 8 (.move (.const (.int .i64 (0))))]:=.mk
theorem Dc:XF 196 2 905 [bo 9 .lss 3 8 7]:=.mk
theorem Md:XF 196 3 425 [mv 10 8,sg 5 10]:=.mk
theorem Qq:XP 196 4 65961 [(0,4)] [ld 11 110 3,mv 12 0,mv 13 5,ia 14 106 12 13,ld 15 110 14,bo 16 .eql 110 11 15]:=.mk
theorem KX:XF 196 5 16 [mv 17 5,sg 4 17]:=.mk
theorem Na:XF 196 6 393 [bk 18 .add 3 8 1,mv 8 18]:=.mk
theorem LY:XF 196 7 16 [oa 4 (.assign (.const (.int .i64 (-1))))]:=.mk
def xY:Code:=.seq (rg 196 2) (.seq (.cond (.tmp 9) (.skip) (.exit 0)) (.seq (.block 1 (.seq (rg 196 3) (.seq (rd 196 4) (.cond (.tmp 16) (.seq (rg 196 5) (.ret)) (.skip))))) (rg 196 6)))
theorem AU(s:St):aj K 196 xY s=aj K 196 (.seq (rg 196 2) (.seq (.cond (.tmp 9) (.skip) (.exit 0)) (.seq (.block 1 (.seq (rg 196 3) (.seq (rd 196 4) (.cond (.tmp 16) (.seq (rg 196 5) (.ret)) (.skip))))) (rg 196 6)))) s:=rfl
def c196:Code:=.seq (rg 196 0) (.seq (.seq (rg 196 1) (.block 0 (.loop xY))) (.seq (rg 196 7) (.ret)))
theorem ah4:KF 196 [.tmp 4] 1 c196:=.mk
end
noncomputable section
@[simp] theorem ayZ(t:Nat):K.esc 145 t=false:=by kernel_rfl
theorem ZB:XF 145 0 9 [bx 3 110 1,oa 4 (.assign (.const (.bool false)))]:=.mk
theorem XQ:XF 145 1 16 [mv 5 0,ld 6 110 3,oa 7 (.call ⟨.value (.func 196),#[.tmp 5,.tmp 6],#[106,110]⟩),bk 8 .geq 3 7 0,sg 4 8]:=.mk
def c145:Code:=.seq (rg 145 0) (.seq (rg 145 1) (.ret))
theorem anl:KF 145 [.tmp 4] 1 c145:=.mk
end
noncomputable section
@[simp] theorem awd(t:Nat):K.esc 134 t=false:=by kernel_rfl
theorem Zg:XF 134 0 1 [oa 2 (.assign (.const (.slice none 0 0)))]:=.mk
theorem Yg:XF 134 1 9 [oa 3 (.assign (.const (.slice none 0 0)))]:=.mk
theorem Zm:XF 134 2 456 [mv 6 0,oa 7 (.call ⟨.builtin .len,#[.tmp 6],#[106]⟩),oa 8 (.move (.const (.int .i64 (0))))]:=.mk
theorem Ap:XF 134 3 968 [bo 9 .lss 3 8 7]:=.mk
theorem Oj:XF 134 4 488 [ia 10 106 6 8,ld 11 110 10,aq 5 110,so 110 5 11]:=.mk
theorem LH:XF 134 5 33256 [mv 12 3,ld 13 110 5,oa 14 (.call ⟨.value (.func 145),#[.tmp 12,.tmp 13],#[106,110]⟩),oa 15 (.unOp .not 4 (.tmp 14))]:=.mk
theorem KG:XP 134 6 456 [(2,4),(2,6),(4,6),(5,6),(2,7),(4,7),(5,7)] [mv 16 3,mv 17 3,oa 18 (.call ⟨.builtin .len,#[.tmp 17],#[106]⟩),mv 19 3,oa 20 (.call ⟨.builtin .len,#[.tmp 19],#[106]⟩),oa 21 (.slice 106 (.tmp 16) none (some (.tmp 18)) (some (.tmp 20))),ld 22 110 5,oa 23 (.buildSlice 106 1 #[(0,.tmp 22)]),oa 24 (.call ⟨.builtin .append,#[.tmp 21,.tmp 23],#[106,106]⟩),sg 3 24]:=.mk
@[simp] theorem ajc:K.imm 134 23=false:=by kernel_rfl
@[simp] theorem ajf:K.imm 134 24=true:=by kernel_rfl
theorem OT:XF 134 7 456 [bk 25 .add 3 8 1,mv 8 25]:=.mk
theorem VQ:XF 134 8 4 [mv 26 3,sg 2 26]:=.mk
def CO:Code:=.seq (rg 134 3) (.seq (.cond (.tmp 9) (.skip) (.exit 0)) (.seq (.block 1 (.seq (rg 134 4) (.seq (rg 134 5) (.cond (.tmp 15) (rd 134 6) (.skip))))) (rg 134 7)))
theorem Bj(s:St):aj K 134 CO s=aj K 134 (.seq (rg 134 3) (.seq (.cond (.tmp 9) (.skip) (.exit 0)) (.seq (.block 1 (.seq (rg 134 4) (.seq (rg 134 5) (.cond (.tmp 15) (rd 134 6) (.skip))))) (rg 134 7)))) s:=rfl
def aic:Code:=.seq (rg 134 0) (.seq (rg 134 1) (.seq (.seq (rg 134 2) (.block 0 (.loop CO))) (.seq (rg 134 8) (.ret))))
theorem anb:KF 134 [.tmp 2] 1 aic:=.mk
end
noncomputable section
@[simp] theorem aA1(t:Nat):K.esc 65 t=false:=by kernel_rfl
theorem aen:XF 65 0 2 [bx 1 108 0,oa 2 (.assign (.const (.slice none 0 0)))]:=.mk
theorem ado:XF 65 1 4 [fa 3 108 1 3,ld 4 106 3,oa 5 (.slice 106 (.tmp 4) (some (.const (.int .i64 (1)))) none none),oa 6 (.call ⟨.value (.func 134),#[.tmp 5],#[106]⟩),sg 2 6]:=.mk
def c65:Code:=.seq (rg 65 0) (.seq (rg 65 1) (.ret))
theorem k65:KF 65 [.tmp 2] 1 c65:=.mk
end
noncomputable section
@[simp] theorem ayH(t:Nat):K.esc 192 t=false:=by kernel_rfl
theorem agE:XF 192 0 2 [bx 1 108 0,oa 2 (.assign (.const (.slice none 0 0)))]:=.mk
theorem ahH:XF 192 1 4 [fa 3 108 1 3,ld 4 106 3,oa 5 (.slice 106 (.tmp 4) none (some (.const (.int .i64 (1)))) (some (.const (.int .i64 (1))))),sg 2 5]:=.mk
def aki:Code:=.seq (rg 192 0) (.seq (rg 192 1) (.ret))
theorem aeS:KF 192 [.tmp 2] 1 aki:=.mk
end
noncomputable section
@[simp] theorem awp(t:Nat):K.esc 139 t=false:=by kernel_rfl
theorem Lr:XF 139 0 6 [bx 2 108 0,oa 4 (.assign (.const (.slice none 0 0)))]:=.mk
theorem KD:XF 139 1 38 [ld 6 108 2,oa 7 (.makeFunc (.func 65) #[.tmp 6] #[]),oa 8 (.build 234 #[(0,.tmp 7)]),aq 5 234,so 234 5 8]:=.mk
theorem LQ:XF 139 2 548 [mv 9 1]:=.mk
theorem MF:XF 139 3 1572 [bk 11 .eql 3 9 2,sg 10 11]:=.mk
theorem OI:XF 139 4 4132 [bk 13 .eql 3 9 3,sg 12 13]:=.mk
theorem Og:XF 139 5 32 [ld 14 108 2,oa 15 (.makeFunc (.func 192) #[.tmp 14] #[]),fa 16 234 5 0,so 111 16 15]:=.mk
theorem QB:XF 139 6 16 [fa 17 234 5 0,ld 18 111 17,oa 19 (.call ⟨.value (.tmp 18),#[],#[]⟩),sg 4 19]:=.mk
def c139:Code:=.seq (rg 139 0) (.seq (rg 139 1) (.seq (.seq (rg 139 2) (.block 0 (.seq (.block 2 (.block 1 (.seq (.seq (.seq (rg 139 3) (.cond (.tmp 10) (.exit 1) (.skip))) (.seq (rg 139 4) (.cond (.tmp 12) (.exit 2) (.skip)))) (.exit 0)))) (.seq (rg 139 5) (.exit 0))))) (.seq (rg 139 6) (.ret))))
theorem aeY:KF 139 [.tmp 4] 1 c139:=.mk
end
noncomputable section
@[simp] theorem ayb(t:Nat):K.esc 142 t=false:=by kernel_rfl
theorem Pm:XF 142 0 6 [bx 2 108 0,oa 4 (.assign (.const (.slice none 0 0)))]:=.mk
theorem Oo:XF 142 1 38 [ld 6 108 2,oa 7 (.makeFunc (.func 192) #[.tmp 6] #[]),oa 8 (.build 234 #[(0,.tmp 7)]),aq 5 234,so 234 5 8]:=.mk
theorem KU:XF 142 2 1060 [mv 9 1,bk 10 .eql 3 9 2]:=.mk
theorem NR:XF 142 3 32 [ld 11 108 2,oa 12 (.makeFunc (.func 65) #[.tmp 11] #[]),fa 13 234 5 0,so 111 13 12]:=.mk
theorem Nc:XF 142 4 16 [fa 14 234 5 0,ld 15 111 14,oa 16 (.call ⟨.value (.tmp 15),#[],#[]⟩),sg 4 16]:=.mk
def aaN:Code:=.seq (rg 142 0) (.seq (rg 142 1) (.seq (.seq (rg 142 2) (.cond (.tmp 10) (rg 142 3) (.skip))) (.seq (rg 142 4) (.ret))))
theorem ahQ:KF 142 [.tmp 4] 1 aaN:=.mk
end
noncomputable section
theorem Fj:XF 141 0 1 [oa 2 (.assign (.const (.slice none 0 0)))]:=.mk
theorem F9:XF 141 1 257 [mv 6 0,oa 7 (.call ⟨.builtin .len,#[.tmp 6],#[22]⟩),bk 8 .lss 3 7 2]:=.mk
theorem Vr:XF 141 2 4 [mv 9 0,sg 2 9]:=.mk
theorem YF:XF 141 3 9 [oa 3 (.assign (.const (.int .i64 (1))))]:=.mk
theorem Oi:XF 141 4 8201 [mv 10 3,mv 11 0,oa 12 (.call ⟨.builtin .len,#[.tmp 11],#[22]⟩),bo 13 .lss 3 10 12]:=.mk
theorem Wp:XP 141 6 33554441 [(3,8)] [mv 16 0,mv 17 3,ia 18 22 16 17,ld 19 3 18,mv 20 0,mv 21 3,bk 22 .sub 3 21 1,ia 23 22 20 22,ld 24 3 23,bo 25 .eql 3 19 24]:=.mk
theorem aiG:XF 141 7 25 [mv 26 0,mv 27 3,oa 28 (.slice 22 (.tmp 26) (some (.tmp 27)) none none),sg 4 28]:=.mk
theorem aho:XF 141 8 57 [oa 5 (.assign (.const (.int .i64 (1))))]:=.mk
theorem Ou:XF 141 9 4294967353 [mv 29 5,mv 30 4,oa 31 (.call ⟨.builtin .len,#[.tmp 30],#[22]⟩),bo 32 .lss 3 29 31]:=.mk
theorem RQ:XP 141 11 17592186044473 [(3,8)] [mv 35 4,mv 36 5,ia 37 22 35 36,ld 38 3 37,mv 39 4,mv 40 5,bk 41 .sub 3 40 1,ia 42 22 39 41,ld 43 3 42,bo 44 .neq 3 38 43]:=.mk
theorem SE:XF 141 12 57 [mv 45 0,mv 46 3,mv 47 4,mv 48 5,ia 49 22 47 48,ld 50 3 49,ia 51 22 45 46,so 3 51 50]:=.mk
theorem SI:XF 141 13 57 [mv 52 3,bk 53 .add 3 52 1,sg 3 53]:=.mk
theorem QO:XF 141 10 57 [mv 33 5,bk 34 .add 3 33 1,sg 5 34]:=.mk
theorem aa2:XF 141 14 9 [mv 54 0,mv 55 3,oa 56 (.slice 22 (.tmp 54) (some (.tmp 55)) none none),on (.call ⟨.builtin .clear,#[.tmp 56],#[22]⟩)]:=.mk
theorem aaR:XF 141 15 4 [mv 57 0,mv 58 3,oa 59 (.slice 22 (.tmp 57) none (some (.tmp 58)) none),sg 2 59]:=.mk
theorem ahh:XF 141 5 9 [mv 14 3,bk 15 .add 3 14 1,sg 3 15]:=.mk
theorem abA:XF 141 16 4 [mv 60 0,sg 2 60]:=.mk
def xR:Code:=.seq (.seq (rg 141 9) (.cond (.tmp 32) (.skip) (.exit 2))) (.seq (.block 3 (.seq (rd 141 11) (.cond (.tmp 44) (.seq (rg 141 12) (rg 141 13)) (.skip)))) (rg 141 10))
theorem O5(s:St):aj K 141 xR s=aj K 141 (.seq (.seq (rg 141 9) (.cond (.tmp 32) (.skip) (.exit 2))) (.seq (.block 3 (.seq (rd 141 11) (.cond (.tmp 44) (.seq (rg 141 12) (rg 141 13)) (.skip)))) (rg 141 10))) s:=rfl
def vI:Code:=.seq (.seq (rg 141 4) (.cond (.tmp 13) (.skip) (.exit 0))) (.seq (.block 1 (.seq (rd 141 6) (.cond (.tmp 25) (.seq (rg 141 7) (.seq (.seq (rg 141 8) (.block 2 (.loop xR))) (.seq (rg 141 14) (.seq (rg 141 15) (.ret))))) (.skip)))) (rg 141 5))
theorem Pq(s:St):aj K 141 vI s=aj K 141 (.seq (.seq (rg 141 4) (.cond (.tmp 13) (.skip) (.exit 0))) (.seq (.block 1 (.seq (rd 141 6) (.cond (.tmp 25) (.seq (rg 141 7) (.seq (.seq (rg 141 8) (.block 2 (.loop xR))) (.seq (rg 141 14) (.seq (rg 141 15) (.ret))))) (.skip)))) (rg 141 5))) s:=rfl
def c141:Code:=.seq (rg 141 0) (.seq (.seq (rg 141 1) (.cond (.tmp 8) (.seq (rg 141 2) (.ret)) (.skip))) (.seq (.seq (rg 141 3) (.block 0 (.loop vI))) (.seq (rg 141 16) (.ret))))
theorem aoI:KF 141 [.tmp 2] 1 c141:=.mk
end
noncomputable section
@[simp] theorem aw4(t:Nat):K.esc 138 t=[42,80].elem t:=by kernel_rfl
theorem VN:XF 138 0 95 [oa 16 (.makeMap 130 none),sg 6 16]:=.mk
theorem XT:XF 138 1 7340125 [ld 17 99 1,oa 18 (.nilCheck (.tmp 17)),fa 19 105 18 1,ld 20 103 19,oa 21 (.call ⟨.builtin .len,#[.tmp 20],#[103]⟩),oa 22 (.move (.const (.int .i64 (0))))]:=.mk
theorem agS:XF 138 2 15728733 [bo 23 .lss 3 22 21]:=.mk
theorem ahv:XF 138 3 7340381 [ia 24 103 20 22,ld 25 108 24,aq 8 108,so 108 8 25]:=.mk
theorem agM:XF 138 4 544211293 [fa 26 108 8 0,ld 27 3 26,ld 28 3 2,bo 29 .eql 3 27 28]:=.mk
theorem aey:XF 138 5 7340893 [oa 9 (.assign (.const (.slice none 0 0)))]:=.mk
theorem ahM:XF 138 6 30072111965 [ld 30 108 8,ld 31 3 3,oa 32 (.call ⟨.value (.func 139),#[.tmp 30,.tmp 31],#[108,3]⟩),oa 33 (.call ⟨.builtin .len,#[.tmp 32],#[106]⟩),oa 34 (.move (.const (.int .i64 (0))))]:=.mk
theorem agk:XF 138 7 64431850333 [bo 35 .lss 3 34 33]:=.mk
theorem agZ:XF 138 8 30072114013 [ia 36 106 32 34,ld 37 110 36,aq 11 110,so 110 11 37]:=.mk
theorem KC:XF 138 9 30072111965 [mv 38 9,mv 39 6,ld 40 110 11,oa 41 (.lookup 130 (.tmp 39) (.tmp 40) false),oa 42 (.call ⟨.builtin .append,#[.tmp 38,.tmp 41],#[22,22]⟩),sg 9 42]:=.mk
@[simp] theorem ajx:K.imm 138 42=false:=by kernel_rfl
theorem aaJ:XF 138 10 30072111965 [bk 43 .add 3 34 1,mv 34 43]:=.mk
theorem SY:XF 138 11 7340893 [mv 44 9,oa 45 (.call ⟨.value (.func 140),#[.tmp 44],#[22]⟩)]:=.mk
theorem QS:XF 138 12 985162425827677 [mv 46 9,oa 47 (.call ⟨.value (.func 141),#[.tmp 46],#[22]⟩),oa 48 (.call ⟨.builtin .len,#[.tmp 47],#[22]⟩),oa 49 (.move (.const (.int .i64 (0))))]:=.mk
theorem acU:XF 138 13 2111062332670301 [bo 50 .lss 3 49 48]:=.mk
theorem aa8:XF 138 14 985162425835869 [ia 51 22 47 49,ld 52 3 51,sg 13 52]:=.mk
theorem abS:XF 138 15 577445914729251165 [mv 53 0,mv 54 13,fa 55 108 8 1,ld 56 3 55,oa 57 (.build 121 #[(0,.tmp 54),(1,.tmp 56)]),oa 58 (.call ⟨.value (.tmp 53),#[.tmp 57],#[121]⟩),oa 59 (.unOp .not 4 (.tmp 58))]:=.mk
theorem aac:XF 138 16 985162425827677 [bk 60 .add 3 49 1,mv 49 60]:=.mk
theorem RN:XF 138 17 18446744073716891997 [fa 61 108 8 0,ld 62 3 61,ld 63 3 4,bo 64 .neq 3 62 63]:=.mk
theorem abX:XF 138 18 1033017668127742230877 [ld 65 108 8,ld 66 3 3,oa 67 (.call ⟨.value (.func 142),#[.tmp 65,.tmp 66],#[108,3]⟩),oa 68 (.call ⟨.builtin .len,#[.tmp 67],#[106]⟩),oa 69 (.move (.const (.int .i64 (0))))]:=.mk
theorem aaM:XF 138 19 2213609288845153534301 [bo 70 .lss 3 69 68]:=.mk
theorem aau:XF 138 20 1033017668127742263645 [ia 71 106 67 69,ld 72 110 71,aq 15 110,so 110 15 72]:=.mk
theorem RH:XF 138 21 1033017668127742230877 [mv 73 6,ld 74 110 15,fa 76 108 8 1,ld 77 3 76,oa 78 (.buildSlice 22 1 #[(0,.tmp 77)]),oa 79 (.mapEntry 130 (.tmp 73) (.tmp 74)),xt 75 79 0,oa 80 (.call ⟨.builtin .append,#[.tmp 75,.tmp 78],#[22,22]⟩),xt 81 79 1,on (.entryStore 130 (.tmp 73) (.tmp 81) (.tmp 80))]:=.mk
@[simp] theorem aiW:K.imm 138 78=false:=by kernel_rfl
@[simp] theorem ajk:K.imm 138 80=false:=by kernel_rfl
theorem aaD:XF 138 22 1033017668127742230877 [bk 82 .add 3 69 1,mv 69 82]:=.mk
theorem Sv:XF 138 23 7340125 [bk 83 .add 3 22 1,mv 22 83]:=.mk
def xW:Code:=.seq (rg 138 7) (.seq (.cond (.tmp 35) (.skip) (.exit 2)) (.seq (.block 3 (.seq (rg 138 8) (rg 138 9))) (rg 138 10)))
theorem Wq(s:St):aj K 138 xW s=aj K 138 (.seq (rg 138 7) (.seq (.cond (.tmp 35) (.skip) (.exit 2)) (.seq (.block 3 (.seq (rg 138 8) (rg 138 9))) (rg 138 10)))) s:=rfl
def nU:Code:=.seq (rg 138 13) (.seq (.cond (.tmp 50) (.skip) (.exit 4)) (.seq (.block 5 (.seq (rg 138 14) (.seq (rg 138 15) (.cond (.tmp 59) (.ret) (.skip))))) (rg 138 16)))
theorem Qy(s:St):aj K 138 nU s=aj K 138 (.seq (rg 138 13) (.seq (.cond (.tmp 50) (.skip) (.exit 4)) (.seq (.block 5 (.seq (rg 138 14) (.seq (rg 138 15) (.cond (.tmp 59) (.ret) (.skip))))) (rg 138 16)))) s:=rfl
def xC:Code:=.seq (rg 138 19) (.seq (.cond (.tmp 70) (.skip) (.exit 6)) (.seq (.block 7 (.seq (rg 138 20) (rg 138 21))) (rg 138 22)))
theorem Yx(s:St):aj K 138 xC s=aj K 138 (.seq (rg 138 19) (.seq (.cond (.tmp 70) (.skip) (.exit 6)) (.seq (.block 7 (.seq (rg 138 20) (rg 138 21))) (rg 138 22)))) s:=rfl
def rO:Code:=.seq (rg 138 2) (.seq (.cond (.tmp 23) (.skip) (.exit 0)) (.seq (.block 1 (.seq (rg 138 3) (.seq (.seq (rg 138 4) (.cond (.tmp 29) (.seq (rg 138 5) (.seq (.seq (rg 138 6) (.block 2 (.loop xW))) (.seq (rg 138 11) (.seq (rg 138 12) (.block 4 (.loop nU)))))) (.skip))) (.seq (.seq (rg 138 17) (.cond (.tmp 64) (.exit 1) (.skip))) (.seq (rg 138 18) (.block 6 (.loop xC))))))) (rg 138 23)))
theorem G8(s:St):aj K 138 rO s=aj K 138 (.seq (rg 138 2) (.seq (.cond (.tmp 23) (.skip) (.exit 0)) (.seq (.block 1 (.seq (rg 138 3) (.seq (.seq (rg 138 4) (.cond (.tmp 29) (.seq (rg 138 5) (.seq (.seq (rg 138 6) (.block 2 (.loop xW))) (.seq (rg 138 11) (.seq (rg 138 12) (.block 4 (.loop nU)))))) (.skip))) (.seq (.seq (rg 138 17) (.cond (.tmp 64) (.exit 1) (.skip))) (.seq (rg 138 18) (.block 6 (.loop xC))))))) (rg 138 23)))) s:=rfl
def c138:Code:=.scope (.seq (rg 138 0) (.seq (.label 0) (.seq (rg 138 1) (.block 0 (.loop rO)))))
theorem ay1:KF 138 [] 1 c138:=.mk
end
end Mw
