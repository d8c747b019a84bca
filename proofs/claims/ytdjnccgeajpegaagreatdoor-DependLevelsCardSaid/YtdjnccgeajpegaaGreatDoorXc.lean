/- DependLevels answers true for every list of numbers: its tied card holds; no condition beyond the card's own. -/
import Derived.Test.YtdjnccgeajpegaaGreatDoorKc
set_option linter.unusedVariables false
set_option linter.unusedSimpArgs false
/-! The code of (*metewand/depend.task).isStep. -/
namespace Mw
open Go Go.Proofs
set_option maxRecDepth 100000
noncomputable section
theorem x68_0:XF 68 0 3 [oa 4 (.assign (.const (.bool false)))]:=.mk
theorem x68_1:XF 68 1 16 [mv 5 1,mv 6 0,oa 7 (.nilCheck (.tmp 6)),fa 8 105 7 0,fa 9 28 8 1,ld 10 26 9,oa 11 (.call ⟨.builtin .len,#[.tmp 10],#[26]⟩),bk 12 .sub 3 11 1,oa 13 (.call ⟨.value (.func 97),#[.tmp 5,.const (.int .i64 (0)),.tmp 12],#[3,3,3]⟩),sg 4 13]:=.mk
def c68:Code:=.seq (rg 68 0) (.seq (rg 68 1) (.ret))
theorem k68:KF 68 [.tmp 4] 1 c68:=.mk
end
end Mw
/-! The code of slices.Index[[]metewand/depend.place,metewand/depend.place]. -/
namespace Mw
open Go Go.Proofs
set_option maxRecDepth 100000
noncomputable section
@[simp] theorem esc196 (t:Nat):K.esc 196 t=false:=by kernel_rfl
theorem x196_0:XF 196 0 9 [bx 3 110 1,oa 4 (.assign (.const (.int .i64 (0))))]:=.mk
theorem x196_1:XF 196 1 393 [mv 6 0,oa 7 (.call ⟨.builtin .len,#[.tmp 6],#[106]⟩),oa 8 (.move (.const (.int .i64 (0))))]:=.mk
theorem x196_2:XF 196 2 905 [bo 9 .lss 3 8 7]:=.mk
theorem x196_3:XF 196 3 425 [mv 10 8,sg 5 10]:=.mk
theorem x196_4:XP 196 4 65961 [(0,4)] [ld 11 110 3,mv 12 0,mv 13 5,ia 14 106 12 13,ld 15 110 14,bo 16 .eql 110 11 15]:=.mk
theorem x196_5:XF 196 5 16 [mv 17 5,sg 4 17]:=.mk
theorem x196_6:XF 196 6 393 [bk 18 .add 3 8 1,mv 8 18]:=.mk
theorem x196_7:XF 196 7 16 [oa 4 (.assign (.const (.int .i64 (-1))))]:=.mk
def l196_0:Code:=.seq (rg 196 2) (.seq (.cond (.tmp 9) (.skip) (.exit 0)) (.seq (.block 1 (.seq (rg 196 3) (.seq (rd 196 4) (.cond (.tmp 16) (.seq (rg 196 5) (.ret)) (.skip))))) (rg 196 6)))
theorem u196_0 (s:St):execL K 196 l196_0 s=execL K 196 (.seq (rg 196 2) (.seq (.cond (.tmp 9) (.skip) (.exit 0)) (.seq (.block 1 (.seq (rg 196 3) (.seq (rd 196 4) (.cond (.tmp 16) (.seq (rg 196 5) (.ret)) (.skip))))) (rg 196 6)))) s:=rfl
def c196:Code:=.seq (rg 196 0) (.seq (.seq (rg 196 1) (.block 0 (.loop l196_0))) (.seq (rg 196 7) (.ret)))
theorem k196:KF 196 [.tmp 4] 1 c196:=.mk
end
end Mw
/-! The code of slices.Contains[[]metewand/depend.place,metewand/depend.place]. -/
namespace Mw
open Go Go.Proofs
set_option maxRecDepth 100000
noncomputable section
@[simp] theorem esc145 (t:Nat):K.esc 145 t=false:=by kernel_rfl
theorem x145_0:XF 145 0 9 [bx 3 110 1,oa 4 (.assign (.const (.bool false)))]:=.mk
theorem x145_1:XF 145 1 16 [mv 5 0,ld 6 110 3,oa 7 (.call ⟨.value (.func 196),#[.tmp 5,.tmp 6],#[106,110]⟩),bk 8 .geq 3 7 0,sg 4 8]:=.mk
def c145:Code:=.seq (rg 145 0) (.seq (rg 145 1) (.ret))
theorem k145:KF 145 [.tmp 4] 1 c145:=.mk
end
end Mw
/-! The code of metewand/depend.unique[metewand/depend.place]. -/
namespace Mw
open Go Go.Proofs
set_option maxRecDepth 100000
noncomputable section
@[simp] theorem esc134 (t:Nat):K.esc 134 t=false:=by kernel_rfl
theorem x134_0:XF 134 0 1 [oa 2 (.assign (.const (.slice none 0 0)))]:=.mk
theorem x134_1:XF 134 1 9 [oa 3 (.assign (.const (.slice none 0 0)))]:=.mk
theorem x134_2:XF 134 2 456 [mv 6 0,oa 7 (.call ⟨.builtin .len,#[.tmp 6],#[106]⟩),oa 8 (.move (.const (.int .i64 (0))))]:=.mk
theorem x134_3:XF 134 3 968 [bo 9 .lss 3 8 7]:=.mk
theorem x134_4:XF 134 4 488 [ia 10 106 6 8,ld 11 110 10,aq 5 110,so 110 5 11]:=.mk
theorem x134_5:XF 134 5 33256 [mv 12 3,ld 13 110 5,oa 14 (.call ⟨.value (.func 145),#[.tmp 12,.tmp 13],#[106,110]⟩),oa 15 (.unOp .not 4 (.tmp 14))]:=.mk
theorem x134_6:XP 134 6 456 [(2,4),(2,6),(4,6),(5,6),(2,7),(4,7),(5,7)] [mv 16 3,mv 17 3,oa 18 (.call ⟨.builtin .len,#[.tmp 17],#[106]⟩),mv 19 3,oa 20 (.call ⟨.builtin .len,#[.tmp 19],#[106]⟩),oa 21 (.slice 106 (.tmp 16) none (some (.tmp 18)) (some (.tmp 20))),ld 22 110 5,oa 23 (.buildSlice 106 1 #[(0,.tmp 22)]),oa 24 (.call ⟨.builtin .append,#[.tmp 21,.tmp 23],#[106,106]⟩),sg 3 24]:=.mk
@[simp] theorem imm134_23:K.imm 134 23=false:=by kernel_rfl
@[simp] theorem imm134_24:K.imm 134 24=true:=by kernel_rfl
theorem x134_7:XF 134 7 456 [bk 25 .add 3 8 1,mv 8 25]:=.mk
theorem x134_8:XF 134 8 4 [mv 26 3,sg 2 26]:=.mk
def l134_0:Code:=.seq (rg 134 3) (.seq (.cond (.tmp 9) (.skip) (.exit 0)) (.seq (.block 1 (.seq (rg 134 4) (.seq (rg 134 5) (.cond (.tmp 15) (rd 134 6) (.skip))))) (rg 134 7)))
theorem u134_0 (s:St):execL K 134 l134_0 s=execL K 134 (.seq (rg 134 3) (.seq (.cond (.tmp 9) (.skip) (.exit 0)) (.seq (.block 1 (.seq (rg 134 4) (.seq (rg 134 5) (.cond (.tmp 15) (rd 134 6) (.skip))))) (rg 134 7)))) s:=rfl
def c134:Code:=.seq (rg 134 0) (.seq (rg 134 1) (.seq (.seq (rg 134 2) (.block 0 (.loop l134_0))) (.seq (rg 134 8) (.ret))))
theorem k134:KF 134 [.tmp 2] 1 c134:=.mk
end
end Mw
/-! The code of (metewand/depend.instance).reads. -/
namespace Mw
open Go Go.Proofs
set_option maxRecDepth 100000
noncomputable section
@[simp] theorem esc65 (t:Nat):K.esc 65 t=false:=by kernel_rfl
theorem x65_0:XF 65 0 2 [bx 1 108 0,oa 2 (.assign (.const (.slice none 0 0)))]:=.mk
theorem x65_1:XF 65 1 4 [fa 3 108 1 3,ld 4 106 3,oa 5 (.slice 106 (.tmp 4) (some (.const (.int .i64 (1)))) none none),oa 6 (.call ⟨.value (.func 134),#[.tmp 5],#[106]⟩),sg 2 6]:=.mk
def c65:Code:=.seq (rg 65 0) (.seq (rg 65 1) (.ret))
theorem k65:KF 65 [.tmp 2] 1 c65:=.mk
end
end Mw
/-! The code of metewand/depend.Levels. -/
namespace Mw
open Go Go.Proofs
set_option maxRecDepth 100000
noncomputable section
@[simp] theorem esc14 (t:Nat):K.esc 14 t=false:=by kernel_rfl
theorem x14_0:XF 14 0 2 [bx 1 28 0,oa 2 (.assign (.const (.slice none 0 0))),oa 3 (.assign (.const (.int .i64 (0))))]:=.mk
theorem x14_1:XF 14 1 48 [ld 18 28 1,oa 19 (.call ⟨.value (.func 64),#[.tmp 18],#[28]⟩),mv 17 19,xt 20 17 0,xt 21 17 1,sg 4 20,sg 5 21]:=.mk
theorem x14_2:XF 14 2 8388656 [mv 22 5,bk 23 .neq 30 22 0]:=.mk
theorem x14_3:XF 14 3 12 [mv 24 5,oa 2 (.assign (.const (.slice none 0 0))),sg 3 24]:=.mk
theorem x14_4:XF 14 4 208 [oa 25 (.makeMap 102 none),oa 26 (.makeMap 102 none),sg 6 25,sg 7 26]:=.mk
theorem x14_5:XF 14 5 464 [oa 8 (.assign (.const (.slice none 0 0)))]:=.mk
theorem x14_6:XF 14 6 7516193216 [mv 27 4,oa 28 (.nilCheck (.tmp 27)),fa 29 105 28 1,ld 30 103 29,oa 31 (.call ⟨.builtin .len,#[.tmp 30],#[103]⟩),oa 32 (.move (.const (.int .i64 (0))))]:=.mk
theorem x14_7:XF 14 7 16106127808 [bo 33 .lss 3 32 31]:=.mk
theorem x14_8:XF 14 8 7516194240 [ia 34 103 30 32,ld 35 108 34,aq 10 108,so 108 10 35]:=.mk
theorem x14_9:XF 14 9 7516196288 [fa 36 108 10 3,ld 37 106 36,oa 38 (.indexAddr 106 (.tmp 37) (.const (.int .i64 (0)))),ld 39 110 38,aq 11 110,so 110 11 39]:=.mk
theorem x14_10:XP 14 10 7516200384 [(1,4),(2,4),(1,5),(2,5)] [mv 40 6,ld 41 110 11,oa 42 (.lookup 102 (.tmp 40) (.tmp 41) false),mv 43 7,ld 44 110 11,oa 45 (.lookup 102 (.tmp 43) (.tmp 44) false),oa 46 (.call ⟨.builtin .max,#[.tmp 42,.tmp 45],#[3,3]⟩),sg 12 46]:=.mk
theorem x14_11:XF 14 11 1970332353174976 [ld 47 108 10,oa 48 (.call ⟨.value (.func 65),#[.tmp 47],#[108]⟩),oa 49 (.call ⟨.builtin .len,#[.tmp 48],#[106]⟩),oa 50 (.move (.const (.int .i64 (0))))]:=.mk
theorem x14_12:XF 14 12 4222132166860224 [bo 51 .lss 3 50 49]:=.mk
theorem x14_13:XF 14 13 1970332353191360 [ia 52 106 48 50,ld 53 110 52,aq 14 110,so 110 14 53]:=.mk
theorem x14_14:XF 14 14 1970332353174976 [mv 54 12,mv 55 6,ld 56 110 14,oa 57 (.lookup 102 (.tmp 55) (.tmp 56) false),oa 58 (.call ⟨.builtin .max,#[.tmp 54,.tmp 57],#[3,3]⟩),sg 12 58]:=.mk
theorem x14_15:XF 14 15 1970332353174976 [bk 59 .add 3 50 1,mv 50 59]:=.mk
theorem x14_16:XF 14 16 7516200384 [mv 60 8,mv 61 12,oa 62 (.buildSlice 22 1 #[(0,.tmp 61)]),oa 63 (.call ⟨.builtin .append,#[.tmp 60,.tmp 62],#[22,22]⟩),sg 8 63]:=.mk
@[simp] theorem imm14_62:K.imm 14 62=false:=by kernel_rfl
@[simp] theorem imm14_63:K.imm 14 63=false:=by kernel_rfl
theorem x14_17:XP 14 17 7516198336 [(1,3),(1,4)] [mv 64 6,ld 65 110 11,mv 66 6,ld 67 110 11,oa 68 (.lookup 102 (.tmp 66) (.tmp 67) false),mv 69 12,bk 70 .add 3 69 1,oa 71 (.call ⟨.builtin .max,#[.tmp 68,.tmp 70],#[3,3]⟩),on (.mapUpdate 102 (.tmp 64) (.tmp 65) (.tmp 71))]:=.mk
theorem x14_18:XF 14 18 66113130760182549189056 [ld 72 108 10,oa 73 (.call ⟨.value (.func 65),#[.tmp 72],#[108]⟩),oa 74 (.call ⟨.builtin .len,#[.tmp 73],#[106]⟩),oa 75 (.move (.const (.int .i64 (0))))]:=.mk
theorem x14_19:XF 14 19 141670994486096872608192 [bo 76 .lss 3 75 74]:=.mk
theorem x14_20:XF 14 20 66113130760182549254592 [ia 77 106 73 75,ld 78 110 77,aq 16 110,so 110 16 78]:=.mk
theorem x14_21:XP 14 21 66113130760182549189056 [(1,3),(1,4)] [mv 79 7,ld 80 110 16,mv 81 7,ld 82 110 16,oa 83 (.lookup 102 (.tmp 81) (.tmp 82) false),mv 84 12,bk 85 .add 3 84 1,oa 86 (.call ⟨.builtin .max,#[.tmp 83,.tmp 85],#[3,3]⟩),on (.mapUpdate 102 (.tmp 79) (.tmp 80) (.tmp 86))]:=.mk
theorem x14_22:XF 14 22 66113130760182549189056 [bk 87 .add 3 75 1,mv 75 87]:=.mk
theorem x14_23:XF 14 23 7516193216 [bk 88 .add 3 32 1,mv 32 88]:=.mk
theorem x14_24:XF 14 24 12 [mv 89 8,sg 2 89,oa 3 (.assign (.const (.int .i64 (0))))]:=.mk
def l14_0:Code:=.seq (rg 14 12) (.seq (.cond (.tmp 51) (.skip) (.exit 2)) (.seq (.block 3 (.seq (rg 14 13) (rg 14 14))) (rg 14 15)))
theorem u14_0 (s:St):execL K 14 l14_0 s=execL K 14 (.seq (rg 14 12) (.seq (.cond (.tmp 51) (.skip) (.exit 2)) (.seq (.block 3 (.seq (rg 14 13) (rg 14 14))) (rg 14 15)))) s:=rfl
def l14_1:Code:=.seq (rg 14 19) (.seq (.cond (.tmp 76) (.skip) (.exit 4)) (.seq (.block 5 (.seq (rg 14 20) (rd 14 21))) (rg 14 22)))
theorem u14_1 (s:St):execL K 14 l14_1 s=execL K 14 (.seq (rg 14 19) (.seq (.cond (.tmp 76) (.skip) (.exit 4)) (.seq (.block 5 (.seq (rg 14 20) (rd 14 21))) (rg 14 22)))) s:=rfl
def l14_2:Code:=.seq (rg 14 7) (.seq (.cond (.tmp 33) (.skip) (.exit 0)) (.seq (.block 1 (.seq (rg 14 8) (.seq (rg 14 9) (.seq (rd 14 10) (.seq (.seq (rg 14 11) (.block 2 (.loop l14_0))) (.seq (rg 14 16) (.seq (rd 14 17) (.seq (rg 14 18) (.block 4 (.loop l14_1)))))))))) (rg 14 23)))
theorem u14_2 (s:St):execL K 14 l14_2 s=execL K 14 (.seq (rg 14 7) (.seq (.cond (.tmp 33) (.skip) (.exit 0)) (.seq (.block 1 (.seq (rg 14 8) (.seq (rg 14 9) (.seq (rd 14 10) (.seq (.seq (rg 14 11) (.block 2 (.loop l14_0))) (.seq (rg 14 16) (.seq (rd 14 17) (.seq (rg 14 18) (.block 4 (.loop l14_1)))))))))) (rg 14 23)))) s:=rfl
def c14:Code:=.seq (rg 14 0) (.seq (rg 14 1) (.seq (.seq (rg 14 2) (.cond (.tmp 23) (.seq (rg 14 3) (.ret)) (.skip))) (.seq (rg 14 4) (.seq (rg 14 5) (.seq (.seq (rg 14 6) (.block 0 (.loop l14_2))) (.seq (rg 14 24) (.ret)))))))
theorem k14:KF 14 [.tmp 2,.tmp 3] 1 c14:=.mk
end
end Mw
/-! The code of (metewand/depend.instance).writes. -/
namespace Mw
open Go Go.Proofs
set_option maxRecDepth 100000
noncomputable section
@[simp] theorem esc192 (t:Nat):K.esc 192 t=false:=by kernel_rfl
theorem x192_0:XF 192 0 2 [bx 1 108 0,oa 2 (.assign (.const (.slice none 0 0)))]:=.mk
theorem x192_1:XF 192 1 4 [fa 3 108 1 3,ld 4 106 3,oa 5 (.slice 106 (.tmp 4) none (some (.const (.int .i64 (1)))) (some (.const (.int .i64 (1))))),sg 2 5]:=.mk
def c192:Code:=.seq (rg 192 0) (.seq (rg 192 1) (.ret))
theorem k192:KF 192 [.tmp 2] 1 c192:=.mk
end
end Mw
/-! The code of (metewand/depend.instance).after. -/
namespace Mw
open Go Go.Proofs
set_option maxRecDepth 100000
noncomputable section
@[simp] theorem esc139 (t:Nat):K.esc 139 t=false:=by kernel_rfl
theorem x139_0:XF 139 0 6 [bx 2 108 0,oa 4 (.assign (.const (.slice none 0 0)))]:=.mk
theorem x139_1:XF 139 1 38 [ld 6 108 2,oa 7 (.makeFunc (.func 65) #[.tmp 6] #[]),oa 8 (.build 234 #[(0,.tmp 7)]),aq 5 234,so 234 5 8]:=.mk
theorem x139_2:XF 139 2 548 [mv 9 1]:=.mk
theorem x139_3:XF 139 3 1572 [bk 11 .eql 3 9 2,sg 10 11]:=.mk
theorem x139_4:XF 139 4 4132 [bk 13 .eql 3 9 3,sg 12 13]:=.mk
theorem x139_5:XF 139 5 32 [ld 14 108 2,oa 15 (.makeFunc (.func 192) #[.tmp 14] #[]),fa 16 234 5 0,so 111 16 15]:=.mk
theorem x139_6:XF 139 6 16 [fa 17 234 5 0,ld 18 111 17,oa 19 (.call ⟨.value (.tmp 18),#[],#[]⟩),sg 4 19]:=.mk
def c139:Code:=.seq (rg 139 0) (.seq (rg 139 1) (.seq (.seq (rg 139 2) (.block 0 (.seq (.block 2 (.block 1 (.seq (.seq (.seq (rg 139 3) (.cond (.tmp 10) (.exit 1) (.skip))) (.seq (rg 139 4) (.cond (.tmp 12) (.exit 2) (.skip)))) (.exit 0)))) (.seq (rg 139 5) (.exit 0))))) (.seq (rg 139 6) (.ret))))
theorem k139:KF 139 [.tmp 4] 1 c139:=.mk
end
end Mw
/-! The code of (metewand/depend.instance).before. -/
namespace Mw
open Go Go.Proofs
set_option maxRecDepth 100000
noncomputable section
@[simp] theorem esc142 (t:Nat):K.esc 142 t=false:=by kernel_rfl
theorem x142_0:XF 142 0 6 [bx 2 108 0,oa 4 (.assign (.const (.slice none 0 0)))]:=.mk
theorem x142_1:XF 142 1 38 [ld 6 108 2,oa 7 (.makeFunc (.func 192) #[.tmp 6] #[]),oa 8 (.build 234 #[(0,.tmp 7)]),aq 5 234,so 234 5 8]:=.mk
theorem x142_2:XF 142 2 1060 [mv 9 1,bk 10 .eql 3 9 2]:=.mk
theorem x142_3:XF 142 3 32 [ld 11 108 2,oa 12 (.makeFunc (.func 65) #[.tmp 11] #[]),fa 13 234 5 0,so 111 13 12]:=.mk
theorem x142_4:XF 142 4 16 [fa 14 234 5 0,ld 15 111 14,oa 16 (.call ⟨.value (.tmp 15),#[],#[]⟩),sg 4 16]:=.mk
def c142:Code:=.seq (rg 142 0) (.seq (rg 142 1) (.seq (.seq (rg 142 2) (.cond (.tmp 10) (rg 142 3) (.skip))) (.seq (rg 142 4) (.ret))))
theorem k142:KF 142 [.tmp 4] 1 c142:=.mk
end
end Mw
/-! The code of slices.Compact[[]int,int]. -/
namespace Mw
open Go Go.Proofs
set_option maxRecDepth 100000
noncomputable section
theorem x141_0:XF 141 0 1 [oa 2 (.assign (.const (.slice none 0 0)))]:=.mk
theorem x141_1:XF 141 1 257 [mv 6 0,oa 7 (.call ⟨.builtin .len,#[.tmp 6],#[22]⟩),bk 8 .lss 3 7 2]:=.mk
theorem x141_2:XF 141 2 4 [mv 9 0,sg 2 9]:=.mk
theorem x141_3:XF 141 3 9 [oa 3 (.assign (.const (.int .i64 (1))))]:=.mk
theorem x141_4:XF 141 4 8201 [mv 10 3,mv 11 0,oa 12 (.call ⟨.builtin .len,#[.tmp 11],#[22]⟩),bo 13 .lss 3 10 12]:=.mk
theorem x141_6:XP 141 6 33554441 [(3,8)] [mv 16 0,mv 17 3,ia 18 22 16 17,ld 19 3 18,mv 20 0,mv 21 3,bk 22 .sub 3 21 1,ia 23 22 20 22,ld 24 3 23,bo 25 .eql 3 19 24]:=.mk
theorem x141_7:XF 141 7 25 [mv 26 0,mv 27 3,oa 28 (.slice 22 (.tmp 26) (some (.tmp 27)) none none),sg 4 28]:=.mk
theorem x141_8:XF 141 8 57 [oa 5 (.assign (.const (.int .i64 (1))))]:=.mk
theorem x141_9:XF 141 9 4294967353 [mv 29 5,mv 30 4,oa 31 (.call ⟨.builtin .len,#[.tmp 30],#[22]⟩),bo 32 .lss 3 29 31]:=.mk
theorem x141_11:XP 141 11 17592186044473 [(3,8)] [mv 35 4,mv 36 5,ia 37 22 35 36,ld 38 3 37,mv 39 4,mv 40 5,bk 41 .sub 3 40 1,ia 42 22 39 41,ld 43 3 42,bo 44 .neq 3 38 43]:=.mk
theorem x141_12:XF 141 12 57 [mv 45 0,mv 46 3,mv 47 4,mv 48 5,ia 49 22 47 48,ld 50 3 49,ia 51 22 45 46,so 3 51 50]:=.mk
theorem x141_13:XF 141 13 57 [mv 52 3,bk 53 .add 3 52 1,sg 3 53]:=.mk
theorem x141_10:XF 141 10 57 [mv 33 5,bk 34 .add 3 33 1,sg 5 34]:=.mk
theorem x141_14:XF 141 14 9 [mv 54 0,mv 55 3,oa 56 (.slice 22 (.tmp 54) (some (.tmp 55)) none none),on (.call ⟨.builtin .clear,#[.tmp 56],#[22]⟩)]:=.mk
theorem x141_15:XF 141 15 4 [mv 57 0,mv 58 3,oa 59 (.slice 22 (.tmp 57) none (some (.tmp 58)) none),sg 2 59]:=.mk
theorem x141_5:XF 141 5 9 [mv 14 3,bk 15 .add 3 14 1,sg 3 15]:=.mk
theorem x141_16:XF 141 16 4 [mv 60 0,sg 2 60]:=.mk
def l141_0:Code:=.seq (.seq (rg 141 9) (.cond (.tmp 32) (.skip) (.exit 2))) (.seq (.block 3 (.seq (rd 141 11) (.cond (.tmp 44) (.seq (rg 141 12) (rg 141 13)) (.skip)))) (rg 141 10))
theorem u141_0 (s:St):execL K 141 l141_0 s=execL K 141 (.seq (.seq (rg 141 9) (.cond (.tmp 32) (.skip) (.exit 2))) (.seq (.block 3 (.seq (rd 141 11) (.cond (.tmp 44) (.seq (rg 141 12) (rg 141 13)) (.skip)))) (rg 141 10))) s:=rfl
def l141_1:Code:=.seq (.seq (rg 141 4) (.cond (.tmp 13) (.skip) (.exit 0))) (.seq (.block 1 (.seq (rd 141 6) (.cond (.tmp 25) (.seq (rg 141 7) (.seq (.seq (rg 141 8) (.block 2 (.loop l141_0))) (.seq (rg 141 14) (.seq (rg 141 15) (.ret))))) (.skip)))) (rg 141 5))
theorem u141_1 (s:St):execL K 141 l141_1 s=execL K 141 (.seq (.seq (rg 141 4) (.cond (.tmp 13) (.skip) (.exit 0))) (.seq (.block 1 (.seq (rd 141 6) (.cond (.tmp 25) (.seq (rg 141 7) (.seq (.seq (rg 141 8) (.block 2 (.loop l141_0))) (.seq (rg 141 14) (.seq (rg 141 15) (.ret))))) (.skip)))) (rg 141 5))) s:=rfl
def c141:Code:=.seq (rg 141 0) (.seq (.seq (rg 141 1) (.cond (.tmp 8) (.seq (rg 141 2) (.ret)) (.skip))) (.seq (.seq (rg 141 3) (.block 0 (.loop l141_1))) (.seq (rg 141 16) (.ret))))
theorem k141:KF 141 [.tmp 2] 1 c141:=.mk
end
end Mw
/-! The code of (*metewand/depend.task).pairs$1. -/
namespace Mw
open Go Go.Proofs
set_option maxRecDepth 100000
noncomputable section
@[simp] theorem esc138 (t:Nat):K.esc 138 t=[42,80].elem t:=by kernel_rfl
theorem x138_0:XF 138 0 95 [oa 16 (.makeMap 130 none),sg 6 16]:=.mk
theorem x138_1:XF 138 1 7340125 [ld 17 99 1,oa 18 (.nilCheck (.tmp 17)),fa 19 105 18 1,ld 20 103 19,oa 21 (.call ⟨.builtin .len,#[.tmp 20],#[103]⟩),oa 22 (.move (.const (.int .i64 (0))))]:=.mk
theorem x138_2:XF 138 2 15728733 [bo 23 .lss 3 22 21]:=.mk
theorem x138_3:XF 138 3 7340381 [ia 24 103 20 22,ld 25 108 24,aq 8 108,so 108 8 25]:=.mk
theorem x138_4:XF 138 4 544211293 [fa 26 108 8 0,ld 27 3 26,ld 28 3 2,bo 29 .eql 3 27 28]:=.mk
theorem x138_5:XF 138 5 7340893 [oa 9 (.assign (.const (.slice none 0 0)))]:=.mk
theorem x138_6:XF 138 6 30072111965 [ld 30 108 8,ld 31 3 3,oa 32 (.call ⟨.value (.func 139),#[.tmp 30,.tmp 31],#[108,3]⟩),oa 33 (.call ⟨.builtin .len,#[.tmp 32],#[106]⟩),oa 34 (.move (.const (.int .i64 (0))))]:=.mk
theorem x138_7:XF 138 7 64431850333 [bo 35 .lss 3 34 33]:=.mk
theorem x138_8:XF 138 8 30072114013 [ia 36 106 32 34,ld 37 110 36,aq 11 110,so 110 11 37]:=.mk
theorem x138_9:XF 138 9 30072111965 [mv 38 9,mv 39 6,ld 40 110 11,oa 41 (.lookup 130 (.tmp 39) (.tmp 40) false),oa 42 (.call ⟨.builtin .append,#[.tmp 38,.tmp 41],#[22,22]⟩),sg 9 42]:=.mk
@[simp] theorem imm138_42:K.imm 138 42=false:=by kernel_rfl
theorem x138_10:XF 138 10 30072111965 [bk 43 .add 3 34 1,mv 34 43]:=.mk
theorem x138_11:XF 138 11 7340893 [mv 44 9,oa 45 (.call ⟨.value (.func 140),#[.tmp 44],#[22]⟩)]:=.mk
theorem x138_12:XF 138 12 985162425827677 [mv 46 9,oa 47 (.call ⟨.value (.func 141),#[.tmp 46],#[22]⟩),oa 48 (.call ⟨.builtin .len,#[.tmp 47],#[22]⟩),oa 49 (.move (.const (.int .i64 (0))))]:=.mk
theorem x138_13:XF 138 13 2111062332670301 [bo 50 .lss 3 49 48]:=.mk
theorem x138_14:XF 138 14 985162425835869 [ia 51 22 47 49,ld 52 3 51,sg 13 52]:=.mk
theorem x138_15:XF 138 15 577445914729251165 [mv 53 0,mv 54 13,fa 55 108 8 1,ld 56 3 55,oa 57 (.build 121 #[(0,.tmp 54),(1,.tmp 56)]),oa 58 (.call ⟨.value (.tmp 53),#[.tmp 57],#[121]⟩),oa 59 (.unOp .not 4 (.tmp 58))]:=.mk
theorem x138_16:XF 138 16 985162425827677 [bk 60 .add 3 49 1,mv 49 60]:=.mk
theorem x138_17:XF 138 17 18446744073716891997 [fa 61 108 8 0,ld 62 3 61,ld 63 3 4,bo 64 .neq 3 62 63]:=.mk
theorem x138_18:XF 138 18 1033017668127742230877 [ld 65 108 8,ld 66 3 3,oa 67 (.call ⟨.value (.func 142),#[.tmp 65,.tmp 66],#[108,3]⟩),oa 68 (.call ⟨.builtin .len,#[.tmp 67],#[106]⟩),oa 69 (.move (.const (.int .i64 (0))))]:=.mk
theorem x138_19:XF 138 19 2213609288845153534301 [bo 70 .lss 3 69 68]:=.mk
theorem x138_20:XF 138 20 1033017668127742263645 [ia 71 106 67 69,ld 72 110 71,aq 15 110,so 110 15 72]:=.mk
theorem x138_21:XF 138 21 1033017668127742230877 [mv 73 6,ld 74 110 15,fa 76 108 8 1,ld 77 3 76,oa 78 (.buildSlice 22 1 #[(0,.tmp 77)]),oa 79 (.mapEntry 130 (.tmp 73) (.tmp 74)),xt 75 79 0,oa 80 (.call ⟨.builtin .append,#[.tmp 75,.tmp 78],#[22,22]⟩),xt 81 79 1,on (.entryStore 130 (.tmp 73) (.tmp 81) (.tmp 80))]:=.mk
@[simp] theorem imm138_78:K.imm 138 78=false:=by kernel_rfl
@[simp] theorem imm138_80:K.imm 138 80=false:=by kernel_rfl
theorem x138_22:XF 138 22 1033017668127742230877 [bk 82 .add 3 69 1,mv 69 82]:=.mk
theorem x138_23:XF 138 23 7340125 [bk 83 .add 3 22 1,mv 22 83]:=.mk
def l138_0:Code:=.seq (rg 138 7) (.seq (.cond (.tmp 35) (.skip) (.exit 2)) (.seq (.block 3 (.seq (rg 138 8) (rg 138 9))) (rg 138 10)))
theorem u138_0 (s:St):execL K 138 l138_0 s=execL K 138 (.seq (rg 138 7) (.seq (.cond (.tmp 35) (.skip) (.exit 2)) (.seq (.block 3 (.seq (rg 138 8) (rg 138 9))) (rg 138 10)))) s:=rfl
def l138_1:Code:=.seq (rg 138 13) (.seq (.cond (.tmp 50) (.skip) (.exit 4)) (.seq (.block 5 (.seq (rg 138 14) (.seq (rg 138 15) (.cond (.tmp 59) (.ret) (.skip))))) (rg 138 16)))
theorem u138_1 (s:St):execL K 138 l138_1 s=execL K 138 (.seq (rg 138 13) (.seq (.cond (.tmp 50) (.skip) (.exit 4)) (.seq (.block 5 (.seq (rg 138 14) (.seq (rg 138 15) (.cond (.tmp 59) (.ret) (.skip))))) (rg 138 16)))) s:=rfl
def l138_2:Code:=.seq (rg 138 19) (.seq (.cond (.tmp 70) (.skip) (.exit 6)) (.seq (.block 7 (.seq (rg 138 20) (rg 138 21))) (rg 138 22)))
theorem u138_2 (s:St):execL K 138 l138_2 s=execL K 138 (.seq (rg 138 19) (.seq (.cond (.tmp 70) (.skip) (.exit 6)) (.seq (.block 7 (.seq (rg 138 20) (rg 138 21))) (rg 138 22)))) s:=rfl
def l138_3:Code:=.seq (rg 138 2) (.seq (.cond (.tmp 23) (.skip) (.exit 0)) (.seq (.block 1 (.seq (rg 138 3) (.seq (.seq (rg 138 4) (.cond (.tmp 29) (.seq (rg 138 5) (.seq (.seq (rg 138 6) (.block 2 (.loop l138_0))) (.seq (rg 138 11) (.seq (rg 138 12) (.block 4 (.loop l138_1)))))) (.skip))) (.seq (.seq (rg 138 17) (.cond (.tmp 64) (.exit 1) (.skip))) (.seq (rg 138 18) (.block 6 (.loop l138_2))))))) (rg 138 23)))
theorem u138_3 (s:St):execL K 138 l138_3 s=execL K 138 (.seq (rg 138 2) (.seq (.cond (.tmp 23) (.skip) (.exit 0)) (.seq (.block 1 (.seq (rg 138 3) (.seq (.seq (rg 138 4) (.cond (.tmp 29) (.seq (rg 138 5) (.seq (.seq (rg 138 6) (.block 2 (.loop l138_0))) (.seq (rg 138 11) (.seq (rg 138 12) (.block 4 (.loop l138_1)))))) (.skip))) (.seq (.seq (rg 138 17) (.cond (.tmp 64) (.exit 1) (.skip))) (.seq (rg 138 18) (.block 6 (.loop l138_2))))))) (rg 138 23)))) s:=rfl
def c138:Code:=.scope (.seq (rg 138 0) (.seq (.label 0) (.seq (rg 138 1) (.block 0 (.loop l138_3)))))
theorem k138:KF 138 [] 1 c138:=.mk
end
end Mw
/-! The code of metewand/metewandref18.AccessOf. -/
namespace Mw
open Go Go.Proofs
set_option maxRecDepth 100000
noncomputable section
@[simp] theorem esc53 (t:Nat):K.esc 53 t=false:=by kernel_rfl
theorem x53_0:XF 53 0 22 [bx 2 47 0,aq 4 39]:=.mk
theorem x53_1:XF 53 1 86 [mv 5 1,bk 6 .eql 3 5 0]:=.mk
theorem x53_2:XF 53 2 16 [fa 7 47 2 1,ld 8 39 7,so 39 4 8]:=.mk
theorem x53_3:XF 53 3 16 [fa 9 47 2 2,ld 10 40 9,mv 11 1,bk 12 .sub 3 11 1,ia 13 40 10 12,ld 14 39 13,so 39 4 14]:=.mk
def c53:Code:=.seq (rg 53 0) (.seq (.seq (rg 53 1) (.cond (.tmp 6) (.seq (rg 53 2) (.ret)) (.skip))) (.seq (rg 53 3) (.ret)))
theorem k53:KF 53 [.cell 4 39] 1 c53:=.mk
end
end Mw
/-! The code of metewand/metewandref18.product. -/
namespace Mw
open Go Go.Proofs
set_option maxRecDepth 100000
noncomputable section
theorem x127_0:XF 127 0 1 [oa 2 (.assign (.const (.int .i64 (0))))]:=.mk
theorem x127_1:XF 127 1 9 [oa 3 (.assign (.const (.int .i64 (1))))]:=.mk
theorem x127_2:XF 127 2 25 [oa 4 (.assign (.const (.int .i64 (0))))]:=.mk
theorem x127_3:XF 127 3 281 [mv 5 4,mv 6 0,oa 7 (.call ⟨.builtin .len,#[.tmp 6],#[22]⟩),bo 8 .lss 3 5 7]:=.mk
theorem x127_5:XF 127 5 25 [mv 11 3,mv 12 0,mv 13 4,ia 14 22 12 13,ld 15 3 14,bo 16 .mul 3 11 15,sg 3 16]:=.mk
theorem x127_4:XF 127 4 25 [mv 9 4,bk 10 .add 3 9 1,sg 4 10]:=.mk
theorem x127_6:XF 127 6 4 [mv 17 3,sg 2 17]:=.mk
def l127_0:Code:=.seq (.seq (rg 127 3) (.cond (.tmp 8) (.skip) (.exit 0))) (.seq (.block 1 (rg 127 5)) (rg 127 4))
theorem u127_0 (s:St):execL K 127 l127_0 s=execL K 127 (.seq (.seq (rg 127 3) (.cond (.tmp 8) (.skip) (.exit 0))) (.seq (.block 1 (rg 127 5)) (rg 127 4))) s:=rfl
def c127:Code:=.seq (rg 127 0) (.seq (rg 127 1) (.seq (.seq (rg 127 2) (.block 0 (.loop l127_0))) (.seq (rg 127 6) (.ret))))
theorem k127:KF 127 [.tmp 2] 1 c127:=.mk
end
end Mw
/-! The code of metewand/metewandref18.FirstOf. -/
namespace Mw
open Go Go.Proofs
set_option maxRecDepth 100000
noncomputable section
@[simp] theorem esc83 (t:Nat):K.esc 83 t=false:=by kernel_rfl
theorem x83_0:XF 83 0 6 [bx 2 28 0,oa 4 (.assign (.const (.int .i64 (0))))]:=.mk
theorem x83_1:XF 83 1 38 [oa 5 (.assign (.const (.int .i64 (0))))]:=.mk
theorem x83_2:XF 83 2 102 [oa 6 (.assign (.const (.int .i64 (0))))]:=.mk
theorem x83_3:XF 83 3 614 [mv 7 6,mv 8 1,bo 9 .lss 3 7 8]:=.mk
theorem x83_5:XF 83 5 102 [mv 12 5,fa 13 28 2 1,ld 14 26 13,mv 15 6,ia 16 26 14 15,fa 17 47 16 0,ld 18 22 17,oa 19 (.call ⟨.value (.func 127),#[.tmp 18],#[22]⟩),bo 20 .add 3 12 19,sg 5 20]:=.mk
theorem x83_4:XF 83 4 102 [mv 10 6,bk 11 .add 3 10 1,sg 6 11]:=.mk
theorem x83_6:XF 83 6 16 [mv 21 5,sg 4 21]:=.mk
def l83_0:Code:=.seq (.seq (rg 83 3) (.cond (.tmp 9) (.skip) (.exit 0))) (.seq (.block 1 (rg 83 5)) (rg 83 4))
theorem u83_0 (s:St):execL K 83 l83_0 s=execL K 83 (.seq (.seq (rg 83 3) (.cond (.tmp 9) (.skip) (.exit 0))) (.seq (.block 1 (rg 83 5)) (rg 83 4))) s:=rfl
def c83:Code:=.seq (rg 83 0) (.seq (rg 83 1) (.seq (.seq (rg 83 2) (.block 0 (.loop l83_0))) (.seq (rg 83 6) (.ret))))
theorem k83:KF 83 [.tmp 4] 1 c83:=.mk
end
end Mw
/-! The code of metewand/metewandref18.CountOf. -/
namespace Mw
open Go Go.Proofs
set_option maxRecDepth 100000
noncomputable section
@[simp] theorem esc61 (t:Nat):K.esc 61 t=false:=by kernel_rfl
theorem x61_0:XF 61 0 2 [bx 1 28 0,oa 2 (.assign (.const (.int .i64 (0))))]:=.mk
theorem x61_1:XF 61 1 4 [ld 3 28 1,fa 4 28 1 1,ld 5 26 4,oa 6 (.call ⟨.builtin .len,#[.tmp 5],#[26]⟩),oa 7 (.call ⟨.value (.func 83),#[.tmp 3,.tmp 6],#[28,3]⟩),sg 2 7]:=.mk
def c61:Code:=.seq (rg 61 0) (.seq (rg 61 1) (.ret))
theorem k61:KF 61 [.tmp 2] 1 c61:=.mk
end
end Mw
/-! The code of metewand/metewandref18.At. -/
namespace Mw
open Go Go.Proofs
set_option maxRecDepth 100000
noncomputable section
@[simp] theorem esc135 (t:Nat):K.esc 135 t=false:=by kernel_rfl
theorem x135_0:XF 135 0 3 [oa 4 (.assign (.const (.slice none 0 0)))]:=.mk
theorem x135_1:XF 135 1 35 [mv 7 0,oa 8 (.call ⟨.builtin .len,#[.tmp 7],#[22]⟩),oa 9 (.makeSlice 22 (.tmp 8) (.tmp 8)),sg 5 9]:=.mk
theorem x135_2:XF 135 2 99 [mv 10 0,oa 11 (.call ⟨.builtin .len,#[.tmp 10],#[22]⟩),bk 12 .sub 3 11 1,sg 6 12]:=.mk
theorem x135_3:XF 135 3 16483 [mv 13 6,bk 14 .geq 3 13 0]:=.mk
theorem x135_5:XP 135 5 99 [(6,12)] [mv 17 5,mv 18 6,mv 19 1,mv 20 0,mv 21 6,ia 22 22 20 21,ld 23 3 22,bo 24 .rem 3 19 23,mv 25 1,mv 26 0,mv 27 6,ia 28 22 26 27,ld 29 3 28,bo 30 .quo 3 25 29,ia 31 22 17 18,so 3 31 24,sg 1 30]:=.mk
theorem x135_4:XF 135 4 99 [mv 15 6,bk 16 .sub 3 15 1,sg 6 16]:=.mk
theorem x135_6:XF 135 6 16 [mv 32 5,sg 4 32]:=.mk
def l135_0:Code:=.seq (.seq (rg 135 3) (.cond (.tmp 14) (.skip) (.exit 0))) (.seq (.block 1 (rd 135 5)) (rg 135 4))
theorem u135_0 (s:St):execL K 135 l135_0 s=execL K 135 (.seq (.seq (rg 135 3) (.cond (.tmp 14) (.skip) (.exit 0))) (.seq (.block 1 (rd 135 5)) (rg 135 4))) s:=rfl
def c135:Code:=.seq (rg 135 0) (.seq (rg 135 1) (.seq (.seq (rg 135 2) (.block 0 (.loop l135_0))) (.seq (rg 135 6) (.ret))))
theorem k135:KF 135 [.tmp 4] 1 c135:=.mk
end
end Mw
/-! The code of metewand/metewandref18.StepOf. -/
namespace Mw
open Go Go.Proofs
set_option maxRecDepth 100000
noncomputable section
@[simp] theorem esc66 (t:Nat):K.esc 66 t=false:=by kernel_rfl
theorem x66_0:XF 66 0 6 [bx 2 28 0,oa 4 (.assign (.const (.int .i64 (0)))),oa 5 (.assign (.const (.slice none 0 0)))]:=.mk
theorem x66_1:XF 66 1 70 [oa 6 (.assign (.const (.int .i64 (0))))]:=.mk
theorem x66_2:XF 66 2 32838 [mv 7 1,fa 8 28 2 1,ld 9 26 8,mv 10 6,ia 11 26 9 10,fa 12 47 11 0,ld 13 22 12,oa 14 (.call ⟨.value (.func 127),#[.tmp 13],#[22]⟩),bo 15 .geq 3 7 14]:=.mk
theorem x66_3:XF 66 3 70 [mv 16 1,fa 17 28 2 1,ld 18 26 17,mv 19 6,ia 20 26 18 19,fa 21 47 20 0,ld 22 22 21,oa 23 (.call ⟨.value (.func 127),#[.tmp 22],#[22]⟩),bo 24 .sub 3 16 23,sg 1 24]:=.mk
theorem x66_4:XF 66 4 70 [mv 25 6,bk 26 .add 3 25 1,sg 6 26]:=.mk
theorem x66_5:XF 66 5 48 [mv 27 6,fa 28 28 2 1,ld 29 26 28,mv 30 6,ia 31 26 29 30,fa 32 47 31 0,ld 33 22 32,mv 34 1,oa 35 (.call ⟨.value (.func 135),#[.tmp 33,.tmp 34],#[22,3]⟩),sg 4 27,sg 5 35]:=.mk
def l66_0:Code:=.seq (.seq (rg 66 2) (.cond (.tmp 15) (.skip) (.exit 0))) (.block 1 (.seq (rg 66 3) (rg 66 4)))
theorem u66_0 (s:St):execL K 66 l66_0 s=execL K 66 (.seq (.seq (rg 66 2) (.cond (.tmp 15) (.skip) (.exit 0))) (.block 1 (.seq (rg 66 3) (rg 66 4)))) s:=rfl
def c66:Code:=.seq (rg 66 0) (.seq (rg 66 1) (.seq (.block 0 (.loop l66_0)) (.seq (rg 66 5) (.ret))))
theorem k66:KF 66 [.tmp 4,.tmp 5] 1 c66:=.mk
end
end Mw
/-! The code of metewand/metewandref18.ValueOf. -/
namespace Mw
open Go Go.Proofs
set_option maxRecDepth 100000
noncomputable section
@[simp] theorem esc136 (t:Nat):K.esc 136 t=false:=by kernel_rfl
theorem x136_0:XF 136 0 6 [bx 2 142 0,oa 4 (.assign (.const (.int .i64 (0))))]:=.mk
theorem x136_1:XF 136 1 38 [fa 7 142 2 0,ld 8 3 7,sg 5 8]:=.mk
theorem x136_2:XF 136 2 102 [oa 6 (.assign (.const (.int .i64 (0))))]:=.mk
theorem x136_3:XF 136 3 4198 [mv 9 6,mv 10 1,oa 11 (.call ⟨.builtin .len,#[.tmp 10],#[22]⟩),bo 12 .lss 3 9 11]:=.mk
theorem x136_5:XP 136 5 102 [(2,9),(5,9)] [mv 15 5,fa 16 142 2 1,ld 17 22 16,mv 18 6,ia 19 22 17 18,ld 20 3 19,mv 21 1,mv 22 6,ia 23 22 21 22,ld 24 3 23,bo 25 .mul 3 20 24,bo 26 .add 3 15 25,sg 5 26]:=.mk
theorem x136_4:XF 136 4 102 [mv 13 6,bk 14 .add 3 13 1,sg 6 14]:=.mk
theorem x136_6:XF 136 6 16 [mv 27 5,sg 4 27]:=.mk
def l136_0:Code:=.seq (.seq (rg 136 3) (.cond (.tmp 12) (.skip) (.exit 0))) (.seq (.block 1 (rd 136 5)) (rg 136 4))
theorem u136_0 (s:St):execL K 136 l136_0 s=execL K 136 (.seq (.seq (rg 136 3) (.cond (.tmp 12) (.skip) (.exit 0))) (.seq (.block 1 (rd 136 5)) (rg 136 4))) s:=rfl
def c136:Code:=.seq (rg 136 0) (.seq (rg 136 1) (.seq (.seq (rg 136 2) (.block 0 (.loop l136_0))) (.seq (rg 136 6) (.ret))))
theorem k136:KF 136 [.tmp 4] 1 c136:=.mk
end
end Mw
/-! The code of metewand/metewandref18.numberAt. -/
namespace Mw
open Go Go.Proofs
set_option maxRecDepth 100000
noncomputable section
theorem x137_0:XF 137 0 3 [oa 4 (.assign (.const (.int .i64 (0))))]:=.mk
theorem x137_1:XF 137 1 35 [oa 5 (.assign (.const (.int .i64 (0))))]:=.mk
theorem x137_2:XF 137 2 99 [oa 6 (.assign (.const (.int .i64 (0))))]:=.mk
theorem x137_3:XF 137 3 1123 [mv 7 6,mv 8 0,oa 9 (.call ⟨.builtin .len,#[.tmp 8],#[22]⟩),bo 10 .lss 3 7 9]:=.mk
theorem x137_5:XP 137 5 99 [(4,9)] [mv 13 5,mv 14 0,mv 15 6,ia 16 22 14 15,ld 17 3 16,bo 18 .mul 3 13 17,mv 19 1,mv 20 6,ia 21 22 19 20,ld 22 3 21,bo 23 .add 3 18 22,sg 5 23]:=.mk
theorem x137_4:XF 137 4 99 [mv 11 6,bk 12 .add 3 11 1,sg 6 12]:=.mk
theorem x137_6:XF 137 6 16 [mv 24 5,sg 4 24]:=.mk
def l137_0:Code:=.seq (.seq (rg 137 3) (.cond (.tmp 10) (.skip) (.exit 0))) (.seq (.block 1 (rd 137 5)) (rg 137 4))
theorem u137_0 (s:St):execL K 137 l137_0 s=execL K 137 (.seq (.seq (rg 137 3) (.cond (.tmp 10) (.skip) (.exit 0))) (.seq (.block 1 (rd 137 5)) (rg 137 4))) s:=rfl
def c137:Code:=.seq (rg 137 0) (.seq (rg 137 1) (.seq (.seq (rg 137 2) (.block 0 (.loop l137_0))) (.seq (rg 137 6) (.ret))))
theorem k137:KF 137 [.tmp 4] 1 c137:=.mk
end
end Mw
/-! The code of metewand/metewandref18.CellOf. -/
namespace Mw
open Go Go.Proofs
set_option maxRecDepth 100000
noncomputable section
@[simp] theorem esc67 (t:Nat):K.esc 67 t=false:=by kernel_rfl
theorem x67_0:XF 67 0 30 [bx 4 28 0,oa 8 (.assign (.const (.int .i64 (0))))]:=.mk
theorem x67_1:XF 67 1 536 [fa 12 28 4 1,ld 13 26 12,mv 14 1,ia 15 26 13 14,ld 16 47 15,mv 17 2,oa 18 (.call ⟨.value (.func 53),#[.tmp 16,.tmp 17],#[47,3]⟩),aq 9 39,so 39 9 18]:=.mk
theorem x67_2:XF 67 2 1560 [oa 10 (.assign (.const (.slice none 0 0)))]:=.mk
theorem x67_3:XF 67 3 3608 [oa 11 (.assign (.const (.int .i64 (0))))]:=.mk
theorem x67_4:XF 67 4 8392216 [mv 19 11,fa 20 39 9 1,ld 21 37 20,oa 22 (.call ⟨.builtin .len,#[.tmp 21],#[37]⟩),bo 23 .lss 3 19 22]:=.mk
theorem x67_6:XF 67 6 3608 [mv 26 10,fa 27 39 9 1,ld 28 37 27,mv 29 11,ia 30 37 28 29,ld 31 142 30,mv 32 3,oa 33 (.call ⟨.value (.func 136),#[.tmp 31,.tmp 32],#[142,22]⟩),oa 34 (.buildSlice 22 1 #[(0,.tmp 33)]),oa 35 (.call ⟨.builtin .append,#[.tmp 26,.tmp 34],#[22,22]⟩),sg 10 35]:=.mk
@[simp] theorem imm67_34:K.imm 67 34=false:=by kernel_rfl
@[simp] theorem imm67_35:K.imm 67 35=false:=by kernel_rfl
theorem x67_5:XF 67 5 3608 [mv 24 11,bk 25 .add 3 24 1,sg 11 25]:=.mk
theorem x67_7:XF 67 7 256 [fa 36 28 4 0,ld 37 25 36,fa 38 39 9 0,ld 39 3 38,ia 40 25 37 39,fa 41 168 40 1,ld 42 22 41,mv 43 10,oa 44 (.call ⟨.value (.func 137),#[.tmp 42,.tmp 43],#[22,22]⟩),sg 8 44]:=.mk
def l67_0:Code:=.seq (.seq (rg 67 4) (.cond (.tmp 23) (.skip) (.exit 0))) (.seq (.block 1 (rg 67 6)) (rg 67 5))
theorem u67_0 (s:St):execL K 67 l67_0 s=execL K 67 (.seq (.seq (rg 67 4) (.cond (.tmp 23) (.skip) (.exit 0))) (.seq (.block 1 (rg 67 6)) (rg 67 5))) s:=rfl
def c67:Code:=.seq (rg 67 0) (.seq (rg 67 1) (.seq (rg 67 2) (.seq (.seq (rg 67 3) (.block 0 (.loop l67_0))) (.seq (rg 67 7) (.ret)))))
theorem k67:KF 67 [.tmp 8] 1 c67:=.mk
end
end Mw
/-! The code of metewand/metewandref19.Table. -/
namespace Mw
open Go Go.Proofs
set_option maxRecDepth 100000
noncomputable section
@[simp] theorem esc15 (t:Nat):K.esc 15 t=false:=by kernel_rfl
theorem x15_0:XF 15 0 2 [bx 1 28 0,oa 2 (.assign (.const (.slice none 0 0)))]:=.mk
theorem x15_1:XF 15 1 10 [oa 3 (.assign (.const (.slice none 0 0)))]:=.mk
theorem x15_2:XF 15 2 26 [oa 4 (.assign (.const (.int .i64 (0))))]:=.mk
theorem x15_3:XF 15 3 4122 [mv 9 4,ld 10 28 1,oa 11 (.call ⟨.value (.func 61),#[.tmp 10],#[28]⟩),bo 12 .lss 3 9 11]:=.mk
theorem x15_5:XF 15 5 122 [ld 16 28 1,mv 17 4,oa 18 (.call ⟨.value (.func 66),#[.tmp 16,.tmp 17],#[28,3]⟩),mv 15 18,xt 19 15 0,xt 20 15 1,sg 5 19,sg 6 20]:=.mk
theorem x15_6:XF 15 6 250 [oa 7 (.assign (.const (.slice none 0 0)))]:=.mk
theorem x15_7:XF 15 7 506 [oa 8 (.assign (.const (.int .i64 (0))))]:=.mk
theorem x15_8:XF 15 8 536871418 [mv 21 8,fa 22 28 1 1,ld 23 26 22,mv 24 5,ia 25 26 23 24,fa 26 47 25 2,ld 27 40 26,oa 28 (.call ⟨.builtin .len,#[.tmp 27],#[40]⟩),bo 29 .leq 3 21 28]:=.mk
theorem x15_10:XP 15 10 506 [(2,9),(5,9),(7,9)] [mv 32 7,fa 33 28 1 1,ld 34 26 33,mv 35 5,ia 36 26 34 35,ld 37 47 36,mv 38 8,oa 39 (.call ⟨.value (.func 53),#[.tmp 37,.tmp 38],#[47,3]⟩),oa 40 (.field 39 (.tmp 39) 0),ld 41 28 1,mv 42 5,mv 43 8,mv 44 6,oa 45 (.call ⟨.value (.func 67),#[.tmp 41,.tmp 42,.tmp 43,.tmp 44],#[28,3,3,22]⟩),oa 46 (.build 86 #[(0,.tmp 40),(1,.tmp 45)]),oa 47 (.buildSlice 87 1 #[(0,.tmp 46)]),oa 48 (.call ⟨.builtin .append,#[.tmp 32,.tmp 47],#[87,87]⟩),sg 7 48]:=.mk
@[simp] theorem imm15_47:K.imm 15 47=false:=by kernel_rfl
@[simp] theorem imm15_48:K.imm 15 48=false:=by kernel_rfl
theorem x15_9:XF 15 9 506 [mv 30 8,bk 31 .add 3 30 1,sg 8 31]:=.mk
theorem x15_11:XF 15 11 26 [mv 49 3,mv 50 7,oa 51 (.buildSlice 33 1 #[(0,.tmp 50)]),oa 52 (.call ⟨.builtin .append,#[.tmp 49,.tmp 51],#[33,33]⟩),sg 3 52]:=.mk
@[simp] theorem imm15_51:K.imm 15 51=false:=by kernel_rfl
@[simp] theorem imm15_52:K.imm 15 52=false:=by kernel_rfl
theorem x15_4:XF 15 4 26 [mv 13 4,bk 14 .add 3 13 1,sg 4 14]:=.mk
theorem x15_12:XF 15 12 4 [mv 53 3,sg 2 53]:=.mk
def l15_0:Code:=.seq (.seq (rg 15 8) (.cond (.tmp 29) (.skip) (.exit 2))) (.seq (.block 3 (rd 15 10)) (rg 15 9))
theorem u15_0 (s:St):execL K 15 l15_0 s=execL K 15 (.seq (.seq (rg 15 8) (.cond (.tmp 29) (.skip) (.exit 2))) (.seq (.block 3 (rd 15 10)) (rg 15 9))) s:=rfl
def l15_1:Code:=.seq (.seq (rg 15 3) (.cond (.tmp 12) (.skip) (.exit 0))) (.seq (.block 1 (.seq (rg 15 5) (.seq (rg 15 6) (.seq (.seq (rg 15 7) (.block 2 (.loop l15_0))) (rg 15 11))))) (rg 15 4))
theorem u15_1 (s:St):execL K 15 l15_1 s=execL K 15 (.seq (.seq (rg 15 3) (.cond (.tmp 12) (.skip) (.exit 0))) (.seq (.block 1 (.seq (rg 15 5) (.seq (rg 15 6) (.seq (.seq (rg 15 7) (.block 2 (.loop l15_0))) (rg 15 11))))) (rg 15 4))) s:=rfl
def c15:Code:=.seq (rg 15 0) (.seq (rg 15 1) (.seq (.seq (rg 15 2) (.block 0 (.loop l15_1))) (.seq (rg 15 12) (.ret))))
theorem k15:KF 15 [.tmp 2] 1 c15:=.mk
end
end Mw
/-! The code of slices.IndexFunc[[]int,int]. -/
namespace Mw
open Go Go.Proofs
set_option maxRecDepth 100000
noncomputable section
theorem x70_0:XF 70 0 3 [oa 4 (.assign (.const (.int .i64 (0))))]:=.mk
theorem x70_1:XF 70 1 387 [mv 6 0,oa 7 (.call ⟨.builtin .len,#[.tmp 6],#[22]⟩),oa 8 (.move (.const (.int .i64 (0))))]:=.mk
theorem x70_2:XF 70 2 899 [bo 9 .lss 3 8 7]:=.mk
theorem x70_3:XF 70 3 419 [mv 10 8,sg 5 10]:=.mk
theorem x70_4:XF 70 4 65955 [mv 11 1,mv 12 0,mv 13 5,ia 14 22 12 13,ld 15 3 14,oa 16 (.call ⟨.value (.tmp 11),#[.tmp 15],#[3]⟩)]:=.mk
theorem x70_5:XF 70 5 16 [mv 17 5,sg 4 17]:=.mk
theorem x70_6:XF 70 6 387 [bk 18 .add 3 8 1,mv 8 18]:=.mk
theorem x70_7:XF 70 7 16 [oa 4 (.assign (.const (.int .i64 (-1))))]:=.mk
def l70_0:Code:=.seq (rg 70 2) (.seq (.cond (.tmp 9) (.skip) (.exit 0)) (.seq (.block 1 (.seq (rg 70 3) (.seq (rg 70 4) (.cond (.tmp 16) (.seq (rg 70 5) (.ret)) (.skip))))) (rg 70 6)))
theorem u70_0 (s:St):execL K 70 l70_0 s=execL K 70 (.seq (rg 70 2) (.seq (.cond (.tmp 9) (.skip) (.exit 0)) (.seq (.block 1 (.seq (rg 70 3) (.seq (rg 70 4) (.cond (.tmp 16) (.seq (rg 70 5) (.ret)) (.skip))))) (rg 70 6)))) s:=rfl
def c70:Code:=.seq (rg 70 0) (.seq (.seq (rg 70 1) (.block 0 (.loop l70_0))) (.seq (rg 70 7) (.ret)))
theorem k70:KF 70 [.tmp 4] 1 c70:=.mk
end
end Mw
/-! The code of metewand/depend.Free$1. -/
namespace Mw
open Go Go.Proofs
set_option maxRecDepth 100000
noncomputable section
theorem x72_0:XF 72 0 1 [oa 2 (.assign (.const (.bool false)))]:=.mk
theorem x72_1:XF 72 1 4 [mv 3 0,bk 4 .neq 3 3 0,sg 2 4]:=.mk
def c72:Code:=.seq (rg 72 0) (.seq (rg 72 1) (.ret))
theorem k72:KF 72 [.tmp 2] 1 c72:=.mk
end
end Mw
/-! The code of (*metewand/depend.task).difference. -/
namespace Mw
open Go Go.Proofs
set_option maxRecDepth 100000
noncomputable section
@[simp] theorem esc71 (t:Nat):K.esc 71 t=false:=by kernel_rfl
theorem x71_0:XF 71 0 9 [bx 3 121 1,oa 4 (.assign (.const (.slice none 0 0)))]:=.mk
theorem x71_1:XP 71 1 96 [(3,5),(3,12),(5,12),(8,12),(3,14),(5,14),(8,14),(12,14),(3,17),(5,17),(8,17)] [mv 9 0,oa 10 (.nilCheck (.tmp 9)),fa 11 105 10 1,ld 12 103 11,fa 13 121 3 0,ld 14 3 13,ia 15 103 12 14,fa 16 108 15 2,ld 17 22 16,mv 18 0,oa 19 (.nilCheck (.tmp 18)),fa 20 105 19 1,ld 21 103 20,fa 22 121 3 1,ld 23 3 22,ia 24 103 21 23,fa 25 108 24 2,ld 26 22 25,sg 5 17,sg 6 26]:=.mk
theorem x71_2:XF 71 2 224 [oa 7 (.assign (.const (.slice none 0 0)))]:=.mk
theorem x71_3:XF 71 3 6442451168 [mv 27 5,oa 28 (.call ⟨.builtin .len,#[.tmp 27],#[22]⟩),mv 29 6,oa 30 (.call ⟨.builtin .len,#[.tmp 29],#[22]⟩),oa 31 (.call ⟨.builtin .min,#[.tmp 28,.tmp 30],#[3,3]⟩),oa 32 (.move (.const (.int .i64 (0))))]:=.mk
theorem x71_4:XF 71 4 15032385760 [bo 33 .lss 3 32 31]:=.mk
theorem x71_5:XF 71 5 6442451424 [mv 34 32,sg 8 34]:=.mk
theorem x71_6:XP 71 6 6442451168 [(4,8)] [mv 35 7,mv 36 6,mv 37 8,ia 38 22 36 37,ld 39 3 38,mv 40 5,mv 41 8,ia 42 22 40 41,ld 43 3 42,bo 44 .sub 3 39 43,oa 45 (.buildSlice 22 1 #[(0,.tmp 44)]),oa 46 (.call ⟨.builtin .append,#[.tmp 35,.tmp 45],#[22,22]⟩),sg 7 46]:=.mk
@[simp] theorem imm71_45:K.imm 71 45=false:=by kernel_rfl
@[simp] theorem imm71_46:K.imm 71 46=false:=by kernel_rfl
theorem x71_7:XF 71 7 6442451168 [bk 47 .add 3 32 1,mv 32 47]:=.mk
theorem x71_8:XF 71 8 16 [mv 48 7,sg 4 48]:=.mk
def l71_0:Code:=.seq (rg 71 4) (.seq (.cond (.tmp 33) (.skip) (.exit 0)) (.seq (.block 1 (.seq (rg 71 5) (rd 71 6))) (rg 71 7)))
theorem u71_0 (s:St):execL K 71 l71_0 s=execL K 71 (.seq (rg 71 4) (.seq (.cond (.tmp 33) (.skip) (.exit 0)) (.seq (.block 1 (.seq (rg 71 5) (rd 71 6))) (rg 71 7)))) s:=rfl
def c71:Code:=.seq (rg 71 0) (.seq (rd 71 1) (.seq (rg 71 2) (.seq (.seq (rg 71 3) (.block 0 (.loop l71_0))) (.seq (rg 71 8) (.ret)))))
theorem k71:KF 71 [.tmp 4] 1 c71:=.mk
end
end Mw
/-! The code of (*metewand/depend.task).pairs. -/
namespace Mw
open Go Go.Proofs
set_option maxRecDepth 100000
noncomputable section
@[simp] theorem esc69 (t:Nat):K.esc 69 t=[4,5,6,7].elem t:=by kernel_rfl
theorem x69_0:XF 69 0 240 [bx 4 99 0,bx 5 3 1,bx 6 3 2,bx 7 3 3,oa 8 (.assign (.const (.nilFunc)))]:=.mk
theorem x69_1:XF 69 1 256 [oa 9 (.makeFunc (.func 138) #[] #[.tmp 4,.tmp 6,.tmp 7,.tmp 5]),sg 8 9]:=.mk
def c69:Code:=.seq (rg 69 0) (.seq (rg 69 1) (.ret))
theorem k69:KF 69 [.tmp 8] 1 c69:=.mk
end
end Mw
/-! The code of metewand/depend.Free. -/
namespace Mw
open Go Go.Proofs
set_option maxRecDepth 100000
noncomputable section
@[simp] theorem esc17 (t:Nat):K.esc 17 t=[8].elem t:=by kernel_rfl
theorem x17_0:XF 17 0 54 [bx 2 28 0,oa 4 (.assign (.const (.slice none 0 0))),oa 5 (.assign (.const (.int .i64 (0))))]:=.mk
theorem x17_1:XF 17 1 242 [ld 15 28 2,oa 16 (.call ⟨.value (.func 64),#[.tmp 15],#[28]⟩),mv 14 16,xt 17 14 0,xt 18 14 1,aq 6 99,so 99 6 17,sg 7 18]:=.mk
theorem x17_2:XF 17 2 1048818 [mv 19 7,bk 20 .neq 30 19 0]:=.mk
theorem x17_3:XF 17 3 48 [mv 21 7,oa 4 (.assign (.const (.slice none 0 0))),sg 5 21]:=.mk
theorem x17_4:XF 17 4 33554546 [ld 22 99 6,mv 23 1,oa 24 (.call ⟨.value (.func 68),#[.tmp 22,.tmp 23],#[99,3]⟩),oa 25 (.unOp .not 4 (.tmp 24))]:=.mk
theorem x17_5:XF 17 5 48 [oa 4 (.assign (.const (.slice none 0 0))),oa 5 (.assign (.const (.int .i64 (3))))]:=.mk
theorem x17_6:XF 17 6 370 [aq 8 116]:=.mk
theorem x17_7:XF 17 7 882 [oa 9 (.assign (.const (.int .i64 (1))))]:=.mk
theorem x17_8:XF 17 8 134218610 [mv 26 9,bk 27 .leq 3 26 3]:=.mk
theorem x17_10:XF 17 10 17179870066 [ld 30 99 6,mv 31 1,mv 32 1,mv 33 9,oa 34 (.call ⟨.value (.func 69),#[.tmp 30,.tmp 31,.tmp 32,.tmp 33],#[99,3,3,3]⟩)]:=.mk
theorem x17_11:XF 17 11 1344 [aq 10 121,so 121 10 35]:=.mk
theorem x17_12:XF 17 12 2304 [ld 36 99 6,ld 37 121 10,oa 38 (.call ⟨.value (.func 71),#[.tmp 36,.tmp 37],#[99,121]⟩),oa 39 (.call ⟨.value (.func 70),#[.tmp 38,.func 72],#[22,115]⟩),sg 11 39]:=.mk
theorem x17_13:XF 17 13 0 [mv 40 11,ia 41 116 8 40,on (.store 4 (.tmp 41) (.const (.bool true)))]:=.mk
theorem x17_9:XF 17 9 882 [mv 28 9,bk 29 .add 3 28 1,sg 9 29]:=.mk
theorem x17_14:XF 17 14 4418 [oa 12 (.assign (.const (.slice none 0 0)))]:=.mk
theorem x17_15:XF 17 15 6755399441060096 [ld 42 99 6,oa 43 (.nilCheck (.tmp 42)),fa 44 105 43 0,fa 45 28 44 1,ld 46 26 45,mv 47 1,ia 48 26 46 47,fa 49 47 48 0,ld 50 22 49,oa 51 (.call ⟨.builtin .len,#[.tmp 50],#[22]⟩),oa 52 (.move (.const (.int .i64 (0))))]:=.mk
theorem x17_16:XF 17 16 15762598695801088 [bo 53 .lss 3 52 51]:=.mk
theorem x17_17:XF 17 17 6755399441068288 [mv 54 52,sg 13 54]:=.mk
theorem x17_18:XF 17 18 294985775592780032 [mv 55 13,ia 56 116 8 55,ld 57 4 56,oa 58 (.unOp .not 4 (.tmp 57))]:=.mk
theorem x17_19:XF 17 19 6755399441060096 [mv 59 12,mv 60 13,oa 61 (.buildSlice 22 1 #[(0,.tmp 60)]),oa 62 (.call ⟨.builtin .append,#[.tmp 59,.tmp 61],#[22,22]⟩),sg 12 62]:=.mk
@[simp] theorem imm17_61:K.imm 17 61=false:=by kernel_rfl
@[simp] theorem imm17_62:K.imm 17 62=false:=by kernel_rfl
theorem x17_20:XF 17 20 6755399441060096 [bk 63 .add 3 52 1,mv 52 63]:=.mk
theorem x17_21:XF 17 21 48 [mv 64 12,sg 4 64,oa 5 (.assign (.const (.int .i64 (0))))]:=.mk
def a17_0:Code:=rg 17 11
def d17_0:Code:=.block 3 (.seq (rg 17 12) (rg 17 13))
def l17_1:Code:=.seq (.seq (rg 17 8) (.cond (.tmp 27) (.skip) (.exit 0))) (.seq (.block 1 (.seq (rg 17 10) (.block 2 (.rangeFunc (.tmp 34) #[35] a17_0 d17_0)))) (rg 17 9))
theorem u17_1 (s:St):execL K 17 l17_1 s=execL K 17 (.seq (.seq (rg 17 8) (.cond (.tmp 27) (.skip) (.exit 0))) (.seq (.block 1 (.seq (rg 17 10) (.block 2 (.rangeFunc (.tmp 34) #[35] a17_0 d17_0)))) (rg 17 9))) s:=rfl
def l17_2:Code:=.seq (rg 17 16) (.seq (.cond (.tmp 53) (.skip) (.exit 4)) (.seq (.block 5 (.seq (rg 17 17) (.seq (rg 17 18) (.cond (.tmp 58) (rg 17 19) (.skip))))) (rg 17 20)))
theorem u17_2 (s:St):execL K 17 l17_2 s=execL K 17 (.seq (rg 17 16) (.seq (.cond (.tmp 53) (.skip) (.exit 4)) (.seq (.block 5 (.seq (rg 17 17) (.seq (rg 17 18) (.cond (.tmp 58) (rg 17 19) (.skip))))) (rg 17 20)))) s:=rfl
def c17:Code:=.seq (rg 17 0) (.seq (rg 17 1) (.seq (.seq (rg 17 2) (.cond (.tmp 20) (.seq (rg 17 3) (.ret)) (.skip))) (.seq (.seq (rg 17 4) (.cond (.tmp 25) (.seq (rg 17 5) (.ret)) (.skip))) (.seq (rg 17 6) (.seq (.seq (rg 17 7) (.block 0 (.loop l17_1))) (.seq (rg 17 14) (.seq (.seq (rg 17 15) (.block 4 (.loop l17_2))) (.seq (rg 17 21) (.ret)))))))))
theorem k17:KF 17 [.tmp 4,.tmp 5] 1 c17:=.mk
end
end Mw
/-! The code of metewand/metewandref19.Has. -/
namespace Mw
open Go Go.Proofs
set_option maxRecDepth 100000
noncomputable section
theorem x52_0:XF 52 0 15 [oa 8 (.assign (.const (.bool false)))]:=.mk
theorem x52_1:XF 52 1 32783 [mv 13 1,mv 14 2,bo 15 .geq 3 13 14]:=.mk
theorem x52_2:XF 52 2 256 [oa 8 (.assign (.const (.bool false)))]:=.mk
theorem x52_3:XP 52 3 1544 [(3,7)] [mv 16 0,mv 17 1,ia 18 33 16 17,ld 19 87 18,mv 20 0,mv 21 2,ia 22 33 20 21,ld 23 87 22,sg 9 19,sg 10 23]:=.mk
theorem x52_4:XF 52 4 16778752 [mv 24 3]:=.mk
theorem x52_5:XF 52 5 50333184 [bk 26 .eql 3 24 3,sg 25 26]:=.mk
theorem x52_6:XP 52 6 256 [(2,5)] [mv 27 9,oa 28 (.indexAddr 87 (.tmp 27) (.const (.int .i64 (0)))),ld 29 86 28,mv 30 10,oa 31 (.indexAddr 87 (.tmp 30) (.const (.int .i64 (0)))),ld 32 86 31,bo 33 .eql 86 29 32,sg 8 33]:=.mk
theorem x52_7:XF 52 7 17179870720 [bk 35 .eql 3 24 2,sg 34 35]:=.mk
theorem x52_8:XF 52 8 3584 [oa 11 (.assign (.const (.int .i64 (1))))]:=.mk
theorem x52_9:XF 52 9 549755817472 [mv 36 11,mv 37 9,oa 38 (.call ⟨.builtin .len,#[.tmp 37],#[87]⟩),bo 39 .lss 3 36 38]:=.mk
theorem x52_11:XP 52 11 562949953424896 [(3,6)] [mv 42 9,mv 43 11,ia 44 87 42 43,ld 45 86 44,mv 46 10,oa 47 (.indexAddr 87 (.tmp 46) (.const (.int .i64 (0)))),ld 48 86 47,bo 49 .eql 86 45 48]:=.mk
theorem x52_12:XF 52 12 256 [oa 8 (.assign (.const (.bool true)))]:=.mk
theorem x52_10:XF 52 10 3584 [mv 40 11,bk 41 .add 3 40 1,sg 11 41]:=.mk
theorem x52_13:XF 52 13 256 [oa 8 (.assign (.const (.bool false)))]:=.mk
theorem x52_14:XF 52 14 5632 [oa 12 (.assign (.const (.int .i64 (1))))]:=.mk
theorem x52_15:XF 52 15 9007199254746624 [mv 50 12,mv 51 10,oa 52 (.call ⟨.builtin .len,#[.tmp 51],#[87]⟩),bo 53 .lss 3 50 52]:=.mk
theorem x52_17:XP 52 17 9223372036854781440 [(3,6)] [mv 56 10,mv 57 12,ia 58 87 56 57,ld 59 86 58,mv 60 9,oa 61 (.indexAddr 87 (.tmp 60) (.const (.int .i64 (0)))),ld 62 86 61,bo 63 .eql 86 59 62]:=.mk
theorem x52_18:XF 52 18 256 [oa 8 (.assign (.const (.bool true)))]:=.mk
theorem x52_16:XF 52 16 5632 [mv 54 12,bk 55 .add 3 54 1,sg 12 55]:=.mk
theorem x52_19:XF 52 19 256 [oa 8 (.assign (.const (.bool false)))]:=.mk
def l52_0:Code:=.seq (.seq (rg 52 9) (.cond (.tmp 39) (.skip) (.exit 1))) (.seq (.block 2 (.seq (rd 52 11) (.cond (.tmp 49) (.seq (rg 52 12) (.ret)) (.skip)))) (rg 52 10))
theorem u52_0 (s:St):execL K 52 l52_0 s=execL K 52 (.seq (.seq (rg 52 9) (.cond (.tmp 39) (.skip) (.exit 1))) (.seq (.block 2 (.seq (rd 52 11) (.cond (.tmp 49) (.seq (rg 52 12) (.ret)) (.skip)))) (rg 52 10))) s:=rfl
def l52_1:Code:=.seq (.seq (rg 52 15) (.cond (.tmp 53) (.skip) (.exit 3))) (.seq (.block 4 (.seq (rd 52 17) (.cond (.tmp 63) (.seq (rg 52 18) (.ret)) (.skip)))) (rg 52 16))
theorem u52_1 (s:St):execL K 52 l52_1 s=execL K 52 (.seq (.seq (rg 52 15) (.cond (.tmp 53) (.skip) (.exit 3))) (.seq (.block 4 (.seq (rd 52 17) (.cond (.tmp 63) (.seq (rg 52 18) (.ret)) (.skip)))) (rg 52 16))) s:=rfl
def c52:Code:=.seq (rg 52 0) (.seq (.seq (rg 52 1) (.cond (.tmp 15) (.seq (rg 52 2) (.ret)) (.skip))) (.seq (rd 52 3) (.seq (.seq (rg 52 4) (.block 0 (.seq (rg 52 5) (.cond (.tmp 25) (.seq (rd 52 6) (.ret)) (.seq (rg 52 7) (.cond (.tmp 34) (.seq (.seq (rg 52 8) (.block 1 (.loop l52_0))) (.seq (rg 52 13) (.ret))) (.skip))))))) (.seq (.seq (rg 52 14) (.block 3 (.loop l52_1))) (.seq (rg 52 19) (.ret))))))
theorem k52:KF 52 [.tmp 8] 1 c52:=.mk
end
end Mw
/-! The code of metewand/metewandref19.On. -/
namespace Mw
open Go Go.Proofs
set_option maxRecDepth 100000
noncomputable section
theorem x16_0:XF 16 0 7 [oa 6 (.assign (.const (.bool false)))]:=.mk
theorem x16_1:XF 16 1 64 [mv 7 0,mv 8 1,mv 9 2,oa 10 (.call ⟨.value (.func 52),#[.tmp 7,.tmp 8,.tmp 9,.const (.int .i64 (1))],#[33,3,3,3]⟩),mv 11 10,og 12 4 false (.move (.tmp 0)),og 13 4 false (.move (.tmp 1)),og 14 4 false (.move (.tmp 2)),og 15 4 false (.call ⟨.value (.func 52),#[.tmp 12,.tmp 13,.tmp 14,.const (.int .i64 (2))],#[33,3,3,3]⟩),oa 16 (.pick (.tmp 11) (.const (.bool true)) (.tmp 15)),mv 17 16,og 18 10 false (.move (.tmp 0)),og 19 10 false (.move (.tmp 1)),og 20 10 false (.move (.tmp 2)),og 21 10 false (.call ⟨.value (.func 52),#[.tmp 18,.tmp 19,.tmp 20,.const (.int .i64 (3))],#[33,3,3,3]⟩),oa 22 (.pick (.tmp 17) (.const (.bool true)) (.tmp 21)),sg 6 22]:=.mk
def c16:Code:=.seq (rg 16 0) (.seq (rg 16 1) (.ret))
theorem k16:KF 16 [.tmp 6] 1 c16:=.mk
end
end Mw
/-! The code of metewand/metewandlaw19.DependLevels. -/
namespace Mw
open Go Go.Proofs
set_option maxRecDepth 100000
noncomputable section
@[simp] theorem esc3 (t:Nat):K.esc 3 t=false:=by kernel_rfl
theorem x3_0:XF 3 0 1 [oa 2 (.assign (.const (.bool false)))]:=.mk
theorem x3_1:XF 3 1 8 [mv 14 0,oa 15 (.call ⟨.value (.func 12),#[.tmp 14],#[22]⟩),sg 3 15]:=.mk
theorem x3_2:XF 3 2 16 [mv 16 3,oa 17 (.call ⟨.value (.func 13),#[.tmp 16,.const (.int .i64 (2))],#[23,3]⟩),aq 4 28,so 28 4 17]:=.mk
theorem x3_3:XF 3 3 112 [ld 19 28 4,oa 20 (.call ⟨.value (.func 14),#[.tmp 19],#[28]⟩),mv 18 20,xt 21 18 0,xt 22 18 1,sg 5 21,sg 6 22]:=.mk
theorem x3_4:XF 3 4 240 [ld 23 28 4,oa 24 (.call ⟨.value (.func 15),#[.tmp 23],#[28]⟩),sg 7 24]:=.mk
theorem x3_5:XF 3 5 8589934768 [mv 25 6,bk 26 .neq 30 25 0,mv 27 26,og 28 2 false (.move (.tmp 5)),og 29 2 false (.call ⟨.builtin .len,#[.tmp 28],#[22]⟩),og 30 2 false (.move (.tmp 7)),og 31 2 false (.call ⟨.builtin .len,#[.tmp 30],#[33]⟩),og 32 2 false (.binOp .neq 3 (.tmp 29) (.tmp 31) 3),oa 33 (.pick (.tmp 27) (.const (.bool true)) (.tmp 32))]:=.mk
theorem x3_6:XF 3 6 4 [oa 2 (.assign (.const (.bool false)))]:=.mk
theorem x3_7:XF 3 7 432 [oa 8 (.assign (.const (.int .i64 (0))))]:=.mk
theorem x3_8:XF 3 8 137438953904 [mv 34 8,mv 35 5,oa 36 (.call ⟨.builtin .len,#[.tmp 35],#[22]⟩),bo 37 .lss 3 34 36]:=.mk
theorem x3_10:XF 3 10 944 [mv 40 5,mv 41 8,ia 42 22 40 41,ld 43 3 42,bk 44 .eql 3 43 0,sg 9 44]:=.mk
theorem x3_11:XF 3 11 1968 [oa 10 (.assign (.const (.int .i64 (0))))]:=.mk
theorem x3_12:XF 3 12 140737488357296 [mv 45 10,mv 46 8,bo 47 .lss 3 45 46]:=.mk
theorem x3_14:XF 3 14 9007199254742960 [mv 50 7,mv 51 10,mv 52 8,oa 53 (.call ⟨.value (.func 16),#[.tmp 50,.tmp 51,.tmp 52],#[33,3,3]⟩)]:=.mk
theorem x3_15:XP 3 15 4611686018427389872 [(3,7)] [mv 54 5,mv 55 10,ia 56 22 54 55,ld 57 3 56,mv 58 5,mv 59 8,ia 60 22 58 59,ld 61 3 60,bo 62 .geq 3 57 61]:=.mk
theorem x3_16:XF 3 16 4 [oa 2 (.assign (.const (.bool false)))]:=.mk
theorem x3_17:XP 3 17 1968 [(5,9)] [mv 63 9,mv 64 63,og 65 1 false (.move (.tmp 5)),og 66 1 false (.move (.tmp 10)),og 67 1 false (.indexAddr 22 (.tmp 65) (.tmp 66)),og 68 1 false (.load 3 (.tmp 67)),og 69 1 false (.move (.tmp 5)),og 70 1 false (.move (.tmp 8)),og 71 1 false (.indexAddr 22 (.tmp 69) (.tmp 70)),og 72 1 false (.load 3 (.tmp 71)),og 73 1 false (.binOp .sub 3 (.tmp 72) (.const (.int .i64 (1))) 3),og 74 1 false (.binOp .eql 3 (.tmp 68) (.tmp 73) 3),oa 75 (.pick (.tmp 64) (.const (.bool true)) (.tmp 74)),sg 9 75]:=.mk
theorem x3_13:XF 3 13 1968 [mv 48 10,bk 49 .add 3 48 1,sg 10 49]:=.mk
theorem x3_18:XF 3 18 19342813113834066795299248 [mv 76 9,oa 77 (.unOp .not 4 (.tmp 76)),mv 78 77,og 79 2 false (.move (.tmp 5)),og 80 2 false (.move (.tmp 8)),og 81 2 false (.indexAddr 22 (.tmp 79) (.tmp 80)),og 82 2 false (.load 3 (.tmp 81)),og 83 2 false (.binOp .lss 3 (.tmp 82) (.const (.int .i64 (0))) 3),oa 84 (.pick (.tmp 78) (.const (.bool true)) (.tmp 83))]:=.mk
theorem x3_19:XF 3 19 4 [oa 2 (.assign (.const (.bool false)))]:=.mk
theorem x3_9:XF 3 9 432 [mv 38 8,bk 39 .add 3 38 1,sg 8 39]:=.mk
theorem x3_20:XF 3 20 6192 [ld 86 28 4,oa 87 (.call ⟨.value (.func 17),#[.tmp 86,.const (.int .i64 (0))],#[28,3]⟩),mv 85 87,xt 88 85 0,xt 89 85 1,sg 11 88,sg 12 89]:=.mk
theorem x3_21:XF 3 21 5070602400912917605986812823600 [mv 90 12,bk 91 .neq 30 90 0,mv 92 91,og 93 2 false (.move (.tmp 11)),og 94 2 false (.call ⟨.builtin .len,#[.tmp 93],#[22]⟩),og 95 2 false (.fieldAddr 28 (.tmp 4) 1),og 96 2 false (.load 26 (.tmp 95)),og 97 2 false (.indexAddr 26 (.tmp 96) (.const (.int .i64 (0)))),og 98 2 false (.fieldAddr 47 (.tmp 97) 0),og 99 2 false (.load 22 (.tmp 98)),og 100 2 false (.call ⟨.builtin .len,#[.tmp 99],#[22]⟩),og 101 2 false (.binOp .gtr 3 (.tmp 94) (.tmp 100) 3),oa 102 (.pick (.tmp 92) (.const (.bool true)) (.tmp 101))]:=.mk
theorem x3_22:XF 3 22 4 [oa 2 (.assign (.const (.bool false)))]:=.mk
theorem x3_23:XF 3 23 10288 [oa 13 (.assign (.const (.int .i64 (0))))]:=.mk
theorem x3_24:XF 3 24 10633823966279326983230456482242766896 [mv 103 13,mv 104 5,oa 105 (.call ⟨.builtin .len,#[.tmp 104],#[22]⟩),bo 106 .lss 3 103 105,mv 107 106,og 108 4 true (.fieldAddr 28 (.tmp 4) 1),og 109 4 true (.load 26 (.tmp 108)),og 110 4 true (.call ⟨.builtin .len,#[.tmp 109],#[26]⟩),og 111 4 true (.binOp .eql 3 (.tmp 110) (.const (.int .i64 (1))) 3),oa 112 (.pick (.tmp 107) (.tmp 111) (.const (.bool false))),mv 113 112,og 114 10 true (.move (.tmp 11)),og 115 10 true (.call ⟨.builtin .len,#[.tmp 114],#[22]⟩),og 116 10 true (.fieldAddr 28 (.tmp 4) 1),og 117 10 true (.load 26 (.tmp 116)),og 118 10 true (.indexAddr 26 (.tmp 117) (.const (.int .i64 (0)))),og 119 10 true (.fieldAddr 47 (.tmp 118) 0),og 120 10 true (.load 22 (.tmp 119)),og 121 10 true (.call ⟨.builtin .len,#[.tmp 120],#[22]⟩),og 122 10 true (.binOp .eql 3 (.tmp 115) (.tmp 121) 3),oa 123 (.pick (.tmp 113) (.tmp 122) (.const (.bool false)))]:=.mk
theorem x3_26:XF 3 26 1361129467683753853853498429727072856112 [mv 126 5,mv 127 13,ia 128 22 126 127,ld 129 3 128,bk 130 .neq 3 129 0]:=.mk
theorem x3_27:XF 3 27 4 [oa 2 (.assign (.const (.bool false)))]:=.mk
theorem x3_25:XF 3 25 10288 [mv 124 13,bk 125 .add 3 124 1,sg 13 125]:=.mk
theorem x3_28:XF 3 28 4 [oa 131 (.call ⟨.value (.func 18),#[],#[]⟩),sg 2 131]:=.mk
def l3_0:Code:=.seq (.seq (rg 3 12) (.cond (.tmp 47) (.skip) (.exit 2))) (.seq (.block 3 (.seq (rg 3 14) (.cond (.tmp 53) (.seq (.seq (rd 3 15) (.cond (.tmp 62) (.seq (rg 3 16) (.ret)) (.skip))) (rd 3 17)) (.skip)))) (rg 3 13))
theorem u3_0 (s:St):execL K 3 l3_0 s=execL K 3 (.seq (.seq (rg 3 12) (.cond (.tmp 47) (.skip) (.exit 2))) (.seq (.block 3 (.seq (rg 3 14) (.cond (.tmp 53) (.seq (.seq (rd 3 15) (.cond (.tmp 62) (.seq (rg 3 16) (.ret)) (.skip))) (rd 3 17)) (.skip)))) (rg 3 13))) s:=rfl
def l3_1:Code:=.seq (.seq (rg 3 8) (.cond (.tmp 37) (.skip) (.exit 0))) (.seq (.block 1 (.seq (rg 3 10) (.seq (.seq (rg 3 11) (.block 2 (.loop l3_0))) (.seq (rg 3 18) (.cond (.tmp 84) (.seq (rg 3 19) (.ret)) (.skip)))))) (rg 3 9))
theorem u3_1 (s:St):execL K 3 l3_1 s=execL K 3 (.seq (.seq (rg 3 8) (.cond (.tmp 37) (.skip) (.exit 0))) (.seq (.block 1 (.seq (rg 3 10) (.seq (.seq (rg 3 11) (.block 2 (.loop l3_0))) (.seq (rg 3 18) (.cond (.tmp 84) (.seq (rg 3 19) (.ret)) (.skip)))))) (rg 3 9))) s:=rfl
def l3_2:Code:=.seq (.seq (rg 3 24) (.cond (.tmp 123) (.skip) (.exit 4))) (.seq (.block 5 (.seq (rg 3 26) (.cond (.tmp 130) (.seq (rg 3 27) (.ret)) (.skip)))) (rg 3 25))
theorem u3_2 (s:St):execL K 3 l3_2 s=execL K 3 (.seq (.seq (rg 3 24) (.cond (.tmp 123) (.skip) (.exit 4))) (.seq (.block 5 (.seq (rg 3 26) (.cond (.tmp 130) (.seq (rg 3 27) (.ret)) (.skip)))) (rg 3 25))) s:=rfl
def c3:Code:=.seq (rg 3 0) (.seq (rg 3 1) (.seq (rg 3 2) (.seq (rg 3 3) (.seq (rg 3 4) (.seq (.seq (rg 3 5) (.cond (.tmp 33) (.seq (rg 3 6) (.ret)) (.skip))) (.seq (.seq (rg 3 7) (.block 0 (.loop l3_1))) (.seq (rg 3 20) (.seq (.seq (rg 3 21) (.cond (.tmp 102) (.seq (rg 3 22) (.ret)) (.skip))) (.seq (.seq (rg 3 23) (.block 4 (.loop l3_2))) (.seq (rg 3 28) (.ret)))))))))))
theorem k3:KF 3 [.tmp 2] 1 c3:=.mk
end
end Mw
