/- Functions that are run at known arguments. No premise beyond what each theorem says. -/
import Derived.Test.YtmfkphajohcklaaGreatOG9
import Derived.Test.YtmfkphajohcklaaGreatOG10
import Derived.Test.YtmfkphajohcklaaGreatOA4
set_option linter.all false
set_option linter.unusedSimpArgs false
set_option linter.unusedVariables false
namespace Go.Proofs.YtmfkphajohcklaaGreat.O
open Go
section
open Go.Proofs.Tryz
set_option maxRecDepth 1000000
set_option maxHeartbeats 8000000
noncomputable def us:UT T:=(.node (.node (.node (.node (.node (.node (.node .nil 7 u_7 .nil) 16 u_16 .nil) 21 u_21 (.node (.node .nil 22 u_22 .nil) 32 u_32 .nil)) 33 u_33 (.node (.node (.node .nil 37 u_37 .nil) 38 u_38 .nil) 39 u_39 (.node (.node .nil 40 u_40 .nil) 41 u_41 .nil))) 42 u_42 (.node (.node (.node (.node .nil 55 u_55 .nil) 56 u_56 .nil) 57 u_57 (.node (.node .nil 58 u_58 .nil) 59 u_59 .nil)) 61 u_61 (.node (.node (.node .nil 74 u_74 .nil) 76 u_76 .nil) 77 u_77 (.node .nil 78 u_78 .nil)))) 79 u_79 (.node (.node (.node (.node (.node .nil 80 u_80 .nil) 81 u_81 .nil) 83 u_83 (.node (.node .nil 84 u_84 .nil) 85 u_85 .nil)) 86 u_86 (.node (.node (.node .nil 87 u_87 .nil) 88 u_88 .nil) 89 u_89 (.node (.node .nil 111 u_111 .nil) 112 u_112 .nil))) 113 u_113 (.node (.node (.node (.node .nil 115 u_115 .nil) 116 u_116 .nil) 119 u_119 (.node (.node .nil 120 u_120 .nil) 121 u_121 .nil)) 122 u_122 (.node (.node (.node .nil 123 u_123 .nil) 124 u_124 .nil) 125 u_125 (.node .nil 126 u_126 .nil))))) 127 u_127 (.node (.node (.node (.node (.node (.node .nil 128 u_128 .nil) 129 u_129 .nil) 130 u_130 (.node (.node .nil 131 u_131 .nil) 133 u_133 .nil)) 134 u_134 (.node (.node (.node .nil 143 u_143 .nil) 144 u_144 .nil) 145 u_145 (.node (.node .nil 146 u_146 .nil) 148 u_148 .nil))) 154 u_154 (.node (.node (.node (.node .nil 155 u_155 .nil) 156 u_156 .nil) 157 u_157 (.node (.node .nil 158 u_158 .nil) 159 u_159 .nil)) 160 u_160 (.node (.node (.node .nil 165 u_165 .nil) 166 u_166 .nil) 167 u_167 (.node .nil 170 u_170 .nil)))) 171 u_171 (.node (.node (.node (.node (.node .nil 172 u_172 .nil) 173 u_173 .nil) 175 u_175 (.node (.node .nil 176 u_176 .nil) 177 u_177 .nil)) 179 u_179 (.node (.node (.node .nil 180 u_180 .nil) 181 u_181 .nil) 182 u_182 (.node .nil 183 u_183 .nil))) 184 u_184 (.node (.node (.node (.node .nil 185 u_185 .nil) 186 u_186 .nil) 187 u_187 (.node (.node .nil 188 u_188 .nil) 189 u_189 .nil)) 191 u_191 (.node (.node (.node .nil 192 u_192 .nil) 193 u_193 .nil) 195 u_195 (.node .nil 213 u_213 .nil))))))
theorem us_ok:us.Ok tb prog:=⟨⟨⟨⟨⟨⟨⟨trivial,uk_7,trivial⟩,uk_16,trivial⟩,uk_21,⟨⟨trivial,uk_22,trivial⟩,uk_32,trivial⟩⟩,uk_33,⟨⟨⟨trivial,uk_37,trivial⟩,uk_38,trivial⟩,uk_39,⟨⟨trivial,uk_40,trivial⟩,uk_41,trivial⟩⟩⟩,uk_42,⟨⟨⟨⟨trivial,uk_55,trivial⟩,uk_56,trivial⟩,uk_57,⟨⟨trivial,uk_58,trivial⟩,uk_59,trivial⟩⟩,uk_61,⟨⟨⟨trivial,uk_74,trivial⟩,uk_76,trivial⟩,uk_77,⟨trivial,uk_78,trivial⟩⟩⟩⟩,uk_79,⟨⟨⟨⟨⟨trivial,uk_80,trivial⟩,uk_81,trivial⟩,uk_83,⟨⟨trivial,uk_84,trivial⟩,uk_85,trivial⟩⟩,uk_86,⟨⟨⟨trivial,uk_87,trivial⟩,uk_88,trivial⟩,uk_89,⟨⟨trivial,xZpn,trivial⟩,xZpo,trivial⟩⟩⟩,xZpp,⟨⟨⟨⟨trivial,xZpq,trivial⟩,xZpr,trivial⟩,xZps,⟨⟨trivial,xZpt,trivial⟩,xZpu,trivial⟩⟩,xZpv,⟨⟨⟨trivial,xZpw,trivial⟩,xZpx,trivial⟩,xZpy,⟨trivial,xZpz,trivial⟩⟩⟩⟩⟩,xZpA,⟨⟨⟨⟨⟨⟨trivial,xZpB,trivial⟩,xZpC,trivial⟩,xZpD,⟨⟨trivial,xZpE,trivial⟩,xZpF,trivial⟩⟩,xZpG,⟨⟨⟨trivial,xZpH,trivial⟩,xZpI,trivial⟩,xZpJ,⟨⟨trivial,xZpK,trivial⟩,xZpL,trivial⟩⟩⟩,xZpM,⟨⟨⟨⟨trivial,xZpN,trivial⟩,xZpO,trivial⟩,xZpP,⟨⟨trivial,xZpQ,trivial⟩,xZpR,trivial⟩⟩,xZpS,⟨⟨⟨trivial,xZpT,trivial⟩,xZpU,trivial⟩,xZpV,⟨trivial,xZpW,trivial⟩⟩⟩⟩,xZpX,⟨⟨⟨⟨⟨trivial,xZpY,trivial⟩,xZpZ,trivial⟩,xZq0,⟨⟨trivial,xZq1,trivial⟩,xZq2,trivial⟩⟩,xZq3,⟨⟨⟨trivial,xZq4,trivial⟩,xZq5,trivial⟩,xZq6,⟨trivial,xZq7,trivial⟩⟩⟩,xZq8,⟨⟨⟨⟨trivial,xZq9,trivial⟩,xZqa,trivial⟩,xZqb,⟨⟨trivial,xZqc,trivial⟩,xZqd,trivial⟩⟩,xZqe,⟨⟨⟨trivial,xZqf,trivial⟩,xZqg,trivial⟩,xZqh,⟨trivial,xZqi,trivial⟩⟩⟩⟩⟩⟩
def uex:List (FuncId×EK'):=[(163,.ib)]
theorem xZi3:exOk prog uex:=⟨ExtIs.mk' f163 (by kernel_rfl) (by kernel_rfl) (by kernel_rfl) (by kernel_rfl) (by kernel_rfl),trivial⟩
noncomputable def uh0 (f:FuncId):List (Con tb):=match Nat.beq f 194 with | true=>[xZ4Y] | false=>match Nat.beq f 174 with | true=>[xZ9g] | false=>match Nat.beq f 169 with | true=>[xZbC] | false=>match Nat.beq f 132 with | true=>[xZ8a,xZ7p] | false=>match Nat.beq f 8 with | true=>[xZnE] | false=>[]
theorem xZpm (N:Nat) (f:FuncId):conOk prog N (uh0 f):=by
 unfold uh0
 split
 ·exact ⟨xZ77 N,trivial⟩
 split
 ·exact ⟨xZbI N,trivial⟩
 split
 ·exact ⟨xZez N,trivial⟩
 split
 ·exact ⟨xZbg N,xZal N,trivial⟩
 split
 ·exact ⟨xZqE N,trivial⟩
 exact trivial
noncomputable abbrev uc0:FuncId→List (Con tb):=uCons tb 100000 prog uex uh0 us 1000 1000
theorem xZlB (f:FuncId):conOk prog 1000 (uc0 f):=xZi2 tb_ok hm xZi3 (xZpm 1000) us_ok 1000 f
end
end Go.Proofs.YtmfkphajohcklaaGreat.O
