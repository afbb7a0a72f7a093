/- Functions that are run at known arguments. No premise beyond what each theorem says. -/
import Derived.Test.YtmfkphajohcklaaGreatUG9
import Derived.Test.YtmfkphajohcklaaGreatUG10
import Derived.Test.YtmfkphajohcklaaGreatUA4
set_option linter.all false
set_option linter.unusedSimpArgs false
set_option linter.unusedVariables false
namespace Go.Proofs.YtmfkphajohcklaaGreat.U
noncomputable section
open Go
section
open Go.Proofs.Tryz
set_option maxRecDepth 1000000
set_option maxHeartbeats 8000000
def us:UT T:=(.node (.node (.node (.node (.node (.node (.node .nil 7 wh .nil) 16 De .nil) 21 po (.node (.node .nil 22 DG .nil) 32 DH .nil)) 33 DI (.node (.node (.node .nil 37 DJ .nil) 38 DK .nil) 39 DL (.node (.node .nil 40 DM .nil) 41 DN .nil))) 42 DO (.node (.node (.node (.node .nil 55 DP .nil) 56 DQ .nil) 57 DR (.node (.node .nil 58 DS .nil) 59 DT .nil)) 61 DU (.node (.node (.node .nil 74 DV .nil) 76 DW .nil) 77 DX (.node .nil 78 DY .nil)))) 79 DZ (.node (.node (.node (.node (.node .nil 80 D0 .nil) 81 D1 .nil) 83 D2 (.node (.node .nil 84 D3 .nil) 85 D4 .nil)) 86 D5 (.node (.node (.node .nil 87 D6 .nil) 88 D7 .nil) 89 D8 (.node (.node .nil 111 CI .nil) 112 CJ .nil))) 113 CK (.node (.node (.node (.node .nil 115 CL .nil) 116 CM .nil) 119 CN (.node (.node .nil 120 CO .nil) 121 CP .nil)) 122 CQ (.node (.node (.node .nil 123 CR .nil) 124 CS .nil) 125 CU (.node .nil 126 CV .nil))))) 127 CW (.node (.node (.node (.node (.node (.node .nil 128 CX .nil) 129 CY .nil) 130 CZ (.node (.node .nil 131 C0 .nil) 133 C1 .nil)) 134 C2 (.node (.node (.node .nil 143 C3 .nil) 144 C4 .nil) 145 C5 (.node (.node .nil 146 C6 .nil) 148 C7 .nil))) 154 C8 (.node (.node (.node (.node .nil 155 C9 .nil) 156 Da .nil) 157 Db (.node (.node .nil 158 Dc .nil) 159 Dd .nil)) 160 Df (.node (.node (.node .nil 165 Dg .nil) 166 Dh .nil) 167 Di (.node .nil 170 Dj .nil)))) 171 Dk (.node (.node (.node (.node (.node .nil 172 Dl .nil) 173 Dm .nil) 175 Dn (.node (.node .nil 176 Do .nil) 177 Dp .nil)) 179 Dq (.node (.node (.node .nil 180 Dr .nil) 181 Ds .nil) 182 Dt (.node .nil 183 Du .nil))) 184 Dv (.node (.node (.node (.node .nil 185 Dw .nil) 186 Dx .nil) 187 Dy (.node (.node .nil 188 Dz .nil) 189 DA .nil)) 191 DB (.node (.node (.node .nil 192 DC .nil) 193 DD .nil) 195 DE (.node .nil 213 DF .nil))))))
theorem Xb:us.Ok tb prog:=⟨⟨⟨⟨⟨⟨⟨trivial,wn,trivial⟩,KF,trivial⟩,rJ,⟨⟨trivial,KG,trivial⟩,KH,trivial⟩⟩,KI,⟨⟨⟨trivial,KJ,trivial⟩,KK,trivial⟩,KL,⟨⟨trivial,KM,trivial⟩,KN,trivial⟩⟩⟩,KO,⟨⟨⟨⟨trivial,KP,trivial⟩,KQ,trivial⟩,KR,⟨⟨trivial,KS,trivial⟩,KT,trivial⟩⟩,KU,⟨⟨⟨trivial,KV,trivial⟩,KW,trivial⟩,KX,⟨trivial,KY,trivial⟩⟩⟩⟩,KZ,⟨⟨⟨⟨⟨trivial,K0,trivial⟩,K1,trivial⟩,K2,⟨⟨trivial,K3,trivial⟩,K4,trivial⟩⟩,K5,⟨⟨⟨trivial,K6,trivial⟩,K7,trivial⟩,K8,⟨⟨trivial,RR,trivial⟩,RS,trivial⟩⟩⟩,RT,⟨⟨⟨⟨trivial,RU,trivial⟩,Sp,trivial⟩,Sq,⟨⟨trivial,Sr,trivial⟩,Ss,trivial⟩⟩,St,⟨⟨⟨trivial,Su,trivial⟩,Sv,trivial⟩,Sw,⟨trivial,Sx,trivial⟩⟩⟩⟩⟩,Sy,⟨⟨⟨⟨⟨⟨trivial,Sz,trivial⟩,SA,trivial⟩,SB,⟨⟨trivial,SD,trivial⟩,SF,trivial⟩⟩,SG,⟨⟨⟨trivial,SH,trivial⟩,SJ,trivial⟩,SK,⟨⟨trivial,SM,trivial⟩,SN,trivial⟩⟩⟩,SQ,⟨⟨⟨⟨trivial,SR,trivial⟩,SS,trivial⟩,ST,⟨⟨trivial,SU,trivial⟩,RV,trivial⟩⟩,RW,⟨⟨⟨trivial,RX,trivial⟩,RY,trivial⟩,RZ,⟨trivial,R0,trivial⟩⟩⟩⟩,R4,⟨⟨⟨⟨⟨trivial,R5,trivial⟩,R6,trivial⟩,R7,⟨⟨trivial,R8,trivial⟩,R9,trivial⟩⟩,Sa,⟨⟨⟨trivial,Sb,trivial⟩,Sc,trivial⟩,Sd,⟨trivial,Se,trivial⟩⟩⟩,Sf,⟨⟨⟨⟨trivial,Sg,trivial⟩,Sh,trivial⟩,Si,⟨⟨trivial,Sj,trivial⟩,Sl,trivial⟩⟩,Sm,⟨⟨⟨trivial,Sn,trivial⟩,So,trivial⟩,SV,⟨trivial,SW,trivial⟩⟩⟩⟩⟩⟩
def lX:List (FuncId×EK'):=[(163,.ib)]
theorem oh:jY prog lX:=⟨g8.mk' f163 (by kernel_rfl) (by kernel_rfl) (by kernel_rfl) (by kernel_rfl) (by kernel_rfl),trivial⟩
def wm (f:FuncId):List (aB tb):=match Nat.beq f 194 with|true=>[Fe]|false=>match Nat.beq f 174 with|true=>[FC]|false=>match Nat.beq f 169 with|true=>[M9]|false=>match Nat.beq f 132 with|true=>[MX,MR]|false=>match Nat.beq f 8 with|true=>[Rh]|false=>[]
theorem RP (N:Nat) (f:FuncId):hP prog N (wm f):=by
 unfold wm;split
 ·exact⟨MF N,trivial⟩
 split
 ·exact⟨Na N,trivial⟩
 split
 ·exact⟨abz N,trivial⟩
 split
 ·exact⟨aao N,ZY N,trivial⟩
 split
 ·exact⟨ajs N,trivial⟩
 exact trivial
noncomputable abbrev rI:FuncId->List (aB tb):=pm tb 100000 prog lX wm us 1000 1000
theorem AS (f:FuncId):hP prog 1000 (rI f):=Hw aq hm oh (RP 1000) Xb 1000 f
end
end
end Go.Proofs.YtmfkphajohcklaaGreat.U
