/- What every right program says. No premise beyond what each theorem says. -/
import Derived.Test.YtmfkphajohcklaaGreatOG15
set_option linter.all false
set_option linter.unusedSimpArgs false
set_option linter.unusedVariables false
namespace Go.Proofs.YtmfkphajohcklaaGreat.O
open Go
section
open Go.Proofs.Tryz
set_option maxRecDepth 1000000
set_option maxHeartbeats 8000000
noncomputable def uh1 (f:FuncId):List (Con tb):=match Nat.beq f 21 with | true=>[uLit tb 21 [97,58,116,59,32,40,33,98,58,117,32,124,32,33,99,58,117,41,59,32,100,58,116] (.tup [.agg [.sl 4 ([⟨3,0⟩,⟨2,0⟩,⟨3,0⟩,⟨4,0⟩,⟨2,1⟩,⟨2,2⟩,⟨2,3⟩]:List xZ1),.sl 2 ([⟨false,[97],[116],[]⟩,⟨true,[98],[117],[]⟩,⟨true,[99],[117],[]⟩,⟨false,[100],[116],[]⟩]:List xZ4),.int .i64 9,.str [],.int .u8 1],.agg [.sl 14 ([⟨0,0⟩]:List xZ0),.sl 16 ([[⟨3,2⟩,⟨3,4⟩],[],[],[]]:List (List xZ0)),.sl 17 ([[],[],[],[0]]:List (List Int))],.int .i64 0]),uLit tb 21 [97,58,116,59,32,40,33,98,58,117,59,32,99,58,116,41,42,59,32,33,100,58,117] (.tup [.agg [.sl 4 ([⟨3,0⟩,⟨2,0⟩,⟨3,0⟩,⟨4,0⟩,⟨5,0⟩,⟨3,0⟩,⟨2,1⟩,⟨2,2⟩,⟨1,0⟩,⟨2,3⟩]:List xZ1),.sl 2 ([⟨false,[97],[116],[]⟩,⟨true,[98],[117],[]⟩,⟨false,[99],[116],[]⟩,⟨true,[100],[117],[]⟩]:List xZ4),.int .i64 9,.str [],.int .u8 1],.agg [.sl 14 ([⟨0,0⟩]:List xZ0),.sl 16 ([[⟨2,2⟩],[],[⟨2,2⟩],[]]:List (List xZ0)),.sl 17 ([[8],[],[8],[]]:List (List Int))],.int .i64 0]),uLit tb 21 [33,97,58,116,59,32,98,58,116] (.tup [.agg [.sl 4 ([⟨3,0⟩,⟨2,0⟩,⟨2,1⟩]:List xZ1),.sl 2 ([⟨true,[97],[116],[]⟩,⟨false,[98],[116],[]⟩]:List xZ4),.int .i64 9,.str [],.int .u8 1],.agg [.sl 14 ([]:List xZ0),.sl 16 ([]:List (List xZ0)),.sl 17 ([]:List (List Int))],.int .i64 17]),uLit tb 21 [97,58,116,42] (.tup [.agg [.sl 4 ([⟨4,0⟩,⟨5,0⟩,⟨2,0⟩,⟨1,0⟩]:List xZ1),.sl 2 ([⟨false,[97],[116],[]⟩]:List xZ4),.int .i64 9,.str [],.int .u8 1],.agg [.sl 14 ([]:List xZ0),.sl 16 ([]:List (List xZ0)),.sl 17 ([]:List (List Int))],.int .i64 16])] | false=>uh0 f
theorem xZrr (f:FuncId):conOk prog 1000 (uh1 f):=by
 unfold uh1
 split
 ·exact ⟨ul_0,ul_1,ul_2,ul_3,trivial⟩
 exact xZpm 1000 f
noncomputable def us1:UT T:=(.node (.node (.node (.node (.node (.node (.node .nil 7 u_7 .nil) 16 u_16 .nil) 22 u_22 (.node (.node .nil 32 u_32 .nil) 33 u_33 .nil)) 37 u_37 (.node (.node (.node .nil 38 u_38 .nil) 39 u_39 .nil) 40 u_40 (.node (.node .nil 41 u_41 .nil) 42 u_42 .nil))) 55 u_55 (.node (.node (.node (.node .nil 56 u_56 .nil) 57 u_57 .nil) 58 u_58 (.node (.node .nil 59 u_59 .nil) 61 u_61 .nil)) 74 u_74 (.node (.node (.node .nil 76 u_76 .nil) 77 u_77 .nil) 78 u_78 (.node .nil 79 u_79 .nil)))) 80 u_80 (.node (.node (.node (.node (.node .nil 81 u_81 .nil) 83 u_83 .nil) 84 u_84 (.node (.node .nil 85 u_85 .nil) 86 u_86 .nil)) 87 u_87 (.node (.node (.node .nil 88 u_88 .nil) 89 u_89 .nil) 111 u_111 (.node .nil 112 u_112 .nil))) 113 u_113 (.node (.node (.node (.node .nil 115 u_115 .nil) 116 u_116 .nil) 119 u_119 (.node (.node .nil 120 u_120 .nil) 121 u_121 .nil)) 122 u_122 (.node (.node (.node .nil 123 u_123 .nil) 124 u_124 .nil) 125 u_125 (.node .nil 126 u_126 .nil))))) 127 u_127 (.node (.node (.node (.node (.node (.node .nil 128 u_128 .nil) 129 u_129 .nil) 130 u_130 (.node (.node .nil 131 u_131 .nil) 133 u_133 .nil)) 134 u_134 (.node (.node (.node .nil 143 u_143 .nil) 144 u_144 .nil) 145 u_145 (.node (.node .nil 146 u_146 .nil) 148 u_148 .nil))) 154 u_154 (.node (.node (.node (.node .nil 155 u_155 .nil) 156 u_156 .nil) 157 u_157 (.node (.node .nil 158 u_158 .nil) 159 u_159 .nil)) 160 u_160 (.node (.node (.node .nil 165 u_165 .nil) 166 u_166 .nil) 167 u_167 (.node .nil 170 u_170 .nil)))) 171 u_171 (.node (.node (.node (.node (.node .nil 172 u_172 .nil) 173 u_173 .nil) 175 u_175 (.node (.node .nil 176 u_176 .nil) 177 u_177 .nil)) 179 u_179 (.node (.node (.node .nil 180 u_180 .nil) 181 u_181 .nil) 182 u_182 (.node .nil 183 u_183 .nil))) 184 u_184 (.node (.node (.node (.node .nil 185 u_185 .nil) 186 u_186 .nil) 187 u_187 (.node (.node .nil 188 u_188 .nil) 189 u_189 .nil)) 191 u_191 (.node (.node (.node .nil 192 u_192 .nil) 193 u_193 .nil) 195 u_195 (.node .nil 213 u_213 .nil))))))
theorem xZru:us1.Ok tb prog:=⟨⟨⟨⟨⟨⟨⟨trivial,uk_7,trivial⟩,uk_16,trivial⟩,uk_22,⟨⟨trivial,uk_32,trivial⟩,uk_33,trivial⟩⟩,uk_37,⟨⟨⟨trivial,uk_38,trivial⟩,uk_39,trivial⟩,uk_40,⟨⟨trivial,uk_41,trivial⟩,uk_42,trivial⟩⟩⟩,uk_55,⟨⟨⟨⟨trivial,uk_56,trivial⟩,uk_57,trivial⟩,uk_58,⟨⟨trivial,uk_59,trivial⟩,uk_61,trivial⟩⟩,uk_74,⟨⟨⟨trivial,uk_76,trivial⟩,uk_77,trivial⟩,uk_78,⟨trivial,uk_79,trivial⟩⟩⟩⟩,uk_80,⟨⟨⟨⟨⟨trivial,uk_81,trivial⟩,uk_83,trivial⟩,uk_84,⟨⟨trivial,uk_85,trivial⟩,uk_86,trivial⟩⟩,uk_87,⟨⟨⟨trivial,uk_88,trivial⟩,uk_89,trivial⟩,xZpn,⟨trivial,xZpo,trivial⟩⟩⟩,xZpp,⟨⟨⟨⟨trivial,xZpq,trivial⟩,xZpr,trivial⟩,xZps,⟨⟨trivial,xZpt,trivial⟩,xZpu,trivial⟩⟩,xZpv,⟨⟨⟨trivial,xZpw,trivial⟩,xZpx,trivial⟩,xZpy,⟨trivial,xZpz,trivial⟩⟩⟩⟩⟩,xZpA,⟨⟨⟨⟨⟨⟨trivial,xZpB,trivial⟩,xZpC,trivial⟩,xZpD,⟨⟨trivial,xZpE,trivial⟩,xZpF,trivial⟩⟩,xZpG,⟨⟨⟨trivial,xZpH,trivial⟩,xZpI,trivial⟩,xZpJ,⟨⟨trivial,xZpK,trivial⟩,xZpL,trivial⟩⟩⟩,xZpM,⟨⟨⟨⟨trivial,xZpN,trivial⟩,xZpO,trivial⟩,xZpP,⟨⟨trivial,xZpQ,trivial⟩,xZpR,trivial⟩⟩,xZpS,⟨⟨⟨trivial,xZpT,trivial⟩,xZpU,trivial⟩,xZpV,⟨trivial,xZpW,trivial⟩⟩⟩⟩,xZpX,⟨⟨⟨⟨⟨trivial,xZpY,trivial⟩,xZpZ,trivial⟩,xZq0,⟨⟨trivial,xZq1,trivial⟩,xZq2,trivial⟩⟩,xZq3,⟨⟨⟨trivial,xZq4,trivial⟩,xZq5,trivial⟩,xZq6,⟨trivial,xZq7,trivial⟩⟩⟩,xZq8,⟨⟨⟨⟨trivial,xZq9,trivial⟩,xZqa,trivial⟩,xZqb,⟨⟨trivial,xZqc,trivial⟩,xZqd,trivial⟩⟩,xZqe,⟨⟨⟨trivial,xZqf,trivial⟩,xZqg,trivial⟩,xZqh,⟨trivial,xZqi,trivial⟩⟩⟩⟩⟩⟩
theorem uaw:uRun tb 100000 prog uex (uCons tb 100000 prog uex uh1 us1 1000 1000) 1000 u_7 [true] (uOutP tb) EqT.q1 [] ⟨[],[]⟩=some (.bool true):=by kernel_rfl
theorem xZgr (N:Nat):xZdH.Ok prog N:=⟨uk_7.is.enters,fun a r h=>by
 cases h
 exact xZiH (o:=uOutP tb) uk_7 tb_ok hm xZi3 (xZi2 tb_ok hm xZi3 xZrr xZru 1000) uaw⟩
end
section
open Go.Proofs.Tryz
set_option maxRecDepth 1000000
noncomputable section
noncomputable def xZiO:Fn xZdj:=⟨f25,[],⟨[(28,1)],[],sbf,bof⟩,fun _=>[],[true],none,0,0,fun _ _=>true,none,[],[],[]⟩
theorem xZj6:xZiO.Ok prog:=⟨Is.of (by kernel_rfl) (by kernel_rfl),by kernel_rfl,xZ6 sb_ok bo_ok,trivial,trivial,fun _=>by kernel_rfl⟩
theorem xZiW (N:Nat):xZdj.Ok prog N:=xZj6.give tb_ok hm N N (fun _=>trivial) fun a r s h=>by
 have l0:=s.loop 0 xZ9Y (xZdL N) N fun next0 h0=>by
  exact fun c v=>s.seg 0 xZ9Y [(0,.of xZ9Y next0)] ⟨h0,trivial⟩ (by kernel_rfl) (by kernel_rfl)
 exact s.main [(0,.of xZ9Y (xZgS N))] ⟨l0,trivial⟩ (.trans (by kernel_rfl) h)
noncomputable def xZiP:Fn xZdk:=⟨f9,[],⟨[(28,4),(55,2)],[],sbf,bof⟩,fun _=>[xZdj],[true],none,0,0,fun _ _=>true,none,[],[],[]⟩
theorem xZj7:xZiP.Ok prog:=⟨Is.of (by kernel_rfl) (by kernel_rfl),by kernel_rfl,xZ6 sb_ok bo_ok,trivial,trivial,fun _=>by kernel_rfl⟩
theorem xZiX (N:Nat):xZdk.Ok prog N:=xZj7.give tb_ok hm N N (fun _=>⟨xZiW N,trivial⟩) fun a r s h=>by
 have l2:=s.loop 2 xZa0 (xZdN N) N fun next2 h2=>by
  exact fun c v=>s.seg 2 xZa0 [(2,.of xZa0 next2)] ⟨h2,trivial⟩ (by kernel_rfl) (by kernel_rfl)
 have l0:=s.loop 0 xZ9Z (xZdM N) N fun next0 h0=>by
  exact fun c v=>s.seg 0 xZ9Z [(0,.of xZ9Z next0),(2,.of xZa0 (xZgU N))] ⟨h0,l2,trivial⟩ (by kernel_rfl) (by kernel_rfl)
 exact s.main [(0,.of xZ9Z (xZgT N))] ⟨l0,trivial⟩ (.trans (by kernel_rfl) h)
noncomputable def xZdY:Fn xZbt:=⟨f4,[],⟨[],[],sbf,bof⟩,fun _=>[xZck,xZdH,xZdk,xZb2,xZ7P],[true],none,0,0,fun _ _=>true,none,[],[],[]⟩
theorem xZec:xZdY.Ok prog:=⟨Is.of (by kernel_rfl) (by kernel_rfl),by kernel_rfl,xZ6 sb_ok bo_ok,trivial,trivial,fun _=>by kernel_rfl⟩
theorem xZe3 (N:Nat):xZbt.Ok prog N:=xZec.give tb_ok hm N N (fun _=>⟨xZhq N,xZgr N,xZiX N,xZct N,xZ9j N,trivial⟩) fun a r s h=>by
 have l2:=s.loop 2 xZ4j (xZ9Q N) N fun next2 h2=>by
  have l6:=s.loop 6 xZ6l (xZ9S N next2) N fun next6 h6=>by
   exact fun c v=>s.seg 6 xZ6l [(2,.of xZ4j next2),(6,.of xZ6l next6)] ⟨h2,h6,trivial⟩ (by kernel_rfl) (by kernel_rfl)
  have l4:=s.loop 4 xZ6k (xZ9R N next2) N fun next4 h4=>by
   exact fun c v=>s.seg 4 xZ6k [(2,.of xZ4j next2),(4,.of xZ6k next4),(6,.of xZ6l (xZdb N next2))] ⟨h2,h4,l6,trivial⟩ (by kernel_rfl) (by kernel_rfl)
  exact fun c v=>s.seg 2 xZ4j [(2,.of xZ4j next2),(4,.of xZ6k (xZda N next2))] ⟨h2,l4,trivial⟩ (by kernel_rfl) (by kernel_rfl)
 have l0:=s.loop 0 xZ6j (xZ9P N) N fun next0 h0=>by
  exact fun c v=>s.seg 0 xZ6j [(0,.of xZ6j next0),(2,.of xZ4j (xZd9 N))] ⟨h0,l2,trivial⟩ (by kernel_rfl) (by kernel_rfl)
 exact s.main [(0,.of xZ6j (xZd8 N))] ⟨l0,trivial⟩ (.trans (by kernel_rfl) h)
end
end
end Go.Proofs.YtmfkphajohcklaaGreat.O
