/- What every right program says. No premise beyond what each theorem says. -/
import Derived.Test.YtmfkphajohcklaaGreatPG15
set_option linter.all false
set_option linter.unusedSimpArgs false
set_option linter.unusedVariables false
namespace Go.Proofs.YtmfkphajohcklaaGreat.P
open Go
section
open Go.Proofs.Tryz
set_option maxRecDepth 1000000
set_option maxHeartbeats 8000000
noncomputable def uh1 (f:FuncId):List (Con tb):=match Nat.beq f 21 with | true=>[uLit tb 21 [97,58,116,59,32,40,33,98,58,117,32,124,32,33,99,58,117,41,59,32,100,58,116] (.tup [.agg [.sl 4 ([⟨3,0⟩,⟨2,0⟩,⟨3,0⟩,⟨4,0⟩,⟨2,1⟩,⟨2,2⟩,⟨2,3⟩]:List xZ1),.sl 2 ([⟨false,[97],[116],[]⟩,⟨true,[98],[117],[]⟩,⟨true,[99],[117],[]⟩,⟨false,[100],[116],[]⟩]:List xZ3),.int .i64 9,.str [],.int .u8 1],.agg [.sl 14 ([⟨0,0⟩]:List xZ0),.sl 16 ([[⟨3,2⟩,⟨3,4⟩],[],[],[]]:List (List xZ0)),.sl 17 ([[],[],[],[0]]:List (List Int))],.int .i64 0]),uLit tb 21 [97,58,116,59,32,40,33,98,58,117,59,32,99,58,116,41,42,59,32,33,100,58,117] (.tup [.agg [.sl 4 ([⟨3,0⟩,⟨2,0⟩,⟨3,0⟩,⟨4,0⟩,⟨5,0⟩,⟨3,0⟩,⟨2,1⟩,⟨2,2⟩,⟨1,0⟩,⟨2,3⟩]:List xZ1),.sl 2 ([⟨false,[97],[116],[]⟩,⟨true,[98],[117],[]⟩,⟨false,[99],[116],[]⟩,⟨true,[100],[117],[]⟩]:List xZ3),.int .i64 9,.str [],.int .u8 1],.agg [.sl 14 ([⟨0,0⟩]:List xZ0),.sl 16 ([[⟨2,2⟩],[],[⟨2,2⟩],[]]:List (List xZ0)),.sl 17 ([[8],[],[8],[]]:List (List Int))],.int .i64 0]),uLit tb 21 [33,97,58,116,59,32,98,58,116] (.tup [.agg [.sl 4 ([⟨3,0⟩,⟨2,0⟩,⟨2,1⟩]:List xZ1),.sl 2 ([⟨true,[97],[116],[]⟩,⟨false,[98],[116],[]⟩]:List xZ3),.int .i64 9,.str [],.int .u8 1],.agg [.sl 14 ([]:List xZ0),.sl 16 ([]:List (List xZ0)),.sl 17 ([]:List (List Int))],.int .i64 17]),uLit tb 21 [97,58,116,42] (.tup [.agg [.sl 4 ([⟨4,0⟩,⟨5,0⟩,⟨2,0⟩,⟨1,0⟩]:List xZ1),.sl 2 ([⟨false,[97],[116],[]⟩]:List xZ3),.int .i64 9,.str [],.int .u8 1],.agg [.sl 14 ([]:List xZ0),.sl 16 ([]:List (List xZ0)),.sl 17 ([]:List (List Int))],.int .i64 16])] | false=>uh0 f
theorem xZsm (f:FuncId):conOk prog 1000 (uh1 f):=by
 unfold uh1
 split
 ·exact ⟨ul_0,ul_1,ul_2,ul_3,trivial⟩
 exact xZqi 1000 f
noncomputable def us1:UT T:=(.node (.node (.node (.node (.node (.node (.node .nil 7 u_7 .nil) 16 u_16 .nil) 22 u_22 (.node (.node .nil 32 u_32 .nil) 33 u_33 .nil)) 37 u_37 (.node (.node (.node .nil 38 u_38 .nil) 39 u_39 .nil) 40 u_40 (.node (.node .nil 41 u_41 .nil) 42 u_42 .nil))) 55 u_55 (.node (.node (.node (.node .nil 56 u_56 .nil) 57 u_57 .nil) 58 u_58 (.node (.node .nil 59 u_59 .nil) 61 u_61 .nil)) 74 u_74 (.node (.node (.node .nil 76 u_76 .nil) 77 u_77 .nil) 78 u_78 (.node .nil 79 u_79 .nil)))) 80 u_80 (.node (.node (.node (.node (.node .nil 81 u_81 .nil) 83 u_83 .nil) 84 u_84 (.node (.node .nil 85 u_85 .nil) 86 u_86 .nil)) 87 u_87 (.node (.node (.node .nil 88 u_88 .nil) 89 u_89 .nil) 111 u_111 (.node .nil 112 u_112 .nil))) 113 u_113 (.node (.node (.node (.node .nil 115 u_115 .nil) 116 u_116 .nil) 119 u_119 (.node (.node .nil 120 u_120 .nil) 121 u_121 .nil)) 122 u_122 (.node (.node (.node .nil 123 u_123 .nil) 124 u_124 .nil) 125 u_125 (.node .nil 126 u_126 .nil))))) 127 u_127 (.node (.node (.node (.node (.node (.node .nil 128 u_128 .nil) 129 u_129 .nil) 130 u_130 (.node (.node .nil 131 u_131 .nil) 133 u_133 .nil)) 134 u_134 (.node (.node (.node .nil 143 u_143 .nil) 144 u_144 .nil) 145 u_145 (.node (.node .nil 146 u_146 .nil) 148 u_148 .nil))) 154 u_154 (.node (.node (.node (.node .nil 155 u_155 .nil) 156 u_156 .nil) 157 u_157 (.node (.node .nil 158 u_158 .nil) 159 u_159 .nil)) 160 u_160 (.node (.node (.node .nil 165 u_165 .nil) 166 u_166 .nil) 167 u_167 (.node .nil 170 u_170 .nil)))) 171 u_171 (.node (.node (.node (.node (.node .nil 172 u_172 .nil) 173 u_173 .nil) 175 u_175 (.node (.node .nil 176 u_176 .nil) 177 u_177 .nil)) 179 u_179 (.node (.node (.node .nil 180 u_180 .nil) 181 u_181 .nil) 182 u_182 (.node .nil 183 u_183 .nil))) 184 u_184 (.node (.node (.node (.node .nil 185 u_185 .nil) 186 u_186 .nil) 187 u_187 (.node (.node .nil 188 u_188 .nil) 189 u_189 .nil)) 191 u_191 (.node (.node (.node .nil 192 u_192 .nil) 193 u_193 .nil) 195 u_195 (.node .nil 213 u_213 .nil))))))
theorem xZsp:us1.Ok tb prog:=⟨⟨⟨⟨⟨⟨⟨trivial,uk_7,trivial⟩,uk_16,trivial⟩,uk_22,⟨⟨trivial,uk_32,trivial⟩,uk_33,trivial⟩⟩,uk_37,⟨⟨⟨trivial,uk_38,trivial⟩,uk_39,trivial⟩,uk_40,⟨⟨trivial,uk_41,trivial⟩,uk_42,trivial⟩⟩⟩,uk_55,⟨⟨⟨⟨trivial,uk_56,trivial⟩,uk_57,trivial⟩,uk_58,⟨⟨trivial,uk_59,trivial⟩,uk_61,trivial⟩⟩,uk_74,⟨⟨⟨trivial,uk_76,trivial⟩,uk_77,trivial⟩,uk_78,⟨trivial,uk_79,trivial⟩⟩⟩⟩,uk_80,⟨⟨⟨⟨⟨trivial,uk_81,trivial⟩,uk_83,trivial⟩,uk_84,⟨⟨trivial,uk_85,trivial⟩,uk_86,trivial⟩⟩,uk_87,⟨⟨⟨trivial,uk_88,trivial⟩,uk_89,trivial⟩,xZqj,⟨trivial,xZqk,trivial⟩⟩⟩,xZql,⟨⟨⟨⟨trivial,xZqm,trivial⟩,xZqn,trivial⟩,xZqo,⟨⟨trivial,xZqp,trivial⟩,xZqq,trivial⟩⟩,xZqr,⟨⟨⟨trivial,xZqs,trivial⟩,xZqt,trivial⟩,xZqu,⟨trivial,xZqv,trivial⟩⟩⟩⟩⟩,xZqw,⟨⟨⟨⟨⟨⟨trivial,xZqx,trivial⟩,xZqy,trivial⟩,xZqz,⟨⟨trivial,xZqA,trivial⟩,xZqB,trivial⟩⟩,xZqC,⟨⟨⟨trivial,xZqD,trivial⟩,xZqE,trivial⟩,xZqF,⟨⟨trivial,xZqG,trivial⟩,xZqH,trivial⟩⟩⟩,xZqI,⟨⟨⟨⟨trivial,xZqJ,trivial⟩,xZqK,trivial⟩,xZqL,⟨⟨trivial,xZqM,trivial⟩,xZqN,trivial⟩⟩,xZqO,⟨⟨⟨trivial,xZqP,trivial⟩,xZqQ,trivial⟩,xZqR,⟨trivial,xZqS,trivial⟩⟩⟩⟩,xZqT,⟨⟨⟨⟨⟨trivial,xZqU,trivial⟩,xZqV,trivial⟩,xZqW,⟨⟨trivial,xZqX,trivial⟩,xZqY,trivial⟩⟩,xZqZ,⟨⟨⟨trivial,xZr0,trivial⟩,xZr1,trivial⟩,xZr2,⟨trivial,xZr3,trivial⟩⟩⟩,xZr4,⟨⟨⟨⟨trivial,xZr5,trivial⟩,xZr6,trivial⟩,xZr7,⟨⟨trivial,xZr8,trivial⟩,xZr9,trivial⟩⟩,xZra,⟨⟨⟨trivial,xZrb,trivial⟩,xZrc,trivial⟩,xZrd,⟨trivial,xZre,trivial⟩⟩⟩⟩⟩⟩
theorem uaw:uRun tb 100000 prog uex (uCons tb 100000 prog uex uh1 us1 1000 1000) 1000 u_7 [true] (uOutP tb) EqT.q1 [] ⟨[],[]⟩=some (.bool true):=by kernel_rfl
theorem xZhf (N:Nat):xZeo.Ok prog N:=⟨uk_7.is.enters,fun a r h=>by
 cases h
 exact xZjw (o:=uOutP tb) uk_7 tb_ok hm xZiQ (xZiP tb_ok hm xZiQ xZsm xZsp 1000) uaw⟩
end
section
open Go.Proofs.Tryz
set_option maxRecDepth 1000000
noncomputable section
noncomputable def xZjE:Fn xZe0:=⟨f25,[],⟨[(28,1)],[],sbf,bof⟩,fun _=>[],[true],none,0,0,fun _ _=>true,none,[],[],[]⟩
theorem xZjZ:xZjE.Ok prog:=⟨Is.of (by kernel_rfl) (by kernel_rfl),by kernel_rfl,xZ5 sb_ok bo_ok,trivial,trivial,fun _=>by kernel_rfl⟩
theorem xZjN (N:Nat):xZe0.Ok prog N:=xZjZ.give tb_ok hm N N (fun _=>trivial) fun a r s h=>by
 have l0:=s.loop 0 xZaj (xZet N) N fun next0 h0=>by
  exact fun c v=>s.seg 0 xZaj [(0,.of xZaj next0)] ⟨h0,trivial⟩ (by kernel_rfl) (by kernel_rfl)
 exact s.main [(0,.of xZaj (xZhG N))] ⟨l0,trivial⟩ (.trans (by kernel_rfl) h)
noncomputable def xZjF:Fn xZe1:=⟨f9,[],⟨[(28,4),(55,2)],[],sbf,bof⟩,fun _=>[xZe0],[true],none,0,0,fun _ _=>true,none,[],[],[]⟩
theorem xZk0:xZjF.Ok prog:=⟨Is.of (by kernel_rfl) (by kernel_rfl),by kernel_rfl,xZ5 sb_ok bo_ok,trivial,trivial,fun _=>by kernel_rfl⟩
theorem xZjO (N:Nat):xZe1.Ok prog N:=xZk0.give tb_ok hm N N (fun _=>⟨xZjN N,trivial⟩) fun a r s h=>by
 have l2:=s.loop 2 xZal (xZev N) N fun next2 h2=>by
  exact fun c v=>s.seg 2 xZal [(2,.of xZal next2)] ⟨h2,trivial⟩ (by kernel_rfl) (by kernel_rfl)
 have l0:=s.loop 0 xZak (xZeu N) N fun next0 h0=>by
  exact fun c v=>s.seg 0 xZak [(0,.of xZak next0),(2,.of xZal (xZhI N))] ⟨h0,l2,trivial⟩ (by kernel_rfl) (by kernel_rfl)
 exact s.main [(0,.of xZak (xZhH N))] ⟨l0,trivial⟩ (.trans (by kernel_rfl) h)
noncomputable def xZh4:Fn xZc5:=⟨f15,[],⟨[],[],sbf,bof⟩,fun _=>[xZ6I],[true],none,0,0,fun _ _=>true,none,[],[],[]⟩
theorem xZhs:xZh4.Ok prog:=⟨Is.of (by kernel_rfl) (by kernel_rfl),by kernel_rfl,xZ5 sb_ok bo_ok,trivial,trivial,fun _=>by kernel_rfl⟩
theorem xZhc (N:Nat):xZc5.Ok prog N:=xZhs.give tb_ok hm N N (fun _=>⟨xZ8J N,trivial⟩) fun a r s h=>by
 have l0:=s.loop 0 xZ8U (xZcR N) N fun next0 h0=>by
  exact fun c v=>s.seg 0 xZ8U [(0,.of xZ8U next0)] ⟨h0,trivial⟩ (by kernel_rfl) (by kernel_rfl)
 exact s.main [(0,.of xZ8U (xZfU N))] ⟨l0,trivial⟩ (.trans (by kernel_rfl) h)
noncomputable def xZbz:Fn xZ5S:=⟨f55,[],⟨[],[],sbf,bof⟩,fun _=>[],[true],none,0,0,fun _ _=>true,none,[],[],[]⟩
theorem xZbN:xZbz.Ok prog:=⟨Is.of (by kernel_rfl) (by kernel_rfl),by kernel_rfl,xZ5 sb_ok bo_ok,trivial,trivial,fun _=>by kernel_rfl⟩
theorem xZbI (N:Nat):xZ5S.Ok prog N:=xZbN.give tb_ok hm N N (fun _=>trivial) fun a r s h=>by
 have l0:=s.loop 0 xZ4c (xZ7N N) N fun next0 h0=>by
  exact fun c v=>s.seg 0 xZ4c [(0,.of xZ4c next0)] ⟨h0,trivial⟩ (by kernel_rfl) (by kernel_rfl)
 exact s.main [(0,.of xZ4c (xZb3 N))] ⟨l0,trivial⟩ (.trans (by kernel_rfl) h)
noncomputable def xZ9R:Fn xZ54:=⟨f32,[],⟨[],[],sbf,bof⟩,fun _=>[xZ5S],[true],none,0,0,fun _ _=>true,none,[],[],[]⟩
theorem xZa3:xZ9R.Ok prog:=⟨Is.of (by kernel_rfl) (by kernel_rfl),by kernel_rfl,xZ5 sb_ok bo_ok,trivial,trivial,fun _=>by kernel_rfl⟩
theorem xZ9X (N:Nat):xZ54.Ok prog N:=xZa3.give tb_ok hm N N (fun _=>⟨xZbI N,trivial⟩) fun a r s h=>by
 exact s.main [] trivial (.trans (by kernel_rfl) h)
noncomputable def xZcF:Fn xZ7v:=⟨f56,[],⟨[],[],sbf,bof⟩,fun _=>[],[true],none,0,0,fun _ _=>true,none,[],[],[]⟩
theorem xZcP:xZcF.Ok prog:=⟨Is.of (by kernel_rfl) (by kernel_rfl),by kernel_rfl,xZ5 sb_ok bo_ok,trivial,trivial,fun _=>by kernel_rfl⟩
theorem xZcG (N:Nat):xZ7v.Ok prog N:=xZcP.give tb_ok hm N N (fun _=>trivial) fun a r s h=>by
 have l0:=s.loop 0 xZ4U (xZ8E N) N fun next0 h0=>by
  exact fun c v=>s.seg 0 xZ4U [(0,.of xZ4U next0)] ⟨h0,trivial⟩ (by kernel_rfl) (by kernel_rfl)
 exact s.main [(0,.of xZ4U (xZc4 N))] ⟨l0,trivial⟩ (.trans (by kernel_rfl) h)
noncomputable def xZby:Fn xZ5R:=⟨f33,[],⟨[],[],sbf,bof⟩,fun _=>[xZ7v],[true],none,0,0,fun _ _=>true,none,[],[],[]⟩
theorem xZbM:xZby.Ok prog:=⟨Is.of (by kernel_rfl) (by kernel_rfl),by kernel_rfl,xZ5 sb_ok bo_ok,trivial,trivial,fun _=>by kernel_rfl⟩
theorem xZbH (N:Nat):xZ5R.Ok prog N:=xZbM.give tb_ok hm N N (fun _=>⟨xZcG N,trivial⟩) fun a r s h=>by
 exact s.main [] trivial (.trans (by kernel_rfl) h)
noncomputable def xZjB:Fn xZdX:=⟨f16,[],⟨[],[],sbf,bof⟩,fun _=>[xZ54,xZ5R],[true],none,0,0,fun _ _=>true,none,[],[],[]⟩
theorem xZjW:xZjB.Ok prog:=⟨Is.of (by kernel_rfl) (by kernel_rfl),by kernel_rfl,xZ5 sb_ok bo_ok,trivial,trivial,fun _=>by kernel_rfl⟩
theorem xZjK (N:Nat):xZdX.Ok prog N:=xZjW.give tb_ok hm N N (fun _=>⟨xZ9X N,xZbH N,trivial⟩) fun a r s h=>by
 have l0:=s.loop 0 xZah (xZer N) N fun next0 h0=>by
  exact fun c v=>s.seg 0 xZah [(0,.of xZah next0)] ⟨h0,trivial⟩ (by kernel_rfl) (by kernel_rfl)
 exact s.main [(0,.of xZah (xZhE N))] ⟨l0,trivial⟩ (.trans (by kernel_rfl) h)
noncomputable def xZgj:Fn xZbr:=⟨f17,[],⟨[],[],sbf,bof⟩,fun _=>[xZ6I],[true],none,0,0,fun _ _=>true,none,[],[],[]⟩
theorem xZgJ:xZgj.Ok prog:=⟨Is.of (by kernel_rfl) (by kernel_rfl),by kernel_rfl,xZ5 sb_ok bo_ok,trivial,trivial,fun _=>by kernel_rfl⟩
theorem xZgq (N:Nat):xZbr.Ok prog N:=xZgJ.give tb_ok hm N N (fun _=>⟨xZ8J N,trivial⟩) fun a r s h=>by
 have l4:=s.loop 4 xZ6Y (xZcm N) N fun next4 h4=>by
  exact fun c v=>s.seg 4 xZ6Y [(4,.of xZ6Y next4)] ⟨h4,trivial⟩ (by kernel_rfl) (by kernel_rfl)
 have l0:=s.loop 0 xZ6X (xZck N) N fun next0 h0=>by
  have l2:=s.loop 2 xZ8z (xZcl N next0) N fun next2 h2=>by
   exact fun c v=>s.seg 2 xZ8z [(0,.of xZ6X next0),(2,.of xZ8z next2),(4,.of xZ6Y (xZcp N))] ⟨h0,h2,l4,trivial⟩ (by kernel_rfl) (by kernel_rfl)
  exact fun c v=>s.seg 0 xZ6X [(0,.of xZ6X next0),(2,.of xZ8z (xZfz N next0)),(4,.of xZ6Y (xZcp N))] ⟨h0,l2,l4,trivial⟩ (by kernel_rfl) (by kernel_rfl)
 exact s.main [(0,.of xZ6X (xZfy N))] ⟨l0,trivial⟩ (.trans (by kernel_rfl) h)
noncomputable def xZeG:Fn xZbX:=⟨f5,[],⟨[],[],sbf,bof⟩,fun _=>[xZd1,xZeo,xZe1,xZbq,xZ9a,xZc5,xZdX,xZbr],[true],none,0,0,fun _ _=>true,none,[],[],[]⟩
theorem xZeT:xZeG.Ok prog:=⟨Is.of (by kernel_rfl) (by kernel_rfl),by kernel_rfl,xZ5 sb_ok bo_ok,trivial,trivial,fun _=>by kernel_rfl⟩
theorem xZeL (N:Nat):xZbX.Ok prog N:=xZeT.give tb_ok hm N N (fun _=>⟨xZie N,xZhf N,xZjO N,xZda N,xZds N,xZhc N,xZjK N,xZgq N,trivial⟩) fun a r s h=>by
 have l0:=s.loop 0 xZ5h (xZab N) N fun next0 h0=>by
  have l2:=s.loop 2 xZ6x (xZac N next0) N fun next2 h2=>by
   exact fun c v=>s.seg 2 xZ6x [(0,.of xZ5h next0),(2,.of xZ6x next2)] ⟨h0,h2,trivial⟩ (by kernel_rfl) (by kernel_rfl)
  exact fun c v=>s.seg 0 xZ5h [(0,.of xZ5h next0),(2,.of xZ6x (xZdR N next0))] ⟨h0,l2,trivial⟩ (by kernel_rfl) (by kernel_rfl)
 exact s.main [(0,.of xZ5h (xZdQ N))] ⟨l0,trivial⟩ (.trans (by kernel_rfl) h)
end
end
end Go.Proofs.YtmfkphajohcklaaGreat.P
