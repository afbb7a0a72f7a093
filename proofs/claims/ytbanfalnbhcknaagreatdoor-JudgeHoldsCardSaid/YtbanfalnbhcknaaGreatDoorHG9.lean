/- Functions that are run at known arguments. No premise beyond what each theorem says. -/
import Derived.Test.YtbanfalnbhcknaaGreatDoorHG8
import Derived.Test.YtbanfalnbhcknaaGreatDoorHA4
set_option linter.all false
set_option linter.unusedSimpArgs false
set_option linter.unusedVariables false
namespace Go.Proofs.YtbanfalnbhcknaaGreatDoor.H
open Go
section
open Go.Proofs.Tryz
set_option maxRecDepth 1000000
set_option maxHeartbeats 8000000
noncomputable def k_174:{c:SC // bdQ prog [] f174=c}:=⟨_,by conv=>lhs;cbv⟩
noncomputable def u_174:UF T:=⟨174,f174,k_174.1,⟨[(24,4),(40,4),(51,4),(54,4)],[],sbf,bof⟩,[true],[],false,[],[false],none⟩
theorem xZuR:UF.Ok tb prog u_174:=UF.of func174 (by kernel_rfl) (by kernel_rfl) (xZ5 sb_ok bo_ok) trivial
noncomputable def k_192:{c:SC // bdQ prog [] f192=c}:=⟨_,by conv=>lhs;cbv⟩
noncomputable def u_192:UF T:=⟨192,f192,k_192.1,⟨[],[],sbf,bof⟩,[true],[],false,[],[true,false],none⟩
theorem xZuS:UF.Ok tb prog u_192:=UF.of func192 (by kernel_rfl) (by kernel_rfl) (xZ5 sb_ok bo_ok) trivial
noncomputable def k_193:{c:SC // bdQ prog [] f193=c}:=⟨_,by conv=>lhs;cbv⟩
noncomputable def u_193:UF T:=⟨193,f193,k_193.1,⟨[],[],sbf,bof⟩,[true],[],false,[],[true,false],none⟩
theorem xZuT:UF.Ok tb prog u_193:=UF.of func193 (by kernel_rfl) (by kernel_rfl) (xZ5 sb_ok bo_ok) trivial
noncomputable def k_194:{c:SC // bdQ prog [] f194=c}:=⟨_,by conv=>lhs;cbv⟩
noncomputable def u_194:UF T:=⟨194,f194,k_194.1,⟨[],[],sbf,bof⟩,[true],[],false,[],[true,false],none⟩
theorem xZuU:UF.Ok tb prog u_194:=UF.of func194 (by kernel_rfl) (by kernel_rfl) (xZ5 sb_ok bo_ok) trivial
noncomputable def k_195:{c:SC // bdQ prog [] f195=c}:=⟨_,by conv=>lhs;cbv⟩
noncomputable def u_195:UF T:=⟨195,f195,k_195.1,⟨[],[],sbf,bof⟩,[true],[],false,[],[true,false],none⟩
theorem xZuV:UF.Ok tb prog u_195:=UF.of func195 (by kernel_rfl) (by kernel_rfl) (xZ5 sb_ok bo_ok) trivial
noncomputable def k_244:{c:SC // bdQ prog [] f244=c}:=⟨_,by conv=>lhs;cbv⟩
noncomputable def u_244:UF T:=⟨244,f244,k_244.1,⟨[],[],sbf,bof⟩,[true],[],false,[],[true],none⟩
theorem xZvj:UF.Ok tb prog u_244:=UF.of func244 (by kernel_rfl) (by kernel_rfl) (xZ5 sb_ok bo_ok) trivial
noncomputable def k_196:{c:SC // bdQ prog [] f196=c}:=⟨_,by conv=>lhs;cbv⟩
noncomputable def u_196:UF T:=⟨196,f196,k_196.1,⟨[],[],sbf,bof⟩,[true],[],false,[],[true,true,true],none⟩
theorem xZuW:UF.Ok tb prog u_196:=UF.of func196 (by kernel_rfl) (by kernel_rfl) (xZ5 sb_ok bo_ok) trivial
noncomputable def k_197:{c:SC // bdQ prog [] f197=c}:=⟨_,by conv=>lhs;cbv⟩
noncomputable def u_197:UF T:=⟨197,f197,k_197.1,⟨[],[],sbf,bof⟩,[true],[],false,[],[true],none⟩
theorem xZuX:UF.Ok tb prog u_197:=UF.of func197 (by kernel_rfl) (by kernel_rfl) (xZ5 sb_ok bo_ok) trivial
noncomputable def k_198:{c:SC // bdQ prog [] f198=c}:=⟨_,by conv=>lhs;cbv⟩
noncomputable def u_198:UF T:=⟨198,f198,k_198.1,⟨[],[],sbf,bof⟩,[true,true],[],false,[],[true,true],none⟩
theorem xZuY:UF.Ok tb prog u_198:=UF.of func198 (by kernel_rfl) (by kernel_rfl) (xZ5 sb_ok bo_ok) trivial
noncomputable def k_199:{c:SC // bdQ prog [] f199=c}:=⟨_,by conv=>lhs;cbv⟩
noncomputable def u_199:UF T:=⟨199,f199,k_199.1,⟨[],[],sbf,bof⟩,[true],[],false,[],[true,true],none⟩
theorem xZuZ:UF.Ok tb prog u_199:=UF.of func199 (by kernel_rfl) (by kernel_rfl) (xZ5 sb_ok bo_ok) trivial
noncomputable def k_200:{c:SC // bdQ prog [] f200=c}:=⟨_,by conv=>lhs;cbv⟩
noncomputable def u_200:UF T:=⟨200,f200,k_200.1,⟨[],[],sbf,bof⟩,[true,true],[],false,[],[true,true],none⟩
theorem xZv0:UF.Ok tb prog u_200:=UF.of func200 (by kernel_rfl) (by kernel_rfl) (xZ5 sb_ok bo_ok) trivial
noncomputable def k_202:{c:SC // bdQ prog [(9,[31,32],false)] f202=c}:=⟨_,by conv=>lhs;cbv⟩
noncomputable def u_202:UF T:=⟨202,f202,k_202.1,⟨[],[],sbf,bof⟩,[true],[],false,[],[true,true],none⟩
theorem xZv1:UF.Ok tb prog u_202:=UF.of func202 (by kernel_rfl) (by kernel_rfl) (xZ5 sb_ok bo_ok) trivial
noncomputable def k_207:{c:SC // bdQ prog [] f207=c}:=⟨_,by conv=>lhs;cbv⟩
noncomputable def u_207:UF T:=⟨207,f207,k_207.1,⟨[],[],sbf,bof⟩,[true],[],false,[],[true,true],none⟩
theorem xZv2:UF.Ok tb prog u_207:=UF.of func207 (by kernel_rfl) (by kernel_rfl) (xZ5 sb_ok bo_ok) trivial
noncomputable def k_208:{c:SC // bdQ prog [] f208=c}:=⟨_,by conv=>lhs;cbv⟩
noncomputable def u_208:UF T:=⟨208,f208,k_208.1,⟨[],[],sbf,bof⟩,[true],[],false,[],[true,true],none⟩
theorem xZv3:UF.Ok tb prog u_208:=UF.of func208 (by kernel_rfl) (by kernel_rfl) (xZ5 sb_ok bo_ok) trivial
noncomputable def k_209:{c:SC // bdQ prog [] f209=c}:=⟨_,by conv=>lhs;cbv⟩
noncomputable def u_209:UF T:=⟨209,f209,k_209.1,⟨[],[],sbf,bof⟩,[true],[],false,[],[true,true],none⟩
theorem xZv4:UF.Ok tb prog u_209:=UF.of func209 (by kernel_rfl) (by kernel_rfl) (xZ5 sb_ok bo_ok) trivial
noncomputable def k_211:{c:SC // bdQ prog [] f211=c}:=⟨_,by conv=>lhs;cbv⟩
noncomputable def u_211:UF T:=⟨211,f211,k_211.1,⟨[],[],sbf,bof⟩,[true],[],false,[],[true,true],none⟩
theorem xZv5:UF.Ok tb prog u_211:=UF.of func211 (by kernel_rfl) (by kernel_rfl) (xZ5 sb_ok bo_ok) trivial
noncomputable def k_214:{c:SC // bdQ prog [] f214=c}:=⟨_,by conv=>lhs;cbv⟩
noncomputable def u_214:UF T:=⟨214,f214,k_214.1,⟨[],[],sbf,bof⟩,[true],[],false,[],[true],none⟩
theorem xZv6:UF.Ok tb prog u_214:=UF.of func214 (by kernel_rfl) (by kernel_rfl) (xZ5 sb_ok bo_ok) trivial
noncomputable def k_215:{c:SC // bdQ prog [] f215=c}:=⟨_,by conv=>lhs;cbv⟩
noncomputable def u_215:UF T:=⟨215,f215,k_215.1,⟨[],[],sbf,bof⟩,[true],[],false,[],[true],none⟩
theorem xZv7:UF.Ok tb prog u_215:=UF.of func215 (by kernel_rfl) (by kernel_rfl) (xZ5 sb_ok bo_ok) trivial
noncomputable def k_216:{c:SC // bdQ prog [] f216=c}:=⟨_,by conv=>lhs;cbv⟩
noncomputable def u_216:UF T:=⟨216,f216,k_216.1,⟨[],[],sbf,bof⟩,[true],[],false,[],[true],none⟩
theorem xZv8:UF.Ok tb prog u_216:=UF.of func216 (by kernel_rfl) (by kernel_rfl) (xZ5 sb_ok bo_ok) trivial
noncomputable def k_120:{c:SC // bdQ prog [] f120=c}:=⟨_,by conv=>lhs;cbv⟩
noncomputable def u_120:UF T:=⟨120,f120,k_120.1,⟨[],[],sbf,bof⟩,[true],[],false,[],[true],none⟩
theorem xZus:UF.Ok tb prog u_120:=UF.of func120 (by kernel_rfl) (by kernel_rfl) (xZ5 sb_ok bo_ok) trivial
noncomputable def k_226:{c:SC // bdQ prog [] f226=c}:=⟨_,by conv=>lhs;cbv⟩
noncomputable def u_226:UF T:=⟨226,f226,k_226.1,⟨[],[],sbf,bof⟩,[true,true],[],false,[],[true,false],none⟩
theorem xZv9:UF.Ok tb prog u_226:=UF.of func226 (by kernel_rfl) (by kernel_rfl) (xZ5 sb_ok bo_ok) trivial
noncomputable def k_227:{c:SC // bdQ prog [(1,[16],false)] f227=c}:=⟨_,by conv=>lhs;cbv⟩
noncomputable def u_227:UF T:=⟨227,f227,k_227.1,⟨[],[],sbf,bof⟩,[true,true],[],false,[],[true,false],none⟩
theorem xZva:UF.Ok tb prog u_227:=UF.of func227 (by kernel_rfl) (by kernel_rfl) (xZ5 sb_ok bo_ok) trivial
noncomputable def k_229:{c:SC // bdQ prog [(1,[],false),(4,[28],false)] f229=c}:=⟨_,by conv=>lhs;cbv⟩
noncomputable def u_229:UF T:=⟨229,f229,k_229.1,⟨[],[],sbf,bof⟩,[true,true],[],false,[],[true,false],none⟩
theorem xZvc:UF.Ok tb prog u_229:=UF.of func229 (by kernel_rfl) (by kernel_rfl) (xZ5 sb_ok bo_ok) trivial
noncomputable def k_233:{c:SC // bdQ prog [] f233=c}:=⟨_,by conv=>lhs;cbv⟩
noncomputable def u_233:UF T:=⟨233,f233,k_233.1,⟨[],[],sbf,bof⟩,[true,true],[],false,[],[true,false],none⟩
theorem xZvd:UF.Ok tb prog u_233:=UF.of func233 (by kernel_rfl) (by kernel_rfl) (xZ5 sb_ok bo_ok) trivial
noncomputable def k_228:{c:SC // bdQ prog [] f228=c}:=⟨_,by conv=>lhs;cbv⟩
noncomputable def u_228:UF T:=⟨228,f228,k_228.1,⟨[],[],sbf,bof⟩,[true,true],[],false,[],[true,true,true],none⟩
theorem xZvb:UF.Ok tb prog u_228:=UF.of func228 (by kernel_rfl) (by kernel_rfl) (xZ5 sb_ok bo_ok) trivial
noncomputable def k_234:{c:SC // bdQ prog [(5,[30,31,32,33],false)] f234=c}:=⟨_,by conv=>lhs;cbv⟩
noncomputable def u_234:UF T:=⟨234,f234,k_234.1,⟨[],[],sbf,bof⟩,[true,true],[],false,[],[true,true],none⟩
theorem xZve:UF.Ok tb prog u_234:=UF.of func234 (by kernel_rfl) (by kernel_rfl) (xZ5 sb_ok bo_ok) trivial
noncomputable def k_235:{c:SC // bdQ prog [(5,[29,30,31],false)] f235=c}:=⟨_,by conv=>lhs;cbv⟩
noncomputable def u_235:UF T:=⟨235,f235,k_235.1,⟨[],[],sbf,bof⟩,[true,true],[],false,[],[true,true],none⟩
theorem xZvf:UF.Ok tb prog u_235:=UF.of func235 (by kernel_rfl) (by kernel_rfl) (xZ5 sb_ok bo_ok) trivial
noncomputable def k_236:{c:SC // bdQ prog [] f236=c}:=⟨_,by conv=>lhs;cbv⟩
noncomputable def u_236:UF T:=⟨236,f236,k_236.1,⟨[],[],sbf,bof⟩,[true],[],false,[],[true,true],none⟩
theorem xZvg:UF.Ok tb prog u_236:=UF.of func236 (by kernel_rfl) (by kernel_rfl) (xZ5 sb_ok bo_ok) trivial
noncomputable def k_237:{c:SC // bdQ prog [] f237=c}:=⟨_,by conv=>lhs;cbv⟩
noncomputable def u_237:UF T:=⟨237,f237,k_237.1,⟨[],[],sbf,bof⟩,[true,true],[],false,[],[true,true],none⟩
theorem xZvh:UF.Ok tb prog u_237:=UF.of func237 (by kernel_rfl) (by kernel_rfl) (xZ5 sb_ok bo_ok) trivial
noncomputable def k_239:{c:SC // bdQ prog [] f239=c}:=⟨_,by conv=>lhs;cbv⟩
noncomputable def u_239:UF T:=⟨239,f239,k_239.1,⟨[],[],sbf,bof⟩,[true],[],false,[],[true],none⟩
theorem xZvi:UF.Ok tb prog u_239:=UF.of func239 (by kernel_rfl) (by kernel_rfl) (xZ5 sb_ok bo_ok) trivial
end
section
open Go.Proofs.Tryz
set_option maxRecDepth 1000000
set_option maxHeartbeats 8000000
noncomputable def us:UT T:=(.node (.node (.node (.node (.node (.node (.node .nil 8 u_8 .nil) 13 u_13 .nil) 14 u_14 (.node (.node .nil 18 u_18 .nil) 25 u_25 .nil)) 27 u_27 (.node (.node (.node .nil 28 u_28 .nil) 29 u_29 .nil) 35 u_35 (.node (.node .nil 36 u_36 .nil) 37 u_37 .nil))) 38 u_38 (.node (.node (.node (.node .nil 39 u_39 .nil) 40 u_40 .nil) 42 u_42 (.node (.node .nil 43 u_43 .nil) 53 u_53 .nil)) 56 u_56 (.node (.node (.node .nil 57 u_57 .nil) 58 u_58 .nil) 59 u_59 (.node .nil 60 u_60 .nil)))) 61 u_61 (.node (.node (.node (.node (.node .nil 62 u_62 .nil) 88 u_88 .nil) 89 u_89 (.node (.node .nil 91 u_91 .nil) 92 u_92 .nil)) 93 u_93 (.node (.node (.node .nil 94 u_94 .nil) 95 u_95 .nil) 96 u_96 (.node (.node .nil 97 u_97 .nil) 98 u_98 .nil))) 99 u_99 (.node (.node (.node (.node .nil 100 u_100 .nil) 120 u_120 .nil) 121 u_121 (.node (.node .nil 122 u_122 .nil) 123 u_123 .nil)) 125 u_125 (.node (.node (.node .nil 126 u_126 .nil) 129 u_129 .nil) 130 u_130 (.node .nil 131 u_131 .nil))))) 132 u_132 (.node (.node (.node (.node (.node (.node .nil 133 u_133 .nil) 135 u_135 .nil) 136 u_136 (.node (.node .nil 137 u_137 .nil) 146 u_146 .nil)) 147 u_147 (.node (.node (.node .nil 148 u_148 .nil) 149 u_149 .nil) 155 u_155 (.node (.node .nil 156 u_156 .nil) 157 u_157 .nil))) 166 u_166 (.node (.node (.node (.node .nil 168 u_168 .nil) 169 u_169 .nil) 170 u_170 (.node (.node .nil 174 u_174 .nil) 192 u_192 .nil)) 193 u_193 (.node (.node (.node .nil 194 u_194 .nil) 195 u_195 .nil) 196 u_196 (.node .nil 197 u_197 .nil)))) 198 u_198 (.node (.node (.node (.node (.node .nil 199 u_199 .nil) 200 u_200 .nil) 202 u_202 (.node (.node .nil 207 u_207 .nil) 208 u_208 .nil)) 209 u_209 (.node (.node (.node .nil 211 u_211 .nil) 214 u_214 .nil) 215 u_215 (.node .nil 216 u_216 .nil))) 226 u_226 (.node (.node (.node (.node .nil 227 u_227 .nil) 228 u_228 .nil) 229 u_229 (.node (.node .nil 233 u_233 .nil) 234 u_234 .nil)) 235 u_235 (.node (.node (.node .nil 236 u_236 .nil) 237 u_237 .nil) 239 u_239 (.node .nil 244 u_244 .nil))))))
theorem us_ok:us.Ok tb prog:=⟨⟨⟨⟨⟨⟨⟨trivial,uk_8,trivial⟩,uk_13,trivial⟩,uk_14,⟨⟨trivial,uk_18,trivial⟩,uk_25,trivial⟩⟩,uk_27,⟨⟨⟨trivial,uk_28,trivial⟩,uk_29,trivial⟩,uk_35,⟨⟨trivial,uk_36,trivial⟩,uk_37,trivial⟩⟩⟩,uk_38,⟨⟨⟨⟨trivial,uk_39,trivial⟩,uk_40,trivial⟩,uk_42,⟨⟨trivial,uk_43,trivial⟩,uk_53,trivial⟩⟩,uk_56,⟨⟨⟨trivial,uk_57,trivial⟩,uk_58,trivial⟩,uk_59,⟨trivial,uk_60,trivial⟩⟩⟩⟩,uk_61,⟨⟨⟨⟨⟨trivial,uk_62,trivial⟩,uk_88,trivial⟩,uk_89,⟨⟨trivial,uk_91,trivial⟩,uk_92,trivial⟩⟩,uk_93,⟨⟨⟨trivial,uk_94,trivial⟩,uk_95,trivial⟩,uk_96,⟨⟨trivial,uk_97,trivial⟩,uk_98,trivial⟩⟩⟩,uk_99,⟨⟨⟨⟨trivial,xZur,trivial⟩,xZus,trivial⟩,xZut,⟨⟨trivial,xZuu,trivial⟩,xZuv,trivial⟩⟩,xZuw,⟨⟨⟨trivial,xZux,trivial⟩,xZuy,trivial⟩,xZuz,⟨trivial,xZuA,trivial⟩⟩⟩⟩⟩,xZuB,⟨⟨⟨⟨⟨⟨trivial,xZuC,trivial⟩,xZuD,trivial⟩,xZuE,⟨⟨trivial,xZuF,trivial⟩,xZuG,trivial⟩⟩,xZuH,⟨⟨⟨trivial,xZuI,trivial⟩,xZuJ,trivial⟩,xZuK,⟨⟨trivial,xZuL,trivial⟩,xZuM,trivial⟩⟩⟩,xZuN,⟨⟨⟨⟨trivial,xZuO,trivial⟩,xZuP,trivial⟩,xZuQ,⟨⟨trivial,xZuR,trivial⟩,xZuS,trivial⟩⟩,xZuT,⟨⟨⟨trivial,xZuU,trivial⟩,xZuV,trivial⟩,xZuW,⟨trivial,xZuX,trivial⟩⟩⟩⟩,xZuY,⟨⟨⟨⟨⟨trivial,xZuZ,trivial⟩,xZv0,trivial⟩,xZv1,⟨⟨trivial,xZv2,trivial⟩,xZv3,trivial⟩⟩,xZv4,⟨⟨⟨trivial,xZv5,trivial⟩,xZv6,trivial⟩,xZv7,⟨trivial,xZv8,trivial⟩⟩⟩,xZv9,⟨⟨⟨⟨trivial,xZva,trivial⟩,xZvb,trivial⟩,xZvc,⟨⟨trivial,xZvd,trivial⟩,xZve,trivial⟩⟩,xZvf,⟨⟨⟨trivial,xZvg,trivial⟩,xZvh,trivial⟩,xZvi,⟨trivial,xZvj,trivial⟩⟩⟩⟩⟩⟩
def uex:List (FuncId×EK'):=[(163,.cs),(165,.ib)]
theorem xZsY:exOk prog uex:=⟨ExtIs.mk' f163 (by kernel_rfl) (by kernel_rfl) (by kernel_rfl) (by kernel_rfl) (by kernel_rfl),ExtIs.mk' f165 (by kernel_rfl) (by kernel_rfl) (by kernel_rfl) (by kernel_rfl) (by kernel_rfl),trivial⟩
noncomputable def uh0 (f:FuncId):List (Con tb):=match Nat.beq f 230 with | true=>[xZbZ] | false=>match Nat.beq f 171 with | true=>[xZ24] | false=>match Nat.beq f 138 with | true=>[xZ23,xZ2O] | false=>match Nat.beq f 41 with | true=>[xZ6l] | false=>match Nat.beq f 54 with | true=>[xZ93] | false=>[]
theorem xZup (N:Nat) (f:FuncId):conOk prog N (uh0 f):=by
 unfold uh0
 split
 ·exact ⟨xZf8 N,trivial⟩
 split
 ·exact ⟨xZ3r N,trivial⟩
 split
 ·exact ⟨xZ3q N,xZ5R N,trivial⟩
 split
 ·exact ⟨xZ9s N,trivial⟩
 split
 ·exact ⟨xZdR N,trivial⟩
 exact trivial
noncomputable abbrev uc0:FuncId→List (Con tb):=uCons tb 100000 prog uex uh0 us 1000 1000
end
section
open Go.Proofs.Tryz
set_option maxRecDepth 1000000
set_option maxHeartbeats 8000000
noncomputable def uh1 (f:FuncId):List (Con tb):=uh0 f
theorem xZuq (f:FuncId):conOk prog 1000 (uh1 f):=by
 unfold uh1
 exact xZup 1000 f
theorem uaw:uRun tb 100000 prog uex (uCons tb 100000 prog uex uh1 us 1000 1000) 1000 u_8 [true] (uOutP tb) EqT.q1 [] ⟨[],[]⟩=some (.bool true):=by kernel_rfl
theorem xZh2 (N:Nat):xZcH.Ok prog N:=⟨uk_8.is.enters,fun a r h=>by
 cases h
 exact xZn5 (o:=uOutP tb) uk_8 tb_ok hm xZsY (xZn4 tb_ok hm xZsY xZuq us_ok 1000) uaw⟩
end
section
open Go.Proofs.Tryz
set_option maxRecDepth 1000000
noncomputable section
noncomputable def xZif:Fn xZay:=⟨f22,[],⟨[],[],sbf,bof⟩,fun _=>[],[true],none,0,0,fun _ _=>true,none,[],[],[]⟩
theorem xZje:xZif.Ok prog:=⟨Is.of (by kernel_rfl) (by kernel_rfl),by kernel_rfl,xZ5 sb_ok bo_ok,trivial,trivial,fun _=>by kernel_rfl⟩
theorem xZiM (N:Nat):xZay.Ok prog N:=xZje.give tb_ok hm N N (fun _=>trivial) fun a r s h=>by
 have l0:=s.loop 0 xZ4A (xZbv N) N fun next0 h0=>by
  have l2:=s.loop 2 xZ60 (xZbw N next0) N fun next2 h2=>by
   exact fun c v=>s.seg 2 xZ60 [(0,.of xZ4A next0),(2,.of xZ60 next2)] ⟨h0,h2,trivial⟩ (by kernel_rfl) (by kernel_rfl)
  exact fun c v=>s.seg 0 xZ4A [(0,.of xZ4A next0),(2,.of xZ60 (xZge N next0))] ⟨h0,l2,trivial⟩ (by kernel_rfl) (by kernel_rfl)
 exact s.main [(0,.of xZ4A (xZgd N))] ⟨l0,trivial⟩ (.trans (by kernel_rfl) h)
noncomputable def xZih:Fn xZ8e:=⟨f24,[],⟨[],[],sbf,bof⟩,fun _=>[xZ70],[true],none,0,0,fun _ _=>true,none,[],[],[]⟩
theorem xZjg:xZih.Ok prog:=⟨Is.of (by kernel_rfl) (by kernel_rfl),by kernel_rfl,xZ5 sb_ok bo_ok,trivial,trivial,fun _=>by kernel_rfl⟩
theorem xZdQ (N:Nat):xZ8e.Ok prog N:=xZjg.give tb_ok hm N N (fun _=>⟨xZcK N,trivial⟩) fun a r s h=>by
 have l0:=s.loop 0 xZ4B (xZby N) N fun next0 h0=>by
  have l2:=s.loop 2 xZ62 (xZbz N next0) N fun next2 h2=>by
   exact fun c v=>s.seg 2 xZ62 [(0,.of xZ4B next0),(2,.of xZ62 next2)] ⟨h0,h2,trivial⟩ (by kernel_rfl) (by kernel_rfl)
  exact fun c v=>s.seg 0 xZ4B [(0,.of xZ4B next0),(2,.of xZ62 (xZgh N next0))] ⟨h0,l2,trivial⟩ (by kernel_rfl) (by kernel_rfl)
 exact s.main [(0,.of xZ4B (xZgg N))] ⟨l0,trivial⟩ (.trans (by kernel_rfl) h)
noncomputable def xZij:Fn xZaB:=⟨f23,[],⟨[(26,8)],[],sbf,bof⟩,fun _=>[xZ8e],[true],none,0,0,fun _ _=>true,none,[],[],[]⟩
theorem xZji:xZij.Ok prog:=⟨Is.of (by kernel_rfl) (by kernel_rfl),by kernel_rfl,xZ5 sb_ok bo_ok,trivial,trivial,fun _=>by kernel_rfl⟩
theorem xZiP (N:Nat):xZaB.Ok prog N:=xZji.give tb_ok hm N N (fun _=>⟨xZdQ N,trivial⟩) fun a r s h=>by
 have l0:=s.loop 0 xZ64 (xZbB N) N fun next0 h0=>by
  exact fun c v=>s.seg 0 xZ64 [(0,.of xZ64 next0)] ⟨h0,trivial⟩ (by kernel_rfl) (by kernel_rfl)
 exact s.main [(0,.of xZ64 (xZgj N))] ⟨l0,trivial⟩ (.trans (by kernel_rfl) h)
noncomputable def xZik:Fn xZaC:=⟨f7,[],⟨[(12,8)],[],sbf,bof⟩,fun _=>[xZay,xZaB,xZ8e],[true],none,0,0,fun _ _=>true,none,[],[],[]⟩
theorem xZjj:xZik.Ok prog:=⟨Is.of (by kernel_rfl) (by kernel_rfl),by kernel_rfl,xZ5 sb_ok bo_ok,trivial,trivial,fun _=>by kernel_rfl⟩
theorem xZiQ (N:Nat):xZaC.Ok prog N:=xZjj.give tb_ok hm N N (fun _=>⟨xZiM N,xZiP N,xZdQ N,trivial⟩) fun a r s h=>by
 exact s.main [] trivial (.trans (by kernel_rfl) h)
noncomputable def xZkD:Fn xZc1:=⟨f9,[],⟨[(28,4)],[],sbf,bof⟩,fun _=>[],[true],none,0,0,fun _ _=>true,none,[],[],[]⟩
theorem xZl4:xZkD.Ok prog:=⟨Is.of (by kernel_rfl) (by kernel_rfl),by kernel_rfl,xZ5 sb_ok bo_ok,trivial,trivial,fun _=>by kernel_rfl⟩
theorem xZkP (N:Nat):xZc1.Ok prog N:=xZl4.give tb_ok hm N N (fun _=>trivial) fun a r s h=>by
 have l0:=s.loop 0 xZ7d (xZcV N) N fun next0 h0=>by
  exact fun c v=>s.seg 0 xZ7d [(0,.of xZ7d next0)] ⟨h0,trivial⟩ (by kernel_rfl) (by kernel_rfl)
 exact s.main [(0,.of xZ7d (xZi2 N))] ⟨l0,trivial⟩ (.trans (by kernel_rfl) h)
noncomputable def xZkB:Fn xZc0:=⟨f10,[],⟨[(39,2),(44,3)],[],sbf,bof⟩,fun _=>[],[true],none,0,0,fun _ _=>true,none,[],[],[]⟩
theorem xZl2:xZkB.Ok prog:=⟨Is.of (by kernel_rfl) (by kernel_rfl),by kernel_rfl,xZ5 sb_ok bo_ok,trivial,trivial,fun _=>by kernel_rfl⟩
theorem xZkO (N:Nat):xZc0.Ok prog N:=xZl2.give tb_ok hm N N (fun _=>trivial) fun a r s h=>by
 have l0:=s.loop 0 xZ5r (xZcT N) N fun next0 h0=>by
  have l2:=s.loop 2 xZ7c (xZcU N next0) N fun next2 h2=>by
   exact fun c v=>s.seg 2 xZ7c [(0,.of xZ5r next0),(2,.of xZ7c next2)] ⟨h0,h2,trivial⟩ (by kernel_rfl) (by kernel_rfl)
  exact fun c v=>s.seg 0 xZ5r [(0,.of xZ5r next0),(2,.of xZ7c (xZi1 N next0))] ⟨h0,l2,trivial⟩ (by kernel_rfl) (by kernel_rfl)
 exact s.main [(0,.of xZ5r (xZi0 N))] ⟨l0,trivial⟩ (.trans (by kernel_rfl) h)
noncomputable def xZig:Fn xZaz:=⟨f26,[],⟨[(16,0)],[],sbf,bof⟩,fun _=>[],[true],none,0,0,fun _ _=>true,none,[],[],[]⟩
theorem xZjf:xZig.Ok prog:=⟨Is.of (by kernel_rfl) (by kernel_rfl),by kernel_rfl,xZ5 sb_ok bo_ok,trivial,trivial,fun _=>by kernel_rfl⟩
theorem xZiN (N:Nat):xZaz.Ok prog N:=xZjf.give tb_ok hm N N (fun _=>trivial) fun a r s h=>by
 have l0:=s.loop 0 xZ61 (xZbx N) N fun next0 h0=>by
  exact fun c v=>s.seg 0 xZ61 [(0,.of xZ61 next0)] ⟨h0,trivial⟩ (by kernel_rfl) (by kernel_rfl)
 exact s.main [(0,.of xZ61 (xZgf N))] ⟨l0,trivial⟩ (.trans (by kernel_rfl) h)
noncomputable def xZkC:Fn xZa3:=⟨f12,[],⟨[],[],sbf,bof⟩,fun _=>[xZaz],[true],none,0,0,fun _ _=>true,none,[],[],[]⟩
theorem xZl3:xZkC.Ok prog:=⟨Is.of (by kernel_rfl) (by kernel_rfl),by kernel_rfl,xZ5 sb_ok bo_ok,trivial,trivial,fun _=>by kernel_rfl⟩
theorem xZf9 (N:Nat):xZa3.Ok prog N:=xZl3.give tb_ok hm N N (fun _=>⟨xZiN N,trivial⟩) fun a r s h=>by
 exact s.main [] trivial (.trans (by kernel_rfl) h)
noncomputable def xZgC:Fn xZ92:=⟨f11,[],⟨[(24,1)],[],sbf,bof⟩,fun _=>[xZa3],[true],none,0,0,fun _ _=>true,none,[],[],[]⟩
theorem xZhy:xZgC.Ok prog:=⟨Is.of (by kernel_rfl) (by kernel_rfl),by kernel_rfl,xZ5 sb_ok bo_ok,trivial,trivial,fun _=>by kernel_rfl⟩
theorem xZh1 (N:Nat):xZ92.Ok prog N:=xZhy.give tb_ok hm N N (fun _=>⟨xZf9 N,trivial⟩) fun a r s h=>by
 have l0:=s.loop 0 xZ53 (xZam N) N fun next0 h0=>by
  exact fun c v=>s.seg 0 xZ53 [(0,.of xZ53 next0)] ⟨h0,trivial⟩ (by kernel_rfl) (by kernel_rfl)
 exact s.main [(0,.of xZ53 (xZeW N))] ⟨l0,trivial⟩ (.trans (by kernel_rfl) h)
noncomputable def xZ8p:Fn xZO:=⟨f29,[],⟨[],[],sbf,bof⟩,fun _=>[xZO],[true],none,1,0,fun _ _=>true,some EqR.cls,[],[],[]⟩
theorem xZ4y:xZ8p.Ok prog:=⟨Is.of (by kernel_rfl) (by kernel_rfl),by kernel_rfl,xZ5 sb_ok bo_ok,trivial,trivial,fun _=>by kernel_rfl⟩
theorem xZ4d:∀ N,xZO.Ok prog N
 | 0=>⟨xZ4y.is.enters,fun a r h=>by (have h:none=some r:=h;cases h)⟩
 | N+1=>by
   obtain h_judge_reader_side_v501:=xZ4d N
   ·exact xZ4y.give tb_ok hm N (N+1) (fun _=>⟨h_judge_reader_side_v501,trivial⟩) fun a r s h=>by
     exact s.main [] trivial (.trans (by kernel_rfl) h)
theorem xZ4u (N:Nat):xZO.Ok prog N:=(xZ4d N)
noncomputable def xZ9h:Fn xZ1x:=⟨f226,[],⟨[],[],sbf,bof⟩,fun _=>[],[true,true],none,1,0,fun _ _=>true,none,[],[],[]⟩
theorem xZ9N:xZ9h.Ok prog:=⟨Is.of (by kernel_rfl) (by kernel_rfl),by kernel_rfl,xZ5 sb_ok bo_ok,trivial,trivial,fun _=>by kernel_rfl⟩
theorem xZ2V (N:Nat):xZ1x.Ok prog N:=xZ9N.give tb_ok hm N N (fun _=>trivial) fun a r s h=>by
 exact s.main [] trivial (.trans (by kernel_rfl) h)
noncomputable def xZgT:Fn xZ9c:=⟨f96,[],⟨[],[],sbf,bof⟩,fun _=>[xZ23],[true,true],none,0,0,fun _ _=>true,none,[],[],[]⟩
theorem xZhO:xZgT.Ok prog:=⟨Is.of (by kernel_rfl) (by kernel_rfl),by kernel_rfl,xZ5 sb_ok bo_ok,trivial,trivial,fun _=>by kernel_rfl⟩
theorem xZhe (N:Nat):xZ9c.Ok prog N:=xZhO.give tb_ok hm N N (fun _=>⟨xZ3q N,trivial⟩) fun a r s h=>by
 have l0:=s.loop 0 xZ57 (xZaq N) N fun next0 h0=>by
  exact fun c v=>s.seg 0 xZ57 [(0,.of xZ57 next0)] ⟨h0,trivial⟩ (by kernel_rfl) (by kernel_rfl)
 exact s.main [(0,.of xZ57 (xZf0 N))] ⟨l0,trivial⟩ (.trans (by kernel_rfl) h)
noncomputable def xZbh:Fn xZ4r:=⟨f137,[],⟨[],[],sbf,bof⟩,fun _=>[],[true,true],none,0,0,fun _ _=>true,none,[],[],[]⟩
theorem xZbP:xZbh.Ok prog:=⟨Is.of (by kernel_rfl) (by kernel_rfl),by kernel_rfl,xZ5 sb_ok bo_ok,trivial,trivial,fun _=>by kernel_rfl⟩
theorem xZbn (N:Nat):xZ4r.Ok prog N:=xZbP.give tb_ok hm N N (fun _=>trivial) fun a r s h=>by
 have l0:=s.loop 0 xZ2l (xZ5J N) N fun next0 h0=>by
  exact fun c v=>s.seg 0 xZ2l [(0,.of xZ2l next0)] ⟨h0,trivial⟩ (by kernel_rfl) (by kernel_rfl)
 exact s.main [(0,.of xZ2l (xZai N))] ⟨l0,trivial⟩ (.trans (by kernel_rfl) h)
noncomputable def xZbg:Fn xZ2N:=⟨f228,[],⟨[],[],sbf,bof⟩,fun _=>[xZ9c,xZ4r],[true,true],none,0,0,fun _ _=>true,none,[],[],[]⟩
theorem xZbO:xZbg.Ok prog:=⟨Is.of (by kernel_rfl) (by kernel_rfl),by kernel_rfl,xZ5 sb_ok bo_ok,trivial,trivial,fun _=>by kernel_rfl⟩
theorem xZ77 (N:Nat):xZ2N.Ok prog N:=xZbO.give tb_ok hm N N (fun _=>⟨xZhe N,xZbn N,trivial⟩) fun a r s h=>by
 exact s.main [] trivial (.trans (by kernel_rfl) h)
noncomputable def xZae:Fn xZ1H:=⟨f229,[],⟨[],[],sbf,bof⟩,fun _=>[xZbZ,xZ2N],[true,true],none,1,0,fun _ _=>true,none,[],[],[]⟩
theorem xZah:xZae.Ok prog:=⟨Is.of (by kernel_rfl) (by kernel_rfl),by kernel_rfl,xZ5 sb_ok bo_ok,trivial,trivial,fun _=>by kernel_rfl⟩
theorem xZ3A (N:Nat):xZ1H.Ok prog N:=xZah.give tb_ok hm N N (fun _=>⟨xZf8 N,xZ77 N,trivial⟩) fun a r s h=>by
 exact s.main [] trivial (.trans (by kernel_rfl) h)
end
end
end Go.Proofs.YtbanfalnbhcknaaGreatDoor.H
