/- Functions that are run at known arguments. No premise beyond what each theorem says. -/
import Derived.Test.YtbanfalnbhcknaaGreatDoorYG9
import Derived.Test.YtbanfalnbhcknaaGreatDoorYA4
set_option linter.all false
set_option linter.unusedSimpArgs false
set_option linter.unusedVariables false
namespace Go.Proofs.YtbanfalnbhcknaaGreatDoor.Y
open Go
section
open Go.Proofs.Tryz
set_option maxRecDepth 1000000
set_option maxHeartbeats 8000000
noncomputable def k_174 : {c : SC // bdQ prog [] f174 = c} := ⟨_, by conv => lhs; cbv⟩
noncomputable def u_174 : UF T := ⟨174, f174, k_174.1, ⟨[(24, 4), (40, 4), (51, 4), (54, 4)], [], sbf, bof⟩, [true], [], false, [], [false], none⟩
theorem uk_174 : UF.Ok tb prog u_174 := UF.of func174 (by kernel_rfl) (by kernel_rfl) (hint_sb sb_ok bo_ok) trivial
noncomputable def k_192 : {c : SC // bdQ prog [] f192 = c} := ⟨_, by conv => lhs; cbv⟩
noncomputable def u_192 : UF T := ⟨192, f192, k_192.1, ⟨[], [], sbf, bof⟩, [true], [], false, [], [true, false], none⟩
theorem uk_192 : UF.Ok tb prog u_192 := UF.of func192 (by kernel_rfl) (by kernel_rfl) (hint_sb sb_ok bo_ok) trivial
noncomputable def k_193 : {c : SC // bdQ prog [] f193 = c} := ⟨_, by conv => lhs; cbv⟩
noncomputable def u_193 : UF T := ⟨193, f193, k_193.1, ⟨[], [], sbf, bof⟩, [true], [], false, [], [true, false], none⟩
theorem uk_193 : UF.Ok tb prog u_193 := UF.of func193 (by kernel_rfl) (by kernel_rfl) (hint_sb sb_ok bo_ok) trivial
noncomputable def k_194 : {c : SC // bdQ prog [] f194 = c} := ⟨_, by conv => lhs; cbv⟩
noncomputable def u_194 : UF T := ⟨194, f194, k_194.1, ⟨[], [], sbf, bof⟩, [true], [], false, [], [true, false], none⟩
theorem uk_194 : UF.Ok tb prog u_194 := UF.of func194 (by kernel_rfl) (by kernel_rfl) (hint_sb sb_ok bo_ok) trivial
noncomputable def k_195 : {c : SC // bdQ prog [] f195 = c} := ⟨_, by conv => lhs; cbv⟩
noncomputable def u_195 : UF T := ⟨195, f195, k_195.1, ⟨[], [], sbf, bof⟩, [true], [], false, [], [true, false], none⟩
theorem uk_195 : UF.Ok tb prog u_195 := UF.of func195 (by kernel_rfl) (by kernel_rfl) (hint_sb sb_ok bo_ok) trivial
noncomputable def k_244 : {c : SC // bdQ prog [] f244 = c} := ⟨_, by conv => lhs; cbv⟩
noncomputable def u_244 : UF T := ⟨244, f244, k_244.1, ⟨[], [], sbf, bof⟩, [true], [], false, [], [true], none⟩
theorem uk_244 : UF.Ok tb prog u_244 := UF.of func244 (by kernel_rfl) (by kernel_rfl) (hint_sb sb_ok bo_ok) trivial
noncomputable def k_196 : {c : SC // bdQ prog [] f196 = c} := ⟨_, by conv => lhs; cbv⟩
noncomputable def u_196 : UF T := ⟨196, f196, k_196.1, ⟨[], [], sbf, bof⟩, [true], [], false, [], [true, true, true], none⟩
theorem uk_196 : UF.Ok tb prog u_196 := UF.of func196 (by kernel_rfl) (by kernel_rfl) (hint_sb sb_ok bo_ok) trivial
noncomputable def k_197 : {c : SC // bdQ prog [] f197 = c} := ⟨_, by conv => lhs; cbv⟩
noncomputable def u_197 : UF T := ⟨197, f197, k_197.1, ⟨[], [], sbf, bof⟩, [true], [], false, [], [true], none⟩
theorem uk_197 : UF.Ok tb prog u_197 := UF.of func197 (by kernel_rfl) (by kernel_rfl) (hint_sb sb_ok bo_ok) trivial
noncomputable def k_198 : {c : SC // bdQ prog [] f198 = c} := ⟨_, by conv => lhs; cbv⟩
noncomputable def u_198 : UF T := ⟨198, f198, k_198.1, ⟨[], [], sbf, bof⟩, [true, true], [], false, [], [true, true], none⟩
theorem uk_198 : UF.Ok tb prog u_198 := UF.of func198 (by kernel_rfl) (by kernel_rfl) (hint_sb sb_ok bo_ok) trivial
noncomputable def k_199 : {c : SC // bdQ prog [] f199 = c} := ⟨_, by conv => lhs; cbv⟩
noncomputable def u_199 : UF T := ⟨199, f199, k_199.1, ⟨[], [], sbf, bof⟩, [true], [], false, [], [true, true], none⟩
theorem uk_199 : UF.Ok tb prog u_199 := UF.of func199 (by kernel_rfl) (by kernel_rfl) (hint_sb sb_ok bo_ok) trivial
noncomputable def k_200 : {c : SC // bdQ prog [] f200 = c} := ⟨_, by conv => lhs; cbv⟩
noncomputable def u_200 : UF T := ⟨200, f200, k_200.1, ⟨[], [], sbf, bof⟩, [true, true], [], false, [], [true, true], none⟩
theorem uk_200 : UF.Ok tb prog u_200 := UF.of func200 (by kernel_rfl) (by kernel_rfl) (hint_sb sb_ok bo_ok) trivial
noncomputable def k_202 : {c : SC // bdQ prog [(9, [31, 32], false)] f202 = c} := ⟨_, by conv => lhs; cbv⟩
noncomputable def u_202 : UF T := ⟨202, f202, k_202.1, ⟨[], [], sbf, bof⟩, [true], [], false, [], [true, true], none⟩
theorem uk_202 : UF.Ok tb prog u_202 := UF.of func202 (by kernel_rfl) (by kernel_rfl) (hint_sb sb_ok bo_ok) trivial
noncomputable def k_207 : {c : SC // bdQ prog [] f207 = c} := ⟨_, by conv => lhs; cbv⟩
noncomputable def u_207 : UF T := ⟨207, f207, k_207.1, ⟨[], [], sbf, bof⟩, [true], [], false, [], [true, true], none⟩
theorem uk_207 : UF.Ok tb prog u_207 := UF.of func207 (by kernel_rfl) (by kernel_rfl) (hint_sb sb_ok bo_ok) trivial
noncomputable def k_208 : {c : SC // bdQ prog [] f208 = c} := ⟨_, by conv => lhs; cbv⟩
noncomputable def u_208 : UF T := ⟨208, f208, k_208.1, ⟨[], [], sbf, bof⟩, [true], [], false, [], [true, true], none⟩
theorem uk_208 : UF.Ok tb prog u_208 := UF.of func208 (by kernel_rfl) (by kernel_rfl) (hint_sb sb_ok bo_ok) trivial
noncomputable def k_209 : {c : SC // bdQ prog [] f209 = c} := ⟨_, by conv => lhs; cbv⟩
noncomputable def u_209 : UF T := ⟨209, f209, k_209.1, ⟨[], [], sbf, bof⟩, [true], [], false, [], [true, true], none⟩
theorem uk_209 : UF.Ok tb prog u_209 := UF.of func209 (by kernel_rfl) (by kernel_rfl) (hint_sb sb_ok bo_ok) trivial
noncomputable def k_211 : {c : SC // bdQ prog [] f211 = c} := ⟨_, by conv => lhs; cbv⟩
noncomputable def u_211 : UF T := ⟨211, f211, k_211.1, ⟨[], [], sbf, bof⟩, [true], [], false, [], [true, true], none⟩
theorem uk_211 : UF.Ok tb prog u_211 := UF.of func211 (by kernel_rfl) (by kernel_rfl) (hint_sb sb_ok bo_ok) trivial
noncomputable def k_214 : {c : SC // bdQ prog [] f214 = c} := ⟨_, by conv => lhs; cbv⟩
noncomputable def u_214 : UF T := ⟨214, f214, k_214.1, ⟨[], [], sbf, bof⟩, [true], [], false, [], [true], none⟩
theorem uk_214 : UF.Ok tb prog u_214 := UF.of func214 (by kernel_rfl) (by kernel_rfl) (hint_sb sb_ok bo_ok) trivial
noncomputable def k_215 : {c : SC // bdQ prog [] f215 = c} := ⟨_, by conv => lhs; cbv⟩
noncomputable def u_215 : UF T := ⟨215, f215, k_215.1, ⟨[], [], sbf, bof⟩, [true], [], false, [], [true], none⟩
theorem uk_215 : UF.Ok tb prog u_215 := UF.of func215 (by kernel_rfl) (by kernel_rfl) (hint_sb sb_ok bo_ok) trivial
noncomputable def k_216 : {c : SC // bdQ prog [] f216 = c} := ⟨_, by conv => lhs; cbv⟩
noncomputable def u_216 : UF T := ⟨216, f216, k_216.1, ⟨[], [], sbf, bof⟩, [true], [], false, [], [true], none⟩
theorem uk_216 : UF.Ok tb prog u_216 := UF.of func216 (by kernel_rfl) (by kernel_rfl) (hint_sb sb_ok bo_ok) trivial
noncomputable def k_120 : {c : SC // bdQ prog [] f120 = c} := ⟨_, by conv => lhs; cbv⟩
noncomputable def u_120 : UF T := ⟨120, f120, k_120.1, ⟨[], [], sbf, bof⟩, [true], [], false, [], [true], none⟩
theorem uk_120 : UF.Ok tb prog u_120 := UF.of func120 (by kernel_rfl) (by kernel_rfl) (hint_sb sb_ok bo_ok) trivial
noncomputable def k_226 : {c : SC // bdQ prog [] f226 = c} := ⟨_, by conv => lhs; cbv⟩
noncomputable def u_226 : UF T := ⟨226, f226, k_226.1, ⟨[], [], sbf, bof⟩, [true, true], [], false, [], [true, false], none⟩
theorem uk_226 : UF.Ok tb prog u_226 := UF.of func226 (by kernel_rfl) (by kernel_rfl) (hint_sb sb_ok bo_ok) trivial
noncomputable def k_227 : {c : SC // bdQ prog [(1, [16], false)] f227 = c} := ⟨_, by conv => lhs; cbv⟩
noncomputable def u_227 : UF T := ⟨227, f227, k_227.1, ⟨[], [], sbf, bof⟩, [true, true], [], false, [], [true, false], none⟩
theorem uk_227 : UF.Ok tb prog u_227 := UF.of func227 (by kernel_rfl) (by kernel_rfl) (hint_sb sb_ok bo_ok) trivial
noncomputable def k_229 : {c : SC // bdQ prog [(1, [], false), (4, [28], false)] f229 = c} := ⟨_, by conv => lhs; cbv⟩
noncomputable def u_229 : UF T := ⟨229, f229, k_229.1, ⟨[], [], sbf, bof⟩, [true, true], [], false, [], [true, false], none⟩
theorem uk_229 : UF.Ok tb prog u_229 := UF.of func229 (by kernel_rfl) (by kernel_rfl) (hint_sb sb_ok bo_ok) trivial
noncomputable def k_233 : {c : SC // bdQ prog [] f233 = c} := ⟨_, by conv => lhs; cbv⟩
noncomputable def u_233 : UF T := ⟨233, f233, k_233.1, ⟨[], [], sbf, bof⟩, [true, true], [], false, [], [true, false], none⟩
theorem uk_233 : UF.Ok tb prog u_233 := UF.of func233 (by kernel_rfl) (by kernel_rfl) (hint_sb sb_ok bo_ok) trivial
noncomputable def k_228 : {c : SC // bdQ prog [] f228 = c} := ⟨_, by conv => lhs; cbv⟩
noncomputable def u_228 : UF T := ⟨228, f228, k_228.1, ⟨[], [], sbf, bof⟩, [true, true], [], false, [], [true, true, true], none⟩
theorem uk_228 : UF.Ok tb prog u_228 := UF.of func228 (by kernel_rfl) (by kernel_rfl) (hint_sb sb_ok bo_ok) trivial
noncomputable def k_234 : {c : SC // bdQ prog [(5, [30, 31, 32, 33], false)] f234 = c} := ⟨_, by conv => lhs; cbv⟩
noncomputable def u_234 : UF T := ⟨234, f234, k_234.1, ⟨[], [], sbf, bof⟩, [true, true], [], false, [], [true, true], none⟩
theorem uk_234 : UF.Ok tb prog u_234 := UF.of func234 (by kernel_rfl) (by kernel_rfl) (hint_sb sb_ok bo_ok) trivial
noncomputable def k_235 : {c : SC // bdQ prog [(5, [29, 30, 31], false)] f235 = c} := ⟨_, by conv => lhs; cbv⟩
noncomputable def u_235 : UF T := ⟨235, f235, k_235.1, ⟨[], [], sbf, bof⟩, [true, true], [], false, [], [true, true], none⟩
theorem uk_235 : UF.Ok tb prog u_235 := UF.of func235 (by kernel_rfl) (by kernel_rfl) (hint_sb sb_ok bo_ok) trivial
noncomputable def k_236 : {c : SC // bdQ prog [] f236 = c} := ⟨_, by conv => lhs; cbv⟩
noncomputable def u_236 : UF T := ⟨236, f236, k_236.1, ⟨[], [], sbf, bof⟩, [true], [], false, [], [true, true], none⟩
theorem uk_236 : UF.Ok tb prog u_236 := UF.of func236 (by kernel_rfl) (by kernel_rfl) (hint_sb sb_ok bo_ok) trivial
noncomputable def k_237 : {c : SC // bdQ prog [] f237 = c} := ⟨_, by conv => lhs; cbv⟩
noncomputable def u_237 : UF T := ⟨237, f237, k_237.1, ⟨[], [], sbf, bof⟩, [true, true], [], false, [], [true, true], none⟩
theorem uk_237 : UF.Ok tb prog u_237 := UF.of func237 (by kernel_rfl) (by kernel_rfl) (hint_sb sb_ok bo_ok) trivial
noncomputable def k_239 : {c : SC // bdQ prog [] f239 = c} := ⟨_, by conv => lhs; cbv⟩
noncomputable def u_239 : UF T := ⟨239, f239, k_239.1, ⟨[], [], sbf, bof⟩, [true], [], false, [], [true], none⟩
theorem uk_239 : UF.Ok tb prog u_239 := UF.of func239 (by kernel_rfl) (by kernel_rfl) (hint_sb sb_ok bo_ok) trivial
end
section
open Go.Proofs.Tryz
set_option maxRecDepth 1000000
set_option maxHeartbeats 8000000
noncomputable def us : UT T := (.node (.node (.node (.node (.node (.node (.node .nil 8 u_8 .nil) 13 u_13 .nil) 14 u_14 (.node (.node .nil 18 u_18 .nil) 25 u_25 .nil)) 27 u_27 (.node (.node (.node .nil 28 u_28 .nil) 29 u_29 .nil) 35 u_35 (.node (.node .nil 36 u_36 .nil) 37 u_37 .nil))) 38 u_38 (.node (.node (.node (.node .nil 39 u_39 .nil) 40 u_40 .nil) 42 u_42 (.node (.node .nil 43 u_43 .nil) 53 u_53 .nil)) 56 u_56 (.node (.node (.node .nil 57 u_57 .nil) 58 u_58 .nil) 59 u_59 (.node .nil 60 u_60 .nil)))) 61 u_61 (.node (.node (.node (.node (.node .nil 62 u_62 .nil) 88 u_88 .nil) 89 u_89 (.node (.node .nil 91 u_91 .nil) 92 u_92 .nil)) 93 u_93 (.node (.node (.node .nil 94 u_94 .nil) 95 u_95 .nil) 96 u_96 (.node (.node .nil 97 u_97 .nil) 98 u_98 .nil))) 99 u_99 (.node (.node (.node (.node .nil 100 u_100 .nil) 120 u_120 .nil) 121 u_121 (.node (.node .nil 122 u_122 .nil) 123 u_123 .nil)) 125 u_125 (.node (.node (.node .nil 126 u_126 .nil) 129 u_129 .nil) 130 u_130 (.node .nil 131 u_131 .nil))))) 132 u_132 (.node (.node (.node (.node (.node (.node .nil 133 u_133 .nil) 135 u_135 .nil) 136 u_136 (.node (.node .nil 137 u_137 .nil) 146 u_146 .nil)) 147 u_147 (.node (.node (.node .nil 148 u_148 .nil) 149 u_149 .nil) 155 u_155 (.node (.node .nil 156 u_156 .nil) 157 u_157 .nil))) 166 u_166 (.node (.node (.node (.node .nil 168 u_168 .nil) 169 u_169 .nil) 170 u_170 (.node (.node .nil 174 u_174 .nil) 192 u_192 .nil)) 193 u_193 (.node (.node (.node .nil 194 u_194 .nil) 195 u_195 .nil) 196 u_196 (.node .nil 197 u_197 .nil)))) 198 u_198 (.node (.node (.node (.node (.node .nil 199 u_199 .nil) 200 u_200 .nil) 202 u_202 (.node (.node .nil 207 u_207 .nil) 208 u_208 .nil)) 209 u_209 (.node (.node (.node .nil 211 u_211 .nil) 214 u_214 .nil) 215 u_215 (.node .nil 216 u_216 .nil))) 226 u_226 (.node (.node (.node (.node .nil 227 u_227 .nil) 228 u_228 .nil) 229 u_229 (.node (.node .nil 233 u_233 .nil) 234 u_234 .nil)) 235 u_235 (.node (.node (.node .nil 236 u_236 .nil) 237 u_237 .nil) 239 u_239 (.node .nil 244 u_244 .nil))))))
theorem us_ok : us.Ok tb prog := ⟨⟨⟨⟨⟨⟨⟨trivial, uk_8, trivial⟩, uk_13, trivial⟩, uk_14, ⟨⟨trivial, uk_18, trivial⟩, uk_25, trivial⟩⟩, uk_27, ⟨⟨⟨trivial, uk_28, trivial⟩, uk_29, trivial⟩, uk_35, ⟨⟨trivial, uk_36, trivial⟩, uk_37, trivial⟩⟩⟩, uk_38, ⟨⟨⟨⟨trivial, uk_39, trivial⟩, uk_40, trivial⟩, uk_42, ⟨⟨trivial, uk_43, trivial⟩, uk_53, trivial⟩⟩, uk_56, ⟨⟨⟨trivial, uk_57, trivial⟩, uk_58, trivial⟩, uk_59, ⟨trivial, uk_60, trivial⟩⟩⟩⟩, uk_61, ⟨⟨⟨⟨⟨trivial, uk_62, trivial⟩, uk_88, trivial⟩, uk_89, ⟨⟨trivial, uk_91, trivial⟩, uk_92, trivial⟩⟩, uk_93, ⟨⟨⟨trivial, uk_94, trivial⟩, uk_95, trivial⟩, uk_96, ⟨⟨trivial, uk_97, trivial⟩, uk_98, trivial⟩⟩⟩, uk_99, ⟨⟨⟨⟨trivial, uk_100, trivial⟩, uk_120, trivial⟩, uk_121, ⟨⟨trivial, uk_122, trivial⟩, uk_123, trivial⟩⟩, uk_125, ⟨⟨⟨trivial, uk_126, trivial⟩, uk_129, trivial⟩, uk_130, ⟨trivial, uk_131, trivial⟩⟩⟩⟩⟩, uk_132, ⟨⟨⟨⟨⟨⟨trivial, uk_133, trivial⟩, uk_135, trivial⟩, uk_136, ⟨⟨trivial, uk_137, trivial⟩, uk_146, trivial⟩⟩, uk_147, ⟨⟨⟨trivial, uk_148, trivial⟩, uk_149, trivial⟩, uk_155, ⟨⟨trivial, uk_156, trivial⟩, uk_157, trivial⟩⟩⟩, uk_166, ⟨⟨⟨⟨trivial, uk_168, trivial⟩, uk_169, trivial⟩, uk_170, ⟨⟨trivial, uk_174, trivial⟩, uk_192, trivial⟩⟩, uk_193, ⟨⟨⟨trivial, uk_194, trivial⟩, uk_195, trivial⟩, uk_196, ⟨trivial, uk_197, trivial⟩⟩⟩⟩, uk_198, ⟨⟨⟨⟨⟨trivial, uk_199, trivial⟩, uk_200, trivial⟩, uk_202, ⟨⟨trivial, uk_207, trivial⟩, uk_208, trivial⟩⟩, uk_209, ⟨⟨⟨trivial, uk_211, trivial⟩, uk_214, trivial⟩, uk_215, ⟨trivial, uk_216, trivial⟩⟩⟩, uk_226, ⟨⟨⟨⟨trivial, uk_227, trivial⟩, uk_228, trivial⟩, uk_229, ⟨⟨trivial, uk_233, trivial⟩, uk_234, trivial⟩⟩, uk_235, ⟨⟨⟨trivial, uk_236, trivial⟩, uk_237, trivial⟩, uk_239, ⟨trivial, uk_244, trivial⟩⟩⟩⟩⟩⟩
def uex : List (FuncId × EK') := [(163, .cs), (165, .ib)]
theorem uex_ok : exOk prog uex := ⟨ExtIs.mk' f163 (by kernel_rfl) (by kernel_rfl) (by kernel_rfl) (by kernel_rfl) (by kernel_rfl), ExtIs.mk' f165 (by kernel_rfl) (by kernel_rfl) (by kernel_rfl) (by kernel_rfl) (by kernel_rfl), trivial⟩
noncomputable def uh0 (f : FuncId) : List (Con tb) := match Nat.beq f 230 with | true => [C_bind_Last] | false => match Nat.beq f 171 with | true => [C_slices_Grow_pred_Node_own] | false => match Nat.beq f 138 with | true => [C_slices_Clone_schema_Field, C_slices_Clone_schema_Field_D] | false => match Nat.beq f 41 with | true => [C_pred_Node_more] | false => match Nat.beq f 54 with | true => [C_predtext_Parse] | false => []
theorem uh0_ok (N : Nat) (f : FuncId) : conOk prog N (uh0 f) := by
  unfold uh0
  split
  · exact ⟨c_bind_Last N, trivial⟩
  split
  · exact ⟨c_slices_Grow_pred_Node_own N, trivial⟩
  split
  · exact ⟨c_slices_Clone_schema_Field N, c_slices_Clone_schema_Field_D N, trivial⟩
  split
  · exact ⟨c_pred_Node_more N, trivial⟩
  split
  · exact ⟨c_predtext_Parse N, trivial⟩
  exact trivial
noncomputable abbrev uc0 : FuncId → List (Con tb) := uCons tb 100000 prog uex uh0 us 1000 1000
end
section
open Go.Proofs.Tryz
set_option maxRecDepth 1000000
set_option maxHeartbeats 8000000
noncomputable def uh1 (f : FuncId) : List (Con tb) := uh0 f
theorem uh1_ok (f : FuncId) : conOk prog 1000 (uh1 f) := by
  unfold uh1
  exact uh0_ok 1000 f
theorem uaw : uRun tb 100000 prog uex (uCons tb 100000 prog uex uh1 us 1000 1000) 1000 u_8 [true] (uOutP tb) EqT.q1 [] ⟨[], []⟩ = some (.bool true) := by kernel_rfl
theorem c_law20_awake (N : Nat) : C_law20_awake.Ok prog N := ⟨uk_8.is.enters, fun a r h => by
  cases h
  exact uRun_ok (o := uOutP tb) uk_8 tb_ok hm uex_ok (uCons_ok tb_ok hm uex_ok uh1_ok us_ok 1000) uaw⟩
end
section
open Go.Proofs.Tryz
set_option maxRecDepth 1000000
noncomputable section
noncomputable def F_law06_Over : Fn C_law06_Over := ⟨f22, [], ⟨[], [], sbf, bof⟩, fun _ => [], [true], none, 0, 0, fun _ _ => true, none, [], []⟩
theorem o_law06_Over : F_law06_Over.Ok prog := ⟨Is.of (by kernel_rfl) (by kernel_rfl), by kernel_rfl, hint_sb sb_ok bo_ok, trivial, trivial, fun _ => by kernel_rfl⟩
theorem c_law06_Over (N : Nat) : C_law06_Over.Ok prog N := o_law06_Over.give tb_ok hm N N (fun _ => trivial) fun a r s h => by
  have l0 := s.loop 0 q_law06_Over_0 (f_law06_Over_0 N) N fun next0 h0 => by
    have l2 := s.loop 2 q_law06_Over_2 (f_law06_Over_2 N next0) N fun next2 h2 => by
      exact fun c v => s.seg 2 q_law06_Over_2 [(0, .of q_law06_Over_0 next0), (2, .of q_law06_Over_2 next2)] ⟨h0, h2, trivial⟩ (by kernel_rfl) (by kernel_rfl)
    exact fun c v => s.seg 0 q_law06_Over_0 [(0, .of q_law06_Over_0 next0), (2, .of q_law06_Over_2 (r_law06_Over_2 N next0))] ⟨h0, l2, trivial⟩ (by kernel_rfl) (by kernel_rfl)
  exact s.main [(0, .of q_law06_Over_0 (r_law06_Over_0 N))] ⟨l0, trivial⟩ (.trans (by kernel_rfl) h)
noncomputable def F_law07_Over : Fn C_law07_Over := ⟨f24, [], ⟨[], [], sbf, bof⟩, fun _ => [C_law04_Small], [true], none, 0, 0, fun _ _ => true, none, [], []⟩
theorem o_law07_Over : F_law07_Over.Ok prog := ⟨Is.of (by kernel_rfl) (by kernel_rfl), by kernel_rfl, hint_sb sb_ok bo_ok, trivial, trivial, fun _ => by kernel_rfl⟩
theorem c_law07_Over (N : Nat) : C_law07_Over.Ok prog N := o_law07_Over.give tb_ok hm N N (fun _ => ⟨c_law04_Small N, trivial⟩) fun a r s h => by
  have l0 := s.loop 0 q_law07_Over_0 (f_law07_Over_0 N) N fun next0 h0 => by
    have l2 := s.loop 2 q_law07_Over_2 (f_law07_Over_2 N next0) N fun next2 h2 => by
      exact fun c v => s.seg 2 q_law07_Over_2 [(0, .of q_law07_Over_0 next0), (2, .of q_law07_Over_2 next2)] ⟨h0, h2, trivial⟩ (by kernel_rfl) (by kernel_rfl)
    exact fun c v => s.seg 0 q_law07_Over_0 [(0, .of q_law07_Over_0 next0), (2, .of q_law07_Over_2 (r_law07_Over_2 N next0))] ⟨h0, l2, trivial⟩ (by kernel_rfl) (by kernel_rfl)
  exact s.main [(0, .of q_law07_Over_0 (r_law07_Over_0 N))] ⟨l0, trivial⟩ (.trans (by kernel_rfl) h)
noncomputable def F_law19_Long : Fn C_law19_Long := ⟨f23, [], ⟨[(26, 8)], [], sbf, bof⟩, fun _ => [C_law07_Over], [true], none, 0, 0, fun _ _ => true, none, [], []⟩
theorem o_law19_Long : F_law19_Long.Ok prog := ⟨Is.of (by kernel_rfl) (by kernel_rfl), by kernel_rfl, hint_sb sb_ok bo_ok, trivial, trivial, fun _ => by kernel_rfl⟩
theorem c_law19_Long (N : Nat) : C_law19_Long.Ok prog N := o_law19_Long.give tb_ok hm N N (fun _ => ⟨c_law07_Over N, trivial⟩) fun a r s h => by
  have l0 := s.loop 0 q_law19_Long_0 (f_law19_Long_0 N) N fun next0 h0 => by
    exact fun c v => s.seg 0 q_law19_Long_0 [(0, .of q_law19_Long_0 next0)] ⟨h0, trivial⟩ (by kernel_rfl) (by kernel_rfl)
  exact s.main [(0, .of q_law19_Long_0 (r_law19_Long_0 N))] ⟨l0, trivial⟩ (.trans (by kernel_rfl) h)
noncomputable def F_law20_Over : Fn C_law20_Over := ⟨f7, [], ⟨[(12, 8)], [], sbf, bof⟩, fun _ => [C_law06_Over, C_law19_Long, C_law07_Over], [true], none, 0, 0, fun _ _ => true, none, [], []⟩
theorem o_law20_Over : F_law20_Over.Ok prog := ⟨Is.of (by kernel_rfl) (by kernel_rfl), by kernel_rfl, hint_sb sb_ok bo_ok, trivial, trivial, fun _ => by kernel_rfl⟩
theorem c_law20_Over (N : Nat) : C_law20_Over.Ok prog N := o_law20_Over.give tb_ok hm N N (fun _ => ⟨c_law06_Over N, c_law19_Long N, c_law07_Over N, trivial⟩) fun a r s h => by
  exact s.main [] trivial (.trans (by kernel_rfl) h)
noncomputable def F_law11_Own : Fn C_law11_Own := ⟨f9, [], ⟨[(28, 4)], [], sbf, bof⟩, fun _ => [], [true], none, 0, 0, fun _ _ => true, none, [], []⟩
theorem o_law11_Own : F_law11_Own.Ok prog := ⟨Is.of (by kernel_rfl) (by kernel_rfl), by kernel_rfl, hint_sb sb_ok bo_ok, trivial, trivial, fun _ => by kernel_rfl⟩
theorem c_law11_Own (N : Nat) : C_law11_Own.Ok prog N := o_law11_Own.give tb_ok hm N N (fun _ => trivial) fun a r s h => by
  have l0 := s.loop 0 q_law11_Own_0 (f_law11_Own_0 N) N fun next0 h0 => by
    exact fun c v => s.seg 0 q_law11_Own_0 [(0, .of q_law11_Own_0 next0)] ⟨h0, trivial⟩ (by kernel_rfl) (by kernel_rfl)
  exact s.main [(0, .of q_law11_Own_0 (r_law11_Own_0 N))] ⟨l0, trivial⟩ (.trans (by kernel_rfl) h)
noncomputable def F_law06_Own : Fn C_law06_Own := ⟨f10, [], ⟨[(39, 2), (44, 3)], [], sbf, bof⟩, fun _ => [], [true], none, 0, 0, fun _ _ => true, none, [], []⟩
theorem o_law06_Own : F_law06_Own.Ok prog := ⟨Is.of (by kernel_rfl) (by kernel_rfl), by kernel_rfl, hint_sb sb_ok bo_ok, trivial, trivial, fun _ => by kernel_rfl⟩
theorem c_law06_Own (N : Nat) : C_law06_Own.Ok prog N := o_law06_Own.give tb_ok hm N N (fun _ => trivial) fun a r s h => by
  have l0 := s.loop 0 q_law06_Own_0 (f_law06_Own_0 N) N fun next0 h0 => by
    have l2 := s.loop 2 q_law06_Own_2 (f_law06_Own_2 N next0) N fun next2 h2 => by
      exact fun c v => s.seg 2 q_law06_Own_2 [(0, .of q_law06_Own_0 next0), (2, .of q_law06_Own_2 next2)] ⟨h0, h2, trivial⟩ (by kernel_rfl) (by kernel_rfl)
    exact fun c v => s.seg 0 q_law06_Own_0 [(0, .of q_law06_Own_0 next0), (2, .of q_law06_Own_2 (r_law06_Own_2 N next0))] ⟨h0, l2, trivial⟩ (by kernel_rfl) (by kernel_rfl)
  exact s.main [(0, .of q_law06_Own_0 (r_law06_Own_0 N))] ⟨l0, trivial⟩ (.trans (by kernel_rfl) h)
noncomputable def F_law06_Vals : Fn C_law06_Vals := ⟨f26, [], ⟨[(16, 0)], [], sbf, bof⟩, fun _ => [], [true], none, 0, 0, fun _ _ => true, none, [], []⟩
theorem o_law06_Vals : F_law06_Vals.Ok prog := ⟨Is.of (by kernel_rfl) (by kernel_rfl), by kernel_rfl, hint_sb sb_ok bo_ok, trivial, trivial, fun _ => by kernel_rfl⟩
theorem c_law06_Vals (N : Nat) : C_law06_Vals.Ok prog N := o_law06_Vals.give tb_ok hm N N (fun _ => trivial) fun a r s h => by
  have l0 := s.loop 0 q_law06_Vals_0 (f_law06_Vals_0 N) N fun next0 h0 => by
    exact fun c v => s.seg 0 q_law06_Vals_0 [(0, .of q_law06_Vals_0 next0)] ⟨h0, trivial⟩ (by kernel_rfl) (by kernel_rfl)
  exact s.main [(0, .of q_law06_Vals_0 (r_law06_Vals_0 N))] ⟨l0, trivial⟩ (.trans (by kernel_rfl) h)
noncomputable def F_law07_Own : Fn C_law07_Own := ⟨f12, [], ⟨[], [], sbf, bof⟩, fun _ => [C_law06_Vals], [true], none, 0, 0, fun _ _ => true, none, [], []⟩
theorem o_law07_Own : F_law07_Own.Ok prog := ⟨Is.of (by kernel_rfl) (by kernel_rfl), by kernel_rfl, hint_sb sb_ok bo_ok, trivial, trivial, fun _ => by kernel_rfl⟩
theorem c_law07_Own (N : Nat) : C_law07_Own.Ok prog N := o_law07_Own.give tb_ok hm N N (fun _ => ⟨c_law06_Vals N, trivial⟩) fun a r s h => by
  exact s.main [] trivial (.trans (by kernel_rfl) h)
noncomputable def F_law19_Pairs_own : Fn C_law19_Pairs_own := ⟨f11, [], ⟨[(24, 1)], [], sbf, bof⟩, fun _ => [C_law07_Own], [false], some 1, 0, 0, fun _ _ => true, none, [], []⟩
theorem o_law19_Pairs_own : F_law19_Pairs_own.Ok prog := ⟨Is.of (by kernel_rfl) (by kernel_rfl), by kernel_rfl, hint_sb sb_ok bo_ok, trivial, trivial, fun _ => by kernel_rfl⟩
theorem c_law19_Pairs_own (N : Nat) : C_law19_Pairs_own.Ok prog N := o_law19_Pairs_own.give tb_ok hm N N (fun _ => ⟨c_law07_Own N, trivial⟩) fun a r s h => by
  have l0 := s.loop 0 q_law19_Pairs_own_0 (f_law19_Pairs_own_0 N) N fun next0 h0 => by
    exact fun c v => s.seg 0 q_law19_Pairs_own_0 [(0, .of q_law19_Pairs_own_0 next0)] ⟨h0, trivial⟩ (by kernel_rfl) (by kernel_rfl)
  exact s.main [(0, .of q_law19_Pairs_own_0 (r_law19_Pairs_own_0 N))] ⟨l0, trivial⟩ (.trans (by kernel_rfl) h)
noncomputable def F_pred_Vars : Fn C_pred_Vars := ⟨f20, [], ⟨[(18, 6)], [], sbf, bof⟩, fun _ => [C_slices_Sort_string_v986, C_slices_Compact_string_v263_own], [true], none, 0, 0, fun _ _ => true, none, [], []⟩
theorem o_pred_Vars : F_pred_Vars.Ok prog := ⟨Is.of (by kernel_rfl) (by kernel_rfl), by kernel_rfl, hint_sb sb_ok bo_ok, trivial, trivial, fun _ => by kernel_rfl⟩
theorem c_pred_Vars (N : Nat) : C_pred_Vars.Ok prog N := o_pred_Vars.give tb_ok hm N N (fun _ => ⟨c_slices_Sort_string_v986 N, c_slices_Compact_string_v263_own N, trivial⟩) fun a r s h => by
  have l0 := s.loop 0 q_pred_Vars_0 (f_pred_Vars_0 N) N fun next0 h0 => by
    exact fun c v => s.seg 0 q_pred_Vars_0 [(0, .of q_pred_Vars_0 next0)] ⟨h0, trivial⟩ (by kernel_rfl) (by kernel_rfl)
  exact s.main [(0, .of q_pred_Vars_0 (r_pred_Vars_0 N))] ⟨l0, trivial⟩ (.trans (by kernel_rfl) h)
noncomputable def F_judge_reader_side_v501 : Fn C_judge_reader_side_v501 := ⟨f29, [], ⟨[], [], sbf, bof⟩, fun _ => [C_judge_reader_side_v501], [true], none, 1, 0, fun _ _ => true, some EqR.cls, [], []⟩
theorem o_judge_reader_side_v501 : F_judge_reader_side_v501.Ok prog := ⟨Is.of (by kernel_rfl) (by kernel_rfl), by kernel_rfl, hint_sb sb_ok bo_ok, trivial, trivial, fun _ => by kernel_rfl⟩
theorem cs_judge_reader_side_v501 : ∀ N, C_judge_reader_side_v501.Ok prog N
  | 0 => ⟨o_judge_reader_side_v501.is.enters, fun a r h => by (have h : none = some r := h; cases h)⟩
  | N + 1 => by
    obtain h_judge_reader_side_v501 := cs_judge_reader_side_v501 N
    · exact o_judge_reader_side_v501.give tb_ok hm N (N + 1) (fun _ => ⟨h_judge_reader_side_v501, trivial⟩) fun a r s h => by
        exact s.main [] trivial (.trans (by kernel_rfl) h)
theorem c_judge_reader_side_v501 (N : Nat) : C_judge_reader_side_v501.Ok prog N := (cs_judge_reader_side_v501 N)
noncomputable def F_judge_reader_truth_v501 : Fn C_judge_reader_truth_v501 := ⟨f28, [], ⟨[], [], sbf, bof⟩, fun _ => [C_judge_reader_truth_v501, C_judge_reader_side_v501], [true], none, 1, 0, fun _ _ => true, some EqR.cls, [], []⟩
theorem o_judge_reader_truth_v501 : F_judge_reader_truth_v501.Ok prog := ⟨Is.of (by kernel_rfl) (by kernel_rfl), by kernel_rfl, hint_sb sb_ok bo_ok, trivial, trivial, fun _ => by kernel_rfl⟩
theorem cs_judge_reader_truth_v501 : ∀ N, C_judge_reader_truth_v501.Ok prog N
  | 0 => ⟨o_judge_reader_truth_v501.is.enters, fun a r h => by (have h : none = some r := h; cases h)⟩
  | N + 1 => by
    obtain h_judge_reader_truth_v501 := cs_judge_reader_truth_v501 N
    · exact o_judge_reader_truth_v501.give tb_ok hm N (N + 1) (fun _ => ⟨h_judge_reader_truth_v501, c_judge_reader_side_v501 N, trivial⟩) fun a r s h => by
        exact s.main [] trivial (.trans (by kernel_rfl) h)
theorem c_judge_reader_truth_v501 (N : Nat) : C_judge_reader_truth_v501.Ok prog N := (cs_judge_reader_truth_v501 N)
noncomputable def F_judge_lit_value_v072 : Fn C_judge_lit_value_v072 := ⟨f226, [], ⟨[], [], sbf, bof⟩, fun _ => [], [true, true], none, 1, 0, fun _ _ => true, none, [], []⟩
theorem o_judge_lit_value_v072 : F_judge_lit_value_v072.Ok prog := ⟨Is.of (by kernel_rfl) (by kernel_rfl), by kernel_rfl, hint_sb sb_ok bo_ok, trivial, trivial, fun _ => by kernel_rfl⟩
theorem c_judge_lit_value_v072 (N : Nat) : C_judge_lit_value_v072.Ok prog N := o_judge_lit_value_v072.give tb_ok hm N N (fun _ => trivial) fun a r s h => by
  exact s.main [] trivial (.trans (by kernel_rfl) h)
noncomputable def F_schema_Find : Fn C_schema_Find := ⟨f96, [], ⟨[], [], sbf, bof⟩, fun _ => [C_slices_Clone_schema_Field], [true, true], none, 0, 0, fun _ _ => true, none, [], []⟩
theorem o_schema_Find : F_schema_Find.Ok prog := ⟨Is.of (by kernel_rfl) (by kernel_rfl), by kernel_rfl, hint_sb sb_ok bo_ok, trivial, trivial, fun _ => by kernel_rfl⟩
theorem c_schema_Find (N : Nat) : C_schema_Find.Ok prog N := o_schema_Find.give tb_ok hm N N (fun _ => ⟨c_slices_Clone_schema_Field N, trivial⟩) fun a r s h => by
  have l0 := s.loop 0 q_schema_Find_0 (f_schema_Find_0 N) N fun next0 h0 => by
    exact fun c v => s.seg 0 q_schema_Find_0 [(0, .of q_schema_Find_0 next0)] ⟨h0, trivial⟩ (by kernel_rfl) (by kernel_rfl)
  exact s.main [(0, .of q_schema_Find_0 (r_schema_Find_0 N))] ⟨l0, trivial⟩ (.trans (by kernel_rfl) h)
end
end
end Go.Proofs.YtbanfalnbhcknaaGreatDoor.Y
