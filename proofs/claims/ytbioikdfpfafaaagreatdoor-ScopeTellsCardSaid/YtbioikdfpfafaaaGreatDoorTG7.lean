/- Functions that are run at known arguments. No premise beyond what each theorem says. -/
import Derived.Test.YtbioikdfpfafaaaGreatDoorTG6
import Derived.Test.YtbioikdfpfafaaaGreatDoorTA4
set_option linter.all false
set_option linter.unusedSimpArgs false
set_option linter.unusedVariables false
namespace Go.Proofs.YtbioikdfpfafaaaGreatDoor.T
open Go
section
open Go.Proofs.Tryz
set_option maxRecDepth 1000000
set_option maxHeartbeats 8000000
noncomputable def k_99:{c:SC // bdQ prog [] f99=c}:=⟨_,by conv=>lhs;cbv⟩
noncomputable def u_99:UF T:=⟨99,f99,k_99.1,⟨[],[],sbf,bof⟩,[true],[],false,[],[true],none⟩
theorem uk_99:UF.Ok tb prog u_99:=UF.of func99 (by kernel_rfl) (by kernel_rfl) (xZ4 sb_ok bo_ok) trivial
noncomputable def k_126:{c:SC // bdQ prog [] f126=c}:=⟨_,by conv=>lhs;cbv⟩
noncomputable def u_126:UF T:=⟨126,f126,k_126.1,⟨[],[],sbf,bof⟩,[true],[],false,[],[true],none⟩
theorem xZrA:UF.Ok tb prog u_126:=UF.of func126 (by kernel_rfl) (by kernel_rfl) (xZ4 sb_ok bo_ok) trivial
noncomputable def k_127:{c:SC // bdQ prog [] f127=c}:=⟨_,by conv=>lhs;cbv⟩
noncomputable def u_127:UF T:=⟨127,f127,k_127.1,⟨[],[],sbf,bof⟩,[true],[],false,[],[true],none⟩
theorem xZtm:UF.Ok tb prog u_127:=UF.of func127 (by kernel_rfl) (by kernel_rfl) (xZ4 sb_ok bo_ok) trivial
noncomputable def k_128:{c:SC // bdQ prog [] f128=c}:=⟨_,by conv=>lhs;cbv⟩
noncomputable def u_128:UF T:=⟨128,f128,k_128.1,⟨[],[],sbf,bof⟩,[true],[],false,[],[true,true],none⟩
theorem xZrF:UF.Ok tb prog u_128:=UF.of func128 (by kernel_rfl) (by kernel_rfl) (xZ4 sb_ok bo_ok) trivial
noncomputable def k_130:{c:SC // bdQ prog [(2,[],false)] f130=c}:=⟨_,by conv=>lhs;cbv⟩
noncomputable def u_130:UF T:=⟨130,f130,k_130.1,⟨[],[],sbf,bof⟩,[false],[],true,[],[false],none⟩
theorem xZsJ:UF.Ok tb prog u_130:=UF.of func130 (by kernel_rfl) (by kernel_rfl) (xZ4 sb_ok bo_ok) trivial
noncomputable def k_131:{c:SC // bdQ prog [(2,[],false),(8,[],false)] f131=c}:=⟨_,by conv=>lhs;cbv⟩
noncomputable def u_131:UF T:=⟨131,f131,k_131.1,⟨[],[],sbf,bof⟩,[false],[(0,[0,3,4,25,26])],true,[],[false],none⟩
theorem xZu9:UF.Ok tb prog u_131:=UF.of func131 (by kernel_rfl) (by kernel_rfl) (xZ4 sb_ok bo_ok) trivial
noncomputable def k_134:{c:SC // bdQ prog [(2,[13],false),(4,[59],false)] f134=c}:=⟨_,by conv=>lhs;cbv⟩
noncomputable def u_134:UF T:=⟨134,f134,k_134.1,⟨[],[],sbf,bof⟩,[false],[],true,[],[false],none⟩
theorem xZrs:UF.Ok tb prog u_134:=UF.of func134 (by kernel_rfl) (by kernel_rfl) (xZ4 sb_ok bo_ok) trivial
noncomputable def k_135:{c:SC // bdQ prog [] f135=c}:=⟨_,by conv=>lhs;cbv⟩
noncomputable def u_135:UF T:=⟨135,f135,k_135.1,⟨[(24,5)],[],sbf,bof⟩,[true],[(0,[0,2,3,4,12,13])],false,[],[false,true,true,false,true],none⟩
theorem xZsr:UF.Ok tb prog u_135:=UF.of func135 (by kernel_rfl) (by kernel_rfl) (xZ4 sb_ok bo_ok) trivial
noncomputable def k_136:{c:SC // bdQ prog [] f136=c}:=⟨_,by conv=>lhs;cbv⟩
noncomputable def u_136:UF T:=⟨136,f136,k_136.1,⟨[],[],sbf,bof⟩,[true],[],false,[],[false,true],none⟩
theorem xZsl:UF.Ok tb prog u_136:=UF.of func136 (by kernel_rfl) (by kernel_rfl) (xZ4 sb_ok bo_ok) trivial
noncomputable def k_137:{c:SC // bdQ prog [(1,[],false)] f137=c}:=⟨_,by conv=>lhs;cbv⟩
noncomputable def u_137:UF T:=⟨137,f137,k_137.1,⟨[],[],sbf,bof⟩,[true],[],false,[],[false,true,true],none⟩
theorem xZrh:UF.Ok tb prog u_137:=UF.of func137 (by kernel_rfl) (by kernel_rfl) (xZ4 sb_ok bo_ok) trivial
noncomputable def k_139:{c:SC // bdQ prog [] f139=c}:=⟨_,by conv=>lhs;cbv⟩
noncomputable def u_139:UF T:=⟨139,f139,k_139.1,⟨[],[],sbf,bof⟩,[true],[],false,[],[true],none⟩
theorem xZs1:UF.Ok tb prog u_139:=UF.of func139 (by kernel_rfl) (by kernel_rfl) (xZ4 sb_ok bo_ok) trivial
noncomputable def k_140:{c:SC // bdQ prog [] f140=c}:=⟨_,by conv=>lhs;cbv⟩
noncomputable def u_140:UF T:=⟨140,f140,k_140.1,⟨[],[],sbf,bof⟩,[true],[],false,[],[true],none⟩
theorem xZtj:UF.Ok tb prog u_140:=UF.of func140 (by kernel_rfl) (by kernel_rfl) (xZ4 sb_ok bo_ok) trivial
noncomputable def k_141:{c:SC // bdQ prog [] f141=c}:=⟨_,by conv=>lhs;cbv⟩
noncomputable def u_141:UF T:=⟨141,f141,k_141.1,⟨[],[],sbf,bof⟩,[true],[],false,[],[true],none⟩
theorem xZro:UF.Ok tb prog u_141:=UF.of func141 (by kernel_rfl) (by kernel_rfl) (xZ4 sb_ok bo_ok) trivial
noncomputable def k_142:{c:SC // bdQ prog [] f142=c}:=⟨_,by conv=>lhs;cbv⟩
noncomputable def u_142:UF T:=⟨142,f142,k_142.1,⟨[],[],sbf,bof⟩,[true],[],false,[],[true],none⟩
theorem xZtd:UF.Ok tb prog u_142:=UF.of func142 (by kernel_rfl) (by kernel_rfl) (xZ4 sb_ok bo_ok) trivial
noncomputable def k_143:{c:SC // bdQ prog [] f143=c}:=⟨_,by conv=>lhs;cbv⟩
noncomputable def u_143:UF T:=⟨143,f143,k_143.1,⟨[],[],sbf,bof⟩,[true],[],false,[],[true],none⟩
theorem xZt9:UF.Ok tb prog u_143:=UF.of func143 (by kernel_rfl) (by kernel_rfl) (xZ4 sb_ok bo_ok) trivial
noncomputable def k_151:{c:SC // bdQ prog [] f151=c}:=⟨_,by conv=>lhs;cbv⟩
noncomputable def u_151:UF T:=⟨151,f151,k_151.1,⟨[],[],sbf,bof⟩,[true],[],false,[],[true],none⟩
theorem xZtT:UF.Ok tb prog u_151:=UF.of func151 (by kernel_rfl) (by kernel_rfl) (xZ4 sb_ok bo_ok) trivial
noncomputable def k_103:{c:SC // bdQ prog [] f103=c}:=⟨_,by conv=>lhs;cbv⟩
noncomputable def u_103:UF T:=⟨103,f103,k_103.1,⟨[],[],sbf,bof⟩,[true,true],[],false,[],[false,true,true],none⟩
theorem xZua:UF.Ok tb prog u_103:=UF.of func103 (by kernel_rfl) (by kernel_rfl) (xZ4 sb_ok bo_ok) trivial
noncomputable def k_104:{c:SC // bdQ prog [] f104=c}:=⟨_,by conv=>lhs;cbv⟩
noncomputable def u_104:UF T:=⟨104,f104,k_104.1,⟨[],[],sbf,bof⟩,[true],[],false,[],[true,true,true],none⟩
theorem xZsh:UF.Ok tb prog u_104:=UF.of func104 (by kernel_rfl) (by kernel_rfl) (xZ4 sb_ok bo_ok) trivial
noncomputable def k_152:{c:SC // bdQ prog [] f152=c}:=⟨_,by conv=>lhs;cbv⟩
noncomputable def u_152:UF T:=⟨152,f152,k_152.1,⟨[],[],sbf,bof⟩,[true],[(1,[0,1,5,6,7,8,9,10])],false,[],[true,true],none⟩
theorem xZsE:UF.Ok tb prog u_152:=UF.of func152 (by kernel_rfl) (by kernel_rfl) (xZ4 sb_ok bo_ok) trivial
noncomputable def k_154:{c:SC // bdQ prog [] f154=c}:=⟨_,by conv=>lhs;cbv⟩
noncomputable def u_154:UF T:=⟨154,f154,k_154.1,⟨[],[],sbf,bof⟩,[true],[(0,[0,1,5])],false,[],[true,true],none⟩
theorem xZrQ:UF.Ok tb prog u_154:=UF.of func154 (by kernel_rfl) (by kernel_rfl) (xZ4 sb_ok bo_ok) trivial
noncomputable def k_155:{c:SC // bdQ prog [] f155=c}:=⟨_,by conv=>lhs;cbv⟩
noncomputable def u_155:UF T:=⟨155,f155,k_155.1,⟨[],[],sbf,bof⟩,[true],[],false,[],[true,true],none⟩
theorem xZsv:UF.Ok tb prog u_155:=UF.of func155 (by kernel_rfl) (by kernel_rfl) (xZ4 sb_ok bo_ok) trivial
noncomputable def k_156:{c:SC // bdQ prog [] f156=c}:=⟨_,by conv=>lhs;cbv⟩
noncomputable def u_156:UF T:=⟨156,f156,k_156.1,⟨[],[],sbf,bof⟩,[true],[],false,[],[true,true],none⟩
theorem xZto:UF.Ok tb prog u_156:=UF.of func156 (by kernel_rfl) (by kernel_rfl) (xZ4 sb_ok bo_ok) trivial
noncomputable def k_157:{c:SC // bdQ prog [(2,[31],false)] f157=c}:=⟨_,by conv=>lhs;cbv⟩
noncomputable def u_157:UF T:=⟨157,f157,k_157.1,⟨[],[],sbf,bof⟩,[true],[(0,[0,1,5])],false,[],[false,false],none⟩
theorem xZrk:UF.Ok tb prog u_157:=UF.of func157 (by kernel_rfl) (by kernel_rfl) (xZ4 sb_ok bo_ok) trivial
noncomputable def k_158:{c:SC // bdQ prog [] f158=c}:=⟨_,by conv=>lhs;cbv⟩
noncomputable def u_158:UF T:=⟨158,f158,k_158.1,⟨[],[],sbf,bof⟩,[true],[],false,[],[true],none⟩
theorem xZs3:UF.Ok tb prog u_158:=UF.of func158 (by kernel_rfl) (by kernel_rfl) (xZ4 sb_ok bo_ok) trivial
noncomputable def k_159:{c:SC // bdQ prog [(1,[],false)] f159=c}:=⟨_,by conv=>lhs;cbv⟩
noncomputable def u_159:UF T:=⟨159,f159,k_159.1,⟨[(24,6)],[],sbf,bof⟩,[false],[],true,[],[false,true,true,true,true],none⟩
theorem xZsP:UF.Ok tb prog u_159:=UF.of func159 (by kernel_rfl) (by kernel_rfl) (xZ4 sb_ok bo_ok) trivial
noncomputable def k_161:{c:SC // bdQ prog [] f161=c}:=⟨_,by conv=>lhs;cbv⟩
noncomputable def u_161:UF T:=⟨161,f161,k_161.1,⟨[],[],sbf,bof⟩,[true],[],false,[],[true],none⟩
theorem xZrm:UF.Ok tb prog u_161:=UF.of func161 (by kernel_rfl) (by kernel_rfl) (xZ4 sb_ok bo_ok) trivial
noncomputable def k_167:{c:SC // bdQ prog [(0,[],false),(1,[],false),(2,[],false)] f167=c}:=⟨_,by conv=>lhs;cbv⟩
noncomputable def u_167:UF T:=⟨167,f167,k_167.1,⟨[],[],sbf,bof⟩,[],[],false,[],[true],none⟩
theorem xZt6:UF.Ok tb prog u_167:=UF.of func167 (by kernel_rfl) (by kernel_rfl) (xZ4 sb_ok bo_ok) trivial
noncomputable def k_168:{c:SC // bdQ prog [] f168=c}:=⟨_,by conv=>lhs;cbv⟩
noncomputable def u_168:UF T:=⟨168,f168,k_168.1,⟨[],[],sbf,bof⟩,[true],[],false,[],[false,true],none⟩
theorem xZsn:UF.Ok tb prog u_168:=UF.of func168 (by kernel_rfl) (by kernel_rfl) (xZ4 sb_ok bo_ok) trivial
noncomputable def k_169:{c:SC // bdQ prog [(1,[],false),(3,[],false)] f169=c}:=⟨_,by conv=>lhs;cbv⟩
noncomputable def u_169:UF T:=⟨169,f169,k_169.1,⟨[],[],sbf,bof⟩,[true],[(0,[0,2,7,57,58])],false,[],[false,true,true],none⟩
theorem xZs8:UF.Ok tb prog u_169:=UF.of func169 (by kernel_rfl) (by kernel_rfl) (xZ4 sb_ok bo_ok) trivial
noncomputable def k_144:{c:SC // bdQ prog [] f144=c}:=⟨_,by conv=>lhs;cbv⟩
noncomputable def u_144:UF T:=⟨144,f144,k_144.1,⟨[],[],sbf,bof⟩,[true],[],false,[],[true,true],none⟩
theorem xZsq:UF.Ok tb prog u_144:=UF.of func144 (by kernel_rfl) (by kernel_rfl) (xZ4 sb_ok bo_ok) trivial
end
section
open Go.Proofs.Tryz
set_option maxRecDepth 1000000
set_option maxHeartbeats 8000000
noncomputable def k_181:{c:SC // bdQ prog [(5,[33],false)] f181=c}:=⟨_,by conv=>lhs;cbv⟩
noncomputable def u_181:UF T:=⟨181,f181,k_181.1,⟨[(48,5)],[],sbf,bof⟩,[true],[],false,[],[false,true],none⟩
theorem xZsT:UF.Ok tb prog u_181:=UF.of func181 (by kernel_rfl) (by kernel_rfl) (xZ4 sb_ok bo_ok) trivial
noncomputable def k_182:{c:SC // bdQ prog [] f182=c}:=⟨_,by conv=>lhs;cbv⟩
noncomputable def u_182:UF T:=⟨182,f182,k_182.1,⟨[(30,5)],[],sbf,bof⟩,[true],[],false,[],[false,true],none⟩
theorem xZsW:UF.Ok tb prog u_182:=UF.of func182 (by kernel_rfl) (by kernel_rfl) (xZ4 sb_ok bo_ok) trivial
noncomputable def k_183:{c:SC // bdQ prog [] f183=c}:=⟨_,by conv=>lhs;cbv⟩
noncomputable def u_183:UF T:=⟨183,f183,k_183.1,⟨[],[],sbf,bof⟩,[true],[],false,[],[true,true],none⟩
theorem xZrg:UF.Ok tb prog u_183:=UF.of func183 (by kernel_rfl) (by kernel_rfl) (xZ4 sb_ok bo_ok) trivial
noncomputable def k_184:{c:SC // bdQ prog [] f184=c}:=⟨_,by conv=>lhs;cbv⟩
noncomputable def u_184:UF T:=⟨184,f184,k_184.1,⟨[],[],sbf,bof⟩,[true],[],false,[],[true,false,true],none⟩
theorem xZtw:UF.Ok tb prog u_184:=UF.of func184 (by kernel_rfl) (by kernel_rfl) (xZ4 sb_ok bo_ok) trivial
noncomputable def k_185:{c:SC // bdQ prog [] f185=c}:=⟨_,by conv=>lhs;cbv⟩
noncomputable def u_185:UF T:=⟨185,f185,k_185.1,⟨[],[],sbf,bof⟩,[true],[],false,[],[true],none⟩
theorem xZsd:UF.Ok tb prog u_185:=UF.of func185 (by kernel_rfl) (by kernel_rfl) (xZ4 sb_ok bo_ok) trivial
noncomputable def k_187:{c:SC // bdQ prog [] f187=c}:=⟨_,by conv=>lhs;cbv⟩
noncomputable def u_187:UF T:=⟨187,f187,k_187.1,⟨[],[],sbf,bof⟩,[true],[],false,[],[true],none⟩
theorem xZs2:UF.Ok tb prog u_187:=UF.of func187 (by kernel_rfl) (by kernel_rfl) (xZ4 sb_ok bo_ok) trivial
noncomputable def k_188:{c:SC // bdQ prog [] f188=c}:=⟨_,by conv=>lhs;cbv⟩
noncomputable def u_188:UF T:=⟨188,f188,k_188.1,⟨[],[],sbf,bof⟩,[true],[],false,[],[true,true],none⟩
theorem xZtp:UF.Ok tb prog u_188:=UF.of func188 (by kernel_rfl) (by kernel_rfl) (xZ4 sb_ok bo_ok) trivial
noncomputable def k_170:{c:SC // bdQ prog [] f170=c}:=⟨_,by conv=>lhs;cbv⟩
noncomputable def u_170:UF T:=⟨170,f170,k_170.1,⟨[],[],sbf,bof⟩,[true],[],false,[],[true],none⟩
theorem xZtF:UF.Ok tb prog u_170:=UF.of func170 (by kernel_rfl) (by kernel_rfl) (xZ4 sb_ok bo_ok) trivial
noncomputable def k_138:{c:SC // bdQ prog [] f138=c}:=⟨_,by conv=>lhs;cbv⟩
noncomputable def u_138:UF T:=⟨138,f138,k_138.1,⟨[],[],sbf,bof⟩,[],[],false,[],[false],none⟩
theorem xZrX:UF.Ok tb prog u_138:=UF.of func138 (by kernel_rfl) (by kernel_rfl) (xZ4 sb_ok bo_ok) trivial
noncomputable def k_197:{c:SC // bdQ prog [] f197=c}:=⟨_,by conv=>lhs;cbv⟩
noncomputable def u_197:UF T:=⟨197,f197,k_197.1,⟨[],[],sbf,bof⟩,[true,true],[],false,[],[false],none⟩
theorem xZrB:UF.Ok tb prog u_197:=UF.of func197 (by kernel_rfl) (by kernel_rfl) (xZ4 sb_ok bo_ok) trivial
noncomputable def k_198:{c:SC // bdQ prog [] f198=c}:=⟨_,by conv=>lhs;cbv⟩
noncomputable def u_198:UF T:=⟨198,f198,k_198.1,⟨[],[],sbf,bof⟩,[true],[],false,[],[true],none⟩
theorem xZtV:UF.Ok tb prog u_198:=UF.of func198 (by kernel_rfl) (by kernel_rfl) (xZ4 sb_ok bo_ok) trivial
noncomputable def k_199:{c:SC // bdQ prog [(21,[],false)] f199=c}:=⟨_,by conv=>lhs;cbv⟩
noncomputable def u_199:UF T:=⟨199,f199,k_199.1,⟨[],[],sbf,bof⟩,[true],[],false,[],[true],none⟩
theorem xZtK:UF.Ok tb prog u_199:=UF.of func199 (by kernel_rfl) (by kernel_rfl) (xZ4 sb_ok bo_ok) trivial
noncomputable def k_201:{c:SC // bdQ prog [(1,[],false),(2,[],false)] f201=c}:=⟨_,by conv=>lhs;cbv⟩
noncomputable def u_201:UF T:=⟨201,f201,k_201.1,⟨[],[],sbf,bof⟩,[true],[],false,[],[false],none⟩
theorem xZrM:UF.Ok tb prog u_201:=UF.of func201 (by kernel_rfl) (by kernel_rfl) (xZ4 sb_ok bo_ok) trivial
noncomputable def k_203:{c:SC // bdQ prog [] f203=c}:=⟨_,by conv=>lhs;cbv⟩
noncomputable def u_203:UF T:=⟨203,f203,k_203.1,⟨[(16,7)],[],sbf,bof⟩,[true],[(0,[0,1,5])],false,[],[false,true],none⟩
theorem xZtn:UF.Ok tb prog u_203:=UF.of func203 (by kernel_rfl) (by kernel_rfl) (xZ4 sb_ok bo_ok) trivial
noncomputable def k_204:{c:SC // bdQ prog [] f204=c}:=⟨_,by conv=>lhs;cbv⟩
noncomputable def u_204:UF T:=⟨204,f204,k_204.1,⟨[],[],sbf,bof⟩,[false],[],true,[],[true],none⟩
theorem xZtM:UF.Ok tb prog u_204:=UF.of func204 (by kernel_rfl) (by kernel_rfl) (xZ4 sb_ok bo_ok) trivial
noncomputable def k_206:{c:SC // bdQ prog [] f206=c}:=⟨_,by conv=>lhs;cbv⟩
noncomputable def u_206:UF T:=⟨206,f206,k_206.1,⟨[(16,7)],[],sbf,bof⟩,[true],[(0,[0,1,5])],false,[],[false,true],none⟩
theorem xZtD:UF.Ok tb prog u_206:=UF.of func206 (by kernel_rfl) (by kernel_rfl) (xZ4 sb_ok bo_ok) trivial
noncomputable def k_207:{c:SC // bdQ prog [] f207=c}:=⟨_,by conv=>lhs;cbv⟩
noncomputable def u_207:UF T:=⟨207,f207,k_207.1,⟨[],[],sbf,bof⟩,[true],[],false,[],[false,true,true],none⟩
theorem xZty:UF.Ok tb prog u_207:=UF.of func207 (by kernel_rfl) (by kernel_rfl) (xZ4 sb_ok bo_ok) trivial
noncomputable def k_208:{c:SC // bdQ prog [(1,[6],false)] f208=c}:=⟨_,by conv=>lhs;cbv⟩
noncomputable def u_208:UF T:=⟨208,f208,k_208.1,⟨[(6,4)],[],sbf,bof⟩,[true],[],false,[],[true,true],none⟩
theorem xZtc:UF.Ok tb prog u_208:=UF.of func208 (by kernel_rfl) (by kernel_rfl) (xZ4 sb_ok bo_ok) trivial
noncomputable def k_210:{c:SC // bdQ prog [] f210=c}:=⟨_,by conv=>lhs;cbv⟩
noncomputable def u_210:UF T:=⟨210,f210,k_210.1,⟨[(18,7),(49,7)],[],sbf,bof⟩,[true],[],false,[],[false,true],none⟩
theorem xZsV:UF.Ok tb prog u_210:=UF.of func210 (by kernel_rfl) (by kernel_rfl) (xZ4 sb_ok bo_ok) trivial
noncomputable def k_211:{c:SC // bdQ prog [(1,[],false),(2,[],false)] f211=c}:=⟨_,by conv=>lhs;cbv⟩
noncomputable def u_211:UF T:=⟨211,f211,k_211.1,⟨[],[],sbf,bof⟩,[true],[],false,[],[false],none⟩
theorem xZsb:UF.Ok tb prog u_211:=UF.of func211 (by kernel_rfl) (by kernel_rfl) (xZ4 sb_ok bo_ok) trivial
noncomputable def k_212:{c:SC // bdQ prog [] f212=c}:=⟨_,by conv=>lhs;cbv⟩
noncomputable def u_212:UF T:=⟨212,f212,k_212.1,⟨[],[],sbf,bof⟩,[true],[(0,[0,3,9,10,11]),(2,[6,25,26,27])],true,[],[true],none⟩
theorem xZu4:UF.Ok tb prog u_212:=UF.of func212 (by kernel_rfl) (by kernel_rfl) (xZ4 sb_ok bo_ok) trivial
noncomputable def k_215:{c:SC // bdQ prog [] f215=c}:=⟨_,by conv=>lhs;cbv⟩
noncomputable def u_215:UF T:=⟨215,f215,k_215.1,⟨[],[],sbf,bof⟩,[],[],false,[],[false,true],none⟩
theorem xZt0:UF.Ok tb prog u_215:=UF.of func215 (by kernel_rfl) (by kernel_rfl) (xZ4 sb_ok bo_ok) trivial
noncomputable def k_217:{c:SC // bdQ prog [] f217=c}:=⟨_,by conv=>lhs;cbv⟩
noncomputable def u_217:UF T:=⟨217,f217,k_217.1,⟨[(14,7),(23,7)],[],sbf,bof⟩,[true],[(0,[0,3])],false,[],[false],none⟩
theorem xZt1:UF.Ok tb prog u_217:=UF.of func217 (by kernel_rfl) (by kernel_rfl) (xZ4 sb_ok bo_ok) trivial
noncomputable def k_218:{c:SC // bdQ prog [] f218=c}:=⟨_,by conv=>lhs;cbv⟩
noncomputable def u_218:UF T:=⟨218,f218,k_218.1,⟨[],[],sbf,bof⟩,[true],[(0,[0,3])],false,[],[true],none⟩
theorem xZrl:UF.Ok tb prog u_218:=UF.of func218 (by kernel_rfl) (by kernel_rfl) (xZ4 sb_ok bo_ok) trivial
noncomputable def k_219:{c:SC // bdQ prog [] f219=c}:=⟨_,by conv=>lhs;cbv⟩
noncomputable def u_219:UF T:=⟨219,f219,k_219.1,⟨[],[],sbf,bof⟩,[true],[],false,[],[false,true],none⟩
theorem xZsU:UF.Ok tb prog u_219:=UF.of func219 (by kernel_rfl) (by kernel_rfl) (xZ4 sb_ok bo_ok) trivial
noncomputable def k_221:{c:SC // bdQ prog [] f221=c}:=⟨_,by conv=>lhs;cbv⟩
noncomputable def u_221:UF T:=⟨221,f221,k_221.1,⟨[(24,4),(40,4),(51,4),(54,4)],[],sbf,bof⟩,[true],[],false,[],[false],none⟩
theorem xZrK:UF.Ok tb prog u_221:=UF.of func221 (by kernel_rfl) (by kernel_rfl) (xZ4 sb_ok bo_ok) trivial
noncomputable def k_239:{c:SC // bdQ prog [] f239=c}:=⟨_,by conv=>lhs;cbv⟩
noncomputable def u_239:UF T:=⟨239,f239,k_239.1,⟨[],[],sbf,bof⟩,[true],[],false,[],[true],none⟩
theorem xZtx:UF.Ok tb prog u_239:=UF.of func239 (by kernel_rfl) (by kernel_rfl) (xZ4 sb_ok bo_ok) trivial
end
section
open Go.Proofs.Tryz
set_option maxRecDepth 1000000
set_option maxHeartbeats 8000000
noncomputable def us:UT T:=(.node (.node (.node (.node (.node (.node (.node .nil 9 u_9 .nil) 11 u_11 (.node .nil 15 u_15 .nil)) 18 u_18 (.node (.node .nil 21 u_21 .nil) 22 u_22 (.node .nil 24 u_24 .nil))) 25 u_25 (.node (.node (.node .nil 26 u_26 .nil) 27 u_27 (.node .nil 28 u_28 .nil)) 29 u_29 (.node (.node .nil 30 u_30 .nil) 31 u_31 .nil))) 39 u_39 (.node (.node (.node (.node .nil 41 u_41 .nil) 44 u_44 (.node .nil 45 u_45 .nil)) 46 u_46 (.node (.node .nil 48 u_48 .nil) 49 u_49 (.node .nil 50 u_50 .nil))) 51 u_51 (.node (.node (.node .nil 52 u_52 .nil) 53 u_53 (.node .nil 54 u_54 .nil)) 55 u_55 (.node (.node .nil 56 u_56 .nil) 57 u_57 .nil)))) 58 u_58 (.node (.node (.node (.node (.node .nil 59 u_59 .nil) 73 u_73 (.node .nil 74 u_74 .nil)) 77 u_77 (.node (.node .nil 78 u_78 .nil) 80 u_80 (.node .nil 81 u_81 .nil))) 82 u_82 (.node (.node (.node .nil 83 u_83 .nil) 85 u_85 (.node .nil 86 u_86 .nil)) 87 u_87 (.node (.node .nil 88 u_88 .nil) 89 u_89 .nil))) 90 u_90 (.node (.node (.node (.node .nil 92 u_92 .nil) 93 u_93 (.node .nil 94 u_94 .nil)) 95 u_95 (.node (.node .nil 96 u_96 .nil) 97 u_97 .nil)) 98 u_98 (.node (.node (.node .nil 99 u_99 .nil) 101 u_101 (.node .nil 102 u_102 .nil)) 103 u_103 (.node (.node .nil 104 u_104 .nil) 113 u_113 .nil))))) 119 u_119 (.node (.node (.node (.node (.node (.node .nil 122 u_122 .nil) 123 u_123 (.node .nil 124 u_124 .nil)) 125 u_125 (.node (.node .nil 126 u_126 .nil) 127 u_127 (.node .nil 128 u_128 .nil))) 130 u_130 (.node (.node (.node .nil 131 u_131 .nil) 134 u_134 (.node .nil 135 u_135 .nil)) 136 u_136 (.node (.node .nil 137 u_137 .nil) 138 u_138 .nil))) 139 u_139 (.node (.node (.node (.node .nil 140 u_140 .nil) 141 u_141 (.node .nil 142 u_142 .nil)) 143 u_143 (.node (.node .nil 144 u_144 .nil) 151 u_151 (.node .nil 152 u_152 .nil))) 154 u_154 (.node (.node (.node .nil 155 u_155 .nil) 156 u_156 (.node .nil 157 u_157 .nil)) 158 u_158 (.node (.node .nil 159 u_159 .nil) 161 u_161 .nil)))) 167 u_167 (.node (.node (.node (.node (.node .nil 168 u_168 .nil) 169 u_169 (.node .nil 170 u_170 .nil)) 181 u_181 (.node (.node .nil 182 u_182 .nil) 183 u_183 (.node .nil 184 u_184 .nil))) 185 u_185 (.node (.node (.node .nil 187 u_187 .nil) 188 u_188 (.node .nil 197 u_197 .nil)) 198 u_198 (.node (.node .nil 199 u_199 .nil) 201 u_201 .nil))) 203 u_203 (.node (.node (.node (.node .nil 204 u_204 .nil) 206 u_206 (.node .nil 207 u_207 .nil)) 208 u_208 (.node (.node .nil 210 u_210 .nil) 211 u_211 .nil)) 212 u_212 (.node (.node (.node .nil 215 u_215 .nil) 217 u_217 (.node .nil 218 u_218 .nil)) 219 u_219 (.node (.node .nil 221 u_221 .nil) 239 u_239 .nil))))))
theorem us_ok:us.Ok tb prog:=⟨⟨⟨⟨⟨⟨⟨trivial,uk_9,trivial⟩,uk_11,⟨trivial,uk_15,trivial⟩⟩,uk_18,⟨⟨trivial,uk_21,trivial⟩,uk_22,⟨trivial,uk_24,trivial⟩⟩⟩,uk_25,⟨⟨⟨trivial,uk_26,trivial⟩,uk_27,⟨trivial,uk_28,trivial⟩⟩,uk_29,⟨⟨trivial,uk_30,trivial⟩,uk_31,trivial⟩⟩⟩,uk_39,⟨⟨⟨⟨trivial,uk_41,trivial⟩,uk_44,⟨trivial,uk_45,trivial⟩⟩,uk_46,⟨⟨trivial,uk_48,trivial⟩,uk_49,⟨trivial,uk_50,trivial⟩⟩⟩,uk_51,⟨⟨⟨trivial,uk_52,trivial⟩,uk_53,⟨trivial,uk_54,trivial⟩⟩,uk_55,⟨⟨trivial,uk_56,trivial⟩,uk_57,trivial⟩⟩⟩⟩,uk_58,⟨⟨⟨⟨⟨trivial,uk_59,trivial⟩,uk_73,⟨trivial,uk_74,trivial⟩⟩,uk_77,⟨⟨trivial,uk_78,trivial⟩,uk_80,⟨trivial,uk_81,trivial⟩⟩⟩,uk_82,⟨⟨⟨trivial,uk_83,trivial⟩,uk_85,⟨trivial,uk_86,trivial⟩⟩,uk_87,⟨⟨trivial,uk_88,trivial⟩,uk_89,trivial⟩⟩⟩,uk_90,⟨⟨⟨⟨trivial,uk_92,trivial⟩,uk_93,⟨trivial,uk_94,trivial⟩⟩,uk_95,⟨⟨trivial,uk_96,trivial⟩,uk_97,trivial⟩⟩,uk_98,⟨⟨⟨trivial,uk_99,trivial⟩,xZtS,⟨trivial,xZtR,trivial⟩⟩,xZua,⟨⟨trivial,xZsh,trivial⟩,xZss,trivial⟩⟩⟩⟩⟩,xZti,⟨⟨⟨⟨⟨⟨trivial,xZte,trivial⟩,xZse,⟨trivial,xZtH,trivial⟩⟩,xZrD,⟨⟨trivial,xZrA,trivial⟩,xZtm,⟨trivial,xZrF,trivial⟩⟩⟩,xZsJ,⟨⟨⟨trivial,xZu9,trivial⟩,xZrs,⟨trivial,xZsr,trivial⟩⟩,xZsl,⟨⟨trivial,xZrh,trivial⟩,xZrX,trivial⟩⟩⟩,xZs1,⟨⟨⟨⟨trivial,xZtj,trivial⟩,xZro,⟨trivial,xZtd,trivial⟩⟩,xZt9,⟨⟨trivial,xZsq,trivial⟩,xZtT,⟨trivial,xZsE,trivial⟩⟩⟩,xZrQ,⟨⟨⟨trivial,xZsv,trivial⟩,xZto,⟨trivial,xZrk,trivial⟩⟩,xZs3,⟨⟨trivial,xZsP,trivial⟩,xZrm,trivial⟩⟩⟩⟩,xZt6,⟨⟨⟨⟨⟨trivial,xZsn,trivial⟩,xZs8,⟨trivial,xZtF,trivial⟩⟩,xZsT,⟨⟨trivial,xZsW,trivial⟩,xZrg,⟨trivial,xZtw,trivial⟩⟩⟩,xZsd,⟨⟨⟨trivial,xZs2,trivial⟩,xZtp,⟨trivial,xZrB,trivial⟩⟩,xZtV,⟨⟨trivial,xZtK,trivial⟩,xZrM,trivial⟩⟩⟩,xZtn,⟨⟨⟨⟨trivial,xZtM,trivial⟩,xZtD,⟨trivial,xZty,trivial⟩⟩,xZtc,⟨⟨trivial,xZsV,trivial⟩,xZsb,trivial⟩⟩,xZu4,⟨⟨⟨trivial,xZt0,trivial⟩,xZt1,⟨trivial,xZrl,trivial⟩⟩,xZsU,⟨⟨trivial,xZrK,trivial⟩,xZtx,trivial⟩⟩⟩⟩⟩⟩
def uex:List (FuncId×EK'):=[(178,.cs),(179,.ib)]
theorem xZgS:exOk prog uex:=⟨ExtIs.mk' f178 (by kernel_rfl) (by kernel_rfl) (by kernel_rfl) (by kernel_rfl) (by kernel_rfl),ExtIs.mk' f179 (by kernel_rfl) (by kernel_rfl) (by kernel_rfl) (by kernel_rfl) (by kernel_rfl),trivial⟩
noncomputable def uh0 (f:FuncId):List (Con tb):=match Nat.beq f 220 with | true=>[xZ1S] | false=>match Nat.beq f 196 with | true=>[xZae] | false=>match Nat.beq f 186 with | true=>[xZ6z] | false=>match Nat.beq f 100 with | true=>[xZ1R,xZ2C] | false=>[]
theorem xZu3 (N:Nat) (f:FuncId):conOk prog N (uh0 f):=by
 unfold uh0
 split
 ·exact ⟨xZ3j N,trivial⟩
 split
 ·exact ⟨xZeD N,trivial⟩
 split
 ·exact ⟨xZa1 N,trivial⟩
 split
 ·exact ⟨xZ3f N,xZ61 N,trivial⟩
 exact trivial
noncomputable abbrev uc0:FuncId→List (Con tb):=uCons tb 100000 prog uex uh0 us 1000 1000
theorem xZlA (f:FuncId):conOk prog 1000 (uc0 f):=xZjZ tb_ok hm xZgS (xZu3 1000) us_ok 1000 f
end
section
open Go.Proofs.Tryz
set_option maxRecDepth 1000000
set_option maxHeartbeats 8000000
theorem ul_0:(uLit tb 21 [97,58,116,59,32,40,98,58,117,41,63,59,32,99,58,116,91,97,46,107,32,61,32,107,32,97,110,100,32,110,32,60,32,51,93] (.tup [.int .i64 0,.int .i64 0])).Ok prog 1000:=xZfW (F0:=100000) (ex:=uex) (con:=uc0) (md:=u_21.md) uk_21 tb_ok hm xZgS xZlA (by kernel_rfl)
end
section
open Go.Proofs.Tryz
set_option maxRecDepth 1000000
set_option maxHeartbeats 8000000
theorem ul_1:(uLit tb 21 [97,58,116,59,32,40,98,58,117,41,63,59,32,99,58,116,91,98,46,107,32,61,32,107,93] (.tup [.int .i64 14,.int .i64 4])).Ok prog 1000:=xZfW (F0:=100000) (ex:=uex) (con:=uc0) (md:=u_21.md) uk_21 tb_ok hm xZgS xZlA (by kernel_rfl)
end
section
open Go.Proofs.Tryz
set_option maxRecDepth 1000000
set_option maxHeartbeats 8000000
theorem ul_2:(uLit tb 21 [97,58,116,59,32,33,98,58,117,91,109,32,61,32,97,46,110,93] (.tup [.int .i64 19,.int .i64 2])).Ok prog 1000:=xZfW (F0:=100000) (ex:=uex) (con:=uc0) (md:=u_21.md) uk_21 tb_ok hm xZgS xZlA (by kernel_rfl)
end
section
open Go.Proofs.Tryz
set_option maxRecDepth 1000000
set_option maxHeartbeats 8000000
theorem ul_3:(uLit tb 21 [40,97,58,116,41,63,59,32,33,98,58,117,59,32,99,58,116] (.tup [.int .i64 17,.int .i64 3])).Ok prog 1000:=xZfW (F0:=100000) (ex:=uex) (con:=uc0) (md:=u_21.md) uk_21 tb_ok hm xZgS xZlA (by kernel_rfl)
end
section
open Go.Proofs.Tryz
set_option maxRecDepth 1000000
set_option maxHeartbeats 8000000
theorem ul_4:(uLit tb 21 [97,58,116,32,124,32,40,98,58,117,41,42] (.tup [.int .i64 16,.int .i64 0])).Ok prog 1000:=xZfW (F0:=100000) (ex:=uex) (con:=uc0) (md:=u_21.md) uk_21 tb_ok hm xZgS xZlA (by kernel_rfl)
end
section
open Go.Proofs.Tryz
set_option maxRecDepth 1000000
set_option maxHeartbeats 8000000
theorem ul_5:(uLit tb 21 [97,58,119] (.tup [.int .i64 19,.int .i64 0])).Ok prog 1000:=xZfW (F0:=100000) (ex:=uex) (con:=uc0) (md:=u_21.md) uk_21 tb_ok hm xZgS xZlA (by kernel_rfl)
end
section
open Go.Proofs.Tryz
set_option maxRecDepth 1000000
set_option maxHeartbeats 8000000
noncomputable def uh1 (f:FuncId):List (Con tb):=match Nat.beq f 21 with | true=>[uLit tb 21 [97,58,116,59,32,40,98,58,117,41,63,59,32,99,58,116,91,97,46,107,32,61,32,107,32,97,110,100,32,110,32,60,32,51,93] (.tup [.int .i64 0,.int .i64 0]),uLit tb 21 [97,58,116,59,32,40,98,58,117,41,63,59,32,99,58,116,91,98,46,107,32,61,32,107,93] (.tup [.int .i64 14,.int .i64 4]),uLit tb 21 [97,58,116,59,32,33,98,58,117,91,109,32,61,32,97,46,110,93] (.tup [.int .i64 19,.int .i64 2]),uLit tb 21 [40,97,58,116,41,63,59,32,33,98,58,117,59,32,99,58,116] (.tup [.int .i64 17,.int .i64 3]),uLit tb 21 [97,58,116,32,124,32,40,98,58,117,41,42] (.tup [.int .i64 16,.int .i64 0]),uLit tb 21 [97,58,119] (.tup [.int .i64 19,.int .i64 0])] | false=>uh0 f
theorem xZvu (f:FuncId):conOk prog 1000 (uh1 f):=by
 unfold uh1
 split
 ·exact ⟨ul_0,ul_1,ul_2,ul_3,ul_4,ul_5,trivial⟩
 exact xZu3 1000 f
noncomputable def us1:UT T:=(.node (.node (.node (.node (.node (.node (.node .nil 9 u_9 .nil) 11 u_11 (.node .nil 15 u_15 .nil)) 18 u_18 (.node (.node .nil 22 u_22 .nil) 24 u_24 (.node .nil 25 u_25 .nil))) 26 u_26 (.node (.node (.node .nil 27 u_27 .nil) 28 u_28 (.node .nil 29 u_29 .nil)) 30 u_30 (.node (.node .nil 31 u_31 .nil) 39 u_39 .nil))) 41 u_41 (.node (.node (.node (.node .nil 44 u_44 .nil) 45 u_45 (.node .nil 46 u_46 .nil)) 48 u_48 (.node (.node .nil 49 u_49 .nil) 50 u_50 (.node .nil 51 u_51 .nil))) 52 u_52 (.node (.node (.node .nil 53 u_53 .nil) 54 u_54 (.node .nil 55 u_55 .nil)) 56 u_56 (.node (.node .nil 57 u_57 .nil) 58 u_58 .nil)))) 59 u_59 (.node (.node (.node (.node (.node .nil 73 u_73 .nil) 74 u_74 (.node .nil 77 u_77 .nil)) 78 u_78 (.node (.node .nil 80 u_80 .nil) 81 u_81 (.node .nil 82 u_82 .nil))) 83 u_83 (.node (.node (.node .nil 85 u_85 .nil) 86 u_86 (.node .nil 87 u_87 .nil)) 88 u_88 (.node (.node .nil 89 u_89 .nil) 90 u_90 .nil))) 92 u_92 (.node (.node (.node (.node .nil 93 u_93 .nil) 94 u_94 (.node .nil 95 u_95 .nil)) 96 u_96 (.node (.node .nil 97 u_97 .nil) 98 u_98 .nil)) 99 u_99 (.node (.node (.node .nil 101 u_101 .nil) 102 u_102 (.node .nil 103 u_103 .nil)) 104 u_104 (.node (.node .nil 113 u_113 .nil) 119 u_119 .nil))))) 122 u_122 (.node (.node (.node (.node (.node (.node .nil 123 u_123 .nil) 124 u_124 (.node .nil 125 u_125 .nil)) 126 u_126 (.node (.node .nil 127 u_127 .nil) 128 u_128 (.node .nil 130 u_130 .nil))) 131 u_131 (.node (.node (.node .nil 134 u_134 .nil) 135 u_135 (.node .nil 136 u_136 .nil)) 137 u_137 (.node (.node .nil 138 u_138 .nil) 139 u_139 .nil))) 140 u_140 (.node (.node (.node (.node .nil 141 u_141 .nil) 142 u_142 (.node .nil 143 u_143 .nil)) 144 u_144 (.node (.node .nil 151 u_151 .nil) 152 u_152 .nil)) 154 u_154 (.node (.node (.node .nil 155 u_155 .nil) 156 u_156 (.node .nil 157 u_157 .nil)) 158 u_158 (.node (.node .nil 159 u_159 .nil) 161 u_161 .nil)))) 167 u_167 (.node (.node (.node (.node (.node .nil 168 u_168 .nil) 169 u_169 (.node .nil 170 u_170 .nil)) 181 u_181 (.node (.node .nil 182 u_182 .nil) 183 u_183 (.node .nil 184 u_184 .nil))) 185 u_185 (.node (.node (.node .nil 187 u_187 .nil) 188 u_188 (.node .nil 197 u_197 .nil)) 198 u_198 (.node (.node .nil 199 u_199 .nil) 201 u_201 .nil))) 203 u_203 (.node (.node (.node (.node .nil 204 u_204 .nil) 206 u_206 (.node .nil 207 u_207 .nil)) 208 u_208 (.node (.node .nil 210 u_210 .nil) 211 u_211 .nil)) 212 u_212 (.node (.node (.node .nil 215 u_215 .nil) 217 u_217 (.node .nil 218 u_218 .nil)) 219 u_219 (.node (.node .nil 221 u_221 .nil) 239 u_239 .nil))))))
theorem xZuB:us1.Ok tb prog:=⟨⟨⟨⟨⟨⟨⟨trivial,uk_9,trivial⟩,uk_11,⟨trivial,uk_15,trivial⟩⟩,uk_18,⟨⟨trivial,uk_22,trivial⟩,uk_24,⟨trivial,uk_25,trivial⟩⟩⟩,uk_26,⟨⟨⟨trivial,uk_27,trivial⟩,uk_28,⟨trivial,uk_29,trivial⟩⟩,uk_30,⟨⟨trivial,uk_31,trivial⟩,uk_39,trivial⟩⟩⟩,uk_41,⟨⟨⟨⟨trivial,uk_44,trivial⟩,uk_45,⟨trivial,uk_46,trivial⟩⟩,uk_48,⟨⟨trivial,uk_49,trivial⟩,uk_50,⟨trivial,uk_51,trivial⟩⟩⟩,uk_52,⟨⟨⟨trivial,uk_53,trivial⟩,uk_54,⟨trivial,uk_55,trivial⟩⟩,uk_56,⟨⟨trivial,uk_57,trivial⟩,uk_58,trivial⟩⟩⟩⟩,uk_59,⟨⟨⟨⟨⟨trivial,uk_73,trivial⟩,uk_74,⟨trivial,uk_77,trivial⟩⟩,uk_78,⟨⟨trivial,uk_80,trivial⟩,uk_81,⟨trivial,uk_82,trivial⟩⟩⟩,uk_83,⟨⟨⟨trivial,uk_85,trivial⟩,uk_86,⟨trivial,uk_87,trivial⟩⟩,uk_88,⟨⟨trivial,uk_89,trivial⟩,uk_90,trivial⟩⟩⟩,uk_92,⟨⟨⟨⟨trivial,uk_93,trivial⟩,uk_94,⟨trivial,uk_95,trivial⟩⟩,uk_96,⟨⟨trivial,uk_97,trivial⟩,uk_98,trivial⟩⟩,uk_99,⟨⟨⟨trivial,xZtS,trivial⟩,xZtR,⟨trivial,xZua,trivial⟩⟩,xZsh,⟨⟨trivial,xZss,trivial⟩,xZti,trivial⟩⟩⟩⟩⟩,xZte,⟨⟨⟨⟨⟨⟨trivial,xZse,trivial⟩,xZtH,⟨trivial,xZrD,trivial⟩⟩,xZrA,⟨⟨trivial,xZtm,trivial⟩,xZrF,⟨trivial,xZsJ,trivial⟩⟩⟩,xZu9,⟨⟨⟨trivial,xZrs,trivial⟩,xZsr,⟨trivial,xZsl,trivial⟩⟩,xZrh,⟨⟨trivial,xZrX,trivial⟩,xZs1,trivial⟩⟩⟩,xZtj,⟨⟨⟨⟨trivial,xZro,trivial⟩,xZtd,⟨trivial,xZt9,trivial⟩⟩,xZsq,⟨⟨trivial,xZtT,trivial⟩,xZsE,trivial⟩⟩,xZrQ,⟨⟨⟨trivial,xZsv,trivial⟩,xZto,⟨trivial,xZrk,trivial⟩⟩,xZs3,⟨⟨trivial,xZsP,trivial⟩,xZrm,trivial⟩⟩⟩⟩,xZt6,⟨⟨⟨⟨⟨trivial,xZsn,trivial⟩,xZs8,⟨trivial,xZtF,trivial⟩⟩,xZsT,⟨⟨trivial,xZsW,trivial⟩,xZrg,⟨trivial,xZtw,trivial⟩⟩⟩,xZsd,⟨⟨⟨trivial,xZs2,trivial⟩,xZtp,⟨trivial,xZrB,trivial⟩⟩,xZtV,⟨⟨trivial,xZtK,trivial⟩,xZrM,trivial⟩⟩⟩,xZtn,⟨⟨⟨⟨trivial,xZtM,trivial⟩,xZtD,⟨trivial,xZty,trivial⟩⟩,xZtc,⟨⟨trivial,xZsV,trivial⟩,xZsb,trivial⟩⟩,xZu4,⟨⟨⟨trivial,xZt0,trivial⟩,xZt1,⟨trivial,xZrl,trivial⟩⟩,xZsU,⟨⟨trivial,xZrK,trivial⟩,xZtx,trivial⟩⟩⟩⟩⟩⟩
theorem uaw:uRun tb 100000 prog uex (uCons tb 100000 prog uex uh1 us1 1000 1000) 1000 u_9 [true] (uOutP tb) EqT.q1 [] ⟨[],[]⟩=some (.bool true):=by kernel_rfl
theorem xZht (N:Nat):xZdD.Ok prog N:=⟨uk_9.is.enters,fun a r h=>by
 cases h
 exact xZlh (o:=uOutP tb) uk_9 tb_ok hm xZgS (xZjZ tb_ok hm xZgS xZvu xZuB 1000) uaw⟩
end
end Go.Proofs.YtbioikdfpfafaaaGreatDoor.T
