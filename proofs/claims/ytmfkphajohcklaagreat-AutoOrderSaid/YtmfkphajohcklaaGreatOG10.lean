/- Functions that are run at known arguments. No premise beyond what each theorem says. -/
import Derived.Test.YtmfkphajohcklaaGreatOG9
import Derived.Test.YtmfkphajohcklaaGreatOA4
set_option linter.all false
set_option linter.unusedSimpArgs false
set_option linter.unusedVariables false
namespace Go.Proofs.YtmfkphajohcklaaGreat.O
open Go
section
open Go.Proofs.Tryz
set_option maxRecDepth 1000000
set_option maxHeartbeats 8000000
noncomputable def k_158:{c:SC // bdQ prog [] f158=c}:=⟨_,by conv=>lhs;cbv⟩
noncomputable def u_158:UF T:=⟨158,f158,k_158.1,⟨[],[],sbf,bof⟩,[true],[],false,[],[true],none⟩
theorem xZpQ:UF.Ok tb prog u_158:=UF.of func158 (by kernel_rfl) (by kernel_rfl) (xZ6 sb_ok bo_ok) trivial
noncomputable def k_159:{c:SC // bdQ prog [] f159=c}:=⟨_,by conv=>lhs;cbv⟩
noncomputable def u_159:UF T:=⟨159,f159,k_159.1,⟨[],[],sbf,bof⟩,[true],[],false,[],[true],none⟩
theorem xZpR:UF.Ok tb prog u_159:=UF.of func159 (by kernel_rfl) (by kernel_rfl) (xZ6 sb_ok bo_ok) trivial
noncomputable def k_160:{c:SC // bdQ prog [] f160=c}:=⟨_,by conv=>lhs;cbv⟩
noncomputable def u_160:UF T:=⟨160,f160,k_160.1,⟨[],[],sbf,bof⟩,[true],[(0,[5,18,19,20])],false,[],[true,true],none⟩
theorem xZpS:UF.Ok tb prog u_160:=UF.of func160 (by kernel_rfl) (by kernel_rfl) (xZ6 sb_ok bo_ok) trivial
noncomputable def k_165:{c:SC // bdQ prog [(5,[33],false)] f165=c}:=⟨_,by conv=>lhs;cbv⟩
noncomputable def u_165:UF T:=⟨165,f165,k_165.1,⟨[(48,3)],[],sbf,bof⟩,[true],[],false,[],[false,true],none⟩
theorem xZpT:UF.Ok tb prog u_165:=UF.of func165 (by kernel_rfl) (by kernel_rfl) (xZ6 sb_ok bo_ok) trivial
noncomputable def k_166:{c:SC // bdQ prog [] f166=c}:=⟨_,by conv=>lhs;cbv⟩
noncomputable def u_166:UF T:=⟨166,f166,k_166.1,⟨[(30,3)],[],sbf,bof⟩,[true],[],false,[],[false,true],none⟩
theorem xZpU:UF.Ok tb prog u_166:=UF.of func166 (by kernel_rfl) (by kernel_rfl) (xZ6 sb_ok bo_ok) trivial
noncomputable def k_167:{c:SC // bdQ prog [(1,[],false),(3,[],false)] f167=c}:=⟨_,by conv=>lhs;cbv⟩
noncomputable def u_167:UF T:=⟨167,f167,k_167.1,⟨[],[],sbf,bof⟩,[true],[(0,[0,2,7,57,58])],false,[],[false,true,true],none⟩
theorem xZpV:UF.Ok tb prog u_167:=UF.of func167 (by kernel_rfl) (by kernel_rfl) (xZ6 sb_ok bo_ok) trivial
noncomputable def k_123:{c:SC // bdQ prog [] f123=c}:=⟨_,by conv=>lhs;cbv⟩
noncomputable def u_123:UF T:=⟨123,f123,k_123.1,⟨[],[],sbf,bof⟩,[],[],false,[],[false],none⟩
theorem xZpw:UF.Ok tb prog u_123:=UF.of func123 (by kernel_rfl) (by kernel_rfl) (xZ6 sb_ok bo_ok) trivial
noncomputable def k_170:{c:SC // bdQ prog [] f170=c}:=⟨_,by conv=>lhs;cbv⟩
noncomputable def u_170:UF T:=⟨170,f170,k_170.1,⟨[],[],sbf,bof⟩,[true,true],[],false,[],[false],none⟩
theorem xZpW:UF.Ok tb prog u_170:=UF.of func170 (by kernel_rfl) (by kernel_rfl) (xZ6 sb_ok bo_ok) trivial
noncomputable def k_171:{c:SC // bdQ prog [] f171=c}:=⟨_,by conv=>lhs;cbv⟩
noncomputable def u_171:UF T:=⟨171,f171,k_171.1,⟨[],[],sbf,bof⟩,[true],[],false,[],[true,true],none⟩
theorem xZpX:UF.Ok tb prog u_171:=UF.of func171 (by kernel_rfl) (by kernel_rfl) (xZ6 sb_ok bo_ok) trivial
noncomputable def k_172:{c:SC // bdQ prog [] f172=c}:=⟨_,by conv=>lhs;cbv⟩
noncomputable def u_172:UF T:=⟨172,f172,k_172.1,⟨[],[],sbf,bof⟩,[true],[],false,[],[true,false,true],none⟩
theorem xZpY:UF.Ok tb prog u_172:=UF.of func172 (by kernel_rfl) (by kernel_rfl) (xZ6 sb_ok bo_ok) trivial
noncomputable def k_173:{c:SC // bdQ prog [] f173=c}:=⟨_,by conv=>lhs;cbv⟩
noncomputable def u_173:UF T:=⟨173,f173,k_173.1,⟨[],[],sbf,bof⟩,[true],[],false,[],[true],none⟩
theorem xZpZ:UF.Ok tb prog u_173:=UF.of func173 (by kernel_rfl) (by kernel_rfl) (xZ6 sb_ok bo_ok) trivial
noncomputable def k_175:{c:SC // bdQ prog [] f175=c}:=⟨_,by conv=>lhs;cbv⟩
noncomputable def u_175:UF T:=⟨175,f175,k_175.1,⟨[],[],sbf,bof⟩,[true],[],false,[],[true],none⟩
theorem xZq0:UF.Ok tb prog u_175:=UF.of func175 (by kernel_rfl) (by kernel_rfl) (xZ6 sb_ok bo_ok) trivial
noncomputable def k_176:{c:SC // bdQ prog [] f176=c}:=⟨_,by conv=>lhs;cbv⟩
noncomputable def u_176:UF T:=⟨176,f176,k_176.1,⟨[],[],sbf,bof⟩,[true],[],false,[],[true,true],none⟩
theorem xZq1:UF.Ok tb prog u_176:=UF.of func176 (by kernel_rfl) (by kernel_rfl) (xZ6 sb_ok bo_ok) trivial
noncomputable def k_177:{c:SC // bdQ prog [(1,[],false),(2,[],false)] f177=c}:=⟨_,by conv=>lhs;cbv⟩
noncomputable def u_177:UF T:=⟨177,f177,k_177.1,⟨[],[],sbf,bof⟩,[true],[],false,[],[false],none⟩
theorem xZq2:UF.Ok tb prog u_177:=UF.of func177 (by kernel_rfl) (by kernel_rfl) (xZ6 sb_ok bo_ok) trivial
noncomputable def k_179:{c:SC // bdQ prog [] f179=c}:=⟨_,by conv=>lhs;cbv⟩
noncomputable def u_179:UF T:=⟨179,f179,k_179.1,⟨[(16,6)],[],sbf,bof⟩,[true],[(0,[0,1,5])],false,[],[false,true],none⟩
theorem xZq3:UF.Ok tb prog u_179:=UF.of func179 (by kernel_rfl) (by kernel_rfl) (xZ6 sb_ok bo_ok) trivial
noncomputable def k_180:{c:SC // bdQ prog [] f180=c}:=⟨_,by conv=>lhs;cbv⟩
noncomputable def u_180:UF T:=⟨180,f180,k_180.1,⟨[],[],sbf,bof⟩,[true],[],false,[],[true],none⟩
theorem xZq4:UF.Ok tb prog u_180:=UF.of func180 (by kernel_rfl) (by kernel_rfl) (xZ6 sb_ok bo_ok) trivial
noncomputable def k_181:{c:SC // bdQ prog [(21,[],false)] f181=c}:=⟨_,by conv=>lhs;cbv⟩
noncomputable def u_181:UF T:=⟨181,f181,k_181.1,⟨[],[],sbf,bof⟩,[true],[],false,[],[true],none⟩
theorem xZq5:UF.Ok tb prog u_181:=UF.of func181 (by kernel_rfl) (by kernel_rfl) (xZ6 sb_ok bo_ok) trivial
noncomputable def k_182:{c:SC // bdQ prog [] f182=c}:=⟨_,by conv=>lhs;cbv⟩
noncomputable def u_182:UF T:=⟨182,f182,k_182.1,⟨[(16,6)],[],sbf,bof⟩,[true],[(0,[0,1,5])],false,[],[false,true],none⟩
theorem xZq6:UF.Ok tb prog u_182:=UF.of func182 (by kernel_rfl) (by kernel_rfl) (xZ6 sb_ok bo_ok) trivial
noncomputable def k_183:{c:SC // bdQ prog [] f183=c}:=⟨_,by conv=>lhs;cbv⟩
noncomputable def u_183:UF T:=⟨183,f183,k_183.1,⟨[],[],sbf,bof⟩,[true],[],false,[],[false,true,true],none⟩
theorem xZq7:UF.Ok tb prog u_183:=UF.of func183 (by kernel_rfl) (by kernel_rfl) (xZ6 sb_ok bo_ok) trivial
noncomputable def k_184:{c:SC // bdQ prog [(1,[6],false)] f184=c}:=⟨_,by conv=>lhs;cbv⟩
noncomputable def u_184:UF T:=⟨184,f184,k_184.1,⟨[(6,1)],[],sbf,bof⟩,[true],[],false,[],[true,true],none⟩
theorem xZq8:UF.Ok tb prog u_184:=UF.of func184 (by kernel_rfl) (by kernel_rfl) (xZ6 sb_ok bo_ok) trivial
noncomputable def k_185:{c:SC // bdQ prog [] f185=c}:=⟨_,by conv=>lhs;cbv⟩
noncomputable def u_185:UF T:=⟨185,f185,k_185.1,⟨[],[],sbf,bof⟩,[false],[],true,[],[true],none⟩
theorem xZq9:UF.Ok tb prog u_185:=UF.of func185 (by kernel_rfl) (by kernel_rfl) (xZ6 sb_ok bo_ok) trivial
noncomputable def k_186:{c:SC // bdQ prog [] f186=c}:=⟨_,by conv=>lhs;cbv⟩
noncomputable def u_186:UF T:=⟨186,f186,k_186.1,⟨[(18,6),(49,6)],[],sbf,bof⟩,[true],[],false,[],[false,true],none⟩
theorem xZqa:UF.Ok tb prog u_186:=UF.of func186 (by kernel_rfl) (by kernel_rfl) (xZ6 sb_ok bo_ok) trivial
noncomputable def k_187:{c:SC // bdQ prog [(1,[],false),(2,[],false)] f187=c}:=⟨_,by conv=>lhs;cbv⟩
noncomputable def u_187:UF T:=⟨187,f187,k_187.1,⟨[],[],sbf,bof⟩,[true],[],false,[],[false],none⟩
theorem xZqb:UF.Ok tb prog u_187:=UF.of func187 (by kernel_rfl) (by kernel_rfl) (xZ6 sb_ok bo_ok) trivial
noncomputable def k_188:{c:SC // bdQ prog [] f188=c}:=⟨_,by conv=>lhs;cbv⟩
noncomputable def u_188:UF T:=⟨188,f188,k_188.1,⟨[],[],sbf,bof⟩,[true],[(0,[0,3,9,10,11]),(2,[6,25,26,27])],true,[],[true],none⟩
theorem xZqc:UF.Ok tb prog u_188:=UF.of func188 (by kernel_rfl) (by kernel_rfl) (xZ6 sb_ok bo_ok) trivial
noncomputable def k_189:{c:SC // bdQ prog [] f189=c}:=⟨_,by conv=>lhs;cbv⟩
noncomputable def u_189:UF T:=⟨189,f189,k_189.1,⟨[],[],sbf,bof⟩,[],[],false,[],[false,true],none⟩
theorem xZqd:UF.Ok tb prog u_189:=UF.of func189 (by kernel_rfl) (by kernel_rfl) (xZ6 sb_ok bo_ok) trivial
noncomputable def k_191:{c:SC // bdQ prog [] f191=c}:=⟨_,by conv=>lhs;cbv⟩
noncomputable def u_191:UF T:=⟨191,f191,k_191.1,⟨[(14,6),(23,6)],[],sbf,bof⟩,[true],[(0,[0,3])],false,[],[false],none⟩
theorem xZqe:UF.Ok tb prog u_191:=UF.of func191 (by kernel_rfl) (by kernel_rfl) (xZ6 sb_ok bo_ok) trivial
noncomputable def k_192:{c:SC // bdQ prog [] f192=c}:=⟨_,by conv=>lhs;cbv⟩
noncomputable def u_192:UF T:=⟨192,f192,k_192.1,⟨[],[],sbf,bof⟩,[true],[(0,[0,3])],false,[],[true],none⟩
theorem xZqf:UF.Ok tb prog u_192:=UF.of func192 (by kernel_rfl) (by kernel_rfl) (xZ6 sb_ok bo_ok) trivial
noncomputable def k_193:{c:SC // bdQ prog [] f193=c}:=⟨_,by conv=>lhs;cbv⟩
noncomputable def u_193:UF T:=⟨193,f193,k_193.1,⟨[],[],sbf,bof⟩,[true],[],false,[],[false,true],none⟩
theorem xZqg:UF.Ok tb prog u_193:=UF.of func193 (by kernel_rfl) (by kernel_rfl) (xZ6 sb_ok bo_ok) trivial
noncomputable def k_195:{c:SC // bdQ prog [] f195=c}:=⟨_,by conv=>lhs;cbv⟩
noncomputable def u_195:UF T:=⟨195,f195,k_195.1,⟨[(24,1),(40,1),(51,1),(54,1)],[],sbf,bof⟩,[true],[],false,[],[false],none⟩
theorem xZqh:UF.Ok tb prog u_195:=UF.of func195 (by kernel_rfl) (by kernel_rfl) (xZ6 sb_ok bo_ok) trivial
noncomputable def k_213:{c:SC // bdQ prog [] f213=c}:=⟨_,by conv=>lhs;cbv⟩
noncomputable def u_213:UF T:=⟨213,f213,k_213.1,⟨[],[],sbf,bof⟩,[true],[],false,[],[true],none⟩
theorem xZqi:UF.Ok tb prog u_213:=UF.of func213 (by kernel_rfl) (by kernel_rfl) (xZ6 sb_ok bo_ok) trivial
end
end Go.Proofs.YtmfkphajohcklaaGreat.O
