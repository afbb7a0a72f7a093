/- Functions that are run at known arguments. No premise beyond what each theorem says. -/
import Derived.Test.YtmllclbhdmajmaaGreatWG7
import Derived.Test.YtmllclbhdmajmaaGreatWA4
set_option linter.all false
set_option linter.unusedSimpArgs false
set_option linter.unusedVariables false
namespace Go.Proofs.YtmllclbhdmajmaaGreat.W
open Go
section
open Go.Proofs.Tryz
set_option maxRecDepth 1000000
set_option maxHeartbeats 8000000
noncomputable def k_8:{c:SC // bdQ prog [] f8=c}:=⟨_,by conv=>lhs;cbv⟩
noncomputable def u_8:UF T:=⟨8,f8,k_8.1,⟨[(78,0),(83,0),(89,0)],[],sbf,bof⟩,[true],[],false,[],[],none⟩
theorem uk_8:UF.Ok tb prog u_8:=UF.of func8 (by kernel_rfl) (by kernel_rfl) (xZ6 sb_ok bo_ok) trivial
noncomputable def k_10:{c:SC // bdQ prog [(7,[],false)] f10=c}:=⟨_,by conv=>lhs;cbv⟩
noncomputable def u_10:UF T:=⟨10,f10,k_10.1,⟨[],[],sbf,bof⟩,[true,true],[],false,[],[true],none⟩
theorem uk_10:UF.Ok tb prog u_10:=UF.of func10 (by kernel_rfl) (by kernel_rfl) (xZ6 sb_ok bo_ok) trivial
noncomputable def k_14:{c:SC // bdQ prog [] f14=c}:=⟨_,by conv=>lhs;cbv⟩
noncomputable def u_14:UF T:=⟨14,f14,k_14.1,⟨[],[],sbf,bof⟩,[true],[],false,[],[true,true],none⟩
theorem uk_14:UF.Ok tb prog u_14:=UF.of func14 (by kernel_rfl) (by kernel_rfl) (xZ6 sb_ok bo_ok) trivial
noncomputable def k_16:{c:SC // bdQ prog [] f16=c}:=⟨_,by conv=>lhs;cbv⟩
noncomputable def u_16:UF T:=⟨16,f16,k_16.1,⟨[],[],sbf,bof⟩,[true],[(0,[5,18,19,20])],false,[],[true,true],none⟩
theorem uk_16:UF.Ok tb prog u_16:=UF.of func16 (by kernel_rfl) (by kernel_rfl) (xZ6 sb_ok bo_ok) trivial
noncomputable def k_19:{c:SC // bdQ prog [] f19=c}:=⟨_,by conv=>lhs;cbv⟩
noncomputable def u_19:UF T:=⟨19,f19,k_19.1,⟨[(25,0)],[],sbf,bof⟩,[true],[(0,[3,10,11,12])],false,[],[true],none⟩
theorem uk_19:UF.Ok tb prog u_19:=UF.of func19 (by kernel_rfl) (by kernel_rfl) (xZ6 sb_ok bo_ok) trivial
noncomputable def k_29:{c:SC // bdQ prog [] f29=c}:=⟨_,by conv=>lhs;cbv⟩
noncomputable def u_29:UF T:=⟨29,f29,k_29.1,⟨[],[],sbf,bof⟩,[true,false],[],true,[],[true],none⟩
theorem uk_29:UF.Ok tb prog u_29:=UF.of func29 (by kernel_rfl) (by kernel_rfl) (xZ6 sb_ok bo_ok) trivial
noncomputable def k_31:{c:SC // bdQ prog [] f31=c}:=⟨_,by conv=>lhs;cbv⟩
noncomputable def u_31:UF T:=⟨31,f31,k_31.1,⟨[],[],sbf,bof⟩,[true],[],false,[],[true],none⟩
theorem uk_31:UF.Ok tb prog u_31:=UF.of func31 (by kernel_rfl) (by kernel_rfl) (xZ6 sb_ok bo_ok) trivial
noncomputable def k_32:{c:SC // bdQ prog [] f32=c}:=⟨_,by conv=>lhs;cbv⟩
noncomputable def u_32:UF T:=⟨32,f32,k_32.1,⟨[],[],sbf,bof⟩,[],[],false,[],[false,true],none⟩
theorem uk_32:UF.Ok tb prog u_32:=UF.of func32 (by kernel_rfl) (by kernel_rfl) (xZ6 sb_ok bo_ok) trivial
noncomputable def k_38:{c:SC // bdQ prog [(6,[],false)] f38=c}:=⟨_,by conv=>lhs;cbv⟩
noncomputable def u_38:UF T:=⟨38,f38,k_38.1,⟨[],[],sbf,bof⟩,[true],[(0,[0,1,12,13])],false,[],[true,true],none⟩
theorem uk_38:UF.Ok tb prog u_38:=UF.of func38 (by kernel_rfl) (by kernel_rfl) (xZ6 sb_ok bo_ok) trivial
noncomputable def k_39:{c:SC // bdQ prog [] f39=c}:=⟨_,by conv=>lhs;cbv⟩
noncomputable def u_39:UF T:=⟨39,f39,k_39.1,⟨[],[],sbf,bof⟩,[true],[(0,[1,2,15,16,17])],false,[],[true,true,false],none⟩
theorem uk_39:UF.Ok tb prog u_39:=UF.of func39 (by kernel_rfl) (by kernel_rfl) (xZ6 sb_ok bo_ok) trivial
noncomputable def k_40:{c:SC // bdQ prog [] f40=c}:=⟨_,by conv=>lhs;cbv⟩
noncomputable def u_40:UF T:=⟨40,f40,k_40.1,⟨[],[],sbf,bof⟩,[true],[],false,[],[true,true],none⟩
theorem uk_40:UF.Ok tb prog u_40:=UF.of func40 (by kernel_rfl) (by kernel_rfl) (xZ6 sb_ok bo_ok) trivial
noncomputable def k_41:{c:SC // bdQ prog [] f41=c}:=⟨_,by conv=>lhs;cbv⟩
noncomputable def u_41:UF T:=⟨41,f41,k_41.1,⟨[],[],sbf,bof⟩,[true],[],false,[],[true],none⟩
theorem uk_41:UF.Ok tb prog u_41:=UF.of func41 (by kernel_rfl) (by kernel_rfl) (xZ6 sb_ok bo_ok) trivial
noncomputable def k_43:{c:SC // bdQ prog [] f43=c}:=⟨_,by conv=>lhs;cbv⟩
noncomputable def u_43:UF T:=⟨43,f43,k_43.1,⟨[],[],sbf,bof⟩,[true],[],false,[],[true],none⟩
theorem uk_43:UF.Ok tb prog u_43:=UF.of func43 (by kernel_rfl) (by kernel_rfl) (xZ6 sb_ok bo_ok) trivial
noncomputable def k_44:{c:SC // bdQ prog [] f44=c}:=⟨_,by conv=>lhs;cbv⟩
noncomputable def u_44:UF T:=⟨44,f44,k_44.1,⟨[],[],sbf,bof⟩,[true],[],false,[],[true,true],none⟩
theorem uk_44:UF.Ok tb prog u_44:=UF.of func44 (by kernel_rfl) (by kernel_rfl) (xZ6 sb_ok bo_ok) trivial
noncomputable def k_57:{c:SC // bdQ prog [] f57=c}:=⟨_,by conv=>lhs;cbv⟩
noncomputable def u_57:UF T:=⟨57,f57,k_57.1,⟨[],[],sbf,bof⟩,[true,false],[(0,[0,4])],true,[],[true],none⟩
theorem uk_57:UF.Ok tb prog u_57:=UF.of func57 (by kernel_rfl) (by kernel_rfl) (xZ6 sb_ok bo_ok) trivial
noncomputable def k_58:{c:SC // bdQ prog [(8,[],false)] f58=c}:=⟨_,by conv=>lhs;cbv⟩
noncomputable def u_58:UF T:=⟨58,f58,k_58.1,⟨[],[],sbf,bof⟩,[true,false],[],true,[(88,2)],[false],none⟩
theorem uk_58:UF.Ok tb prog u_58:=UF.of func58 (by kernel_rfl) (by kernel_rfl) (xZ6 sb_ok bo_ok) trivial (fun p h=>by cases h with | head=>exact xZ4U | tail _ h=>cases h)
noncomputable def k_60:{c:SC // bdQ prog [(11,[],true)] f60=c}:=⟨_,by conv=>lhs;cbv⟩
noncomputable def u_60:UF T:=⟨60,f60,k_60.1,⟨[],[],sbf,bof⟩,[true,true],[(1,[2,8,9,42,43])],false,[],[true,true,true],none⟩
theorem uk_60:UF.Ok tb prog u_60:=UF.of func60 (by kernel_rfl) (by kernel_rfl) (xZ6 sb_ok bo_ok) trivial
noncomputable def k_61:{c:SC // bdQ prog [] f61=c}:=⟨_,by conv=>lhs;cbv⟩
noncomputable def u_61:UF T:=⟨61,f61,k_61.1,⟨[],[],sbf,bof⟩,[true],[(0,[0,3])],false,[],[true],none⟩
theorem uk_61:UF.Ok tb prog u_61:=UF.of func61 (by kernel_rfl) (by kernel_rfl) (xZ6 sb_ok bo_ok) trivial
noncomputable def k_62:{c:SC // bdQ prog [] f62=c}:=⟨_,by conv=>lhs;cbv⟩
noncomputable def u_62:UF T:=⟨62,f62,k_62.1,⟨[],[],sbf,bof⟩,[true],[],false,[],[true],none⟩
theorem uk_62:UF.Ok tb prog u_62:=UF.of func62 (by kernel_rfl) (by kernel_rfl) (xZ6 sb_ok bo_ok) trivial
noncomputable def k_63:{c:SC // bdQ prog [(4,[],false)] f63=c}:=⟨_,by conv=>lhs;cbv⟩
noncomputable def u_63:UF T:=⟨63,f63,k_63.1,⟨[(44,2)],[],sbf,bof⟩,[],[],false,[],[false,true],none⟩
theorem uk_63:UF.Ok tb prog u_63:=UF.of func63 (by kernel_rfl) (by kernel_rfl) (xZ6 sb_ok bo_ok) trivial
noncomputable def k_64:{c:SC // bdQ prog [] f64=c}:=⟨_,by conv=>lhs;cbv⟩
noncomputable def u_64:UF T:=⟨64,f64,k_64.1,⟨[],[],sbf,bof⟩,[],[],false,[],[false,true],none⟩
theorem uk_64:UF.Ok tb prog u_64:=UF.of func64 (by kernel_rfl) (by kernel_rfl) (xZ6 sb_ok bo_ok) trivial
noncomputable def k_65:{c:SC // bdQ prog [] f65=c}:=⟨_,by conv=>lhs;cbv⟩
noncomputable def u_65:UF T:=⟨65,f65,k_65.1,⟨[],[],sbf,bof⟩,[],[],false,[],[false,true],none⟩
theorem uk_65:UF.Ok tb prog u_65:=UF.of func65 (by kernel_rfl) (by kernel_rfl) (xZ6 sb_ok bo_ok) trivial
noncomputable def k_66:{c:SC // bdQ prog [] f66=c}:=⟨_,by conv=>lhs;cbv⟩
noncomputable def u_66:UF T:=⟨66,f66,k_66.1,⟨[],[],sbf,bof⟩,[],[(0,[0,1,4,5])],false,[],[false,true],none⟩
theorem uk_66:UF.Ok tb prog u_66:=UF.of func66 (by kernel_rfl) (by kernel_rfl) (xZ6 sb_ok bo_ok) trivial
noncomputable def k_74:{c:SC // bdQ prog [] f74=c}:=⟨_,by conv=>lhs;cbv⟩
noncomputable def u_74:UF T:=⟨74,f74,k_74.1,⟨[],[],sbf,bof⟩,[true],[],false,[],[true,true],none⟩
theorem uk_74:UF.Ok tb prog u_74:=UF.of func74 (by kernel_rfl) (by kernel_rfl) (xZ6 sb_ok bo_ok) trivial
noncomputable def k_87:{c:SC // bdQ prog [(1,[],false)] f87=c}:=⟨_,by conv=>lhs;cbv⟩
noncomputable def u_87:UF T:=⟨87,f87,k_87.1,⟨[],[],sbf,bof⟩,[false],[],true,[],[false],none⟩
theorem uk_87:UF.Ok tb prog u_87:=UF.of func87 (by kernel_rfl) (by kernel_rfl) (xZ6 sb_ok bo_ok) trivial
noncomputable def k_89:{c:SC // bdQ prog [] f89=c}:=⟨_,by conv=>lhs;cbv⟩
noncomputable def u_89:UF T:=⟨89,f89,k_89.1,⟨[],[],sbf,bof⟩,[true],[],false,[],[false,true],none⟩
theorem uk_89:UF.Ok tb prog u_89:=UF.of func89 (by kernel_rfl) (by kernel_rfl) (xZ6 sb_ok bo_ok) trivial
noncomputable def k_90:{c:SC // bdQ prog [] f90=c}:=⟨_,by conv=>lhs;cbv⟩
noncomputable def u_90:UF T:=⟨90,f90,k_90.1,⟨[],[],sbf,bof⟩,[],[],false,[],[false,true,true],none⟩
theorem uk_90:UF.Ok tb prog u_90:=UF.of func90 (by kernel_rfl) (by kernel_rfl) (xZ6 sb_ok bo_ok) trivial
noncomputable def k_91:{c:SC // bdQ prog [(1,[],false),(4,[],false)] f91=c}:=⟨_,by conv=>lhs;cbv⟩
noncomputable def u_91:UF T:=⟨91,f91,k_91.1,⟨[],[],sbf,bof⟩,[true],[],false,[],[false],none⟩
theorem uk_91:UF.Ok tb prog u_91:=UF.of func91 (by kernel_rfl) (by kernel_rfl) (xZ6 sb_ok bo_ok) trivial
noncomputable def k_92:{c:SC // bdQ prog [] f92=c}:=⟨_,by conv=>lhs;cbv⟩
noncomputable def u_92:UF T:=⟨92,f92,k_92.1,⟨[],[],sbf,bof⟩,[true],[],false,[],[false,true,true],none⟩
theorem uk_92:UF.Ok tb prog u_92:=UF.of func92 (by kernel_rfl) (by kernel_rfl) (xZ6 sb_ok bo_ok) trivial
noncomputable def k_93:{c:SC // bdQ prog [(1,[],false),(4,[],false)] f93=c}:=⟨_,by conv=>lhs;cbv⟩
noncomputable def u_93:UF T:=⟨93,f93,k_93.1,⟨[],[],sbf,bof⟩,[true],[],false,[],[false],none⟩
theorem uk_93:UF.Ok tb prog u_93:=UF.of func93 (by kernel_rfl) (by kernel_rfl) (xZ6 sb_ok bo_ok) trivial
end
section
open Go.Proofs.Tryz
set_option maxRecDepth 1000000
set_option maxHeartbeats 8000000
noncomputable def k_94:{c:SC // bdQ prog [] f94=c}:=⟨_,by conv=>lhs;cbv⟩
noncomputable def u_94:UF T:=⟨94,f94,k_94.1,⟨[],[],sbf,bof⟩,[true],[(0,[0,3])],false,[],[false],none⟩
theorem uk_94:UF.Ok tb prog u_94:=UF.of func94 (by kernel_rfl) (by kernel_rfl) (xZ6 sb_ok bo_ok) trivial
noncomputable def k_96:{c:SC // bdQ prog [] f96=c}:=⟨_,by conv=>lhs;cbv⟩
noncomputable def u_96:UF T:=⟨96,f96,k_96.1,⟨[],[],sbf,bof⟩,[true],[],false,[],[true,true],none⟩
theorem uk_96:UF.Ok tb prog u_96:=UF.of func96 (by kernel_rfl) (by kernel_rfl) (xZ6 sb_ok bo_ok) trivial
noncomputable def k_97:{c:SC // bdQ prog [] f97=c}:=⟨_,by conv=>lhs;cbv⟩
noncomputable def u_97:UF T:=⟨97,f97,k_97.1,⟨[],[],sbf,bof⟩,[true],[],false,[],[true],none⟩
theorem uk_97:UF.Ok tb prog u_97:=UF.of func97 (by kernel_rfl) (by kernel_rfl) (xZ6 sb_ok bo_ok) trivial
noncomputable def k_98:{c:SC // bdQ prog [] f98=c}:=⟨_,by conv=>lhs;cbv⟩
noncomputable def u_98:UF T:=⟨98,f98,k_98.1,⟨[],[],sbf,bof⟩,[true],[],false,[],[true],none⟩
theorem uk_98:UF.Ok tb prog u_98:=UF.of func98 (by kernel_rfl) (by kernel_rfl) (xZ6 sb_ok bo_ok) trivial
noncomputable def k_99:{c:SC // bdQ prog [] f99=c}:=⟨_,by conv=>lhs;cbv⟩
noncomputable def u_99:UF T:=⟨99,f99,k_99.1,⟨[],[],sbf,bof⟩,[true],[],false,[],[true],none⟩
theorem uk_99:UF.Ok tb prog u_99:=UF.of func99 (by kernel_rfl) (by kernel_rfl) (xZ6 sb_ok bo_ok) trivial
noncomputable def k_100:{c:SC // bdQ prog [] f100=c}:=⟨_,by conv=>lhs;cbv⟩
noncomputable def u_100:UF T:=⟨100,f100,k_100.1,⟨[],[],sbf,bof⟩,[true],[],false,[],[true],none⟩
theorem xZrM:UF.Ok tb prog u_100:=UF.of func100 (by kernel_rfl) (by kernel_rfl) (xZ6 sb_ok bo_ok) trivial
noncomputable def k_101:{c:SC // bdQ prog [] f101=c}:=⟨_,by conv=>lhs;cbv⟩
noncomputable def u_101:UF T:=⟨101,f101,k_101.1,⟨[],[],sbf,bof⟩,[true],[],false,[],[true],none⟩
theorem xZrN:UF.Ok tb prog u_101:=UF.of func101 (by kernel_rfl) (by kernel_rfl) (xZ6 sb_ok bo_ok) trivial
noncomputable def k_102:{c:SC // bdQ prog [] f102=c}:=⟨_,by conv=>lhs;cbv⟩
noncomputable def u_102:UF T:=⟨102,f102,k_102.1,⟨[],[],sbf,bof⟩,[true],[],false,[],[true],none⟩
theorem xZrO:UF.Ok tb prog u_102:=UF.of func102 (by kernel_rfl) (by kernel_rfl) (xZ6 sb_ok bo_ok) trivial
noncomputable def k_103:{c:SC // bdQ prog [] f103=c}:=⟨_,by conv=>lhs;cbv⟩
noncomputable def u_103:UF T:=⟨103,f103,k_103.1,⟨[(23,3)],[],sbf,bof⟩,[],[],false,[],[false,true,true],none⟩
theorem xZrP:UF.Ok tb prog u_103:=UF.of func103 (by kernel_rfl) (by kernel_rfl) (xZ6 sb_ok bo_ok) trivial
noncomputable def k_105:{c:SC // bdQ prog [] f105=c}:=⟨_,by conv=>lhs;cbv⟩
noncomputable def u_105:UF T:=⟨105,f105,k_105.1,⟨[],[],sbf,bof⟩,[],[(0,[0,1,6,7])],false,[],[false,true,true],none⟩
theorem xZrQ:UF.Ok tb prog u_105:=UF.of func105 (by kernel_rfl) (by kernel_rfl) (xZ6 sb_ok bo_ok) trivial
noncomputable def k_106:{c:SC // bdQ prog [] f106=c}:=⟨_,by conv=>lhs;cbv⟩
noncomputable def u_106:UF T:=⟨106,f106,k_106.1,⟨[],[],sbf,bof⟩,[],[],false,[],[false,true,true],none⟩
theorem xZrR:UF.Ok tb prog u_106:=UF.of func106 (by kernel_rfl) (by kernel_rfl) (xZ6 sb_ok bo_ok) trivial
noncomputable def k_111:{c:SC // bdQ prog [(6,[],false)] f111=c}:=⟨_,by conv=>lhs;cbv⟩
noncomputable def u_111:UF T:=⟨111,f111,k_111.1,⟨[],[],sbf,bof⟩,[true],[(0,[0,1,12,13])],false,[],[true,true],none⟩
theorem xZrS:UF.Ok tb prog u_111:=UF.of func111 (by kernel_rfl) (by kernel_rfl) (xZ6 sb_ok bo_ok) trivial
noncomputable def k_114:{c:SC // bdQ prog [] f114=c}:=⟨_,by conv=>lhs;cbv⟩
noncomputable def u_114:UF T:=⟨114,f114,k_114.1,⟨[],[],sbf,bof⟩,[true],[],false,[],[true],none⟩
theorem xZrT:UF.Ok tb prog u_114:=UF.of func114 (by kernel_rfl) (by kernel_rfl) (xZ6 sb_ok bo_ok) trivial
noncomputable def k_115:{c:SC // bdQ prog [] f115=c}:=⟨_,by conv=>lhs;cbv⟩
noncomputable def u_115:UF T:=⟨115,f115,k_115.1,⟨[],[],sbf,bof⟩,[true],[],false,[],[true],none⟩
theorem xZrU:UF.Ok tb prog u_115:=UF.of func115 (by kernel_rfl) (by kernel_rfl) (xZ6 sb_ok bo_ok) trivial
noncomputable def k_116:{c:SC // bdQ prog [] f116=c}:=⟨_,by conv=>lhs;cbv⟩
noncomputable def u_116:UF T:=⟨116,f116,k_116.1,⟨[],[],sbf,bof⟩,[true],[],false,[],[true,true],none⟩
theorem xZrV:UF.Ok tb prog u_116:=UF.of func116 (by kernel_rfl) (by kernel_rfl) (xZ6 sb_ok bo_ok) trivial
noncomputable def k_118:{c:SC // bdQ prog [(2,[],false)] f118=c}:=⟨_,by conv=>lhs;cbv⟩
noncomputable def u_118:UF T:=⟨118,f118,k_118.1,⟨[],[],sbf,bof⟩,[false],[],true,[],[false],none⟩
theorem xZrW:UF.Ok tb prog u_118:=UF.of func118 (by kernel_rfl) (by kernel_rfl) (xZ6 sb_ok bo_ok) trivial
noncomputable def k_119:{c:SC // bdQ prog [(2,[],false),(8,[],false)] f119=c}:=⟨_,by conv=>lhs;cbv⟩
noncomputable def u_119:UF T:=⟨119,f119,k_119.1,⟨[],[],sbf,bof⟩,[false],[(0,[0,3,4,25,26])],true,[],[false],none⟩
theorem xZrX:UF.Ok tb prog u_119:=UF.of func119 (by kernel_rfl) (by kernel_rfl) (xZ6 sb_ok bo_ok) trivial
noncomputable def k_122:{c:SC // bdQ prog [(2,[13],false),(4,[59],false)] f122=c}:=⟨_,by conv=>lhs;cbv⟩
noncomputable def u_122:UF T:=⟨122,f122,k_122.1,⟨[],[],sbf,bof⟩,[false],[],true,[],[false],none⟩
theorem xZrY:UF.Ok tb prog u_122:=UF.of func122 (by kernel_rfl) (by kernel_rfl) (xZ6 sb_ok bo_ok) trivial
noncomputable def k_123:{c:SC // bdQ prog [] f123=c}:=⟨_,by conv=>lhs;cbv⟩
noncomputable def u_123:UF T:=⟨123,f123,k_123.1,⟨[(24,4)],[],sbf,bof⟩,[true],[(0,[0,2,3,4,12,13])],false,[],[false,true,true,false,true],none⟩
theorem xZrZ:UF.Ok tb prog u_123:=UF.of func123 (by kernel_rfl) (by kernel_rfl) (xZ6 sb_ok bo_ok) trivial
noncomputable def k_124:{c:SC // bdQ prog [] f124=c}:=⟨_,by conv=>lhs;cbv⟩
noncomputable def u_124:UF T:=⟨124,f124,k_124.1,⟨[],[],sbf,bof⟩,[true],[],false,[],[false,true],none⟩
theorem xZs0:UF.Ok tb prog u_124:=UF.of func124 (by kernel_rfl) (by kernel_rfl) (xZ6 sb_ok bo_ok) trivial
noncomputable def k_125:{c:SC // bdQ prog [(1,[],false)] f125=c}:=⟨_,by conv=>lhs;cbv⟩
noncomputable def u_125:UF T:=⟨125,f125,k_125.1,⟨[],[],sbf,bof⟩,[true],[],false,[],[false,true,true],none⟩
theorem xZs1:UF.Ok tb prog u_125:=UF.of func125 (by kernel_rfl) (by kernel_rfl) (xZ6 sb_ok bo_ok) trivial
noncomputable def k_127:{c:SC // bdQ prog [] f127=c}:=⟨_,by conv=>lhs;cbv⟩
noncomputable def u_127:UF T:=⟨127,f127,k_127.1,⟨[],[],sbf,bof⟩,[true],[],false,[],[true],none⟩
theorem xZs3:UF.Ok tb prog u_127:=UF.of func127 (by kernel_rfl) (by kernel_rfl) (xZ6 sb_ok bo_ok) trivial
noncomputable def k_128:{c:SC // bdQ prog [] f128=c}:=⟨_,by conv=>lhs;cbv⟩
noncomputable def u_128:UF T:=⟨128,f128,k_128.1,⟨[],[],sbf,bof⟩,[true],[],false,[],[true],none⟩
theorem xZs4:UF.Ok tb prog u_128:=UF.of func128 (by kernel_rfl) (by kernel_rfl) (xZ6 sb_ok bo_ok) trivial
noncomputable def k_129:{c:SC // bdQ prog [] f129=c}:=⟨_,by conv=>lhs;cbv⟩
noncomputable def u_129:UF T:=⟨129,f129,k_129.1,⟨[],[],sbf,bof⟩,[true],[],false,[],[true],none⟩
theorem xZs5:UF.Ok tb prog u_129:=UF.of func129 (by kernel_rfl) (by kernel_rfl) (xZ6 sb_ok bo_ok) trivial
noncomputable def k_130:{c:SC // bdQ prog [] f130=c}:=⟨_,by conv=>lhs;cbv⟩
noncomputable def u_130:UF T:=⟨130,f130,k_130.1,⟨[],[],sbf,bof⟩,[true],[],false,[],[true],none⟩
theorem xZs6:UF.Ok tb prog u_130:=UF.of func130 (by kernel_rfl) (by kernel_rfl) (xZ6 sb_ok bo_ok) trivial
noncomputable def k_86:{c:SC // bdQ prog [] f86=c}:=⟨_,by conv=>lhs;cbv⟩
noncomputable def u_86:UF T:=⟨86,f86,k_86.1,⟨[],[],sbf,bof⟩,[true],[(0,[5,18,19,20])],false,[],[true,true],none⟩
theorem uk_86:UF.Ok tb prog u_86:=UF.of func86 (by kernel_rfl) (by kernel_rfl) (xZ6 sb_ok bo_ok) trivial
noncomputable def k_132:{c:SC // bdQ prog [] f132=c}:=⟨_,by conv=>lhs;cbv⟩
noncomputable def u_132:UF T:=⟨132,f132,k_132.1,⟨[],[],sbf,bof⟩,[true],[],false,[],[true,true],none⟩
theorem xZs7:UF.Ok tb prog u_132:=UF.of func132 (by kernel_rfl) (by kernel_rfl) (xZ6 sb_ok bo_ok) trivial
noncomputable def k_133:{c:SC // bdQ prog [(2,[31],false)] f133=c}:=⟨_,by conv=>lhs;cbv⟩
noncomputable def u_133:UF T:=⟨133,f133,k_133.1,⟨[],[],sbf,bof⟩,[true],[(0,[0,1,5])],false,[],[false,false],none⟩
theorem xZs8:UF.Ok tb prog u_133:=UF.of func133 (by kernel_rfl) (by kernel_rfl) (xZ6 sb_ok bo_ok) trivial
noncomputable def k_134:{c:SC // bdQ prog [] f134=c}:=⟨_,by conv=>lhs;cbv⟩
noncomputable def u_134:UF T:=⟨134,f134,k_134.1,⟨[],[],sbf,bof⟩,[true],[],false,[],[true],none⟩
theorem xZs9:UF.Ok tb prog u_134:=UF.of func134 (by kernel_rfl) (by kernel_rfl) (xZ6 sb_ok bo_ok) trivial
noncomputable def k_135:{c:SC // bdQ prog [(1,[],false)] f135=c}:=⟨_,by conv=>lhs;cbv⟩
noncomputable def u_135:UF T:=⟨135,f135,k_135.1,⟨[(24,5)],[],sbf,bof⟩,[false],[],true,[],[false,true,true,true,true],none⟩
theorem xZsa:UF.Ok tb prog u_135:=UF.of func135 (by kernel_rfl) (by kernel_rfl) (xZ6 sb_ok bo_ok) trivial
end
section
open Go.Proofs.Tryz
set_option maxRecDepth 1000000
set_option maxHeartbeats 8000000
noncomputable def k_137:{c:SC // bdQ prog [] f137=c}:=⟨_,by conv=>lhs;cbv⟩
noncomputable def u_137:UF T:=⟨137,f137,k_137.1,⟨[],[],sbf,bof⟩,[true],[],false,[],[true],none⟩
theorem xZsb:UF.Ok tb prog u_137:=UF.of func137 (by kernel_rfl) (by kernel_rfl) (xZ6 sb_ok bo_ok) trivial
noncomputable def k_143:{c:SC // bdQ prog [(0,[],false),(1,[],false),(2,[],false)] f143=c}:=⟨_,by conv=>lhs;cbv⟩
noncomputable def u_143:UF T:=⟨143,f143,k_143.1,⟨[],[],sbf,bof⟩,[],[],false,[],[true],none⟩
theorem xZsc:UF.Ok tb prog u_143:=UF.of func143 (by kernel_rfl) (by kernel_rfl) (xZ6 sb_ok bo_ok) trivial
noncomputable def k_144:{c:SC // bdQ prog [] f144=c}:=⟨_,by conv=>lhs;cbv⟩
noncomputable def u_144:UF T:=⟨144,f144,k_144.1,⟨[],[],sbf,bof⟩,[true],[],false,[],[false,true],none⟩
theorem xZsd:UF.Ok tb prog u_144:=UF.of func144 (by kernel_rfl) (by kernel_rfl) (xZ6 sb_ok bo_ok) trivial
noncomputable def k_145:{c:SC // bdQ prog [(1,[],false),(3,[],false)] f145=c}:=⟨_,by conv=>lhs;cbv⟩
noncomputable def u_145:UF T:=⟨145,f145,k_145.1,⟨[],[],sbf,bof⟩,[true],[(0,[0,2,7,57,58])],false,[],[false,true,true],none⟩
theorem xZse:UF.Ok tb prog u_145:=UF.of func145 (by kernel_rfl) (by kernel_rfl) (xZ6 sb_ok bo_ok) trivial
noncomputable def k_149:{c:SC // bdQ prog [(5,[33],false)] f149=c}:=⟨_,by conv=>lhs;cbv⟩
noncomputable def u_149:UF T:=⟨149,f149,k_149.1,⟨[(48,4)],[],sbf,bof⟩,[true],[],false,[],[false,true],none⟩
theorem xZsf:UF.Ok tb prog u_149:=UF.of func149 (by kernel_rfl) (by kernel_rfl) (xZ6 sb_ok bo_ok) trivial
noncomputable def k_150:{c:SC // bdQ prog [] f150=c}:=⟨_,by conv=>lhs;cbv⟩
noncomputable def u_150:UF T:=⟨150,f150,k_150.1,⟨[(30,4)],[],sbf,bof⟩,[true],[],false,[],[false,true],none⟩
theorem xZsg:UF.Ok tb prog u_150:=UF.of func150 (by kernel_rfl) (by kernel_rfl) (xZ6 sb_ok bo_ok) trivial
noncomputable def k_151:{c:SC // bdQ prog [] f151=c}:=⟨_,by conv=>lhs;cbv⟩
noncomputable def u_151:UF T:=⟨151,f151,k_151.1,⟨[],[],sbf,bof⟩,[true],[],false,[],[true,true],none⟩
theorem xZsh:UF.Ok tb prog u_151:=UF.of func151 (by kernel_rfl) (by kernel_rfl) (xZ6 sb_ok bo_ok) trivial
noncomputable def k_152:{c:SC // bdQ prog [] f152=c}:=⟨_,by conv=>lhs;cbv⟩
noncomputable def u_152:UF T:=⟨152,f152,k_152.1,⟨[],[],sbf,bof⟩,[true],[],false,[],[true,false,true],none⟩
theorem xZsi:UF.Ok tb prog u_152:=UF.of func152 (by kernel_rfl) (by kernel_rfl) (xZ6 sb_ok bo_ok) trivial
noncomputable def k_153:{c:SC // bdQ prog [] f153=c}:=⟨_,by conv=>lhs;cbv⟩
noncomputable def u_153:UF T:=⟨153,f153,k_153.1,⟨[],[],sbf,bof⟩,[true],[],false,[],[true],none⟩
theorem xZsj:UF.Ok tb prog u_153:=UF.of func153 (by kernel_rfl) (by kernel_rfl) (xZ6 sb_ok bo_ok) trivial
noncomputable def k_155:{c:SC // bdQ prog [] f155=c}:=⟨_,by conv=>lhs;cbv⟩
noncomputable def u_155:UF T:=⟨155,f155,k_155.1,⟨[],[],sbf,bof⟩,[true],[],false,[],[true],none⟩
theorem xZsk:UF.Ok tb prog u_155:=UF.of func155 (by kernel_rfl) (by kernel_rfl) (xZ6 sb_ok bo_ok) trivial
noncomputable def k_156:{c:SC // bdQ prog [] f156=c}:=⟨_,by conv=>lhs;cbv⟩
noncomputable def u_156:UF T:=⟨156,f156,k_156.1,⟨[],[],sbf,bof⟩,[true],[],false,[],[true,true],none⟩
theorem xZsl:UF.Ok tb prog u_156:=UF.of func156 (by kernel_rfl) (by kernel_rfl) (xZ6 sb_ok bo_ok) trivial
noncomputable def k_126:{c:SC // bdQ prog [] f126=c}:=⟨_,by conv=>lhs;cbv⟩
noncomputable def u_126:UF T:=⟨126,f126,k_126.1,⟨[],[],sbf,bof⟩,[],[],false,[],[false],none⟩
theorem xZs2:UF.Ok tb prog u_126:=UF.of func126 (by kernel_rfl) (by kernel_rfl) (xZ6 sb_ok bo_ok) trivial
noncomputable def k_163:{c:SC // bdQ prog [] f163=c}:=⟨_,by conv=>lhs;cbv⟩
noncomputable def u_163:UF T:=⟨163,f163,k_163.1,⟨[],[],sbf,bof⟩,[true,true],[],false,[],[false],none⟩
theorem xZsm:UF.Ok tb prog u_163:=UF.of func163 (by kernel_rfl) (by kernel_rfl) (xZ6 sb_ok bo_ok) trivial
noncomputable def k_164:{c:SC // bdQ prog [] f164=c}:=⟨_,by conv=>lhs;cbv⟩
noncomputable def u_164:UF T:=⟨164,f164,k_164.1,⟨[],[],sbf,bof⟩,[true],[],false,[],[true],none⟩
theorem xZsn:UF.Ok tb prog u_164:=UF.of func164 (by kernel_rfl) (by kernel_rfl) (xZ6 sb_ok bo_ok) trivial
noncomputable def k_165:{c:SC // bdQ prog [(21,[],false)] f165=c}:=⟨_,by conv=>lhs;cbv⟩
noncomputable def u_165:UF T:=⟨165,f165,k_165.1,⟨[],[],sbf,bof⟩,[true],[],false,[],[true],none⟩
theorem xZso:UF.Ok tb prog u_165:=UF.of func165 (by kernel_rfl) (by kernel_rfl) (xZ6 sb_ok bo_ok) trivial
noncomputable def k_167:{c:SC // bdQ prog [(1,[],false),(2,[],false)] f167=c}:=⟨_,by conv=>lhs;cbv⟩
noncomputable def u_167:UF T:=⟨167,f167,k_167.1,⟨[],[],sbf,bof⟩,[true],[],false,[],[false],none⟩
theorem xZsp:UF.Ok tb prog u_167:=UF.of func167 (by kernel_rfl) (by kernel_rfl) (xZ6 sb_ok bo_ok) trivial
noncomputable def k_169:{c:SC // bdQ prog [] f169=c}:=⟨_,by conv=>lhs;cbv⟩
noncomputable def u_169:UF T:=⟨169,f169,k_169.1,⟨[(16,6)],[],sbf,bof⟩,[true],[(0,[0,1,5])],false,[],[false,true],none⟩
theorem xZsq:UF.Ok tb prog u_169:=UF.of func169 (by kernel_rfl) (by kernel_rfl) (xZ6 sb_ok bo_ok) trivial
noncomputable def k_170:{c:SC // bdQ prog [] f170=c}:=⟨_,by conv=>lhs;cbv⟩
noncomputable def u_170:UF T:=⟨170,f170,k_170.1,⟨[],[],sbf,bof⟩,[false],[],true,[],[true],none⟩
theorem xZsr:UF.Ok tb prog u_170:=UF.of func170 (by kernel_rfl) (by kernel_rfl) (xZ6 sb_ok bo_ok) trivial
noncomputable def k_172:{c:SC // bdQ prog [] f172=c}:=⟨_,by conv=>lhs;cbv⟩
noncomputable def u_172:UF T:=⟨172,f172,k_172.1,⟨[(16,6)],[],sbf,bof⟩,[true],[(0,[0,1,5])],false,[],[false,true],none⟩
theorem xZss:UF.Ok tb prog u_172:=UF.of func172 (by kernel_rfl) (by kernel_rfl) (xZ6 sb_ok bo_ok) trivial
noncomputable def k_173:{c:SC // bdQ prog [] f173=c}:=⟨_,by conv=>lhs;cbv⟩
noncomputable def u_173:UF T:=⟨173,f173,k_173.1,⟨[],[],sbf,bof⟩,[true],[],false,[],[false,true,true],none⟩
theorem xZst:UF.Ok tb prog u_173:=UF.of func173 (by kernel_rfl) (by kernel_rfl) (xZ6 sb_ok bo_ok) trivial
noncomputable def k_174:{c:SC // bdQ prog [(1,[6],false)] f174=c}:=⟨_,by conv=>lhs;cbv⟩
noncomputable def u_174:UF T:=⟨174,f174,k_174.1,⟨[(6,1)],[],sbf,bof⟩,[true],[],false,[],[true,true],none⟩
theorem xZsu:UF.Ok tb prog u_174:=UF.of func174 (by kernel_rfl) (by kernel_rfl) (xZ6 sb_ok bo_ok) trivial
noncomputable def k_176:{c:SC // bdQ prog [] f176=c}:=⟨_,by conv=>lhs;cbv⟩
noncomputable def u_176:UF T:=⟨176,f176,k_176.1,⟨[(18,6),(49,6)],[],sbf,bof⟩,[true],[],false,[],[false,true],none⟩
theorem xZsv:UF.Ok tb prog u_176:=UF.of func176 (by kernel_rfl) (by kernel_rfl) (xZ6 sb_ok bo_ok) trivial
noncomputable def k_177:{c:SC // bdQ prog [(1,[],false),(2,[],false)] f177=c}:=⟨_,by conv=>lhs;cbv⟩
noncomputable def u_177:UF T:=⟨177,f177,k_177.1,⟨[],[],sbf,bof⟩,[true],[],false,[],[false],none⟩
theorem xZsw:UF.Ok tb prog u_177:=UF.of func177 (by kernel_rfl) (by kernel_rfl) (xZ6 sb_ok bo_ok) trivial
noncomputable def k_178:{c:SC // bdQ prog [] f178=c}:=⟨_,by conv=>lhs;cbv⟩
noncomputable def u_178:UF T:=⟨178,f178,k_178.1,⟨[],[],sbf,bof⟩,[true],[(0,[0,3,9,10,11]),(2,[6,25,26,27])],true,[],[true],none⟩
theorem xZsx:UF.Ok tb prog u_178:=UF.of func178 (by kernel_rfl) (by kernel_rfl) (xZ6 sb_ok bo_ok) trivial
noncomputable def k_181:{c:SC // bdQ prog [] f181=c}:=⟨_,by conv=>lhs;cbv⟩
noncomputable def u_181:UF T:=⟨181,f181,k_181.1,⟨[],[],sbf,bof⟩,[],[],false,[],[false,true],none⟩
theorem xZsy:UF.Ok tb prog u_181:=UF.of func181 (by kernel_rfl) (by kernel_rfl) (xZ6 sb_ok bo_ok) trivial
noncomputable def k_183:{c:SC // bdQ prog [] f183=c}:=⟨_,by conv=>lhs;cbv⟩
noncomputable def u_183:UF T:=⟨183,f183,k_183.1,⟨[(14,6),(23,6)],[],sbf,bof⟩,[true],[(0,[0,3])],false,[],[false],none⟩
theorem xZsz:UF.Ok tb prog u_183:=UF.of func183 (by kernel_rfl) (by kernel_rfl) (xZ6 sb_ok bo_ok) trivial
noncomputable def k_184:{c:SC // bdQ prog [] f184=c}:=⟨_,by conv=>lhs;cbv⟩
noncomputable def u_184:UF T:=⟨184,f184,k_184.1,⟨[],[],sbf,bof⟩,[true],[(0,[0,3])],false,[],[true],none⟩
theorem xZsA:UF.Ok tb prog u_184:=UF.of func184 (by kernel_rfl) (by kernel_rfl) (xZ6 sb_ok bo_ok) trivial
noncomputable def k_185:{c:SC // bdQ prog [] f185=c}:=⟨_,by conv=>lhs;cbv⟩
noncomputable def u_185:UF T:=⟨185,f185,k_185.1,⟨[],[],sbf,bof⟩,[true],[],false,[],[false,true],none⟩
theorem xZsB:UF.Ok tb prog u_185:=UF.of func185 (by kernel_rfl) (by kernel_rfl) (xZ6 sb_ok bo_ok) trivial
noncomputable def k_187:{c:SC // bdQ prog [] f187=c}:=⟨_,by conv=>lhs;cbv⟩
noncomputable def u_187:UF T:=⟨187,f187,k_187.1,⟨[(24,1),(40,1),(51,1),(54,1)],[],sbf,bof⟩,[true],[],false,[],[false],none⟩
theorem xZsC:UF.Ok tb prog u_187:=UF.of func187 (by kernel_rfl) (by kernel_rfl) (xZ6 sb_ok bo_ok) trivial
noncomputable def k_205:{c:SC // bdQ prog [] f205=c}:=⟨_,by conv=>lhs;cbv⟩
noncomputable def u_205:UF T:=⟨205,f205,k_205.1,⟨[],[],sbf,bof⟩,[true],[],false,[],[true],none⟩
theorem xZsD:UF.Ok tb prog u_205:=UF.of func205 (by kernel_rfl) (by kernel_rfl) (xZ6 sb_ok bo_ok) trivial
end
section
open Go.Proofs.Tryz
set_option maxRecDepth 1000000
set_option maxHeartbeats 8000000
noncomputable def us:UT T:=(.node (.node (.node (.node (.node (.node (.node .nil 8 u_8 .nil) 10 u_10 .nil) 14 u_14 (.node (.node .nil 16 u_16 .nil) 19 u_19 .nil)) 29 u_29 (.node (.node (.node .nil 31 u_31 .nil) 32 u_32 .nil) 38 u_38 (.node (.node .nil 39 u_39 .nil) 40 u_40 .nil))) 41 u_41 (.node (.node (.node (.node .nil 43 u_43 .nil) 44 u_44 .nil) 57 u_57 (.node (.node .nil 58 u_58 .nil) 60 u_60 .nil)) 61 u_61 (.node (.node (.node .nil 62 u_62 .nil) 63 u_63 .nil) 64 u_64 (.node .nil 65 u_65 .nil)))) 66 u_66 (.node (.node (.node (.node (.node .nil 74 u_74 .nil) 86 u_86 .nil) 87 u_87 (.node (.node .nil 89 u_89 .nil) 90 u_90 .nil)) 91 u_91 (.node (.node (.node .nil 92 u_92 .nil) 93 u_93 .nil) 94 u_94 (.node (.node .nil 96 u_96 .nil) 97 u_97 .nil))) 98 u_98 (.node (.node (.node (.node .nil 99 u_99 .nil) 100 u_100 .nil) 101 u_101 (.node (.node .nil 102 u_102 .nil) 103 u_103 .nil)) 105 u_105 (.node (.node (.node .nil 106 u_106 .nil) 111 u_111 .nil) 114 u_114 (.node .nil 115 u_115 .nil))))) 116 u_116 (.node (.node (.node (.node (.node (.node .nil 118 u_118 .nil) 119 u_119 .nil) 122 u_122 (.node (.node .nil 123 u_123 .nil) 124 u_124 .nil)) 125 u_125 (.node (.node (.node .nil 126 u_126 .nil) 127 u_127 .nil) 128 u_128 (.node (.node .nil 129 u_129 .nil) 130 u_130 .nil))) 132 u_132 (.node (.node (.node (.node .nil 133 u_133 .nil) 134 u_134 .nil) 135 u_135 (.node (.node .nil 137 u_137 .nil) 143 u_143 .nil)) 144 u_144 (.node (.node (.node .nil 145 u_145 .nil) 149 u_149 .nil) 150 u_150 (.node .nil 151 u_151 .nil)))) 152 u_152 (.node (.node (.node (.node (.node .nil 153 u_153 .nil) 155 u_155 .nil) 156 u_156 (.node (.node .nil 163 u_163 .nil) 164 u_164 .nil)) 165 u_165 (.node (.node (.node .nil 167 u_167 .nil) 169 u_169 .nil) 170 u_170 (.node .nil 172 u_172 .nil))) 173 u_173 (.node (.node (.node (.node .nil 174 u_174 .nil) 176 u_176 .nil) 177 u_177 (.node (.node .nil 178 u_178 .nil) 181 u_181 .nil)) 183 u_183 (.node (.node (.node .nil 184 u_184 .nil) 185 u_185 .nil) 187 u_187 (.node .nil 205 u_205 .nil))))))
theorem us_ok:us.Ok tb prog:=⟨⟨⟨⟨⟨⟨⟨trivial,uk_8,trivial⟩,uk_10,trivial⟩,uk_14,⟨⟨trivial,uk_16,trivial⟩,uk_19,trivial⟩⟩,uk_29,⟨⟨⟨trivial,uk_31,trivial⟩,uk_32,trivial⟩,uk_38,⟨⟨trivial,uk_39,trivial⟩,uk_40,trivial⟩⟩⟩,uk_41,⟨⟨⟨⟨trivial,uk_43,trivial⟩,uk_44,trivial⟩,uk_57,⟨⟨trivial,uk_58,trivial⟩,uk_60,trivial⟩⟩,uk_61,⟨⟨⟨trivial,uk_62,trivial⟩,uk_63,trivial⟩,uk_64,⟨trivial,uk_65,trivial⟩⟩⟩⟩,uk_66,⟨⟨⟨⟨⟨trivial,uk_74,trivial⟩,uk_86,trivial⟩,uk_87,⟨⟨trivial,uk_89,trivial⟩,uk_90,trivial⟩⟩,uk_91,⟨⟨⟨trivial,uk_92,trivial⟩,uk_93,trivial⟩,uk_94,⟨⟨trivial,uk_96,trivial⟩,uk_97,trivial⟩⟩⟩,uk_98,⟨⟨⟨⟨trivial,uk_99,trivial⟩,xZrM,trivial⟩,xZrN,⟨⟨trivial,xZrO,trivial⟩,xZrP,trivial⟩⟩,xZrQ,⟨⟨⟨trivial,xZrR,trivial⟩,xZrS,trivial⟩,xZrT,⟨trivial,xZrU,trivial⟩⟩⟩⟩⟩,xZrV,⟨⟨⟨⟨⟨⟨trivial,xZrW,trivial⟩,xZrX,trivial⟩,xZrY,⟨⟨trivial,xZrZ,trivial⟩,xZs0,trivial⟩⟩,xZs1,⟨⟨⟨trivial,xZs2,trivial⟩,xZs3,trivial⟩,xZs4,⟨⟨trivial,xZs5,trivial⟩,xZs6,trivial⟩⟩⟩,xZs7,⟨⟨⟨⟨trivial,xZs8,trivial⟩,xZs9,trivial⟩,xZsa,⟨⟨trivial,xZsb,trivial⟩,xZsc,trivial⟩⟩,xZsd,⟨⟨⟨trivial,xZse,trivial⟩,xZsf,trivial⟩,xZsg,⟨trivial,xZsh,trivial⟩⟩⟩⟩,xZsi,⟨⟨⟨⟨⟨trivial,xZsj,trivial⟩,xZsk,trivial⟩,xZsl,⟨⟨trivial,xZsm,trivial⟩,xZsn,trivial⟩⟩,xZso,⟨⟨⟨trivial,xZsp,trivial⟩,xZsq,trivial⟩,xZsr,⟨trivial,xZss,trivial⟩⟩⟩,xZst,⟨⟨⟨⟨trivial,xZsu,trivial⟩,xZsv,trivial⟩,xZsw,⟨⟨trivial,xZsx,trivial⟩,xZsy,trivial⟩⟩,xZsz,⟨⟨⟨trivial,xZsA,trivial⟩,xZsB,trivial⟩,xZsC,⟨trivial,xZsD,trivial⟩⟩⟩⟩⟩⟩
def uex:List (FuncId×EK'):=[(147,.ib)]
theorem xZqm:exOk prog uex:=⟨ExtIs.mk' f147 (by kernel_rfl) (by kernel_rfl) (by kernel_rfl) (by kernel_rfl) (by kernel_rfl),trivial⟩
noncomputable def uh0 (f:FuncId):List (Con tb):=match Nat.beq f 186 with | true=>[xZ1F] | false=>match Nat.beq f 162 with | true=>[xZ8A] | false=>match Nat.beq f 154 with | true=>[xZ5E] | false=>match Nat.beq f 104 with | true=>[xZ3S,xZ1O] | false=>match Nat.beq f 23 with | true=>[xZor] | false=>[]
theorem xZrK (N:Nat) (f:FuncId):conOk prog N (uh0 f):=by
 unfold uh0
 split
 ·exact ⟨xZ2R N,trivial⟩
 split
 ·exact ⟨xZcO N,trivial⟩
 split
 ·exact ⟨xZ8T N,trivial⟩
 split
 ·exact ⟨xZ7N N,xZ33 N,trivial⟩
 split
 ·exact ⟨xZqE N,trivial⟩
 exact trivial
noncomputable abbrev uc0:FuncId→List (Con tb):=uCons tb 100000 prog uex uh0 us 1000 1000
end
section
open Go.Proofs.Tryz
set_option maxRecDepth 1000000
set_option maxHeartbeats 8000000
noncomputable def uh1 (f:FuncId):List (Con tb):=uh0 f
theorem xZrL (f:FuncId):conOk prog 1000 (uh1 f):=by
 unfold uh1
 exact xZrK 1000 f
theorem uaw:uRun tb 100000 prog uex (uCons tb 100000 prog uex uh1 us 1000 1000) 1000 u_8 [true] (uOutP tb) EqT.q1 [] ⟨[],[]⟩=some (.bool true):=by kernel_rfl
theorem xZfj (N:Nat):xZbI.Ok prog N:=⟨uk_8.is.enters,fun a r h=>by
 cases h
 exact xZl3 (o:=uOutP tb) uk_8 tb_ok hm xZqm (xZl2 tb_ok hm xZqm xZrL us_ok 1000) uaw⟩
end
end Go.Proofs.YtmllclbhdmajmaaGreat.W
