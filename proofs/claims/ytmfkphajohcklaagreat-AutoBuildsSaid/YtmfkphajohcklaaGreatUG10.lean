/- Functions that are run at known arguments. No premise beyond what each theorem says. -/
import Derived.Test.YtmfkphajohcklaaGreatUG9
import Derived.Test.YtmfkphajohcklaaGreatUA4
set_option linter.all false
set_option linter.unusedSimpArgs false
set_option linter.unusedVariables false
namespace Go.Proofs.YtmfkphajohcklaaGreat.U
noncomputable section
open Go
section
open Go.Proofs.Tryz
set_option maxRecDepth 1000000
set_option maxHeartbeats 8000000
def Vu:{c:SC // aW prog [] f158=c}:=⟨_,by conv=>lhs;cbv⟩
def Dc:UF T:=⟨158,f158,Vu.1,⟨[],[],au,ar⟩,[true],[],false,[],[true],none⟩
theorem SU:UF.Ok tb prog Dc:=UF.of func158 (by kernel_rfl) (by kernel_rfl) (ay ax aw) trivial
def Vv:{c:SC // aW prog [] f159=c}:=⟨_,by conv=>lhs;cbv⟩
def Dd:UF T:=⟨159,f159,Vv.1,⟨[],[],au,ar⟩,[true],[],false,[],[true],none⟩
theorem RV:UF.Ok tb prog Dd:=UF.of func159 (by kernel_rfl) (by kernel_rfl) (ay ax aw) trivial
def Vx:{c:SC // aW prog [] f160=c}:=⟨_,by conv=>lhs;cbv⟩
def Df:UF T:=⟨160,f160,Vx.1,⟨[],[],au,ar⟩,[true],[(0,[5,18,19,20])],false,[],[true,true],none⟩
theorem RW:UF.Ok tb prog Df:=UF.of func160 (by kernel_rfl) (by kernel_rfl) (ay ax aw) trivial
def Vy:{c:SC // aW prog [(5,[33],false)] f165=c}:=⟨_,by conv=>lhs;cbv⟩
def Dg:UF T:=⟨165,f165,Vy.1,⟨[(48,3)],[],au,ar⟩,[true],[],false,[],[false,true],none⟩
theorem RX:UF.Ok tb prog Dg:=UF.of func165 (by kernel_rfl) (by kernel_rfl) (ay ax aw) trivial
def Vz:{c:SC // aW prog [] f166=c}:=⟨_,by conv=>lhs;cbv⟩
def Dh:UF T:=⟨166,f166,Vz.1,⟨[(30,3)],[],au,ar⟩,[true],[],false,[],[false,true],none⟩
theorem RY:UF.Ok tb prog Dh:=UF.of func166 (by kernel_rfl) (by kernel_rfl) (ay ax aw) trivial
def VA:{c:SC // aW prog [(1,[],false),(3,[],false)] f167=c}:=⟨_,by conv=>lhs;cbv⟩
def Di:UF T:=⟨167,f167,VA.1,⟨[],[],au,ar⟩,[true],[(0,[0,2,7,57,58])],false,[],[false,true,true],none⟩
theorem RZ:UF.Ok tb prog Di:=UF.of func167 (by kernel_rfl) (by kernel_rfl) (ay ax aw) trivial
def Va:{c:SC // aW prog [] f123=c}:=⟨_,by conv=>lhs;cbv⟩
def CR:UF T:=⟨123,f123,Va.1,⟨[],[],au,ar⟩,[],[],false,[],[false],none⟩
theorem Su:UF.Ok tb prog CR:=UF.of func123 (by kernel_rfl) (by kernel_rfl) (ay ax aw) trivial
def VB:{c:SC // aW prog [] f170=c}:=⟨_,by conv=>lhs;cbv⟩
def Dj:UF T:=⟨170,f170,VB.1,⟨[],[],au,ar⟩,[true,true],[],false,[],[false],none⟩
theorem R0:UF.Ok tb prog Dj:=UF.of func170 (by kernel_rfl) (by kernel_rfl) (ay ax aw) trivial
def VC:{c:SC // aW prog [] f171=c}:=⟨_,by conv=>lhs;cbv⟩
def Dk:UF T:=⟨171,f171,VC.1,⟨[],[],au,ar⟩,[true],[],false,[],[true,true],none⟩
theorem R4:UF.Ok tb prog Dk:=UF.of func171 (by kernel_rfl) (by kernel_rfl) (ay ax aw) trivial
def VD:{c:SC // aW prog [] f172=c}:=⟨_,by conv=>lhs;cbv⟩
def Dl:UF T:=⟨172,f172,VD.1,⟨[],[],au,ar⟩,[true],[],false,[],[true,false,true],none⟩
theorem R5:UF.Ok tb prog Dl:=UF.of func172 (by kernel_rfl) (by kernel_rfl) (ay ax aw) trivial
def VE:{c:SC // aW prog [] f173=c}:=⟨_,by conv=>lhs;cbv⟩
def Dm:UF T:=⟨173,f173,VE.1,⟨[],[],au,ar⟩,[true],[],false,[],[true],none⟩
theorem R6:UF.Ok tb prog Dm:=UF.of func173 (by kernel_rfl) (by kernel_rfl) (ay ax aw) trivial
def VF:{c:SC // aW prog [] f175=c}:=⟨_,by conv=>lhs;cbv⟩
def Dn:UF T:=⟨175,f175,VF.1,⟨[],[],au,ar⟩,[true],[],false,[],[true],none⟩
theorem R7:UF.Ok tb prog Dn:=UF.of func175 (by kernel_rfl) (by kernel_rfl) (ay ax aw) trivial
def VG:{c:SC // aW prog [] f176=c}:=⟨_,by conv=>lhs;cbv⟩
def Do:UF T:=⟨176,f176,VG.1,⟨[],[],au,ar⟩,[true],[],false,[],[true,true],none⟩
theorem R8:UF.Ok tb prog Do:=UF.of func176 (by kernel_rfl) (by kernel_rfl) (ay ax aw) trivial
def VH:{c:SC // aW prog [(1,[],false),(2,[],false)] f177=c}:=⟨_,by conv=>lhs;cbv⟩
def Dp:UF T:=⟨177,f177,VH.1,⟨[],[],au,ar⟩,[true],[],false,[],[false],none⟩
theorem R9:UF.Ok tb prog Dp:=UF.of func177 (by kernel_rfl) (by kernel_rfl) (ay ax aw) trivial
def VI:{c:SC // aW prog [] f179=c}:=⟨_,by conv=>lhs;cbv⟩
def Dq:UF T:=⟨179,f179,VI.1,⟨[(16,6)],[],au,ar⟩,[true],[(0,[0,1,5])],false,[],[false,true],none⟩
theorem Sa:UF.Ok tb prog Dq:=UF.of func179 (by kernel_rfl) (by kernel_rfl) (ay ax aw) trivial
def VJ:{c:SC // aW prog [] f180=c}:=⟨_,by conv=>lhs;cbv⟩
def Dr:UF T:=⟨180,f180,VJ.1,⟨[],[],au,ar⟩,[true],[],false,[],[true],none⟩
theorem Sb:UF.Ok tb prog Dr:=UF.of func180 (by kernel_rfl) (by kernel_rfl) (ay ax aw) trivial
def VK:{c:SC // aW prog [(21,[],false)] f181=c}:=⟨_,by conv=>lhs;cbv⟩
def Ds:UF T:=⟨181,f181,VK.1,⟨[],[],au,ar⟩,[true],[],false,[],[true],none⟩
theorem Sc:UF.Ok tb prog Ds:=UF.of func181 (by kernel_rfl) (by kernel_rfl) (ay ax aw) trivial
def VL:{c:SC // aW prog [] f182=c}:=⟨_,by conv=>lhs;cbv⟩
def Dt:UF T:=⟨182,f182,VL.1,⟨[(16,6)],[],au,ar⟩,[true],[(0,[0,1,5])],false,[],[false,true],none⟩
theorem Sd:UF.Ok tb prog Dt:=UF.of func182 (by kernel_rfl) (by kernel_rfl) (ay ax aw) trivial
def VM:{c:SC // aW prog [] f183=c}:=⟨_,by conv=>lhs;cbv⟩
def Du:UF T:=⟨183,f183,VM.1,⟨[],[],au,ar⟩,[true],[],false,[],[false,true,true],none⟩
theorem Se:UF.Ok tb prog Du:=UF.of func183 (by kernel_rfl) (by kernel_rfl) (ay ax aw) trivial
def VN:{c:SC // aW prog [(1,[6],false)] f184=c}:=⟨_,by conv=>lhs;cbv⟩
def Dv:UF T:=⟨184,f184,VN.1,⟨[(6,1)],[],au,ar⟩,[true],[],false,[],[true,true],none⟩
theorem Sf:UF.Ok tb prog Dv:=UF.of func184 (by kernel_rfl) (by kernel_rfl) (ay ax aw) trivial
def VO:{c:SC // aW prog [] f185=c}:=⟨_,by conv=>lhs;cbv⟩
def Dw:UF T:=⟨185,f185,VO.1,⟨[],[],au,ar⟩,[false],[],true,[],[true],none⟩
theorem Sg:UF.Ok tb prog Dw:=UF.of func185 (by kernel_rfl) (by kernel_rfl) (ay ax aw) trivial
def VP:{c:SC // aW prog [] f186=c}:=⟨_,by conv=>lhs;cbv⟩
def Dx:UF T:=⟨186,f186,VP.1,⟨[(18,6),(49,6)],[],au,ar⟩,[true],[],false,[],[false,true],none⟩
theorem Sh:UF.Ok tb prog Dx:=UF.of func186 (by kernel_rfl) (by kernel_rfl) (ay ax aw) trivial
def VQ:{c:SC // aW prog [(1,[],false),(2,[],false)] f187=c}:=⟨_,by conv=>lhs;cbv⟩
def Dy:UF T:=⟨187,f187,VQ.1,⟨[],[],au,ar⟩,[true],[],false,[],[false],none⟩
theorem Si:UF.Ok tb prog Dy:=UF.of func187 (by kernel_rfl) (by kernel_rfl) (ay ax aw) trivial
def VR:{c:SC // aW prog [] f188=c}:=⟨_,by conv=>lhs;cbv⟩
def Dz:UF T:=⟨188,f188,VR.1,⟨[],[],au,ar⟩,[true],[(0,[0,3,9,10,11]),(2,[6,25,26,27])],true,[],[true],none⟩
theorem Sj:UF.Ok tb prog Dz:=UF.of func188 (by kernel_rfl) (by kernel_rfl) (ay ax aw) trivial
def VS:{c:SC // aW prog [] f189=c}:=⟨_,by conv=>lhs;cbv⟩
def DA:UF T:=⟨189,f189,VS.1,⟨[],[],au,ar⟩,[],[],false,[],[false,true],none⟩
theorem Sl:UF.Ok tb prog DA:=UF.of func189 (by kernel_rfl) (by kernel_rfl) (ay ax aw) trivial
def VT:{c:SC // aW prog [] f191=c}:=⟨_,by conv=>lhs;cbv⟩
def DB:UF T:=⟨191,f191,VT.1,⟨[(14,6),(23,6)],[],au,ar⟩,[true],[(0,[0,3])],false,[],[false],none⟩
theorem Sm:UF.Ok tb prog DB:=UF.of func191 (by kernel_rfl) (by kernel_rfl) (ay ax aw) trivial
def VU:{c:SC // aW prog [] f192=c}:=⟨_,by conv=>lhs;cbv⟩
def DC:UF T:=⟨192,f192,VU.1,⟨[],[],au,ar⟩,[true],[(0,[0,3])],false,[],[true],none⟩
theorem Sn:UF.Ok tb prog DC:=UF.of func192 (by kernel_rfl) (by kernel_rfl) (ay ax aw) trivial
def VV:{c:SC // aW prog [] f193=c}:=⟨_,by conv=>lhs;cbv⟩
def DD:UF T:=⟨193,f193,VV.1,⟨[],[],au,ar⟩,[true],[],false,[],[false,true],none⟩
theorem So:UF.Ok tb prog DD:=UF.of func193 (by kernel_rfl) (by kernel_rfl) (ay ax aw) trivial
def VW:{c:SC // aW prog [] f195=c}:=⟨_,by conv=>lhs;cbv⟩
def DE:UF T:=⟨195,f195,VW.1,⟨[(24,1),(40,1),(51,1),(54,1)],[],au,ar⟩,[true],[],false,[],[false],none⟩
theorem SV:UF.Ok tb prog DE:=UF.of func195 (by kernel_rfl) (by kernel_rfl) (ay ax aw) trivial
def VY:{c:SC // aW prog [] f213=c}:=⟨_,by conv=>lhs;cbv⟩
def DF:UF T:=⟨213,f213,VY.1,⟨[],[],au,ar⟩,[true],[],false,[],[true],none⟩
theorem SW:UF.Ok tb prog DF:=UF.of func213 (by kernel_rfl) (by kernel_rfl) (ay ax aw) trivial
end
end
end Go.Proofs.YtmfkphajohcklaaGreat.U
