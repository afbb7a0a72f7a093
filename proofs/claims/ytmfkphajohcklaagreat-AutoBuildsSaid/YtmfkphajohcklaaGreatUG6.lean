/- The code, and what each function of it is walked to. No premise beyond what each theorem says. -/
import Derived.Test.YtmfkphajohcklaaGreatUG5
set_option linter.all false
set_option linter.unusedSimpArgs false
set_option linter.unusedVariables false
namespace Go.Proofs.YtmfkphajohcklaaGreat.U
noncomputable section
open Go
section
open Go.Proofs.Tryz
set_option maxRecDepth 1000000
noncomputable section
def X7:Fn EJ:=⟨f109,[],⟨[],[],au,ar⟩,λ_=>[ky],[true],none,0,1,λ_ _=>true,none,[],[],[]⟩
theorem Yr:X7.Ok prog:=⟨Is.of (by kernel_rfl) (by kernel_rfl),by kernel_rfl,ay ax aw,trivial,trivial,λ_=>by kernel_rfl⟩
theorem Yo (N:Nat):EJ.Ok prog N:=Yr.give aq hm N N (λ_=>⟨nM N,trivial⟩) λa r s h=>by
 have l0:=s.loop 0 qk (LF N) N λac h0=>by
  have l4:=s.loop 4 wV (Lm N ac) N λaX h4=>by
   exact λc v=>s.seg 4 wV [(0,.of qk ac),(4,.of wV aX)] ⟨h0,h4,trivial⟩ (by kernel_rfl) (by kernel_rfl)
  have l2:=s.loop 2 wU (LG N ac) N λaH h2=>by
   exact λc v=>s.seg 2 wU [(0,.of qk ac),(2,.of wU aH),(4,.of wV (XL N ac))] ⟨h0,h2,l4,trivial⟩ (by kernel_rfl) (by kernel_rfl)
  exact λc v=>s.seg 0 qk [(0,.of qk ac),(2,.of wU (XK N ac))] ⟨h0,l2,trivial⟩ (by kernel_rfl) (by kernel_rfl)
 exact s.main [(0,.of qk (XJ N))] ⟨l0,trivial⟩ (.trans (by kernel_rfl) h)
def Y1:Fn E0:=⟨f110,[],⟨[],[],au,ar⟩,λ_=>[ky],[true,true],none,0,1,λ_ _=>true,none,[],[],[]⟩
theorem YQ:Y1.Ok prog:=⟨Is.of (by kernel_rfl) (by kernel_rfl),by kernel_rfl,ay ax aw,trivial,trivial,λ_=>by kernel_rfl⟩
theorem Y3 (N:Nat):E0.Ok prog N:=YQ.give aq hm N N (λ_=>⟨nM N,trivial⟩) λa r s h=>by
 have l4:=s.loop 4 pL (Mb N) N λaX h4=>by
  have l8:=s.loop 8 wQ (Md N aX) N λnh h8=>by
   exact λc v=>s.seg 8 wQ [(4,.of pL aX),(8,.of wQ nh)] ⟨h4,h8,trivial⟩ (by kernel_rfl) (by kernel_rfl)
  have l6:=s.loop 6 wP (Mc N aX) N λeQ h6=>by
   exact λc v=>s.seg 6 wP [(4,.of pL aX),(6,.of wP eQ),(8,.of wQ (YN N aX))] ⟨h4,h6,l8,trivial⟩ (by kernel_rfl) (by kernel_rfl)
  exact λc v=>s.seg 4 pL [(4,.of pL aX),(6,.of wP (YM N aX))] ⟨h4,l6,trivial⟩ (by kernel_rfl) (by kernel_rfl)
 have l2:=s.loop 2 wO (Ma N) N λaH h2=>by
  exact λc v=>s.seg 2 wO [(2,.of wO aH),(4,.of pL (YL N))] ⟨h2,l4,trivial⟩ (by kernel_rfl) (by kernel_rfl)
 have l0:=s.loop 0 wN (L9 N) N λac h0=>by
  exact λc v=>s.seg 0 wN [(0,.of wN ac),(2,.of wO (YK N))] ⟨h0,l2,trivial⟩ (by kernel_rfl) (by kernel_rfl)
 exact s.main [(0,.of wN (YJ N))] ⟨l0,trivial⟩ (.trans (by kernel_rfl) h)
def Zc:Fn r8:=⟨f67,[],⟨[],[],au,ar⟩,λ_=>[EP,E3,EO,Et,Er,Eh,ky,EJ,E0,r8],[],none,0,1,λ_ _=>true,none,[],[86,122,137,175],[]⟩
theorem L3:Zc.Ok prog:=⟨Is.of (by kernel_rfl) (by kernel_rfl),by kernel_rfl,ay ax aw,trivial,trivial,λ_=>by kernel_rfl⟩
theorem LY:∀N,r8.Ok prog N
 | 0=>⟨L3.is.enters,λa r h=>by(have h:none=some r:=h;cases h)⟩
 | N+1=>by
   obtain Ur:=LY N
   ·exact L3.give aq hm N (N+1) (λ_=>⟨YB N,Y4 N,YA N,Yi N,Yb N,XT N,nM N,Yo N,Y3 N,Ur,trivial⟩) λa r s h=>by
     have l0:=s.loop 0 mA (LX N) N λac h0=>by
      have Cj:=s.jn 1000175 LP (LU N ac) [(0,.of mA ac)] ⟨h0,trivial⟩ (by kernel_rfl) (λx=>by kernel_rfl);have lj2:=s.jn 1000137 Mk (LT N ac) [(0,.of mA ac),(1000175,.of LP (LU N ac))] ⟨h0,Cj,trivial⟩ (by kernel_rfl) (λx=>by kernel_rfl);have rm:=s.jn 1000122 Mj (LS N ac) [(0,.of mA ac),(1000137,.of Mk (LT N ac))] ⟨h0,lj2,trivial⟩ (by kernel_rfl) (λx=>by kernel_rfl);have rk:=s.jn 1000086 Mi (LR N ac) [(0,.of mA ac),(1000122,.of Mj (LS N ac))] ⟨h0,rm,trivial⟩ (by kernel_rfl) (λx=>by kernel_rfl);exact λc v=>s.seg 0 mA [(0,.of mA ac),(1000086,.of Mi (LR N ac))] ⟨h0,rk,trivial⟩ (by kernel_rfl) (by kernel_rfl)
     exact s.main [(0,.of mA (YR N))] ⟨l0,trivial⟩ (.trans (by kernel_rfl) h)
theorem Ze (N:Nat):r8.Ok prog N:=(LY N)
def aag:Fn Fo:=⟨f45,[],⟨[],[],au,ar⟩,λ_=>[sC,r8],[],none,0,1,λ_ _=>true,none,[],[],[]⟩
theorem Z6:aag.Ok prog:=⟨Is.of (by kernel_rfl) (by kernel_rfl),by kernel_rfl,ay ax aw,trivial,trivial,λ_=>by kernel_rfl⟩
theorem Z3 (N:Nat):Fo.Ok prog N:=Z6.give aq hm N N (λ_=>⟨FJ N,Ze N,trivial⟩) λa r s h=>by
 exact s.main [] trivial (.trans (by kernel_rfl) h)
def aah:Fn Fi:=⟨f24,[],⟨[(17,14),(53,11),(89,14),(110,14),(3000125,15),(4000041,14)],[],au,ar⟩,λ_=>[pF,E1,Fo,LZ,Mm],[true,true,true],none,1,0,λ_ _=>true,some bw.cls,[],[],[]⟩
theorem aay:aah.Ok prog:=⟨Is.of (by kernel_rfl) (by kernel_rfl),by kernel_rfl,ay ax aw,trivial,trivial,λ_=>by kernel_rfl⟩
theorem aak (N:Nat):Fi.Ok prog N:=aay.give aq hm N N (λ_=>⟨zF N,Za N,Z3 N,Zd N,Y9 N,trivial⟩) λa r s h=>by
 have l0:=s.loop 0 sp (Mx N) N λac h0=>by
  have l2:=s.loop 2 xN (My N ac) N λaH h2=>by
   exact λc v=>s.seg 2 xN [(0,.of sp ac),(2,.of xN aH)] ⟨h0,h2,trivial⟩ (by kernel_rfl) (by kernel_rfl)
  exact λc v=>s.seg 0 sp [(0,.of sp ac),(2,.of xN (Z8 N ac))] ⟨h0,l2,trivial⟩ (by kernel_rfl) (by kernel_rfl)
 exact s.main [(0,.of sp (Z7 N))] ⟨l0,trivial⟩ (.trans (by kernel_rfl) h)
end
end
section
open Go.Proofs.Tryz
set_option maxRecDepth 1000000
noncomputable section
def ac2:Fn zB:=⟨f8,[],⟨[(80,14),(99,16),(104,17)],[],au,ar⟩,λ_=>[FK,Fc,pF,Fi],[true,true],none,0,0,λ_ _=>true,some bw.cls,[],[],[]⟩
theorem ad4:ac2.Ok prog:=⟨Is.of (by kernel_rfl) (by kernel_rfl),by kernel_rfl,ay ax aw,trivial,trivial,λ_=>by kernel_rfl⟩
theorem GB (N:Nat):zB.Ok prog N:=ad4.give aq hm N N (λ_=>⟨abL N,ZJ N,zF N,aak N,trivial⟩) λa r s h=>by
 have l2:=s.loop 2 yJ (NL N) N λaH h2=>by
  exact λc v=>s.seg 2 yJ [(2,.of yJ aH)] ⟨h2,trivial⟩ (by kernel_rfl) (by kernel_rfl)
 have l0:=s.loop 0 yI (NK N) N λac h0=>by
  exact λc v=>s.seg 0 yI [(0,.of yI ac),(2,.of yJ (acA N))] ⟨h0,l2,trivial⟩ (by kernel_rfl) (by kernel_rfl)
 exact s.main [(0,.of yI (acz N))] ⟨l0,trivial⟩ (.trans (by kernel_rfl) h)
theorem aam (N:Nat):MV.Ok prog N:=agn (te:=51) (tb:=4) (e:=135) (kS.of (fn:=f132) (by kernel_rfl) (by kernel_rfl) (by kernel_rfl) (by kernel_rfl) (by kernel_rfl) (by kernel_rfl) (by decide)) hm N
theorem ZW (N:Nat):MP.Ok prog N:=afR (te:=51) (tb:=4) (e:=135) (kS.of (fn:=f132) (by kernel_rfl) (by kernel_rfl) (by kernel_rfl) (by kernel_rfl) (by kernel_rfl) (by kernel_rfl) (by decide)) hm N
def Zw:Fn nD:=⟨f187,[],⟨[],[],au,ar⟩,λ_=>[],[true],none,1,0,λ_ _=>true,none,[],[],[]⟩
theorem ZN:Zw.Ok prog:=⟨Is.of (by kernel_rfl) (by kernel_rfl),by kernel_rfl,ay ax aw,trivial,trivial,λ_=>by kernel_rfl⟩
theorem sa (N:Nat):nD.Ok prog N:=ZN.give aq hm N N (λ_=>trivial) λa r s h=>by
 exact s.main [] trivial (.trans (by kernel_rfl) h)
def Zm:Fn Fb:=⟨f177,[],⟨[],[],au,ar⟩,λ_=>[],[true],none,1,0,λ_ _=>true,none,[],[],[]⟩
theorem Zn:Zm.Ok prog:=⟨Is.of (by kernel_rfl) (by kernel_rfl),by kernel_rfl,ay ax aw,trivial,trivial,λ_=>by kernel_rfl⟩
theorem Mn (N:Nat):Fb.Ok prog N:=Zn.give aq hm N N (λ_=>trivial) λa r s h=>by
 exact s.main [] trivial (.trans (by kernel_rfl) h)
def Zv:Fn py:=⟨f190,[],⟨[],[],au,ar⟩,λ_=>[Fb],[],none,1,0,λ_ _=>true,none,[],[],[]⟩
theorem ZM:Zv.Ok prog:=⟨Is.of (by kernel_rfl) (by kernel_rfl),by kernel_rfl,ay ax aw,trivial,trivial,λ_=>by kernel_rfl⟩
theorem xD (N:Nat):py.Ok prog N:=ZM.give aq hm N N (λ_=>⟨Mn N,trivial⟩) λa r s h=>by
 exact s.main [] trivial (.trans (by kernel_rfl) h)
def Zq:Fn E8:=⟨f189,[],⟨[],[],au,ar⟩,λ_=>[nD,py],[],none,1,0,λ_ _=>true,none,[],[],[]⟩
theorem Zs:Zq.Ok prog:=⟨Is.of (by kernel_rfl) (by kernel_rfl),by kernel_rfl,ay ax aw,trivial,trivial,λ_=>by kernel_rfl⟩
theorem Zr (N:Nat):E8.Ok prog N:=Zs.give aq hm N N (λ_=>⟨sa N,xD N,trivial⟩) λa r s h=>by
 exact s.main [] trivial (.trans (by kernel_rfl) h)
def ZA:Fn nH:=⟨f183,[],⟨[],[],au,ar⟩,λ_=>[nD],[true],none,1,0,λ_ _=>true,none,[],[],[]⟩
theorem ZX:ZA.Ok prog:=⟨Is.of (by kernel_rfl) (by kernel_rfl),by kernel_rfl,ay ax aw,trivial,trivial,λ_=>by kernel_rfl⟩
theorem so (N:Nat):nH.Ok prog N:=ZX.give aq hm N N (λ_=>⟨sa N,trivial⟩) λa r s h=>by
 exact s.main [] trivial (.trans (by kernel_rfl) h)
def aaf:Fn Fm:=⟨f188,[],⟨[],[],au,ar⟩,λ_=>[Fe],[true],none,0,0,λ_ _=>true,none,[],[],[]⟩
theorem Z5:aaf.Ok prog:=⟨Is.of (by kernel_rfl) (by kernel_rfl),by kernel_rfl,ay ax aw,trivial,trivial,λ_=>by kernel_rfl⟩
theorem Z2 (N:Nat):Fm.Ok prog N:=Z5.give aq hm N N (λ_=>⟨ME N,trivial⟩) λa r s h=>by
 have l2:=s.loop 2 xH (MK N) N λaH h2=>by
  exact λc v=>s.seg 2 xH [(2,.of xH aH)] ⟨h2,trivial⟩ (by kernel_rfl) (by kernel_rfl)
 have l0:=s.loop 0 xG (MJ N) N λac h0=>by
  exact λc v=>s.seg 0 xG [(0,.of xG ac),(2,.of xH (ZU N))] ⟨h0,l2,trivial⟩ (by kernel_rfl) (by kernel_rfl)
 exact s.main [(0,.of xG (ZT N))] ⟨l0,trivial⟩ (.trans (by kernel_rfl) h)
def abg:Fn pA:=⟨f184,[],⟨[(6,1)],[],au,ar⟩,λ_=>[Fm],[true],none,0,0,λ_ _=>true,none,[],[],[]⟩
theorem abh:abg.Ok prog:=⟨Is.of (by kernel_rfl) (by kernel_rfl),by kernel_rfl,ay ax aw,trivial,trivial,λ_=>by kernel_rfl⟩
theorem ym (N:Nat):pA.Ok prog N:=abh.give aq hm N N (λ_=>⟨Z2 N,trivial⟩) λa r s h=>by
 exact s.main [] trivial (.trans (by kernel_rfl) h)
def ZF:Fn xB:=⟨f193,[],⟨[],[],au,ar⟩,λ_=>[nD,py],[true],none,1,0,λ_ _=>true,none,[],[],[]⟩
theorem ZO:ZF.Ok prog:=⟨Is.of (by kernel_rfl) (by kernel_rfl),by kernel_rfl,ay ax aw,trivial,trivial,λ_=>by kernel_rfl⟩
theorem Mv (N:Nat):xB.Ok prog N:=ZO.give aq hm N N (λ_=>⟨sa N,xD N,trivial⟩) λa r s h=>by
 exact s.main [] trivial (.trans (by kernel_rfl) h)
def ZG:Fn Fd:=⟨f195,[],⟨[(24,1),(40,1),(51,1),(54,1)],[],au,ar⟩,λ_=>[nH,nD,py,xB],[true],none,1,0,λ_ _=>true,none,[],[],[]⟩
theorem ZP:ZG.Ok prog:=⟨Is.of (by kernel_rfl) (by kernel_rfl),by kernel_rfl,ay ax aw,trivial,trivial,λ_=>by kernel_rfl⟩
theorem ZK (N:Nat):Fd.Ok prog N:=ZP.give aq hm N N (λ_=>⟨so N,sa N,xD N,Mv N,trivial⟩) λa r s h=>by
 exact s.main [] trivial (.trans (by kernel_rfl) h)
def ZB:Fn Fj:=⟨f191,[],⟨[(14,6),(23,6)],[],au,ar⟩,λ_=>[Fd,nH,pA],[true],none,1,0,λ_ _=>true,none,[],[],[]⟩
theorem ZY:ZB.Ok prog:=⟨Is.of (by kernel_rfl) (by kernel_rfl),by kernel_rfl,ay ax aw,trivial,trivial,λ_=>by kernel_rfl⟩
theorem ZE (N:Nat):Fj.Ok prog N:=ZY.give aq hm N N (λ_=>⟨ZK N,so N,ym N,trivial⟩) λa r s h=>by
 have l0:=s.loop 0 xz (Mp N) N λac h0=>by
  exact λc v=>s.seg 0 xz [(0,.of xz ac)] ⟨h0,trivial⟩ (by kernel_rfl) (by kernel_rfl)
 exact s.main [(0,.of xz (Zp N))] ⟨l0,trivial⟩ (.trans (by kernel_rfl) h)
def abT:Fn yD:=⟨f180,[],⟨[],[],au,ar⟩,λ_=>[],[true],none,0,0,λ_ _=>true,none,[],[],[]⟩
theorem abX:abT.Ok prog:=⟨Is.of (by kernel_rfl) (by kernel_rfl),by kernel_rfl,ay ax aw,trivial,trivial,λ_=>by kernel_rfl⟩
theorem NH (N:Nat):yD.Ok prog N:=abX.give aq hm N N (λ_=>trivial) λa r s h=>by
 exact s.main [] trivial (.trans (by kernel_rfl) h)
def ac5:Fn Gr:=⟨f192,[],⟨[],[],au,ar⟩,λ_=>[yD],[true],none,0,0,λ_ _=>true,none,[],[],[]⟩
theorem ad7:ac5.Ok prog:=⟨Is.of (by kernel_rfl) (by kernel_rfl),by kernel_rfl,ay ax aw,trivial,trivial,λ_=>by kernel_rfl⟩
theorem adE (N:Nat):Gr.Ok prog N:=ad7.give aq hm N N (λ_=>⟨NH N,trivial⟩) λa r s h=>by
 have l0:=s.loop 0 yL (NN N) N λac h0=>by
  exact λc v=>s.seg 0 yL [(0,.of yL ac)] ⟨h0,trivial⟩ (by kernel_rfl) (by kernel_rfl)
 exact s.main [(0,.of yL (acC N))] ⟨l0,trivial⟩ (.trans (by kernel_rfl) h)
end
end
section
open Go.Proofs.Tryz
set_option maxRecDepth 1000000
noncomputable section
def aae:Fn xP:=⟨f179,[],⟨[(16,6)],[],au,ar⟩,λ_=>[Fh,nH,pA],[true],none,1,0,λ_ _=>true,none,[],[],[]⟩
theorem MS:aae.Ok prog:=⟨Is.of (by kernel_rfl) (by kernel_rfl),by kernel_rfl,ay ax aw,trivial,trivial,λ_=>by kernel_rfl⟩
def Zz:Fn Fh:=⟨f182,[],⟨[(16,6)],[],au,ar⟩,λ_=>[xA,nH,pA],[true],none,1,0,λ_ _=>true,none,[],[],[]⟩
theorem MB:Zz.Ok prog:=⟨Is.of (by kernel_rfl) (by kernel_rfl),by kernel_rfl,ay ax aw,trivial,trivial,λ_=>by kernel_rfl⟩
def Zx:Fn xA:=⟨f186,[],⟨[(18,6),(49,6)],[],au,ar⟩,λ_=>[E8,nH,xA,pA,xP,py,Fj,nD,Gr,xB],[true],none,1,0,λ_ _=>true,none,[],[],[]⟩
theorem ML:Zx.Ok prog:=⟨Is.of (by kernel_rfl) (by kernel_rfl),by kernel_rfl,ay ax aw,trivial,trivial,λ_=>by kernel_rfl⟩
theorem Mw:∀N,xP.Ok prog N/\Fh.Ok prog N/\xA.Ok prog N
 | 0=>⟨⟨MS.is.enters,λa r h=>by(have h:none=some r:=h;cases h)⟩,⟨MB.is.enters,λa r h=>by(have h:none=some r:=h;cases h)⟩,⟨ML.is.enters,λa r h=>by(have h:none=some r:=h;cases h)⟩⟩
 | N+1=>by
   obtain⟨Un,Um,JH⟩:=Mw N;refine⟨?_,?_,?_⟩
   ·exact MS.give aq hm N (N+1) (λ_=>⟨Um,so N,ym N,trivial⟩) λa r s h=>by
     have l0:=s.loop 0 xF (MI N) N λac h0=>by
      exact λc v=>s.seg 0 xF [(0,.of xF ac)] ⟨h0,trivial⟩ (by kernel_rfl) (by kernel_rfl)
     exact s.main [(0,.of xF (ZS N))] ⟨l0,trivial⟩ (.trans (by kernel_rfl) h)
   ·exact MB.give aq hm N (N+1) (λ_=>⟨JH,so N,ym N,trivial⟩) λa r s h=>by
     have l0:=s.loop 0 xy (Mo N) N λac h0=>by
      exact λc v=>s.seg 0 xy [(0,.of xy ac)] ⟨h0,trivial⟩ (by kernel_rfl) (by kernel_rfl)
     exact s.main [(0,.of xy (Zo N))] ⟨l0,trivial⟩ (.trans (by kernel_rfl) h)
   ·exact ML.give aq hm N (N+1) (λ_=>⟨Zr N,so N,JH,ym N,Un,xD N,ZE N,sa N,adE N,Mv N,trivial⟩) λa r s h=>by
     exact s.main [] trivial (.trans (by kernel_rfl) h)
theorem Z1 (N:Nat):xP.Ok prog N:=(Mw N).1
def aaO:Fn Ft:=⟨f171,[],⟨[],[],au,ar⟩,λ_=>[],[true],none,0,0,λ_ _=>true,none,[],[],[]⟩
theorem abd:aaO.Ok prog:=⟨Is.of (by kernel_rfl) (by kernel_rfl),by kernel_rfl,ay ax aw,trivial,trivial,λ_=>by kernel_rfl⟩
theorem aaR (N:Nat):Ft.Ok prog N:=abd.give aq hm N N (λ_=>trivial) λa r s h=>by
 exact s.main [] trivial (.trans (by kernel_rfl) h)
def abo:Fn xY:=⟨f128,[],⟨[],[],au,ar⟩,λ_=>[],[true],none,0,0,λ_ _=>true,none,[],[],[]⟩
theorem aby:abo.Ok prog:=⟨Is.of (by kernel_rfl) (by kernel_rfl),by kernel_rfl,ay ax aw,trivial,trivial,λ_=>by kernel_rfl⟩
theorem Nm (N:Nat):xY.Ok prog N:=aby.give aq hm N N (λ_=>trivial) λa r s h=>by
 exact s.main [] trivial (.trans (by kernel_rfl) h)
def aaX:Fn FB:=⟨f129,[],⟨[],[],au,ar⟩,λ_=>[],[true],none,0,0,λ_ _=>true,none,[],[],[]⟩
theorem aa6:aaX.Ok prog:=⟨Is.of (by kernel_rfl) (by kernel_rfl),by kernel_rfl,ay ax aw,trivial,trivial,λ_=>by kernel_rfl⟩
theorem aa1 (N:Nat):FB.Ok prog N:=aa6.give aq hm N N (λ_=>trivial) λa r s h=>by
 exact s.main [] trivial (.trans (by kernel_rfl) h)
def acg:Fn F8:=⟨f130,[],⟨[],[],au,ar⟩,λ_=>[xY],[true],none,0,0,λ_ _=>true,none,[],[],[]⟩
theorem adu:acg.Ok prog:=⟨Is.of (by kernel_rfl) (by kernel_rfl),by kernel_rfl,ay ax aw,trivial,trivial,λ_=>by kernel_rfl⟩
theorem acw (N:Nat):F8.Ok prog N:=adu.give aq hm N N (λ_=>⟨Nm N,trivial⟩) λa r s h=>by
 exact s.main [] trivial (.trans (by kernel_rfl) h)
def acf:Fn F7:=⟨f84,[],⟨[],[],au,ar⟩,λ_=>[xY,FB,F8],[true],none,0,0,λ_ _=>true,none,[],[],[]⟩
theorem adt:acf.Ok prog:=⟨Is.of (by kernel_rfl) (by kernel_rfl),by kernel_rfl,ay ax aw,trivial,trivial,λ_=>by kernel_rfl⟩
theorem acv (N:Nat):F7.Ok prog N:=adt.give aq hm N N (λ_=>⟨Nm N,aa1 N,acw N,trivial⟩) λa r s h=>by
 have l0:=s.loop 0 yh (Nw N) N λac h0=>by
  exact λc v=>s.seg 0 yh [(0,.of yh ac)] ⟨h0,trivial⟩ (by kernel_rfl) (by kernel_rfl)
 exact s.main [(0,.of yh (abI N))] ⟨l0,trivial⟩ (.trans (by kernel_rfl) h)
def ado:Fn GA:=⟨f185,[],⟨[],[],au,ar⟩,λ_=>[],[false],none,0,0,λ_ _=>true,none,[],[],[]⟩
theorem adR:ado.Ok prog:=⟨Is.of (by kernel_rfl) (by kernel_rfl),by kernel_rfl,ay ax aw,trivial,trivial,λ_=>by kernel_rfl⟩
theorem ad2 (N:Nat):GA.Ok prog N:=adR.give aq hm N N (λ_=>trivial) λa r s h=>by
 exact s.main [] trivial (.trans (by kernel_rfl) h)
def aaB:Fn Fr:=⟨f213,[],⟨[],[],au,ar⟩,λ_=>[],[true],none,0,0,λ_ _=>true,none,[],[],[]⟩
theorem aaI:aaB.Ok prog:=⟨Is.of (by kernel_rfl) (by kernel_rfl),by kernel_rfl,ay ax aw,trivial,trivial,λ_=>by kernel_rfl⟩
theorem aaF (N:Nat):Fr.Ok prog N:=aaI.give aq hm N N (λ_=>trivial) λa r s h=>by
 exact s.main [] trivial (.trans (by kernel_rfl) h)
def aaP:Fn Fu:=⟨f214,[],⟨[],[],au,ar⟩,λ_=>[],[true],none,0,0,λ_ _=>true,none,[],[],[]⟩
theorem abe:aaP.Ok prog:=⟨Is.of (by kernel_rfl) (by kernel_rfl),by kernel_rfl,ay ax aw,trivial,trivial,λ_=>by kernel_rfl⟩
theorem aaS (N:Nat):Fu.Ok prog N:=abe.give aq hm N N (λ_=>trivial) λa r s h=>by
 exact s.main [] trivial (.trans (by kernel_rfl) h)
def afo:Fn Hg:=⟨f164,[(168,.fb)],⟨[],[],au,ar⟩,λ_=>[],[true],none,0,0,λ_ _=>true,none,[],[],[]⟩
theorem afu:afo.Ok prog:=⟨Is.of (by kernel_rfl) (by kernel_rfl),by kernel_rfl,ay ax aw,trivial,⟨g8.mk' f168 (by kernel_rfl) (by kernel_rfl) (by kernel_rfl) (by kernel_rfl) (by kernel_rfl),trivial⟩,λ_=>by kernel_rfl⟩
theorem afP (N:Nat):Hg.Ok prog N:=afu.give aq hm N N (λ_=>trivial) λa r s h=>by
 exact s.main [] trivial (.trans (by kernel_rfl) h)
def adb:Fn Gv:=⟨f150,[],⟨[],[],au,ar⟩,λ_=>[Hg],[true],none,0,0,λ_ _=>true,none,[],[],[]⟩
theorem aed:adb.Ok prog:=⟨Is.of (by kernel_rfl) (by kernel_rfl),by kernel_rfl,ay ax aw,trivial,trivial,λ_=>by kernel_rfl⟩
theorem adJ (N:Nat):Gv.Ok prog N:=aed.give aq hm N N (λ_=>⟨afP N,trivial⟩) λa r s h=>by
 exact s.main [] trivial (.trans (by kernel_rfl) h)
def aaA:Fn Fq:=⟨f215,[],⟨[],[],au,ar⟩,λ_=>[],[true],none,0,0,λ_ _=>true,none,[],[],[]⟩
theorem aaH:aaA.Ok prog:=⟨Is.of (by kernel_rfl) (by kernel_rfl),by kernel_rfl,ay ax aw,trivial,trivial,λ_=>by kernel_rfl⟩
theorem aaD (N:Nat):Fq.Ok prog N:=aaH.give aq hm N N (λ_=>trivial) λa r s h=>by
 exact s.main [] trivial (.trans (by kernel_rfl) h)
def aaK:Fn Fx:=⟨f216,[],⟨[],[],au,ar⟩,λ_=>[],[true],none,0,0,λ_ _=>true,none,[],[],[]⟩
theorem aaJ:aaK.Ok prog:=⟨Is.of (by kernel_rfl) (by kernel_rfl),by kernel_rfl,ay ax aw,trivial,trivial,λ_=>by kernel_rfl⟩
theorem aaL (N:Nat):Fx.Ok prog N:=aaJ.give aq hm N N (λ_=>trivial) λa r s h=>by
 exact s.main [] trivial (.trans (by kernel_rfl) h)
def ach:Fn F9:=⟨f181,[],⟨[],[],au,ar⟩,λ_=>[GA,Fr,Fu,Gv,Fq,Fx],[true],none,0,0,λ_ _=>true,none,[],[],[]⟩
theorem adv:ach.Ok prog:=⟨Is.of (by kernel_rfl) (by kernel_rfl),by kernel_rfl,ay ax aw,trivial,trivial,λ_=>by kernel_rfl⟩
theorem acy (N:Nat):F9.Ok prog N:=adv.give aq hm N N (λ_=>⟨ad2 N,aaF N,aaS N,adJ N,aaD N,aaL N,trivial⟩) λa r s h=>by
 exact s.main [] trivial (.trans (by kernel_rfl) h)
end
end
section
open Go.Proofs.Tryz
set_option maxRecDepth 1000000
noncomputable section
def aaW:Fn FA:=⟨f173,[],⟨[],[],au,ar⟩,λ_=>[yD,F7,F9],[true],none,0,0,λ_ _=>true,none,[],[],[]⟩
theorem aa5:aaW.Ok prog:=⟨Is.of (by kernel_rfl) (by kernel_rfl),by kernel_rfl,ay ax aw,trivial,trivial,λ_=>by kernel_rfl⟩
theorem aa0 (N:Nat):FA.Ok prog N:=aa5.give aq hm N N (λ_=>⟨NH N,acv N,acy N,trivial⟩) λa r s h=>by
 exact s.main [] trivial (.trans (by kernel_rfl) h)
def abW:Fn FM:=⟨f172,[],⟨[],[],au,ar⟩,λ_=>[FA],[true],none,0,0,λ_ _=>true,none,[],[],[]⟩
theorem ab1:abW.Ok prog:=⟨Is.of (by kernel_rfl) (by kernel_rfl),by kernel_rfl,ay ax aw,trivial,trivial,λ_=>by kernel_rfl⟩
theorem abN (N:Nat):FM.Ok prog N:=ab1.give aq hm N N (λ_=>⟨aa0 N,trivial⟩) λa r s h=>by
 exact s.main [] trivial (.trans (by kernel_rfl) h)
def abV:Fn FL:=⟨f172,[],⟨[],[],au,ar⟩,λ_=>[FC],[true],none,0,0,λ_ _=>true,none,[],[],[]⟩
theorem abZ:abV.Ok prog:=⟨Is.of (by kernel_rfl) (by kernel_rfl),by kernel_rfl,ay ax aw,trivial,trivial,λ_=>by kernel_rfl⟩
theorem abM (N:Nat):FL.Ok prog N:=abZ.give aq hm N N (λ_=>⟨M8 N,trivial⟩) λa r s h=>by
 exact s.main [] trivial (.trans (by kernel_rfl) h)
def aek:Fn GL:=⟨f175,[],⟨[],[],au,ar⟩,λ_=>[],[true],none,0,0,λ_ _=>true,none,[],[],[]⟩
theorem aeO:aek.Ok prog:=⟨Is.of (by kernel_rfl) (by kernel_rfl),by kernel_rfl,ay ax aw,trivial,trivial,λ_=>by kernel_rfl⟩
theorem aev (N:Nat):GL.Ok prog N:=aeO.give aq hm N N (λ_=>trivial) λa r s h=>by
 exact s.main [] trivial (.trans (by kernel_rfl) h)
def abn:Fn FI:=⟨f176,[],⟨[],[],au,ar⟩,λ_=>[],[true],none,0,0,λ_ _=>true,none,[],[],[]⟩
theorem abw:abn.Ok prog:=⟨Is.of (by kernel_rfl) (by kernel_rfl),by kernel_rfl,ay ax aw,trivial,trivial,λ_=>by kernel_rfl⟩
theorem abq (N:Nat):FI.Ok prog N:=abw.give aq hm N N (λ_=>trivial) λa r s h=>by
 exact s.main [] trivial (.trans (by kernel_rfl) h)
def aai:Fn su:=⟨f167,[],⟨[],[],au,ar⟩,λ_=>[Ft,FM,FL,GL,FI,su],[true],none,1,0,λ_ _=>true,none,[],[],[]⟩
theorem MW:aai.Ok prog:=⟨Is.of (by kernel_rfl) (by kernel_rfl),by kernel_rfl,ay ax aw,trivial,trivial,λ_=>by kernel_rfl⟩
theorem MR:∀N,su.Ok prog N
 | 0=>⟨MW.is.enters,λa r h=>by(have h:none=some r:=h;cases h)⟩
 | N+1=>by
   obtain Ul:=MR N
   ·exact MW.give aq hm N (N+1) (λ_=>⟨aaR N,abN N,abM N,aev N,abq N,Ul,trivial⟩) λa r s h=>by
     have l0:=s.loop 0 xO (Mz N) N λac h0=>by
      exact λc v=>s.seg 0 xO [(0,.of xO ac)] ⟨h0,trivial⟩ (by kernel_rfl) (by kernel_rfl)
     exact s.main [(0,.of xO (Z9 N))] ⟨l0,trivial⟩ (.trans (by kernel_rfl) h)
theorem aal (N:Nat):su.Ok prog N:=(MR N)
def ada:Fn Ob:=⟨f158,[],⟨[],[],au,ar⟩,λ_=>[su],[true],none,0,0,λ_ _=>true,none,[],[],[]⟩
theorem aec:ada.Ok prog:=⟨Is.of (by kernel_rfl) (by kernel_rfl),by kernel_rfl,ay ax aw,trivial,trivial,λ_=>by kernel_rfl⟩
theorem adI (N:Nat):Ob.Ok prog N:=aec.give aq hm N N (λ_=>⟨aal N,trivial⟩) λa r s h=>by
 exact s.main [] trivial (.trans (by kernel_rfl) h)
end
end
end
end Go.Proofs.YtmfkphajohcklaaGreat.U
