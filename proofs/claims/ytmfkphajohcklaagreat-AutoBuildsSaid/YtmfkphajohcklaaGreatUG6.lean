/- The code, and what each function of it is walked to. No premise beyond what each theorem says. -/
import Derived.Test.YtmfkphajohcklaaGreatUG5
set_option linter.all false
set_option linter.unusedSimpArgs false
set_option linter.unusedVariables false
namespace Go.Proofs.YtmfkphajohcklaaGreat.U
noncomputable section
open Go
section
open Go.Proofs.Tryz
set_option maxRecDepth 1000000
noncomputable section
def X9:Fn EJ:=⟨f109,[],⟨[],[],au,ar⟩,λ_=>[ky],[true],none,0,1,λ_ _=>true,none,[],[],[]⟩
theorem Yt:X9.Ok prog:=⟨Is.of (by kernel_rfl) (by kernel_rfl),by kernel_rfl,ay ax aw,trivial,trivial,λ_=>by kernel_rfl⟩
theorem Yq (N:Nat):EJ.Ok prog N:=Yt.give aq hm N N (λ_=>⟨nM N,trivial⟩) λa r s h=>by
 have l0:=s.loop 0 qk (LG N) N λac h0=>by
  have l4:=s.loop 4 wV (Ln N ac) N λaX h4=>by
   exact λc v=>s.seg 4 wV [(0,.of qk ac),(4,.of wV aX)] ⟨h0,h4,trivial⟩ (by kernel_rfl) (by kernel_rfl)
  have l2:=s.loop 2 wU (LH N ac) N λaH h2=>by
   exact λc v=>s.seg 2 wU [(0,.of qk ac),(2,.of wU aH),(4,.of wV (XN N ac))] ⟨h0,h2,l4,trivial⟩ (by kernel_rfl) (by kernel_rfl)
  exact λc v=>s.seg 0 qk [(0,.of qk ac),(2,.of wU (XM N ac))] ⟨h0,l2,trivial⟩ (by kernel_rfl) (by kernel_rfl)
 exact s.main [(0,.of qk (XL N))] ⟨l0,trivial⟩ (.trans (by kernel_rfl) h)
def Y3:Fn E0:=⟨f110,[],⟨[],[],au,ar⟩,λ_=>[ky],[true,true],none,0,1,λ_ _=>true,none,[],[],[]⟩
theorem YS:Y3.Ok prog:=⟨Is.of (by kernel_rfl) (by kernel_rfl),by kernel_rfl,ay ax aw,trivial,trivial,λ_=>by kernel_rfl⟩
theorem Y5 (N:Nat):E0.Ok prog N:=YS.give aq hm N N (λ_=>⟨nM N,trivial⟩) λa r s h=>by
 have l4:=s.loop 4 pL (Mc N) N λaX h4=>by
  have l8:=s.loop 8 wQ (Me N aX) N λnh h8=>by
   exact λc v=>s.seg 8 wQ [(4,.of pL aX),(8,.of wQ nh)] ⟨h4,h8,trivial⟩ (by kernel_rfl) (by kernel_rfl)
  have l6:=s.loop 6 wP (Md N aX) N λeQ h6=>by
   exact λc v=>s.seg 6 wP [(4,.of pL aX),(6,.of wP eQ),(8,.of wQ (YP N aX))] ⟨h4,h6,l8,trivial⟩ (by kernel_rfl) (by kernel_rfl)
  exact λc v=>s.seg 4 pL [(4,.of pL aX),(6,.of wP (YO N aX))] ⟨h4,l6,trivial⟩ (by kernel_rfl) (by kernel_rfl)
 have l2:=s.loop 2 wO (Mb N) N λaH h2=>by
  exact λc v=>s.seg 2 wO [(2,.of wO aH),(4,.of pL (YN N))] ⟨h2,l4,trivial⟩ (by kernel_rfl) (by kernel_rfl)
 have l0:=s.loop 0 wN (Ma N) N λac h0=>by
  exact λc v=>s.seg 0 wN [(0,.of wN ac),(2,.of wO (YM N))] ⟨h0,l2,trivial⟩ (by kernel_rfl) (by kernel_rfl)
 exact s.main [(0,.of wN (YL N))] ⟨l0,trivial⟩ (.trans (by kernel_rfl) h)
def Ze:Fn r8:=⟨f67,[],⟨[],[],au,ar⟩,λ_=>[EP,E3,EO,Et,Er,Eh,ky,EJ,E0,r8],[],none,0,1,λ_ _=>true,none,[],[86,122,137,175],[]⟩
theorem L4:Ze.Ok prog:=⟨Is.of (by kernel_rfl) (by kernel_rfl),by kernel_rfl,ay ax aw,trivial,trivial,λ_=>by kernel_rfl⟩
theorem LZ:∀N,r8.Ok prog N
 | 0=>⟨L4.is.enters,λa r h=>by(have h:none=some r:=h;cases h)⟩
 | N+1=>by
   obtain Ut:=LZ N
   ·exact L4.give aq hm N (N+1) (λ_=>⟨YD N,Y6 N,YC N,Yk N,Yd N,XV N,nM N,Yq N,Y5 N,Ut,trivial⟩) λa r s h=>by
     have l0:=s.loop 0 mA (LY N) N λac h0=>by
      have Cj:=s.jn 1000175 LR (LV N ac) [(0,.of mA ac)] ⟨h0,trivial⟩ (by kernel_rfl) (λx=>by kernel_rfl);have lj2:=s.jn 1000137 Ml (LU N ac) [(0,.of mA ac),(1000175,.of LR (LV N ac))] ⟨h0,Cj,trivial⟩ (by kernel_rfl) (λx=>by kernel_rfl);have rm:=s.jn 1000122 Mk (LT N ac) [(0,.of mA ac),(1000137,.of Ml (LU N ac))] ⟨h0,lj2,trivial⟩ (by kernel_rfl) (λx=>by kernel_rfl);have rk:=s.jn 1000086 Mj (LS N ac) [(0,.of mA ac),(1000122,.of Mk (LT N ac))] ⟨h0,rm,trivial⟩ (by kernel_rfl) (λx=>by kernel_rfl);exact λc v=>s.seg 0 mA [(0,.of mA ac),(1000086,.of Mj (LS N ac))] ⟨h0,rk,trivial⟩ (by kernel_rfl) (by kernel_rfl)
     exact s.main [(0,.of mA (YT N))] ⟨l0,trivial⟩ (.trans (by kernel_rfl) h)
theorem Zg (N:Nat):r8.Ok prog N:=(LZ N)
def aai:Fn Fo:=⟨f45,[],⟨[],[],au,ar⟩,λ_=>[sC,r8],[],none,0,1,λ_ _=>true,none,[],[],[]⟩
theorem Z8:aai.Ok prog:=⟨Is.of (by kernel_rfl) (by kernel_rfl),by kernel_rfl,ay ax aw,trivial,trivial,λ_=>by kernel_rfl⟩
theorem Z5 (N:Nat):Fo.Ok prog N:=Z8.give aq hm N N (λ_=>⟨FJ N,Zg N,trivial⟩) λa r s h=>by
 exact s.main [] trivial (.trans (by kernel_rfl) h)
def aaj:Fn Fi:=⟨f24,[],⟨[(17,14),(53,11),(89,14),(110,14),(3000125,15),(4000041,14)],[],au,ar⟩,λ_=>[pF,E1,Fo,L3,Mn],[true,true,true],none,1,0,λ_ _=>true,some bw.cls,[],[],[]⟩
theorem aaA:aaj.Ok prog:=⟨Is.of (by kernel_rfl) (by kernel_rfl),by kernel_rfl,ay ax aw,trivial,trivial,λ_=>by kernel_rfl⟩
theorem aam (N:Nat):Fi.Ok prog N:=aaA.give aq hm N N (λ_=>⟨zF N,Zc N,Z5 N,Zf N,Zb N,trivial⟩) λa r s h=>by
 have l0:=s.loop 0 sp (My N) N λac h0=>by
  have l2:=s.loop 2 xN (Mz N ac) N λaH h2=>by
   exact λc v=>s.seg 2 xN [(0,.of sp ac),(2,.of xN aH)] ⟨h0,h2,trivial⟩ (by kernel_rfl) (by kernel_rfl)
  exact λc v=>s.seg 0 sp [(0,.of sp ac),(2,.of xN (aac N ac))] ⟨h0,l2,trivial⟩ (by kernel_rfl) (by kernel_rfl)
 exact s.main [(0,.of sp (Z9 N))] ⟨l0,trivial⟩ (.trans (by kernel_rfl) h)
end
end
section
open Go.Proofs.Tryz
set_option maxRecDepth 1000000
noncomputable section
def ac4:Fn zB:=⟨f8,[],⟨[(80,14),(99,16),(104,17)],[],au,ar⟩,λ_=>[FK,Fc,pF,Fi],[true,true],none,0,0,λ_ _=>true,some bw.cls,[],[],[]⟩
theorem ad6:ac4.Ok prog:=⟨Is.of (by kernel_rfl) (by kernel_rfl),by kernel_rfl,ay ax aw,trivial,trivial,λ_=>by kernel_rfl⟩
theorem GB (N:Nat):zB.Ok prog N:=ad6.give aq hm N N (λ_=>⟨abN N,ZL N,zF N,aam N,trivial⟩) λa r s h=>by
 have l2:=s.loop 2 yJ (NN N) N λaH h2=>by
  exact λc v=>s.seg 2 yJ [(2,.of yJ aH)] ⟨h2,trivial⟩ (by kernel_rfl) (by kernel_rfl)
 have l0:=s.loop 0 yI (NM N) N λac h0=>by
  exact λc v=>s.seg 0 yI [(0,.of yI ac),(2,.of yJ (acC N))] ⟨h0,l2,trivial⟩ (by kernel_rfl) (by kernel_rfl)
 exact s.main [(0,.of yI (acB N))] ⟨l0,trivial⟩ (.trans (by kernel_rfl) h)
theorem aao (N:Nat):MX.Ok prog N:=agq (te:=51) (tb:=4) (e:=135) (kS.of (fn:=f132) (by kernel_rfl) (by kernel_rfl) (by kernel_rfl) (by kernel_rfl) (by kernel_rfl) (by kernel_rfl) (by decide)) hm N
theorem ZY (N:Nat):MR.Ok prog N:=afT (te:=51) (tb:=4) (e:=135) (kS.of (fn:=f132) (by kernel_rfl) (by kernel_rfl) (by kernel_rfl) (by kernel_rfl) (by kernel_rfl) (by kernel_rfl) (by decide)) hm N
def Zy:Fn nD:=⟨f187,[],⟨[],[],au,ar⟩,λ_=>[],[true],none,1,0,λ_ _=>true,none,[],[],[]⟩
theorem ZP:Zy.Ok prog:=⟨Is.of (by kernel_rfl) (by kernel_rfl),by kernel_rfl,ay ax aw,trivial,trivial,λ_=>by kernel_rfl⟩
theorem sa (N:Nat):nD.Ok prog N:=ZP.give aq hm N N (λ_=>trivial) λa r s h=>by
 exact s.main [] trivial (.trans (by kernel_rfl) h)
def Zo:Fn Fb:=⟨f177,[],⟨[],[],au,ar⟩,λ_=>[],[true],none,1,0,λ_ _=>true,none,[],[],[]⟩
theorem Zp:Zo.Ok prog:=⟨Is.of (by kernel_rfl) (by kernel_rfl),by kernel_rfl,ay ax aw,trivial,trivial,λ_=>by kernel_rfl⟩
theorem Mo (N:Nat):Fb.Ok prog N:=Zp.give aq hm N N (λ_=>trivial) λa r s h=>by
 exact s.main [] trivial (.trans (by kernel_rfl) h)
def Zx:Fn py:=⟨f190,[],⟨[],[],au,ar⟩,λ_=>[Fb],[],none,1,0,λ_ _=>true,none,[],[],[]⟩
theorem ZO:Zx.Ok prog:=⟨Is.of (by kernel_rfl) (by kernel_rfl),by kernel_rfl,ay ax aw,trivial,trivial,λ_=>by kernel_rfl⟩
theorem xD (N:Nat):py.Ok prog N:=ZO.give aq hm N N (λ_=>⟨Mo N,trivial⟩) λa r s h=>by
 exact s.main [] trivial (.trans (by kernel_rfl) h)
def Zs:Fn E8:=⟨f189,[],⟨[],[],au,ar⟩,λ_=>[nD,py],[],none,1,0,λ_ _=>true,none,[],[],[]⟩
theorem Zu:Zs.Ok prog:=⟨Is.of (by kernel_rfl) (by kernel_rfl),by kernel_rfl,ay ax aw,trivial,trivial,λ_=>by kernel_rfl⟩
theorem Zt (N:Nat):E8.Ok prog N:=Zu.give aq hm N N (λ_=>⟨sa N,xD N,trivial⟩) λa r s h=>by
 exact s.main [] trivial (.trans (by kernel_rfl) h)
def ZC:Fn nH:=⟨f183,[],⟨[],[],au,ar⟩,λ_=>[nD],[true],none,1,0,λ_ _=>true,none,[],[],[]⟩
theorem ZZ:ZC.Ok prog:=⟨Is.of (by kernel_rfl) (by kernel_rfl),by kernel_rfl,ay ax aw,trivial,trivial,λ_=>by kernel_rfl⟩
theorem so (N:Nat):nH.Ok prog N:=ZZ.give aq hm N N (λ_=>⟨sa N,trivial⟩) λa r s h=>by
 exact s.main [] trivial (.trans (by kernel_rfl) h)
def aah:Fn Fm:=⟨f188,[],⟨[],[],au,ar⟩,λ_=>[Fe],[true],none,0,0,λ_ _=>true,none,[],[],[]⟩
theorem Z7:aah.Ok prog:=⟨Is.of (by kernel_rfl) (by kernel_rfl),by kernel_rfl,ay ax aw,trivial,trivial,λ_=>by kernel_rfl⟩
theorem Z4 (N:Nat):Fm.Ok prog N:=Z7.give aq hm N N (λ_=>⟨MF N,trivial⟩) λa r s h=>by
 have l2:=s.loop 2 xH (MM N) N λaH h2=>by
  exact λc v=>s.seg 2 xH [(2,.of xH aH)] ⟨h2,trivial⟩ (by kernel_rfl) (by kernel_rfl)
 have l0:=s.loop 0 xG (MK N) N λac h0=>by
  exact λc v=>s.seg 0 xG [(0,.of xG ac),(2,.of xH (ZW N))] ⟨h0,l2,trivial⟩ (by kernel_rfl) (by kernel_rfl)
 exact s.main [(0,.of xG (ZV N))] ⟨l0,trivial⟩ (.trans (by kernel_rfl) h)
def abj:Fn pA:=⟨f184,[],⟨[(6,1)],[],au,ar⟩,λ_=>[Fm],[true],none,0,0,λ_ _=>true,none,[],[],[]⟩
theorem abk:abj.Ok prog:=⟨Is.of (by kernel_rfl) (by kernel_rfl),by kernel_rfl,ay ax aw,trivial,trivial,λ_=>by kernel_rfl⟩
theorem ym (N:Nat):pA.Ok prog N:=abk.give aq hm N N (λ_=>⟨Z4 N,trivial⟩) λa r s h=>by
 exact s.main [] trivial (.trans (by kernel_rfl) h)
def ZH:Fn xB:=⟨f193,[],⟨[],[],au,ar⟩,λ_=>[nD,py],[true],none,1,0,λ_ _=>true,none,[],[],[]⟩
theorem ZQ:ZH.Ok prog:=⟨Is.of (by kernel_rfl) (by kernel_rfl),by kernel_rfl,ay ax aw,trivial,trivial,λ_=>by kernel_rfl⟩
theorem Mw (N:Nat):xB.Ok prog N:=ZQ.give aq hm N N (λ_=>⟨sa N,xD N,trivial⟩) λa r s h=>by
 exact s.main [] trivial (.trans (by kernel_rfl) h)
def ZI:Fn Fd:=⟨f195,[],⟨[(24,1),(40,1),(51,1),(54,1)],[],au,ar⟩,λ_=>[nH,nD,py,xB],[true],none,1,0,λ_ _=>true,none,[],[],[]⟩
theorem ZR:ZI.Ok prog:=⟨Is.of (by kernel_rfl) (by kernel_rfl),by kernel_rfl,ay ax aw,trivial,trivial,λ_=>by kernel_rfl⟩
theorem ZM (N:Nat):Fd.Ok prog N:=ZR.give aq hm N N (λ_=>⟨so N,sa N,xD N,Mw N,trivial⟩) λa r s h=>by
 exact s.main [] trivial (.trans (by kernel_rfl) h)
def ZD:Fn Fj:=⟨f191,[],⟨[(14,6),(23,6)],[],au,ar⟩,λ_=>[Fd,nH,pA],[true],none,1,0,λ_ _=>true,none,[],[],[]⟩
theorem Z0:ZD.Ok prog:=⟨Is.of (by kernel_rfl) (by kernel_rfl),by kernel_rfl,ay ax aw,trivial,trivial,λ_=>by kernel_rfl⟩
theorem ZG (N:Nat):Fj.Ok prog N:=Z0.give aq hm N N (λ_=>⟨ZM N,so N,ym N,trivial⟩) λa r s h=>by
 have l0:=s.loop 0 xz (Mq N) N λac h0=>by
  exact λc v=>s.seg 0 xz [(0,.of xz ac)] ⟨h0,trivial⟩ (by kernel_rfl) (by kernel_rfl)
 exact s.main [(0,.of xz (Zr N))] ⟨l0,trivial⟩ (.trans (by kernel_rfl) h)
def abV:Fn yD:=⟨f180,[],⟨[],[],au,ar⟩,λ_=>[],[true],none,0,0,λ_ _=>true,none,[],[],[]⟩
theorem abZ:abV.Ok prog:=⟨Is.of (by kernel_rfl) (by kernel_rfl),by kernel_rfl,ay ax aw,trivial,trivial,λ_=>by kernel_rfl⟩
theorem NJ (N:Nat):yD.Ok prog N:=abZ.give aq hm N N (λ_=>trivial) λa r s h=>by
 exact s.main [] trivial (.trans (by kernel_rfl) h)
def ac7:Fn Gr:=⟨f192,[],⟨[],[],au,ar⟩,λ_=>[yD],[true],none,0,0,λ_ _=>true,none,[],[],[]⟩
theorem ad9:ac7.Ok prog:=⟨Is.of (by kernel_rfl) (by kernel_rfl),by kernel_rfl,ay ax aw,trivial,trivial,λ_=>by kernel_rfl⟩
theorem adG (N:Nat):Gr.Ok prog N:=ad9.give aq hm N N (λ_=>⟨NJ N,trivial⟩) λa r s h=>by
 have l0:=s.loop 0 yL (NP N) N λac h0=>by
  exact λc v=>s.seg 0 yL [(0,.of yL ac)] ⟨h0,trivial⟩ (by kernel_rfl) (by kernel_rfl)
 exact s.main [(0,.of yL (acE N))] ⟨l0,trivial⟩ (.trans (by kernel_rfl) h)
end
end
section
open Go.Proofs.Tryz
set_option maxRecDepth 1000000
noncomputable section
def aag:Fn xP:=⟨f179,[],⟨[(16,6)],[],au,ar⟩,λ_=>[Fh,nH,pA],[true],none,1,0,λ_ _=>true,none,[],[],[]⟩
theorem MU:aag.Ok prog:=⟨Is.of (by kernel_rfl) (by kernel_rfl),by kernel_rfl,ay ax aw,trivial,trivial,λ_=>by kernel_rfl⟩
def ZB:Fn Fh:=⟨f182,[],⟨[(16,6)],[],au,ar⟩,λ_=>[xA,nH,pA],[true],none,1,0,λ_ _=>true,none,[],[],[]⟩
theorem MC:ZB.Ok prog:=⟨Is.of (by kernel_rfl) (by kernel_rfl),by kernel_rfl,ay ax aw,trivial,trivial,λ_=>by kernel_rfl⟩
def Zz:Fn xA:=⟨f186,[],⟨[(18,6),(49,6)],[],au,ar⟩,λ_=>[E8,nH,xA,pA,xP,py,Fj,nD,Gr,xB],[true],none,1,0,λ_ _=>true,none,[],[],[]⟩
theorem MN:Zz.Ok prog:=⟨Is.of (by kernel_rfl) (by kernel_rfl),by kernel_rfl,ay ax aw,trivial,trivial,λ_=>by kernel_rfl⟩
theorem Mx:∀N,xP.Ok prog N/\Fh.Ok prog N/\xA.Ok prog N
 | 0=>⟨⟨MU.is.enters,λa r h=>by(have h:none=some r:=h;cases h)⟩,⟨MC.is.enters,λa r h=>by(have h:none=some r:=h;cases h)⟩,⟨MN.is.enters,λa r h=>by(have h:none=some r:=h;cases h)⟩⟩
 | N+1=>by
   obtain⟨Up,Uo,JI⟩:=Mx N;refine⟨?_,?_,?_⟩
   ·exact MU.give aq hm N (N+1) (λ_=>⟨Uo,so N,ym N,trivial⟩) λa r s h=>by
     have l0:=s.loop 0 xF (MJ N) N λac h0=>by
      exact λc v=>s.seg 0 xF [(0,.of xF ac)] ⟨h0,trivial⟩ (by kernel_rfl) (by kernel_rfl)
     exact s.main [(0,.of xF (ZU N))] ⟨l0,trivial⟩ (.trans (by kernel_rfl) h)
   ·exact MC.give aq hm N (N+1) (λ_=>⟨JI,so N,ym N,trivial⟩) λa r s h=>by
     have l0:=s.loop 0 xy (Mp N) N λac h0=>by
      exact λc v=>s.seg 0 xy [(0,.of xy ac)] ⟨h0,trivial⟩ (by kernel_rfl) (by kernel_rfl)
     exact s.main [(0,.of xy (Zq N))] ⟨l0,trivial⟩ (.trans (by kernel_rfl) h)
   ·exact MN.give aq hm N (N+1) (λ_=>⟨Zt N,so N,JI,ym N,Up,xD N,ZG N,sa N,adG N,Mw N,trivial⟩) λa r s h=>by
     exact s.main [] trivial (.trans (by kernel_rfl) h)
theorem Z3 (N:Nat):xP.Ok prog N:=(Mx N).1
def aaQ:Fn Ft:=⟨f171,[],⟨[],[],au,ar⟩,λ_=>[],[true],none,0,0,λ_ _=>true,none,[],[],[]⟩
theorem abf:aaQ.Ok prog:=⟨Is.of (by kernel_rfl) (by kernel_rfl),by kernel_rfl,ay ax aw,trivial,trivial,λ_=>by kernel_rfl⟩
theorem aaT (N:Nat):Ft.Ok prog N:=abf.give aq hm N N (λ_=>trivial) λa r s h=>by
 exact s.main [] trivial (.trans (by kernel_rfl) h)
def abq:Fn xY:=⟨f128,[],⟨[],[],au,ar⟩,λ_=>[],[true],none,0,0,λ_ _=>true,none,[],[],[]⟩
theorem abA:abq.Ok prog:=⟨Is.of (by kernel_rfl) (by kernel_rfl),by kernel_rfl,ay ax aw,trivial,trivial,λ_=>by kernel_rfl⟩
theorem Np (N:Nat):xY.Ok prog N:=abA.give aq hm N N (λ_=>trivial) λa r s h=>by
 exact s.main [] trivial (.trans (by kernel_rfl) h)
def aaZ:Fn FB:=⟨f129,[],⟨[],[],au,ar⟩,λ_=>[],[true],none,0,0,λ_ _=>true,none,[],[],[]⟩
theorem aa8:aaZ.Ok prog:=⟨Is.of (by kernel_rfl) (by kernel_rfl),by kernel_rfl,ay ax aw,trivial,trivial,λ_=>by kernel_rfl⟩
theorem aa3 (N:Nat):FB.Ok prog N:=aa8.give aq hm N N (λ_=>trivial) λa r s h=>by
 exact s.main [] trivial (.trans (by kernel_rfl) h)
def aci:Fn F8:=⟨f130,[],⟨[],[],au,ar⟩,λ_=>[xY],[true],none,0,0,λ_ _=>true,none,[],[],[]⟩
theorem adw:aci.Ok prog:=⟨Is.of (by kernel_rfl) (by kernel_rfl),by kernel_rfl,ay ax aw,trivial,trivial,λ_=>by kernel_rfl⟩
theorem acz (N:Nat):F8.Ok prog N:=adw.give aq hm N N (λ_=>⟨Np N,trivial⟩) λa r s h=>by
 exact s.main [] trivial (.trans (by kernel_rfl) h)
def ach:Fn F7:=⟨f84,[],⟨[],[],au,ar⟩,λ_=>[xY,FB,F8],[true],none,0,0,λ_ _=>true,none,[],[],[]⟩
theorem adv:ach.Ok prog:=⟨Is.of (by kernel_rfl) (by kernel_rfl),by kernel_rfl,ay ax aw,trivial,trivial,λ_=>by kernel_rfl⟩
theorem acy (N:Nat):F7.Ok prog N:=adv.give aq hm N N (λ_=>⟨Np N,aa3 N,acz N,trivial⟩) λa r s h=>by
 have l0:=s.loop 0 yh (Ny N) N λac h0=>by
  exact λc v=>s.seg 0 yh [(0,.of yh ac)] ⟨h0,trivial⟩ (by kernel_rfl) (by kernel_rfl)
 exact s.main [(0,.of yh (abK N))] ⟨l0,trivial⟩ (.trans (by kernel_rfl) h)
def adq:Fn GA:=⟨f185,[],⟨[],[],au,ar⟩,λ_=>[],[false],none,0,0,λ_ _=>true,none,[],[],[]⟩
theorem adT:adq.Ok prog:=⟨Is.of (by kernel_rfl) (by kernel_rfl),by kernel_rfl,ay ax aw,trivial,trivial,λ_=>by kernel_rfl⟩
theorem ad4 (N:Nat):GA.Ok prog N:=adT.give aq hm N N (λ_=>trivial) λa r s h=>by
 exact s.main [] trivial (.trans (by kernel_rfl) h)
def aaD:Fn Fr:=⟨f213,[],⟨[],[],au,ar⟩,λ_=>[],[true],none,0,0,λ_ _=>true,none,[],[],[]⟩
theorem aaK:aaD.Ok prog:=⟨Is.of (by kernel_rfl) (by kernel_rfl),by kernel_rfl,ay ax aw,trivial,trivial,λ_=>by kernel_rfl⟩
theorem aaH (N:Nat):Fr.Ok prog N:=aaK.give aq hm N N (λ_=>trivial) λa r s h=>by
 exact s.main [] trivial (.trans (by kernel_rfl) h)
def aaR:Fn Fu:=⟨f214,[],⟨[],[],au,ar⟩,λ_=>[],[true],none,0,0,λ_ _=>true,none,[],[],[]⟩
theorem abg:aaR.Ok prog:=⟨Is.of (by kernel_rfl) (by kernel_rfl),by kernel_rfl,ay ax aw,trivial,trivial,λ_=>by kernel_rfl⟩
theorem aaU (N:Nat):Fu.Ok prog N:=abg.give aq hm N N (λ_=>trivial) λa r s h=>by
 exact s.main [] trivial (.trans (by kernel_rfl) h)
def afq:Fn Hg:=⟨f164,[(168,.fb)],⟨[],[],au,ar⟩,λ_=>[],[true],none,0,0,λ_ _=>true,none,[],[],[]⟩
theorem afw:afq.Ok prog:=⟨Is.of (by kernel_rfl) (by kernel_rfl),by kernel_rfl,ay ax aw,trivial,⟨g8.mk' f168 (by kernel_rfl) (by kernel_rfl) (by kernel_rfl) (by kernel_rfl) (by kernel_rfl),trivial⟩,λ_=>by kernel_rfl⟩
theorem afR (N:Nat):Hg.Ok prog N:=afw.give aq hm N N (λ_=>trivial) λa r s h=>by
 exact s.main [] trivial (.trans (by kernel_rfl) h)
def adf:Fn Gv:=⟨f150,[],⟨[],[],au,ar⟩,λ_=>[Hg],[true],none,0,0,λ_ _=>true,none,[],[],[]⟩
theorem aef:adf.Ok prog:=⟨Is.of (by kernel_rfl) (by kernel_rfl),by kernel_rfl,ay ax aw,trivial,trivial,λ_=>by kernel_rfl⟩
theorem adL (N:Nat):Gv.Ok prog N:=aef.give aq hm N N (λ_=>⟨afR N,trivial⟩) λa r s h=>by
 exact s.main [] trivial (.trans (by kernel_rfl) h)
def aaC:Fn Fq:=⟨f215,[],⟨[],[],au,ar⟩,λ_=>[],[true],none,0,0,λ_ _=>true,none,[],[],[]⟩
theorem aaJ:aaC.Ok prog:=⟨Is.of (by kernel_rfl) (by kernel_rfl),by kernel_rfl,ay ax aw,trivial,trivial,λ_=>by kernel_rfl⟩
theorem aaF (N:Nat):Fq.Ok prog N:=aaJ.give aq hm N N (λ_=>trivial) λa r s h=>by
 exact s.main [] trivial (.trans (by kernel_rfl) h)
def aaM:Fn Fx:=⟨f216,[],⟨[],[],au,ar⟩,λ_=>[],[true],none,0,0,λ_ _=>true,none,[],[],[]⟩
theorem aaL:aaM.Ok prog:=⟨Is.of (by kernel_rfl) (by kernel_rfl),by kernel_rfl,ay ax aw,trivial,trivial,λ_=>by kernel_rfl⟩
theorem aaN (N:Nat):Fx.Ok prog N:=aaL.give aq hm N N (λ_=>trivial) λa r s h=>by
 exact s.main [] trivial (.trans (by kernel_rfl) h)
def acj:Fn F9:=⟨f181,[],⟨[],[],au,ar⟩,λ_=>[GA,Fr,Fu,Gv,Fq,Fx],[true],none,0,0,λ_ _=>true,none,[],[],[]⟩
theorem adx:acj.Ok prog:=⟨Is.of (by kernel_rfl) (by kernel_rfl),by kernel_rfl,ay ax aw,trivial,trivial,λ_=>by kernel_rfl⟩
theorem acA (N:Nat):F9.Ok prog N:=adx.give aq hm N N (λ_=>⟨ad4 N,aaH N,aaU N,adL N,aaF N,aaN N,trivial⟩) λa r s h=>by
 exact s.main [] trivial (.trans (by kernel_rfl) h)
end
end
section
open Go.Proofs.Tryz
set_option maxRecDepth 1000000
noncomputable section
def aaY:Fn FA:=⟨f173,[],⟨[],[],au,ar⟩,λ_=>[yD,F7,F9],[true],none,0,0,λ_ _=>true,none,[],[],[]⟩
theorem aa7:aaY.Ok prog:=⟨Is.of (by kernel_rfl) (by kernel_rfl),by kernel_rfl,ay ax aw,trivial,trivial,λ_=>by kernel_rfl⟩
theorem aa2 (N:Nat):FA.Ok prog N:=aa7.give aq hm N N (λ_=>⟨NJ N,acy N,acA N,trivial⟩) λa r s h=>by
 exact s.main [] trivial (.trans (by kernel_rfl) h)
def abY:Fn FM:=⟨f172,[],⟨[],[],au,ar⟩,λ_=>[FA],[true],none,0,0,λ_ _=>true,none,[],[],[]⟩
theorem ab3:abY.Ok prog:=⟨Is.of (by kernel_rfl) (by kernel_rfl),by kernel_rfl,ay ax aw,trivial,trivial,λ_=>by kernel_rfl⟩
theorem abP (N:Nat):FM.Ok prog N:=ab3.give aq hm N N (λ_=>⟨aa2 N,trivial⟩) λa r s h=>by
 exact s.main [] trivial (.trans (by kernel_rfl) h)
def abX:Fn FL:=⟨f172,[],⟨[],[],au,ar⟩,λ_=>[FC],[true],none,0,0,λ_ _=>true,none,[],[],[]⟩
theorem ab2:abX.Ok prog:=⟨Is.of (by kernel_rfl) (by kernel_rfl),by kernel_rfl,ay ax aw,trivial,trivial,λ_=>by kernel_rfl⟩
theorem abO (N:Nat):FL.Ok prog N:=ab2.give aq hm N N (λ_=>⟨Na N,trivial⟩) λa r s h=>by
 exact s.main [] trivial (.trans (by kernel_rfl) h)
def aem:Fn GL:=⟨f175,[],⟨[],[],au,ar⟩,λ_=>[],[true],none,0,0,λ_ _=>true,none,[],[],[]⟩
theorem aeQ:aem.Ok prog:=⟨Is.of (by kernel_rfl) (by kernel_rfl),by kernel_rfl,ay ax aw,trivial,trivial,λ_=>by kernel_rfl⟩
theorem aex (N:Nat):GL.Ok prog N:=aeQ.give aq hm N N (λ_=>trivial) λa r s h=>by
 exact s.main [] trivial (.trans (by kernel_rfl) h)
def abp:Fn FI:=⟨f176,[],⟨[],[],au,ar⟩,λ_=>[],[true],none,0,0,λ_ _=>true,none,[],[],[]⟩
theorem aby:abp.Ok prog:=⟨Is.of (by kernel_rfl) (by kernel_rfl),by kernel_rfl,ay ax aw,trivial,trivial,λ_=>by kernel_rfl⟩
theorem abt (N:Nat):FI.Ok prog N:=aby.give aq hm N N (λ_=>trivial) λa r s h=>by
 exact s.main [] trivial (.trans (by kernel_rfl) h)
def aak:Fn su:=⟨f167,[],⟨[],[],au,ar⟩,λ_=>[Ft,FM,FL,GL,FI,su],[true],none,1,0,λ_ _=>true,none,[],[],[]⟩
theorem MY:aak.Ok prog:=⟨Is.of (by kernel_rfl) (by kernel_rfl),by kernel_rfl,ay ax aw,trivial,trivial,λ_=>by kernel_rfl⟩
theorem MT:∀N,su.Ok prog N
 | 0=>⟨MY.is.enters,λa r h=>by(have h:none=some r:=h;cases h)⟩
 | N+1=>by
   obtain Un:=MT N
   ·exact MY.give aq hm N (N+1) (λ_=>⟨aaT N,abP N,abO N,aex N,abt N,Un,trivial⟩) λa r s h=>by
     have l0:=s.loop 0 xO (MA N) N λac h0=>by
      exact λc v=>s.seg 0 xO [(0,.of xO ac)] ⟨h0,trivial⟩ (by kernel_rfl) (by kernel_rfl)
     exact s.main [(0,.of xO (aad N))] ⟨l0,trivial⟩ (.trans (by kernel_rfl) h)
theorem aan (N:Nat):su.Ok prog N:=(MT N)
def ade:Fn Oe:=⟨f158,[],⟨[],[],au,ar⟩,λ_=>[su],[true],none,0,0,λ_ _=>true,none,[],[],[]⟩
theorem aee:ade.Ok prog:=⟨Is.of (by kernel_rfl) (by kernel_rfl),by kernel_rfl,ay ax aw,trivial,trivial,λ_=>by kernel_rfl⟩
theorem adK (N:Nat):Oe.Ok prog N:=aee.give aq hm N N (λ_=>⟨aan N,trivial⟩) λa r s h=>by
 exact s.main [] trivial (.trans (by kernel_rfl) h)
end
end
end
end Go.Proofs.YtmfkphajohcklaaGreat.U
