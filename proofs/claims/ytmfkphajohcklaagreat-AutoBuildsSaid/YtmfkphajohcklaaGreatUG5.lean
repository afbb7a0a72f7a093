/- The code, and what each function of it is walked to. No premise beyond what each theorem says. -/
import Derived.Test.YtmfkphajohcklaaGreatUG4
set_option linter.all false
set_option linter.unusedSimpArgs false
set_option linter.unusedVariables false
namespace Go.Proofs.YtmfkphajohcklaaGreat.U
noncomputable section
open Go
section
open Go.Proofs.Tryz
set_option maxRecDepth 1000000
noncomputable section
def Y0:Fn EZ:=⟨f161,[],⟨[],[],au,ar⟩,λ_=>[kB],[true,true],none,1,1,λ_ _=>true,none,[],[],[]⟩
theorem YP:Y0.Ok prog:=⟨Is.of (by kernel_rfl) (by kernel_rfl),by kernel_rfl,ay ax aw,trivial,trivial,λ_=>by kernel_rfl⟩
theorem Y2 (N:Nat):EZ.Ok prog N:=YP.give aq hm N N (λ_=>⟨nP N,trivial⟩) λa r s h=>by
 exact s.main [] trivial (.trans (by kernel_rfl) h)
def YZ:Fn xq:=⟨f139,[],⟨[],[],au,ar⟩,λ_=>[EZ],[true],none,1,1,λ_ _=>true,none,[],[],[]⟩
theorem YO:YZ.Ok prog:=⟨Is.of (by kernel_rfl) (by kernel_rfl),by kernel_rfl,ay ax aw,trivial,trivial,λ_=>by kernel_rfl⟩
theorem LV (N:Nat):xq.Ok prog N:=YO.give aq hm N N (λ_=>⟨Y2 N,trivial⟩) λa r s h=>by
 exact s.main [] trivial (.trans (by kernel_rfl) h)
def X1:Fn Ep:=⟨f138,[],⟨[],[],au,ar⟩,λ_=>[xq],[true],none,1,1,λ_ _=>true,none,[],[],[]⟩
theorem XA:X1.Ok prog:=⟨Is.of (by kernel_rfl) (by kernel_rfl),by kernel_rfl,ay ax aw,trivial,trivial,λ_=>by kernel_rfl⟩
theorem X3 (N:Nat):Ep.Ok prog N:=XA.give aq hm N N (λ_=>⟨LV N,trivial⟩) λa r s h=>by
 exact s.main [] trivial (.trans (by kernel_rfl) h)
def X5:Fn EH:=⟨f93,[],⟨[],[],au,ar⟩,λ_=>[Ep,xq],[true,true],none,0,1,λ_ _=>true,none,[],[],[]⟩
theorem Yp:X5.Ok prog:=⟨Is.of (by kernel_rfl) (by kernel_rfl),by kernel_rfl,ay ax aw,trivial,trivial,λ_=>by kernel_rfl⟩
theorem X8 (N:Nat):EH.Ok prog N:=Yp.give aq hm N N (λ_=>⟨X3 N,LV N,trivial⟩) λa r s h=>by
 exact s.main [] trivial (.trans (by kernel_rfl) h)
def XM:Fn ED:=⟨f94,[],⟨[],[],au,ar⟩,λ_=>[],[],none,0,1,λ_ _=>true,none,[],[],[]⟩
theorem XO:XM.Ok prog:=⟨Is.of (by kernel_rfl) (by kernel_rfl),by kernel_rfl,ay ax aw,trivial,trivial,λ_=>by kernel_rfl⟩
theorem XN (N:Nat):ED.Ok prog N:=XO.give aq hm N N (λ_=>trivial) λa r s h=>by
 have l0:=s.loop 0 wS (LE N) N λac h0=>by
  exact λc v=>s.seg 0 wS [(0,.of wS ac)] ⟨h0,trivial⟩ (by kernel_rfl) (by kernel_rfl)
 exact s.main [(0,.of wS (XC N))] ⟨l0,trivial⟩ (.trans (by kernel_rfl) h)
def Xu:Fn El:=⟨f95,[],⟨[],[],au,ar⟩,λ_=>[kB],[true],none,0,1,λ_ _=>true,none,[],[],[]⟩
theorem Xw:Xu.Ok prog:=⟨Is.of (by kernel_rfl) (by kernel_rfl),by kernel_rfl,ay ax aw,trivial,trivial,λ_=>by kernel_rfl⟩
theorem Xv (N:Nat):El.Ok prog N:=Xw.give aq hm N N (λ_=>⟨nP N,trivial⟩) λa r s h=>by
 have l0:=s.loop 0 nU (Ll N) N λac h0=>by
  have l6:=s.loop 6 tZ (Le N ac) N λeQ h6=>by
   exact λc v=>s.seg 6 tZ [(0,.of nU ac),(6,.of tZ eQ)] ⟨h0,h6,trivial⟩ (by kernel_rfl) (by kernel_rfl)
  have l4:=s.loop 4 yY (Ld N ac) N λaX h4=>by
   exact λc v=>s.seg 4 yY [(0,.of nU ac),(4,.of yY aX),(6,.of tZ (Lf N ac))] ⟨h0,h4,l6,trivial⟩ (by kernel_rfl) (by kernel_rfl)
  have l2:=s.loop 2 yX (Lc N ac) N λaH h2=>by
   exact λc v=>s.seg 2 yX [(0,.of nU ac),(2,.of yX aH),(4,.of yY (Xt N ac)),(6,.of tZ (Lf N ac))] ⟨h0,h2,l4,l6,trivial⟩ (by kernel_rfl) (by kernel_rfl)
  exact λc v=>s.seg 0 nU [(0,.of nU ac),(2,.of yX (Xs N ac))] ⟨h0,l2,trivial⟩ (by kernel_rfl) (by kernel_rfl)
 exact s.main [(0,.of nU (Xr N))] ⟨l0,trivial⟩ (.trans (by kernel_rfl) h)
def X2:Fn Ey:=⟨f96,[],⟨[],[],au,ar⟩,λ_=>[kB],[true],none,0,1,λ_ _=>true,none,[],[],[]⟩
theorem XB:X2.Ok prog:=⟨Is.of (by kernel_rfl) (by kernel_rfl),by kernel_rfl,ay ax aw,trivial,trivial,λ_=>by kernel_rfl⟩
theorem X4 (N:Nat):Ey.Ok prog N:=XB.give aq hm N N (λ_=>⟨nP N,trivial⟩) λa r s h=>by
 have l0:=s.loop 0 qg (Ly N) N λac h0=>by
  have l4:=s.loop 4 ze (LA N ac) N λaX h4=>by
   exact λc v=>s.seg 4 ze [(0,.of qg ac),(4,.of ze aX)] ⟨h0,h4,trivial⟩ (by kernel_rfl) (by kernel_rfl)
  have l2:=s.loop 2 zd (Lz N ac) N λaH h2=>by
   exact λc v=>s.seg 2 zd [(0,.of qg ac),(2,.of zd aH),(4,.of ze (XX N ac))] ⟨h0,h2,l4,trivial⟩ (by kernel_rfl) (by kernel_rfl)
  exact λc v=>s.seg 0 qg [(0,.of qg ac),(2,.of zd (XW N ac))] ⟨h0,l2,trivial⟩ (by kernel_rfl) (by kernel_rfl)
 exact s.main [(0,.of qg (XV N))] ⟨l0,trivial⟩ (.trans (by kernel_rfl) h)
end
end
section
open Go.Proofs.Tryz
set_option maxRecDepth 1000000
noncomputable section
def YH:Fn Eq:=⟨f97,[],⟨[],[],au,ar⟩,λ_=>[kB],[true,true],none,0,1,λ_ _=>true,none,[],[],[]⟩
theorem Yc:YH.Ok prog:=⟨Is.of (by kernel_rfl) (by kernel_rfl),by kernel_rfl,ay ax aw,trivial,trivial,λ_=>by kernel_rfl⟩
theorem Ya (N:Nat):Eq.Ok prog N:=Yc.give aq hm N N (λ_=>⟨nP N,trivial⟩) λa r s h=>by
 have l4:=s.loop 4 qm (Lu N) N λaX h4=>by
  have l8:=s.loop 8 xi (Lw N aX) N λnh h8=>by
   exact λc v=>s.seg 8 xi [(4,.of qm aX),(8,.of xi nh)] ⟨h4,h8,trivial⟩ (by kernel_rfl) (by kernel_rfl)
  have l6:=s.loop 6 xg (Lv N aX) N λeQ h6=>by
   exact λc v=>s.seg 6 xg [(4,.of qm aX),(6,.of xg eQ),(8,.of xi (Yw N aX))] ⟨h4,h6,l8,trivial⟩ (by kernel_rfl) (by kernel_rfl)
  exact λc v=>s.seg 4 qm [(4,.of qm aX),(6,.of xg (Yv N aX))] ⟨h4,l6,trivial⟩ (by kernel_rfl) (by kernel_rfl)
 have l2:=s.loop 2 xf (Lt N) N λaH h2=>by
  exact λc v=>s.seg 2 xf [(2,.of xf aH),(4,.of qm (Yu N))] ⟨h2,l4,trivial⟩ (by kernel_rfl) (by kernel_rfl)
 have l0:=s.loop 0 xe (Ls N) N λac h0=>by
  exact λc v=>s.seg 0 xe [(0,.of xe ac),(2,.of xf (Yt N))] ⟨h0,l2,trivial⟩ (by kernel_rfl) (by kernel_rfl)
 exact s.main [(0,.of xe (Ys N))] ⟨l0,trivial⟩ (.trans (by kernel_rfl) h)
def YU:Fn rW:=⟨f62,[],⟨[],[],au,ar⟩,λ_=>[EB,Eu,EA,EH,ED,El,kB,Ey,Eq,rW],[],none,0,1,λ_ _=>true,none,[],[96,136,151,195],[]⟩
theorem Mh:YU.Ok prog:=⟨Is.of (by kernel_rfl) (by kernel_rfl),by kernel_rfl,ay ax aw,trivial,trivial,λ_=>by kernel_rfl⟩
theorem L8:∀N,rW.Ok prog N
 | 0=>⟨Mh.is.enters,λa r h=>by(have h:none=some r:=h;cases h)⟩
 | N+1=>by
   obtain Uq:=L8 N
   ·exact Mh.give aq hm N (N+1) (λ_=>⟨XG N,Yj N,XF N,X8 N,XN N,Xv N,nP N,X4 N,Ya N,Uq,trivial⟩) λa r s h=>by
     have l0:=s.loop 0 mw (L7 N) N λac h0=>by
      have Cj:=s.jn 1000195 LN (L6 N ac) [(0,.of mw ac)] ⟨h0,trivial⟩ (by kernel_rfl) (λx=>by kernel_rfl);have lj2:=s.jn 1000151 LM (L5 N ac) [(0,.of mw ac),(1000195,.of LN (L6 N ac))] ⟨h0,Cj,trivial⟩ (by kernel_rfl) (λx=>by kernel_rfl);have rm:=s.jn 1000136 LL (L4 N ac) [(0,.of mw ac),(1000151,.of LM (L5 N ac))] ⟨h0,lj2,trivial⟩ (by kernel_rfl) (λx=>by kernel_rfl);have rk:=s.jn 1000096 LK (LO N ac) [(0,.of mw ac),(1000136,.of LL (L4 N ac))] ⟨h0,rm,trivial⟩ (by kernel_rfl) (λx=>by kernel_rfl);exact λc v=>s.seg 0 mw [(0,.of mw ac),(1000096,.of LK (LO N ac))] ⟨h0,rk,trivial⟩ (by kernel_rfl) (by kernel_rfl)
     exact s.main [(0,.of mw (Ye N))] ⟨l0,trivial⟩ (.trans (by kernel_rfl) h)
theorem YV (N:Nat):rW.Ok prog N:=(L8 N)
def Y8:Fn E1:=⟨f43,[],⟨[],[],au,ar⟩,λ_=>[sC,rW],[],none,0,1,λ_ _=>true,none,[],[],[]⟩
theorem Zb:Y8.Ok prog:=⟨Is.of (by kernel_rfl) (by kernel_rfl),by kernel_rfl,ay ax aw,trivial,trivial,λ_=>by kernel_rfl⟩
theorem Za (N:Nat):E1.Ok prog N:=Zb.give aq hm N N (λ_=>⟨FJ N,YV N,trivial⟩) λa r s h=>by
 exact s.main [] trivial (.trans (by kernel_rfl) h)
def aaU:Fn ky:=⟨f108,[],⟨[],[],au,ar⟩,λ_=>[xT],[true],none,0,0,λ_ _=>true,none,[],[],[]⟩
theorem aa3:aaU.Ok prog:=⟨Is.of (by kernel_rfl) (by kernel_rfl),by kernel_rfl,ay ax aw,trivial,trivial,λ_=>by kernel_rfl⟩
theorem nM (N:Nat):ky.Ok prog N:=aa3.give aq hm N N (λ_=>⟨M4 N,trivial⟩) λa r s h=>by
 exact s.main [] trivial (.trans (by kernel_rfl) h)
def Yz:Fn EP:=⟨f102,[],⟨[],[],au,ar⟩,λ_=>[ky],[],none,0,1,λ_ _=>true,none,[],[],[]⟩
theorem YD:Yz.Ok prog:=⟨Is.of (by kernel_rfl) (by kernel_rfl),by kernel_rfl,ay ax aw,trivial,trivial,λ_=>by kernel_rfl⟩
theorem YB (N:Nat):EP.Ok prog N:=YD.give aq hm N N (λ_=>⟨nM N,trivial⟩) λa r s h=>by
 have l0:=s.loop 0 sT (Lq N) N λac h0=>by
  have l2:=s.loop 2 xc (Lr N ac) N λaH h2=>by
   exact λc v=>s.seg 2 xc [(0,.of sT ac),(2,.of xc aH)] ⟨h0,h2,trivial⟩ (by kernel_rfl) (by kernel_rfl)
  exact λc v=>s.seg 0 sT [(0,.of sT ac),(2,.of xc (XR N ac))] ⟨h0,l2,trivial⟩ (by kernel_rfl) (by kernel_rfl)
 exact s.main [(0,.of sT (XQ N))] ⟨l0,trivial⟩ (.trans (by kernel_rfl) h)
def YT:Fn E4:=⟨f140,[],⟨[],[],au,ar⟩,λ_=>[ky],[],none,0,1,λ_ _=>true,none,[],[],[]⟩
theorem Y7:YT.Ok prog:=⟨Is.of (by kernel_rfl) (by kernel_rfl),by kernel_rfl,ay ax aw,trivial,trivial,λ_=>by kernel_rfl⟩
theorem Y5 (N:Nat):E4.Ok prog N:=Y7.give aq hm N N (λ_=>⟨nM N,trivial⟩) λa r s h=>by
 have l0:=s.loop 0 xp (Mg N) N λac h0=>by
  exact λc v=>s.seg 0 xp [(0,.of xp ac)] ⟨h0,trivial⟩ (by kernel_rfl) (by kernel_rfl)
 exact s.main [(0,.of xp (YY N))] ⟨l0,trivial⟩ (.trans (by kernel_rfl) h)
end
end
section
open Go.Proofs.Tryz
set_option maxRecDepth 1000000
noncomputable section
def YS:Fn E3:=⟨f103,[],⟨[],[],au,ar⟩,λ_=>[E4],[],none,0,1,λ_ _=>true,none,[],[],[]⟩
theorem Y6:YS.Ok prog:=⟨Is.of (by kernel_rfl) (by kernel_rfl),by kernel_rfl,ay ax aw,trivial,trivial,λ_=>by kernel_rfl⟩
theorem Y4 (N:Nat):E3.Ok prog N:=Y6.give aq hm N N (λ_=>⟨Y5 N,trivial⟩) λa r s h=>by
 have l2:=s.loop 2 xo (Mf N) N λaH h2=>by
  exact λc v=>s.seg 2 xo [(2,.of xo aH)] ⟨h2,trivial⟩ (by kernel_rfl) (by kernel_rfl)
 have l0:=s.loop 0 xn (Me N) N λac h0=>by
  exact λc v=>s.seg 0 xn [(0,.of xn ac),(2,.of xo (YX N))] ⟨h0,l2,trivial⟩ (by kernel_rfl) (by kernel_rfl)
 exact s.main [(0,.of xn (YW N))] ⟨l0,trivial⟩ (.trans (by kernel_rfl) h)
def Yy:Fn EO:=⟨f104,[],⟨[],[],au,ar⟩,λ_=>[xM,xC],[],none,0,1,λ_ _=>true,none,[],[],[]⟩
theorem YC:Yy.Ok prog:=⟨Is.of (by kernel_rfl) (by kernel_rfl),by kernel_rfl,ay ax aw,trivial,trivial,λ_=>by kernel_rfl⟩
theorem YA (N:Nat):EO.Ok prog N:=YC.give aq hm N N (λ_=>⟨MT N,MF N,trivial⟩) λa r s h=>by
 have l0:=s.loop 0 wZ (Ln N) N λac h0=>by
  exact λc v=>s.seg 0 wZ [(0,.of wZ ac)] ⟨h0,trivial⟩ (by kernel_rfl) (by kernel_rfl)
 exact s.main [(0,.of wZ (XP N))] ⟨l0,trivial⟩ (.trans (by kernel_rfl) h)
def Zg:Fn E7:=⟨f162,[],⟨[],[],au,ar⟩,λ_=>[ky],[true,true],none,1,1,λ_ _=>true,none,[],[],[]⟩
theorem Zj:Zg.Ok prog:=⟨Is.of (by kernel_rfl) (by kernel_rfl),by kernel_rfl,ay ax aw,trivial,trivial,λ_=>by kernel_rfl⟩
theorem Zh (N:Nat):E7.Ok prog N:=Zj.give aq hm N N (λ_=>⟨nM N,trivial⟩) λa r s h=>by
 exact s.main [] trivial (.trans (by kernel_rfl) h)
def Zf:Fn xw:=⟨f142,[],⟨[],[],au,ar⟩,λ_=>[E7],[true],none,1,1,λ_ _=>true,none,[],[],[]⟩
theorem Zi:Zf.Ok prog:=⟨Is.of (by kernel_rfl) (by kernel_rfl),by kernel_rfl,ay ax aw,trivial,trivial,λ_=>by kernel_rfl⟩
theorem Ml (N:Nat):xw.Ok prog N:=Zi.give aq hm N N (λ_=>⟨Zh N,trivial⟩) λa r s h=>by
 exact s.main [] trivial (.trans (by kernel_rfl) h)
def X6:Fn EI:=⟨f141,[],⟨[],[],au,ar⟩,λ_=>[xw],[true],none,1,1,λ_ _=>true,none,[],[],[]⟩
theorem Yq:X6.Ok prog:=⟨Is.of (by kernel_rfl) (by kernel_rfl),by kernel_rfl,ay ax aw,trivial,trivial,λ_=>by kernel_rfl⟩
theorem X9 (N:Nat):EI.Ok prog N:=Yq.give aq hm N N (λ_=>⟨Ml N,trivial⟩) λa r s h=>by
 exact s.main [] trivial (.trans (by kernel_rfl) h)
def Yf:Fn Et:=⟨f105,[],⟨[],[],au,ar⟩,λ_=>[EI,xw],[true,true],none,0,1,λ_ _=>true,none,[],[],[]⟩
theorem Yl:Yf.Ok prog:=⟨Is.of (by kernel_rfl) (by kernel_rfl),by kernel_rfl,ay ax aw,trivial,trivial,λ_=>by kernel_rfl⟩
theorem Yi (N:Nat):Et.Ok prog N:=Yl.give aq hm N N (λ_=>⟨X9 N,Ml N,trivial⟩) λa r s h=>by
 exact s.main [] trivial (.trans (by kernel_rfl) h)
def YI:Fn Er:=⟨f106,[],⟨[],[],au,ar⟩,λ_=>[],[],none,0,1,λ_ _=>true,none,[],[],[]⟩
theorem Yd:YI.Ok prog:=⟨Is.of (by kernel_rfl) (by kernel_rfl),by kernel_rfl,ay ax aw,trivial,trivial,λ_=>by kernel_rfl⟩
theorem Yb (N:Nat):Er.Ok prog N:=Yd.give aq hm N N (λ_=>trivial) λa r s h=>by
 have l0:=s.loop 0 xj (Lx N) N λac h0=>by
  exact λc v=>s.seg 0 xj [(0,.of xj ac)] ⟨h0,trivial⟩ (by kernel_rfl) (by kernel_rfl)
 exact s.main [(0,.of xj (Yx N))] ⟨l0,trivial⟩ (.trans (by kernel_rfl) h)
def XS:Fn Eh:=⟨f107,[],⟨[],[],au,ar⟩,λ_=>[ky],[true],none,0,1,λ_ _=>true,none,[],[],[]⟩
theorem XU:XS.Ok prog:=⟨Is.of (by kernel_rfl) (by kernel_rfl),by kernel_rfl,ay ax aw,trivial,trivial,λ_=>by kernel_rfl⟩
theorem XT (N:Nat):Eh.Ok prog N:=XU.give aq hm N N (λ_=>⟨nM N,trivial⟩) λa r s h=>by
 have l0:=s.loop 0 n4 (Lg N) N λac h0=>by
  have l6:=s.loop 6 t7 (Lj N ac) N λeQ h6=>by
   exact λc v=>s.seg 6 t7 [(0,.of n4 ac),(6,.of t7 eQ)] ⟨h0,h6,trivial⟩ (by kernel_rfl) (by kernel_rfl)
  have l4:=s.loop 4 zb (Li N ac) N λaX h4=>by
   exact λc v=>s.seg 4 zb [(0,.of n4 ac),(4,.of zb aX),(6,.of t7 (Lk N ac))] ⟨h0,h4,l6,trivial⟩ (by kernel_rfl) (by kernel_rfl)
  have l2:=s.loop 2 za (Lh N ac) N λaH h2=>by
   exact λc v=>s.seg 2 za [(0,.of n4 ac),(2,.of za aH),(4,.of zb (Xz N ac)),(6,.of t7 (Lk N ac))] ⟨h0,h2,l4,l6,trivial⟩ (by kernel_rfl) (by kernel_rfl)
  exact λc v=>s.seg 0 n4 [(0,.of n4 ac),(2,.of za (Xy N ac))] ⟨h0,l2,trivial⟩ (by kernel_rfl) (by kernel_rfl)
 exact s.main [(0,.of n4 (Xx N))] ⟨l0,trivial⟩ (.trans (by kernel_rfl) h)
end
end
end
end Go.Proofs.YtmfkphajohcklaaGreat.U
