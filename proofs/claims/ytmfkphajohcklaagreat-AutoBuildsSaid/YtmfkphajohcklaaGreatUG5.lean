/- The code, and what each function of it is walked to. No premise beyond what each theorem says. -/
import Derived.Test.YtmfkphajohcklaaGreatUG4
set_option linter.all false
set_option linter.unusedSimpArgs false
set_option linter.unusedVariables false
namespace Go.Proofs.YtmfkphajohcklaaGreat.U
noncomputable section
open Go
section
open Go.Proofs.Tryz
set_option maxRecDepth 1000000
noncomputable section
def Y2:Fn EZ:=⟨f161,[],⟨[],[],au,ar⟩,λ_=>[kB],[true,true],none,1,1,λ_ _=>true,none,[],[],[]⟩
theorem YR:Y2.Ok prog:=⟨Is.of (by kernel_rfl) (by kernel_rfl),by kernel_rfl,ay ax aw,trivial,trivial,λ_=>by kernel_rfl⟩
theorem Y4 (N:Nat):EZ.Ok prog N:=YR.give aq hm N N (λ_=>⟨nP N,trivial⟩) λa r s h=>by
 exact s.main [] trivial (.trans (by kernel_rfl) h)
def Y1:Fn xq:=⟨f139,[],⟨[],[],au,ar⟩,λ_=>[EZ],[true],none,1,1,λ_ _=>true,none,[],[],[]⟩
theorem YQ:Y1.Ok prog:=⟨Is.of (by kernel_rfl) (by kernel_rfl),by kernel_rfl,ay ax aw,trivial,trivial,λ_=>by kernel_rfl⟩
theorem LX (N:Nat):xq.Ok prog N:=YQ.give aq hm N N (λ_=>⟨Y4 N,trivial⟩) λa r s h=>by
 exact s.main [] trivial (.trans (by kernel_rfl) h)
def X3:Fn Ep:=⟨f138,[],⟨[],[],au,ar⟩,λ_=>[xq],[true],none,1,1,λ_ _=>true,none,[],[],[]⟩
theorem XC:X3.Ok prog:=⟨Is.of (by kernel_rfl) (by kernel_rfl),by kernel_rfl,ay ax aw,trivial,trivial,λ_=>by kernel_rfl⟩
theorem X5 (N:Nat):Ep.Ok prog N:=XC.give aq hm N N (λ_=>⟨LX N,trivial⟩) λa r s h=>by
 exact s.main [] trivial (.trans (by kernel_rfl) h)
def X7:Fn EH:=⟨f93,[],⟨[],[],au,ar⟩,λ_=>[Ep,xq],[true,true],none,0,1,λ_ _=>true,none,[],[],[]⟩
theorem Yr:X7.Ok prog:=⟨Is.of (by kernel_rfl) (by kernel_rfl),by kernel_rfl,ay ax aw,trivial,trivial,λ_=>by kernel_rfl⟩
theorem Ya (N:Nat):EH.Ok prog N:=Yr.give aq hm N N (λ_=>⟨X5 N,LX N,trivial⟩) λa r s h=>by
 exact s.main [] trivial (.trans (by kernel_rfl) h)
def XO:Fn ED:=⟨f94,[],⟨[],[],au,ar⟩,λ_=>[],[],none,0,1,λ_ _=>true,none,[],[],[]⟩
theorem XQ:XO.Ok prog:=⟨Is.of (by kernel_rfl) (by kernel_rfl),by kernel_rfl,ay ax aw,trivial,trivial,λ_=>by kernel_rfl⟩
theorem XP (N:Nat):ED.Ok prog N:=XQ.give aq hm N N (λ_=>trivial) λa r s h=>by
 have l0:=s.loop 0 wS (LF N) N λac h0=>by
  exact λc v=>s.seg 0 wS [(0,.of wS ac)] ⟨h0,trivial⟩ (by kernel_rfl) (by kernel_rfl)
 exact s.main [(0,.of wS (XE N))] ⟨l0,trivial⟩ (.trans (by kernel_rfl) h)
def Xw:Fn El:=⟨f95,[],⟨[],[],au,ar⟩,λ_=>[kB],[true],none,0,1,λ_ _=>true,none,[],[],[]⟩
theorem Xy:Xw.Ok prog:=⟨Is.of (by kernel_rfl) (by kernel_rfl),by kernel_rfl,ay ax aw,trivial,trivial,λ_=>by kernel_rfl⟩
theorem Xx (N:Nat):El.Ok prog N:=Xy.give aq hm N N (λ_=>⟨nP N,trivial⟩) λa r s h=>by
 have l0:=s.loop 0 nU (Lm N) N λac h0=>by
  have l6:=s.loop 6 tZ (Lf N ac) N λeQ h6=>by
   exact λc v=>s.seg 6 tZ [(0,.of nU ac),(6,.of tZ eQ)] ⟨h0,h6,trivial⟩ (by kernel_rfl) (by kernel_rfl)
  have l4:=s.loop 4 yY (Le N ac) N λaX h4=>by
   exact λc v=>s.seg 4 yY [(0,.of nU ac),(4,.of yY aX),(6,.of tZ (Lg N ac))] ⟨h0,h4,l6,trivial⟩ (by kernel_rfl) (by kernel_rfl)
  have l2:=s.loop 2 yX (Ld N ac) N λaH h2=>by
   exact λc v=>s.seg 2 yX [(0,.of nU ac),(2,.of yX aH),(4,.of yY (Xv N ac)),(6,.of tZ (Lg N ac))] ⟨h0,h2,l4,l6,trivial⟩ (by kernel_rfl) (by kernel_rfl)
  exact λc v=>s.seg 0 nU [(0,.of nU ac),(2,.of yX (Xu N ac))] ⟨h0,l2,trivial⟩ (by kernel_rfl) (by kernel_rfl)
 exact s.main [(0,.of nU (Xt N))] ⟨l0,trivial⟩ (.trans (by kernel_rfl) h)
def X4:Fn Ey:=⟨f96,[],⟨[],[],au,ar⟩,λ_=>[kB],[true],none,0,1,λ_ _=>true,none,[],[],[]⟩
theorem XD:X4.Ok prog:=⟨Is.of (by kernel_rfl) (by kernel_rfl),by kernel_rfl,ay ax aw,trivial,trivial,λ_=>by kernel_rfl⟩
theorem X6 (N:Nat):Ey.Ok prog N:=XD.give aq hm N N (λ_=>⟨nP N,trivial⟩) λa r s h=>by
 have l0:=s.loop 0 qg (Lz N) N λac h0=>by
  have l4:=s.loop 4 ze (LB N ac) N λaX h4=>by
   exact λc v=>s.seg 4 ze [(0,.of qg ac),(4,.of ze aX)] ⟨h0,h4,trivial⟩ (by kernel_rfl) (by kernel_rfl)
  have l2:=s.loop 2 zd (LA N ac) N λaH h2=>by
   exact λc v=>s.seg 2 zd [(0,.of qg ac),(2,.of zd aH),(4,.of ze (XZ N ac))] ⟨h0,h2,l4,trivial⟩ (by kernel_rfl) (by kernel_rfl)
  exact λc v=>s.seg 0 qg [(0,.of qg ac),(2,.of zd (XY N ac))] ⟨h0,l2,trivial⟩ (by kernel_rfl) (by kernel_rfl)
 exact s.main [(0,.of qg (XX N))] ⟨l0,trivial⟩ (.trans (by kernel_rfl) h)
end
end
section
open Go.Proofs.Tryz
set_option maxRecDepth 1000000
noncomputable section
def YJ:Fn Eq:=⟨f97,[],⟨[],[],au,ar⟩,λ_=>[kB],[true,true],none,0,1,λ_ _=>true,none,[],[],[]⟩
theorem Ye:YJ.Ok prog:=⟨Is.of (by kernel_rfl) (by kernel_rfl),by kernel_rfl,ay ax aw,trivial,trivial,λ_=>by kernel_rfl⟩
theorem Yc (N:Nat):Eq.Ok prog N:=Ye.give aq hm N N (λ_=>⟨nP N,trivial⟩) λa r s h=>by
 have l4:=s.loop 4 qm (Lv N) N λaX h4=>by
  have l8:=s.loop 8 xi (Lx N aX) N λnh h8=>by
   exact λc v=>s.seg 8 xi [(4,.of qm aX),(8,.of xi nh)] ⟨h4,h8,trivial⟩ (by kernel_rfl) (by kernel_rfl)
  have l6:=s.loop 6 xg (Lw N aX) N λeQ h6=>by
   exact λc v=>s.seg 6 xg [(4,.of qm aX),(6,.of xg eQ),(8,.of xi (Yy N aX))] ⟨h4,h6,l8,trivial⟩ (by kernel_rfl) (by kernel_rfl)
  exact λc v=>s.seg 4 qm [(4,.of qm aX),(6,.of xg (Yx N aX))] ⟨h4,l6,trivial⟩ (by kernel_rfl) (by kernel_rfl)
 have l2:=s.loop 2 xf (Lu N) N λaH h2=>by
  exact λc v=>s.seg 2 xf [(2,.of xf aH),(4,.of qm (Yw N))] ⟨h2,l4,trivial⟩ (by kernel_rfl) (by kernel_rfl)
 have l0:=s.loop 0 xe (Lt N) N λac h0=>by
  exact λc v=>s.seg 0 xe [(0,.of xe ac),(2,.of xf (Yv N))] ⟨h0,l2,trivial⟩ (by kernel_rfl) (by kernel_rfl)
 exact s.main [(0,.of xe (Yu N))] ⟨l0,trivial⟩ (.trans (by kernel_rfl) h)
def YW:Fn rW:=⟨f62,[],⟨[],[],au,ar⟩,λ_=>[EB,Eu,EA,EH,ED,El,kB,Ey,Eq,rW],[],none,0,1,λ_ _=>true,none,[],[96,136,151,195],[]⟩
theorem Mi:YW.Ok prog:=⟨Is.of (by kernel_rfl) (by kernel_rfl),by kernel_rfl,ay ax aw,trivial,trivial,λ_=>by kernel_rfl⟩
theorem L9:∀N,rW.Ok prog N
 | 0=>⟨Mi.is.enters,λa r h=>by(have h:none=some r:=h;cases h)⟩
 | N+1=>by
   obtain Us:=L9 N
   ·exact Mi.give aq hm N (N+1) (λ_=>⟨XI N,Yl N,XH N,Ya N,XP N,Xx N,nP N,X6 N,Yc N,Us,trivial⟩) λa r s h=>by
     have l0:=s.loop 0 mw (L8 N) N λac h0=>by
      have Cj:=s.jn 1000195 LO (L7 N ac) [(0,.of mw ac)] ⟨h0,trivial⟩ (by kernel_rfl) (λx=>by kernel_rfl);have lj2:=s.jn 1000151 LN (L6 N ac) [(0,.of mw ac),(1000195,.of LO (L7 N ac))] ⟨h0,Cj,trivial⟩ (by kernel_rfl) (λx=>by kernel_rfl);have rm:=s.jn 1000136 LM (L5 N ac) [(0,.of mw ac),(1000151,.of LN (L6 N ac))] ⟨h0,lj2,trivial⟩ (by kernel_rfl) (λx=>by kernel_rfl);have rk:=s.jn 1000096 LL (LP N ac) [(0,.of mw ac),(1000136,.of LM (L5 N ac))] ⟨h0,rm,trivial⟩ (by kernel_rfl) (λx=>by kernel_rfl);exact λc v=>s.seg 0 mw [(0,.of mw ac),(1000096,.of LL (LP N ac))] ⟨h0,rk,trivial⟩ (by kernel_rfl) (by kernel_rfl)
     exact s.main [(0,.of mw (Yg N))] ⟨l0,trivial⟩ (.trans (by kernel_rfl) h)
theorem YX (N:Nat):rW.Ok prog N:=(L9 N)
def Za:Fn E1:=⟨f43,[],⟨[],[],au,ar⟩,λ_=>[sC,rW],[],none,0,1,λ_ _=>true,none,[],[],[]⟩
theorem Zd:Za.Ok prog:=⟨Is.of (by kernel_rfl) (by kernel_rfl),by kernel_rfl,ay ax aw,trivial,trivial,λ_=>by kernel_rfl⟩
theorem Zc (N:Nat):E1.Ok prog N:=Zd.give aq hm N N (λ_=>⟨FJ N,YX N,trivial⟩) λa r s h=>by
 exact s.main [] trivial (.trans (by kernel_rfl) h)
def aaW:Fn ky:=⟨f108,[],⟨[],[],au,ar⟩,λ_=>[xT],[true],none,0,0,λ_ _=>true,none,[],[],[]⟩
theorem aa5:aaW.Ok prog:=⟨Is.of (by kernel_rfl) (by kernel_rfl),by kernel_rfl,ay ax aw,trivial,trivial,λ_=>by kernel_rfl⟩
theorem nM (N:Nat):ky.Ok prog N:=aa5.give aq hm N N (λ_=>⟨M6 N,trivial⟩) λa r s h=>by
 exact s.main [] trivial (.trans (by kernel_rfl) h)
def YB:Fn EP:=⟨f102,[],⟨[],[],au,ar⟩,λ_=>[ky],[],none,0,1,λ_ _=>true,none,[],[],[]⟩
theorem YF:YB.Ok prog:=⟨Is.of (by kernel_rfl) (by kernel_rfl),by kernel_rfl,ay ax aw,trivial,trivial,λ_=>by kernel_rfl⟩
theorem YD (N:Nat):EP.Ok prog N:=YF.give aq hm N N (λ_=>⟨nM N,trivial⟩) λa r s h=>by
 have l0:=s.loop 0 sT (Lr N) N λac h0=>by
  have l2:=s.loop 2 xc (Ls N ac) N λaH h2=>by
   exact λc v=>s.seg 2 xc [(0,.of sT ac),(2,.of xc aH)] ⟨h0,h2,trivial⟩ (by kernel_rfl) (by kernel_rfl)
  exact λc v=>s.seg 0 sT [(0,.of sT ac),(2,.of xc (XT N ac))] ⟨h0,l2,trivial⟩ (by kernel_rfl) (by kernel_rfl)
 exact s.main [(0,.of sT (XS N))] ⟨l0,trivial⟩ (.trans (by kernel_rfl) h)
def YV:Fn E4:=⟨f140,[],⟨[],[],au,ar⟩,λ_=>[ky],[],none,0,1,λ_ _=>true,none,[],[],[]⟩
theorem Y9:YV.Ok prog:=⟨Is.of (by kernel_rfl) (by kernel_rfl),by kernel_rfl,ay ax aw,trivial,trivial,λ_=>by kernel_rfl⟩
theorem Y7 (N:Nat):E4.Ok prog N:=Y9.give aq hm N N (λ_=>⟨nM N,trivial⟩) λa r s h=>by
 have l0:=s.loop 0 xp (Mh N) N λac h0=>by
  exact λc v=>s.seg 0 xp [(0,.of xp ac)] ⟨h0,trivial⟩ (by kernel_rfl) (by kernel_rfl)
 exact s.main [(0,.of xp (Y0 N))] ⟨l0,trivial⟩ (.trans (by kernel_rfl) h)
end
end
section
open Go.Proofs.Tryz
set_option maxRecDepth 1000000
noncomputable section
def YU:Fn E3:=⟨f103,[],⟨[],[],au,ar⟩,λ_=>[E4],[],none,0,1,λ_ _=>true,none,[],[],[]⟩
theorem Y8:YU.Ok prog:=⟨Is.of (by kernel_rfl) (by kernel_rfl),by kernel_rfl,ay ax aw,trivial,trivial,λ_=>by kernel_rfl⟩
theorem Y6 (N:Nat):E3.Ok prog N:=Y8.give aq hm N N (λ_=>⟨Y7 N,trivial⟩) λa r s h=>by
 have l2:=s.loop 2 xo (Mg N) N λaH h2=>by
  exact λc v=>s.seg 2 xo [(2,.of xo aH)] ⟨h2,trivial⟩ (by kernel_rfl) (by kernel_rfl)
 have l0:=s.loop 0 xn (Mf N) N λac h0=>by
  exact λc v=>s.seg 0 xn [(0,.of xn ac),(2,.of xo (YZ N))] ⟨h0,l2,trivial⟩ (by kernel_rfl) (by kernel_rfl)
 exact s.main [(0,.of xn (YY N))] ⟨l0,trivial⟩ (.trans (by kernel_rfl) h)
def YA:Fn EO:=⟨f104,[],⟨[],[],au,ar⟩,λ_=>[xM,xC],[],none,0,1,λ_ _=>true,none,[],[],[]⟩
theorem YE:YA.Ok prog:=⟨Is.of (by kernel_rfl) (by kernel_rfl),by kernel_rfl,ay ax aw,trivial,trivial,λ_=>by kernel_rfl⟩
theorem YC (N:Nat):EO.Ok prog N:=YE.give aq hm N N (λ_=>⟨MV N,MG N,trivial⟩) λa r s h=>by
 have l0:=s.loop 0 wZ (Lq N) N λac h0=>by
  exact λc v=>s.seg 0 wZ [(0,.of wZ ac)] ⟨h0,trivial⟩ (by kernel_rfl) (by kernel_rfl)
 exact s.main [(0,.of wZ (XR N))] ⟨l0,trivial⟩ (.trans (by kernel_rfl) h)
def Zi:Fn E7:=⟨f162,[],⟨[],[],au,ar⟩,λ_=>[ky],[true,true],none,1,1,λ_ _=>true,none,[],[],[]⟩
theorem Zl:Zi.Ok prog:=⟨Is.of (by kernel_rfl) (by kernel_rfl),by kernel_rfl,ay ax aw,trivial,trivial,λ_=>by kernel_rfl⟩
theorem Zj (N:Nat):E7.Ok prog N:=Zl.give aq hm N N (λ_=>⟨nM N,trivial⟩) λa r s h=>by
 exact s.main [] trivial (.trans (by kernel_rfl) h)
def Zh:Fn xw:=⟨f142,[],⟨[],[],au,ar⟩,λ_=>[E7],[true],none,1,1,λ_ _=>true,none,[],[],[]⟩
theorem Zk:Zh.Ok prog:=⟨Is.of (by kernel_rfl) (by kernel_rfl),by kernel_rfl,ay ax aw,trivial,trivial,λ_=>by kernel_rfl⟩
theorem Mm (N:Nat):xw.Ok prog N:=Zk.give aq hm N N (λ_=>⟨Zj N,trivial⟩) λa r s h=>by
 exact s.main [] trivial (.trans (by kernel_rfl) h)
def X8:Fn EI:=⟨f141,[],⟨[],[],au,ar⟩,λ_=>[xw],[true],none,1,1,λ_ _=>true,none,[],[],[]⟩
theorem Ys:X8.Ok prog:=⟨Is.of (by kernel_rfl) (by kernel_rfl),by kernel_rfl,ay ax aw,trivial,trivial,λ_=>by kernel_rfl⟩
theorem Yb (N:Nat):EI.Ok prog N:=Ys.give aq hm N N (λ_=>⟨Mm N,trivial⟩) λa r s h=>by
 exact s.main [] trivial (.trans (by kernel_rfl) h)
def Yh:Fn Et:=⟨f105,[],⟨[],[],au,ar⟩,λ_=>[EI,xw],[true,true],none,0,1,λ_ _=>true,none,[],[],[]⟩
theorem Yn:Yh.Ok prog:=⟨Is.of (by kernel_rfl) (by kernel_rfl),by kernel_rfl,ay ax aw,trivial,trivial,λ_=>by kernel_rfl⟩
theorem Yk (N:Nat):Et.Ok prog N:=Yn.give aq hm N N (λ_=>⟨Yb N,Mm N,trivial⟩) λa r s h=>by
 exact s.main [] trivial (.trans (by kernel_rfl) h)
def YK:Fn Er:=⟨f106,[],⟨[],[],au,ar⟩,λ_=>[],[],none,0,1,λ_ _=>true,none,[],[],[]⟩
theorem Yf:YK.Ok prog:=⟨Is.of (by kernel_rfl) (by kernel_rfl),by kernel_rfl,ay ax aw,trivial,trivial,λ_=>by kernel_rfl⟩
theorem Yd (N:Nat):Er.Ok prog N:=Yf.give aq hm N N (λ_=>trivial) λa r s h=>by
 have l0:=s.loop 0 xj (Ly N) N λac h0=>by
  exact λc v=>s.seg 0 xj [(0,.of xj ac)] ⟨h0,trivial⟩ (by kernel_rfl) (by kernel_rfl)
 exact s.main [(0,.of xj (Yz N))] ⟨l0,trivial⟩ (.trans (by kernel_rfl) h)
def XU:Fn Eh:=⟨f107,[],⟨[],[],au,ar⟩,λ_=>[ky],[true],none,0,1,λ_ _=>true,none,[],[],[]⟩
theorem XW:XU.Ok prog:=⟨Is.of (by kernel_rfl) (by kernel_rfl),by kernel_rfl,ay ax aw,trivial,trivial,λ_=>by kernel_rfl⟩
theorem XV (N:Nat):Eh.Ok prog N:=XW.give aq hm N N (λ_=>⟨nM N,trivial⟩) λa r s h=>by
 have l0:=s.loop 0 n4 (Lh N) N λac h0=>by
  have l6:=s.loop 6 t7 (Lk N ac) N λeQ h6=>by
   exact λc v=>s.seg 6 t7 [(0,.of n4 ac),(6,.of t7 eQ)] ⟨h0,h6,trivial⟩ (by kernel_rfl) (by kernel_rfl)
  have l4:=s.loop 4 zb (Lj N ac) N λaX h4=>by
   exact λc v=>s.seg 4 zb [(0,.of n4 ac),(4,.of zb aX),(6,.of t7 (Ll N ac))] ⟨h0,h4,l6,trivial⟩ (by kernel_rfl) (by kernel_rfl)
  have l2:=s.loop 2 za (Li N ac) N λaH h2=>by
   exact λc v=>s.seg 2 za [(0,.of n4 ac),(2,.of za aH),(4,.of zb (XB N ac)),(6,.of t7 (Ll N ac))] ⟨h0,h2,l4,l6,trivial⟩ (by kernel_rfl) (by kernel_rfl)
  exact λc v=>s.seg 0 n4 [(0,.of n4 ac),(2,.of za (XA N ac))] ⟨h0,l2,trivial⟩ (by kernel_rfl) (by kernel_rfl)
 exact s.main [(0,.of n4 (Xz N))] ⟨l0,trivial⟩ (.trans (by kernel_rfl) h)
end
end
end
end Go.Proofs.YtmfkphajohcklaaGreat.U
