/- The code, and what each function of it is walked to. No premise beyond what each theorem says. -/
import Derived.Test.YtbanfalnbhcknaaGreatDoorHG9
set_option linter.all false
set_option linter.unusedSimpArgs false
set_option linter.unusedVariables false
namespace Go.Proofs.YtbanfalnbhcknaaGreatDoor.H
open Go
section
open Go.Proofs.Tryz
set_option maxRecDepth 1000000
noncomputable section
noncomputable def xZ9j:Fn xZ1y:=⟨f227,[],⟨[],[],sbf,bof⟩,fun _=>[xZ2N],[true,true],none,1,0,fun _ _=>true,none,[],[],[]⟩
theorem xZ9O:xZ9j.Ok prog:=⟨Is.of (by kernel_rfl) (by kernel_rfl),by kernel_rfl,xZ5 sb_ok bo_ok,trivial,trivial,fun _=>by kernel_rfl⟩
theorem xZ2W (N:Nat):xZ1y.Ok prog N:=xZ9O.give tb_ok hm N N (fun _=>⟨xZ77 N,trivial⟩) fun a r s h=>by
 exact s.main [] trivial (.trans (by kernel_rfl) h)
noncomputable def xZd8:Fn xZ3S:=⟨f197,[],⟨[],[],sbf,bof⟩,fun _=>[],[true],none,0,0,fun _ _=>true,none,[],[],[]⟩
theorem xZdj:xZd8.Ok prog:=⟨Is.of (by kernel_rfl) (by kernel_rfl),by kernel_rfl,xZ5 sb_ok bo_ok,trivial,trivial,fun _=>by kernel_rfl⟩
theorem xZ8V (N:Nat):xZ3S.Ok prog N:=xZdj.give tb_ok hm N N (fun _=>trivial) fun a r s h=>by
 exact s.main [] trivial (.trans (by kernel_rfl) h)
noncomputable def xZdE:Fn xZ4o:=⟨f236,[],⟨[],[],sbf,bof⟩,fun _=>[xZ5g,xZ3S],[true],none,0,0,fun _ _=>true,none,[],[],[]⟩
theorem xZef:xZdE.Ok prog:=⟨Is.of (by kernel_rfl) (by kernel_rfl),by kernel_rfl,xZ5 sb_ok bo_ok,trivial,trivial,fun _=>by kernel_rfl⟩
theorem xZ9p (N:Nat):xZ4o.Ok prog N:=xZef.give tb_ok hm N N (fun _=>⟨xZ9v N,xZ8V N,trivial⟩) fun a r s h=>by
 exact s.main [] trivial (.trans (by kernel_rfl) h)
noncomputable def xZgX:Fn xZ9f:=⟨f37,[],⟨[],[],sbf,bof⟩,fun _=>[],[true],none,0,0,fun _ _=>true,none,[],[],[]⟩
theorem xZhS:xZgX.Ok prog:=⟨Is.of (by kernel_rfl) (by kernel_rfl),by kernel_rfl,xZ5 sb_ok bo_ok,trivial,trivial,fun _=>by kernel_rfl⟩
theorem xZhh (N:Nat):xZ9f.Ok prog N:=xZhS.give tb_ok hm N N (fun _=>trivial) fun a r s h=>by
 exact s.main [] trivial (.trans (by kernel_rfl) h)
noncomputable def xZez:Fn xZ50:=⟨f237,[],⟨[],[],sbf,bof⟩,fun _=>[xZ9f],[true,true],none,0,0,fun _ _=>true,none,[],[],[]⟩
theorem xZeS:xZez.Ok prog:=⟨Is.of (by kernel_rfl) (by kernel_rfl),by kernel_rfl,xZ5 sb_ok bo_ok,trivial,trivial,fun _=>by kernel_rfl⟩
theorem xZaj (N:Nat):xZ50.Ok prog N:=xZeS.give tb_ok hm N N (fun _=>⟨xZhh N,trivial⟩) fun a r s h=>by
 exact s.main [] trivial (.trans (by kernel_rfl) h)
noncomputable def xZdD:Fn xZ4n:=⟨f239,[],⟨[],[],sbf,bof⟩,fun _=>[xZdB],[true],none,0,0,fun _ _=>true,none,[],[],[]⟩
theorem xZee:xZdD.Ok prog:=⟨Is.of (by kernel_rfl) (by kernel_rfl),by kernel_rfl,xZ5 sb_ok bo_ok,trivial,trivial,fun _=>by kernel_rfl⟩
theorem xZ9o (N:Nat):xZ4n.Ok prog N:=xZee.give tb_ok hm N N (fun _=>⟨xZiS N,trivial⟩) fun a r s h=>by
 exact s.main [] trivial (.trans (by kernel_rfl) h)
noncomputable def xZls:Fn xZdA:=⟨f240,[],⟨[],[],sbf,bof⟩,fun _=>[xZ4N],[true],none,0,0,fun _ _=>true,none,[],[],[]⟩
theorem xZmw:xZls.Ok prog:=⟨Is.of (by kernel_rfl) (by kernel_rfl),by kernel_rfl,xZ5 sb_ok bo_ok,trivial,trivial,fun _=>by kernel_rfl⟩
theorem xZlF (N:Nat):xZdA.Ok prog N:=xZmw.give tb_ok hm N N (fun _=>⟨xZ8w N,trivial⟩) fun a r s h=>by
 exact s.main [] trivial (.trans (by kernel_rfl) h)
noncomputable def xZfu:Fn xZ5O:=⟨f152,[],⟨[],[],sbf,bof⟩,fun _=>[xZ4N],[true],none,0,0,fun _ _=>true,none,[],[],[]⟩
theorem xZg7:xZfu.Ok prog:=⟨Is.of (by kernel_rfl) (by kernel_rfl),by kernel_rfl,xZ5 sb_ok bo_ok,trivial,trivial,fun _=>by kernel_rfl⟩
theorem xZbo (N:Nat):xZ5O.Ok prog N:=xZg7.give tb_ok hm N N (fun _=>⟨xZ8w N,trivial⟩) fun a r s h=>by
 exact s.main [] trivial (.trans (by kernel_rfl) h)
noncomputable def xZex:Fn xZ7r:=⟨f234,[],⟨[],[],sbf,bof⟩,fun _=>[xZ4o,xZ50,xZ4n,xZdA,xZdz,xZ5O],[true,true],none,0,0,fun _ _=>true,none,[],[],[]⟩
theorem xZeQ:xZex.Ok prog:=⟨Is.of (by kernel_rfl) (by kernel_rfl),by kernel_rfl,xZ5 sb_ok bo_ok,trivial,trivial,fun _=>by kernel_rfl⟩
theorem xZeF (N:Nat):xZ7r.Ok prog N:=xZeQ.give tb_ok hm N N (fun _=>⟨xZ9p N,xZaj N,xZ9o N,xZlF N,xZh3 N,xZbo N,trivial⟩) fun a r s h=>by
 exact s.main [] trivial (.trans (by kernel_rfl) h)
noncomputable def xZfm:Fn xZ8c:=⟨f235,[],⟨[],[],sbf,bof⟩,fun _=>[xZ4o,xZ50,xZ4n,xZdz,xZ5O],[true,true],none,0,0,fun _ _=>true,none,[],[],[]⟩
theorem xZfZ:xZfm.Ok prog:=⟨Is.of (by kernel_rfl) (by kernel_rfl),by kernel_rfl,xZ5 sb_ok bo_ok,trivial,trivial,fun _=>by kernel_rfl⟩
theorem xZfD (N:Nat):xZ8c.Ok prog N:=xZfZ.give tb_ok hm N N (fun _=>⟨xZ9p N,xZaj N,xZ9o N,xZh3 N,xZbo N,trivial⟩) fun a r s h=>by
 exact s.main [] trivial (.trans (by kernel_rfl) h)
noncomputable def xZ9k:Fn xZ13:=⟨f233,[],⟨[],[],sbf,bof⟩,fun _=>[xZ1x,xZ1H,xZ1y,xZ13,xZ7r,xZ8c],[true,true],none,1,0,fun _ _=>true,none,[],[],[]⟩
theorem xZ5q:xZ9k.Ok prog:=⟨Is.of (by kernel_rfl) (by kernel_rfl),by kernel_rfl,xZ5 sb_ok bo_ok,trivial,trivial,fun _=>by kernel_rfl⟩
theorem xZ4I:∀ N,xZ13.Ok prog N
 | 0=>⟨xZ5q.is.enters,fun a r h=>by (have h:none=some r:=h;cases h)⟩
 | N+1=>by
   obtain h_judge_sum_value_v486:=xZ4I N
   ·exact xZ5q.give tb_ok hm N (N+1) (fun _=>⟨xZ2V N,xZ3A N,xZ2W N,h_judge_sum_value_v486,xZeF N,xZfD N,trivial⟩) fun a r s h=>by
     exact s.main [] trivial (.trans (by kernel_rfl) h)
theorem xZ5k (N:Nat):xZ13.Ok prog N:=(xZ4I N)
noncomputable def xZie:Fn xZax:=⟨f15,[],⟨[],[],sbf,bof⟩,fun _=>[xZ8f,xZO,xZ1x,xZ1H,xZ1y,xZ13],[true,true],none,0,0,fun _ _=>true,some EqR.cls,[],[],[]⟩
theorem xZjd:xZie.Ok prog:=⟨Is.of (by kernel_rfl) (by kernel_rfl),by kernel_rfl,xZ5 sb_ok bo_ok,trivial,trivial,fun _=>by kernel_rfl⟩
theorem xZiL (N:Nat):xZax.Ok prog N:=xZjd.give tb_ok hm N N (fun _=>⟨xZaV N,xZ4u N,xZ2V N,xZ3A N,xZ2W N,xZ5k N,trivial⟩) fun a r s h=>by
 exact s.main [] trivial (.trans (by kernel_rfl) h)
noncomputable def xZkL:Fn xZc8:=⟨f63,[],⟨[],[],sbf,bof⟩,fun _=>[],[true],none,0,0,fun _ _=>true,none,[],[],[]⟩
theorem xZlc:xZkL.Ok prog:=⟨Is.of (by kernel_rfl) (by kernel_rfl),by kernel_rfl,xZ5 sb_ok bo_ok,trivial,trivial,fun _=>by kernel_rfl⟩
theorem xZkW (N:Nat):xZc8.Ok prog N:=xZlc.give tb_ok hm N N (fun _=>trivial) fun a r s h=>by
 exact s.main [] trivial (.trans (by kernel_rfl) h)
noncomputable def xZdH:Fn xZ6o:=⟨f140,[],⟨[(5,6)],[],sbf,bof⟩,fun _=>[],[true],none,0,0,fun _ _=>true,none,[],[],[]⟩
theorem xZei:xZdH.Ok prog:=⟨Is.of (by kernel_rfl) (by kernel_rfl),by kernel_rfl,xZ5 sb_ok bo_ok,trivial,trivial,fun _=>by kernel_rfl⟩
theorem xZdW (N:Nat):xZ6o.Ok prog N:=xZei.give tb_ok hm N N (fun _=>trivial) fun a r s h=>by
 have l0:=s.loop 0 xZ3g (xZ86 N) N fun next0 h0=>by
  exact fun c v=>s.seg 0 xZ3g [(0,.of xZ3g next0)] ⟨h0,trivial⟩ (by kernel_rfl) (by kernel_rfl)
 exact s.main [(0,.of xZ3g (xZcB N))] ⟨l0,trivial⟩ (.trans (by kernel_rfl) h)
noncomputable def xZiy:Fn xZaH:=⟨f102,[],⟨[],[],sbf,bof⟩,fun _=>[xZ6o],[true],none,0,0,fun _ _=>true,none,[],[],[]⟩
theorem xZjx:xZiy.Ok prog:=⟨Is.of (by kernel_rfl) (by kernel_rfl),by kernel_rfl,xZ5 sb_ok bo_ok,trivial,trivial,fun _=>by kernel_rfl⟩
theorem xZiW (N:Nat):xZaH.Ok prog N:=xZjx.give tb_ok hm N N (fun _=>⟨xZdW N,trivial⟩) fun a r s h=>by
 have l0:=s.loop 0 xZ67 (xZbE N) N fun next0 h0=>by
  exact fun c v=>s.seg 0 xZ67 [(0,.of xZ67 next0)] ⟨h0,trivial⟩ (by kernel_rfl) (by kernel_rfl)
 exact s.main [(0,.of xZ67 (xZgm N))] ⟨l0,trivial⟩ (.trans (by kernel_rfl) h)
noncomputable def xZkI:Fn xZ7W:=⟨f141,[],⟨[],[],sbf,bof⟩,fun _=>[],[true],none,0,0,fun _ _=>true,none,[],[],[]⟩
theorem xZl9:xZkI.Ok prog:=⟨Is.of (by kernel_rfl) (by kernel_rfl),by kernel_rfl,xZ5 sb_ok bo_ok,trivial,trivial,fun _=>by kernel_rfl⟩
theorem xZck (N:Nat):xZ7W.Ok prog N:=xZl9.give tb_ok hm N N (fun _=>trivial) fun a r s h=>by
 exact s.main [] trivial (.trans (by kernel_rfl) h)
noncomputable def xZio:Fn xZ8i:=⟨f142,[],⟨[],[],sbf,bof⟩,fun _=>[],[true],none,0,0,fun _ _=>true,none,[],[],[]⟩
theorem xZjn:xZio.Ok prog:=⟨Is.of (by kernel_rfl) (by kernel_rfl),by kernel_rfl,xZ5 sb_ok bo_ok,trivial,trivial,fun _=>by kernel_rfl⟩
theorem xZdS (N:Nat):xZ8i.Ok prog N:=xZjn.give tb_ok hm N N (fun _=>trivial) fun a r s h=>by
 exact s.main [] trivial (.trans (by kernel_rfl) h)
noncomputable def xZip:Fn xZ2S:=⟨f104,[],⟨[],[],sbf,bof⟩,fun _=>[xZ7W,xZ8i],[true],none,0,0,fun _ _=>true,none,[],[],[]⟩
theorem xZjo:xZip.Ok prog:=⟨Is.of (by kernel_rfl) (by kernel_rfl),by kernel_rfl,xZ5 sb_ok bo_ok,trivial,trivial,fun _=>by kernel_rfl⟩
theorem xZ4Q (N:Nat):xZ2S.Ok prog N:=xZjo.give tb_ok hm N N (fun _=>⟨xZck N,xZdS N,trivial⟩) fun a r s h=>by
 exact s.main [] trivial (.trans (by kernel_rfl) h)
noncomputable def xZgD:Fn xZ5e:=⟨f103,[],⟨[],[],sbf,bof⟩,fun _=>[xZ2S],[true],none,0,0,fun _ _=>true,none,[],[],[]⟩
theorem xZhz:xZgD.Ok prog:=⟨Is.of (by kernel_rfl) (by kernel_rfl),by kernel_rfl,xZ5 sb_ok bo_ok,trivial,trivial,fun _=>by kernel_rfl⟩
theorem xZ9t (N:Nat):xZ5e.Ok prog N:=xZhz.give tb_ok hm N N (fun _=>⟨xZ4Q N,trivial⟩) fun a r s h=>by
 exact s.main [] trivial (.trans (by kernel_rfl) h)
end
end
section
open Go.Proofs.Tryz
set_option maxRecDepth 1000000
noncomputable section
noncomputable def xZgI:Fn xZ4b:=⟨f69,[],⟨[],[],sbf,bof⟩,fun _=>[xZ5e],[true],none,0,0,fun _ _=>true,none,[],[],[]⟩
theorem xZhE:xZgI.Ok prog:=⟨Is.of (by kernel_rfl) (by kernel_rfl),by kernel_rfl,xZ5 sb_ok bo_ok,trivial,trivial,fun _=>by kernel_rfl⟩
theorem xZ78 (N:Nat):xZ4b.Ok prog N:=xZhE.give tb_ok hm N N (fun _=>⟨xZ9t N,trivial⟩) fun a r s h=>by
 exact s.main [] trivial (.trans (by kernel_rfl) h)
noncomputable def xZgP:Fn xZ9a:=⟨f64,[],⟨[],[],sbf,bof⟩,fun _=>[xZaH,xZ4b],[true],none,0,0,fun _ _=>true,none,[],[114],[]⟩
theorem xZhL:xZgP.Ok prog:=⟨Is.of (by kernel_rfl) (by kernel_rfl),by kernel_rfl,xZ5 sb_ok bo_ok,trivial,trivial,fun _=>by kernel_rfl⟩
theorem xZhb (N:Nat):xZ9a.Ok prog N:=xZhL.give tb_ok hm N N (fun _=>⟨xZiW N,xZ78 N,trivial⟩) fun a r s h=>by
 have lj2:=s.jn 1000114 xZ9S (xZ9W N) [] trivial (by kernel_rfl) (fun x=>by kernel_rfl)
 exact s.main [(1000114,.of xZ9S (xZ9W N))] ⟨lj2,trivial⟩ (.trans (by kernel_rfl) h)
noncomputable def xZiz:Fn xZ8n:=⟨f65,[],⟨[],[],sbf,bof⟩,fun _=>[],[true],none,0,0,fun _ _=>true,none,[],[],[]⟩
theorem xZjy:xZiz.Ok prog:=⟨Is.of (by kernel_rfl) (by kernel_rfl),by kernel_rfl,xZ5 sb_ok bo_ok,trivial,trivial,fun _=>by kernel_rfl⟩
theorem xZdX (N:Nat):xZ8n.Ok prog N:=xZjy.give tb_ok hm N N (fun _=>trivial) fun a r s h=>by
 exact s.main [] trivial (.trans (by kernel_rfl) h)
noncomputable def xZkK:Fn xZc7:=⟨f66,[],⟨[],[],sbf,bof⟩,fun _=>[],[true],none,0,0,fun _ _=>true,none,[],[],[]⟩
theorem xZlb:xZkK.Ok prog:=⟨Is.of (by kernel_rfl) (by kernel_rfl),by kernel_rfl,xZ5 sb_ok bo_ok,trivial,trivial,fun _=>by kernel_rfl⟩
theorem xZkV (N:Nat):xZc7.Ok prog N:=xZlb.give tb_ok hm N N (fun _=>trivial) fun a r s h=>by
 exact s.main [] trivial (.trans (by kernel_rfl) h)
noncomputable def xZiB:Fn xZ6p:=⟨f44,[],⟨[],[],sbf,bof⟩,fun _=>[xZc8,xZ9a,xZ8n,xZc7,xZ6p],[true,true],none,0,0,fun _ _=>true,none,[],[],[]⟩
theorem xZej:xZiB.Ok prog:=⟨Is.of (by kernel_rfl) (by kernel_rfl),by kernel_rfl,xZ5 sb_ok bo_ok,trivial,trivial,fun _=>by kernel_rfl⟩
theorem xZcR:∀ N,xZ6p.Ok prog N
 | 0=>⟨xZej.is.enters,fun a r h=>by (have h:none=some r:=h;cases h)⟩
 | N+1=>by
   obtain h_ref11_tree:=xZcR N
   ·exact xZej.give tb_ok hm N (N+1) (fun _=>⟨xZkW N,xZhb N,xZdX N,xZkV N,h_ref11_tree,trivial⟩) fun a r s h=>by
     have l0:=s.loop 0 xZ69 (xZbG N) N fun next0 h0=>by
      exact fun c v=>s.seg 0 xZ69 [(0,.of xZ69 next0)] ⟨h0,trivial⟩ (by kernel_rfl) (by kernel_rfl)
     exact s.main [(0,.of xZ69 (xZgo N))] ⟨l0,trivial⟩ (.trans (by kernel_rfl) h)
theorem xZiX (N:Nat):xZ6p.Ok prog N:=(xZcR N)
noncomputable def xZgO:Fn xZ74:=⟨f30,[],⟨[],[],sbf,bof⟩,fun _=>[xZ6p],[true],none,0,0,fun _ _=>true,none,[],[],[]⟩
theorem xZhK:xZgO.Ok prog:=⟨Is.of (by kernel_rfl) (by kernel_rfl),by kernel_rfl,xZ5 sb_ok bo_ok,trivial,trivial,fun _=>by kernel_rfl⟩
theorem xZcO (N:Nat):xZ74.Ok prog N:=xZhK.give tb_ok hm N N (fun _=>⟨xZiX N,trivial⟩) fun a r s h=>by
 exact s.main [] trivial (.trans (by kernel_rfl) h)
noncomputable def xZix:Fn xZaG:=⟨f67,[],⟨[],[],sbf,bof⟩,fun _=>[],[true,true],none,0,0,fun _ _=>true,none,[],[],[]⟩
theorem xZjw:xZix.Ok prog:=⟨Is.of (by kernel_rfl) (by kernel_rfl),by kernel_rfl,xZ5 sb_ok bo_ok,trivial,trivial,fun _=>by kernel_rfl⟩
theorem xZiV (N:Nat):xZaG.Ok prog N:=xZjw.give tb_ok hm N N (fun _=>trivial) fun a r s h=>by
 have l0:=s.loop 0 xZ66 (xZbD N) N fun next0 h0=>by
  exact fun c v=>s.seg 0 xZ66 [(0,.of xZ66 next0)] ⟨h0,trivial⟩ (by kernel_rfl) (by kernel_rfl)
 exact s.main [(0,.of xZ66 (xZgl N))] ⟨l0,trivial⟩ (.trans (by kernel_rfl) h)
noncomputable def xZlt:Fn xZdC:=⟨f68,[],⟨[],[],sbf,bof⟩,fun _=>[],[true,true],none,0,0,fun _ _=>true,none,[],[],[]⟩
theorem xZmx:xZlt.Ok prog:=⟨Is.of (by kernel_rfl) (by kernel_rfl),by kernel_rfl,xZ5 sb_ok bo_ok,trivial,trivial,fun _=>by kernel_rfl⟩
theorem xZlG (N:Nat):xZdC.Ok prog N:=xZmx.give tb_ok hm N N (fun _=>trivial) fun a r s h=>by
 have l0:=s.loop 0 xZ8G (xZe5 N) N fun next0 h0=>by
  exact fun c v=>s.seg 0 xZ8G [(0,.of xZ8G next0)] ⟨h0,trivial⟩ (by kernel_rfl) (by kernel_rfl)
 exact s.main [(0,.of xZ8G (xZjH N))] ⟨l0,trivial⟩ (.trans (by kernel_rfl) h)
noncomputable def xZgN:Fn xZ99:=⟨f45,[],⟨[],[],sbf,bof⟩,fun _=>[xZaG,xZdC],[true,true],none,0,0,fun _ _=>true,none,[],[],[]⟩
theorem xZhJ:xZgN.Ok prog:=⟨Is.of (by kernel_rfl) (by kernel_rfl),by kernel_rfl,xZ5 sb_ok bo_ok,trivial,trivial,fun _=>by kernel_rfl⟩
theorem xZha (N:Nat):xZ99.Ok prog N:=xZhJ.give tb_ok hm N N (fun _=>⟨xZiV N,xZlG N,trivial⟩) fun a r s h=>by
 exact s.main [] trivial (.trans (by kernel_rfl) h)
noncomputable def xZiC:Fn xZaI:=⟨f46,[],⟨[],[],sbf,bof⟩,fun _=>[],[true,true],none,0,0,fun _ _=>true,none,[],[],[]⟩
theorem xZjA:xZiC.Ok prog:=⟨Is.of (by kernel_rfl) (by kernel_rfl),by kernel_rfl,xZ5 sb_ok bo_ok,trivial,trivial,fun _=>by kernel_rfl⟩
theorem xZiY (N:Nat):xZaI.Ok prog N:=xZjA.give tb_ok hm N N (fun _=>trivial) fun a r s h=>by
 have l0:=s.loop 0 xZ6a (xZbH N) N fun next0 h0=>by
  exact fun c v=>s.seg 0 xZ6a [(0,.of xZ6a next0)] ⟨h0,trivial⟩ (by kernel_rfl) (by kernel_rfl)
 exact s.main [(0,.of xZ6a (xZgp N))] ⟨l0,trivial⟩ (.trans (by kernel_rfl) h)
noncomputable def xZiA:Fn xZ8o:=⟨f47,[],⟨[],[],sbf,bof⟩,fun _=>[xZ8n],[true],none,0,0,fun _ _=>true,none,[],[],[]⟩
theorem xZjz:xZiA.Ok prog:=⟨Is.of (by kernel_rfl) (by kernel_rfl),by kernel_rfl,xZ5 sb_ok bo_ok,trivial,trivial,fun _=>by kernel_rfl⟩
theorem xZdY (N:Nat):xZ8o.Ok prog N:=xZjz.give tb_ok hm N N (fun _=>⟨xZdX N,trivial⟩) fun a r s h=>by
 have l0:=s.loop 0 xZ68 (xZbF N) N fun next0 h0=>by
  exact fun c v=>s.seg 0 xZ68 [(0,.of xZ68 next0)] ⟨h0,trivial⟩ (by kernel_rfl) (by kernel_rfl)
 exact s.main [(0,.of xZ68 (xZgn N))] ⟨l0,trivial⟩ (.trans (by kernel_rfl) h)
noncomputable def xZft:Fn xZ4q:=⟨f70,[],⟨[],[],sbf,bof⟩,fun _=>[],[true],none,0,0,fun _ _=>true,none,[],[],[]⟩
theorem xZg6:xZft.Ok prog:=⟨Is.of (by kernel_rfl) (by kernel_rfl),by kernel_rfl,xZ5 sb_ok bo_ok,trivial,trivial,fun _=>by kernel_rfl⟩
theorem xZ8x (N:Nat):xZ4q.Ok prog N:=xZg6.give tb_ok hm N N (fun _=>trivial) fun a r s h=>by
 exact s.main [] trivial (.trans (by kernel_rfl) h)
noncomputable def xZit:Fn xZ6n:=⟨f107,[],⟨[],[],sbf,bof⟩,fun _=>[],[true],none,0,0,fun _ _=>true,none,[],[],[]⟩
theorem xZjs:xZit.Ok prog:=⟨Is.of (by kernel_rfl) (by kernel_rfl),by kernel_rfl,xZ5 sb_ok bo_ok,trivial,trivial,fun _=>by kernel_rfl⟩
theorem xZaX (N:Nat):xZ6n.Ok prog N:=xZjs.give tb_ok hm N N (fun _=>trivial) fun a r s h=>by
 have l0:=s.loop 0 xZ65 (xZbC N) N fun next0 h0=>by
  exact fun c v=>s.seg 0 xZ65 [(0,.of xZ65 next0)] ⟨h0,trivial⟩ (by kernel_rfl) (by kernel_rfl)
 exact s.main [(0,.of xZ65 (xZgk N))] ⟨l0,trivial⟩ (.trans (by kernel_rfl) h)
noncomputable def xZgG:Fn xZ72:=⟨f109,[],⟨[],[],sbf,bof⟩,fun _=>[xZ6n],[true],none,0,0,fun _ _=>true,none,[],[],[]⟩
theorem xZhC:xZgG.Ok prog:=⟨Is.of (by kernel_rfl) (by kernel_rfl),by kernel_rfl,xZ5 sb_ok bo_ok,trivial,trivial,fun _=>by kernel_rfl⟩
theorem xZcM (N:Nat):xZ72.Ok prog N:=xZhC.give tb_ok hm N N (fun _=>⟨xZaX N,trivial⟩) fun a r s h=>by
 have l2:=s.loop 2 xZ56 (xZap N) N fun next2 h2=>by
  exact fun c v=>s.seg 2 xZ56 [(2,.of xZ56 next2)] ⟨h2,trivial⟩ (by kernel_rfl) (by kernel_rfl)
 have l0:=s.loop 0 xZ55 (xZao N) N fun next0 h0=>by
  exact fun c v=>s.seg 0 xZ55 [(0,.of xZ55 next0),(2,.of xZ56 (xZeZ N))] ⟨h0,l2,trivial⟩ (by kernel_rfl) (by kernel_rfl)
 exact s.main [(0,.of xZ55 (xZeY N))] ⟨l0,trivial⟩ (.trans (by kernel_rfl) h)
noncomputable def xZgF:Fn xZ94:=⟨f110,[],⟨[],[],sbf,bof⟩,fun _=>[xZ6n,xZ72],[true],none,0,0,fun _ _=>true,none,[],[],[]⟩
theorem xZhB:xZgF.Ok prog:=⟨Is.of (by kernel_rfl) (by kernel_rfl),by kernel_rfl,xZ5 sb_ok bo_ok,trivial,trivial,fun _=>by kernel_rfl⟩
theorem xZh5 (N:Nat):xZ94.Ok prog N:=xZhB.give tb_ok hm N N (fun _=>⟨xZaX N,xZcM N,trivial⟩) fun a r s h=>by
 have l0:=s.loop 0 xZ54 (xZan N) N fun next0 h0=>by
  exact fun c v=>s.seg 0 xZ54 [(0,.of xZ54 next0)] ⟨h0,trivial⟩ (by kernel_rfl) (by kernel_rfl)
 exact s.main [(0,.of xZ54 (xZeX N))] ⟨l0,trivial⟩ (.trans (by kernel_rfl) h)
noncomputable def xZiw:Fn xZ8m:=⟨f73,[],⟨[],[],sbf,bof⟩,fun _=>[xZ94],[true],none,0,0,fun _ _=>true,none,[],[],[]⟩
theorem xZjv:xZiw.Ok prog:=⟨Is.of (by kernel_rfl) (by kernel_rfl),by kernel_rfl,xZ5 sb_ok bo_ok,trivial,trivial,fun _=>by kernel_rfl⟩
theorem xZdV (N:Nat):xZ8m.Ok prog N:=xZjv.give tb_ok hm N N (fun _=>⟨xZh5 N,trivial⟩) fun a r s h=>by
 exact s.main [] trivial (.trans (by kernel_rfl) h)
noncomputable def xZgH:Fn xZ73:=⟨f105,[],⟨[],[],sbf,bof⟩,fun _=>[xZ7W],[true],none,0,0,fun _ _=>true,none,[],[],[]⟩
theorem xZhD:xZgH.Ok prog:=⟨Is.of (by kernel_rfl) (by kernel_rfl),by kernel_rfl,xZ5 sb_ok bo_ok,trivial,trivial,fun _=>by kernel_rfl⟩
theorem xZcN (N:Nat):xZ73.Ok prog N:=xZhD.give tb_ok hm N N (fun _=>⟨xZck N,trivial⟩) fun a r s h=>by
 exact s.main [] trivial (.trans (by kernel_rfl) h)
end
end
section
open Go.Proofs.Tryz
set_option maxRecDepth 1000000
noncomputable section
noncomputable def xZdG:Fn xZ4p:=⟨f106,[],⟨[],[],sbf,bof⟩,fun _=>[xZ7W,xZ8i],[true],none,0,0,fun _ _=>true,none,[],[],[]⟩
theorem xZeh:xZdG.Ok prog:=⟨Is.of (by kernel_rfl) (by kernel_rfl),by kernel_rfl,xZ5 sb_ok bo_ok,trivial,trivial,fun _=>by kernel_rfl⟩
theorem xZ9u (N:Nat):xZ4p.Ok prog N:=xZeh.give tb_ok hm N N (fun _=>⟨xZck N,xZdS N,trivial⟩) fun a r s h=>by
 exact s.main [] trivial (.trans (by kernel_rfl) h)
noncomputable def xZis:Fn xZ6m:=⟨f108,[],⟨[],[],sbf,bof⟩,fun _=>[],[true],none,0,0,fun _ _=>true,none,[],[],[]⟩
theorem xZjr:xZis.Ok prog:=⟨Is.of (by kernel_rfl) (by kernel_rfl),by kernel_rfl,xZ5 sb_ok bo_ok,trivial,trivial,fun _=>by kernel_rfl⟩
theorem xZaW (N:Nat):xZ6m.Ok prog N:=xZjr.give tb_ok hm N N (fun _=>trivial) fun a r s h=>by
 exact s.main [] trivial (.trans (by kernel_rfl) h)
noncomputable def xZkH:Fn xZc5:=⟨f72,[],⟨[],[],sbf,bof⟩,fun _=>[xZ2S,xZ73,xZ4p,xZ6n,xZ6m,xZ72],[true],none,0,0,fun _ _=>true,none,[],[],[]⟩
theorem xZl8:xZkH.Ok prog:=⟨Is.of (by kernel_rfl) (by kernel_rfl),by kernel_rfl,xZ5 sb_ok bo_ok,trivial,trivial,fun _=>by kernel_rfl⟩
theorem xZkT (N:Nat):xZc5.Ok prog N:=xZl8.give tb_ok hm N N (fun _=>⟨xZ4Q N,xZcN N,xZ9u N,xZaX N,xZaW N,xZcM N,trivial⟩) fun a r s h=>by
 exact s.main [] trivial (.trans (by kernel_rfl) h)
noncomputable def xZfs:Fn xZ5N:=⟨f71,[],⟨[],[],sbf,bof⟩,fun _=>[xZ5e],[true],none,0,0,fun _ _=>true,none,[],[],[]⟩
theorem xZg5:xZfs.Ok prog:=⟨Is.of (by kernel_rfl) (by kernel_rfl),by kernel_rfl,xZ5 sb_ok bo_ok,trivial,trivial,fun _=>by kernel_rfl⟩
theorem xZbm (N:Nat):xZ5N.Ok prog N:=xZg5.give tb_ok hm N N (fun _=>⟨xZ9t N,trivial⟩) fun a r s h=>by
 exact s.main [] trivial (.trans (by kernel_rfl) h)
noncomputable def xZgJ:Fn xZ95:=⟨f74,[],⟨[],[],sbf,bof⟩,fun _=>[],[true],none,0,0,fun _ _=>true,none,[],[],[]⟩
theorem xZhF:xZgJ.Ok prog:=⟨Is.of (by kernel_rfl) (by kernel_rfl),by kernel_rfl,xZ5 sb_ok bo_ok,trivial,trivial,fun _=>by kernel_rfl⟩
theorem xZh6 (N:Nat):xZ95.Ok prog N:=xZhF.give tb_ok hm N N (fun _=>trivial) fun a r s h=>by
 exact s.main [] trivial (.trans (by kernel_rfl) h)
noncomputable def xZiv:Fn xZ8l:=⟨f48,[],⟨[],[],sbf,bof⟩,fun _=>[xZ4b,xZ4q,xZ8m,xZc5,xZ5N,xZ95],[true,true],none,0,0,fun _ _=>true,none,[],[],[]⟩
theorem xZju:xZiv.Ok prog:=⟨Is.of (by kernel_rfl) (by kernel_rfl),by kernel_rfl,xZ5 sb_ok bo_ok,trivial,trivial,fun _=>by kernel_rfl⟩
theorem xZdU (N:Nat):xZ8l.Ok prog N:=xZju.give tb_ok hm N N (fun _=>⟨xZ78 N,xZ8x N,xZdV N,xZkT N,xZbm N,xZh6 N,trivial⟩) fun a r s h=>by
 exact s.main [] trivial (.trans (by kernel_rfl) h)
noncomputable def xZkJ:Fn xZc6:=⟨f75,[],⟨[],[],sbf,bof⟩,fun _=>[xZ2S],[true],none,0,0,fun _ _=>true,none,[],[],[]⟩
theorem xZla:xZkJ.Ok prog:=⟨Is.of (by kernel_rfl) (by kernel_rfl),by kernel_rfl,xZ5 sb_ok bo_ok,trivial,trivial,fun _=>by kernel_rfl⟩
theorem xZkU (N:Nat):xZc6.Ok prog N:=xZla.give tb_ok hm N N (fun _=>⟨xZ4Q N,trivial⟩) fun a r s h=>by
 exact s.main [] trivial (.trans (by kernel_rfl) h)
noncomputable def xZgL:Fn xZ97:=⟨f49,[],⟨[],[],sbf,bof⟩,fun _=>[xZ4b,xZ8l,xZ4q,xZ8m,xZc6,xZ5N],[true,true],none,0,0,fun _ _=>true,none,[],[],[]⟩
theorem xZhH:xZgL.Ok prog:=⟨Is.of (by kernel_rfl) (by kernel_rfl),by kernel_rfl,xZ5 sb_ok bo_ok,trivial,trivial,fun _=>by kernel_rfl⟩
theorem xZh8 (N:Nat):xZ97.Ok prog N:=xZhH.give tb_ok hm N N (fun _=>⟨xZ78 N,xZdU N,xZ8x N,xZdV N,xZkU N,xZbm N,trivial⟩) fun a r s h=>by
 exact s.main [] trivial (.trans (by kernel_rfl) h)
noncomputable def xZiE:Fn xZ4O:=⟨f31,[],⟨[],[],sbf,bof⟩,fun _=>[xZ99,xZaI,xZ4O,xZ8o,xZ8l,xZ97],[true,true],none,0,0,fun _ _=>true,none,[],[],[]⟩
theorem xZek:xZiE.Ok prog:=⟨Is.of (by kernel_rfl) (by kernel_rfl),by kernel_rfl,xZ5 sb_ok bo_ok,trivial,trivial,fun _=>by kernel_rfl⟩
theorem xZcS:∀ N,xZ4O.Ok prog N
 | 0=>⟨xZek.is.enters,fun a r h=>by (have h:none=some r:=h;cases h)⟩
 | N+1=>by
   obtain h_ref20_side:=xZcS N
   ·exact xZek.give tb_ok hm N (N+1) (fun _=>⟨xZha N,xZiY N,h_ref20_side,xZdY N,xZdU N,xZh8 N,trivial⟩) fun a r s h=>by
     exact s.main [] trivial (.trans (by kernel_rfl) h)
theorem xZdZ (N:Nat):xZ4O.Ok prog N:=(xZcS N)
noncomputable def xZiD:Fn xZaJ:=⟨f16,[],⟨[],[],sbf,bof⟩,fun _=>[xZ74,xZ4O],[true,true],none,0,0,fun _ _=>true,none,[],[],[]⟩
theorem xZjB:xZiD.Ok prog:=⟨Is.of (by kernel_rfl) (by kernel_rfl),by kernel_rfl,xZ5 sb_ok bo_ok,trivial,trivial,fun _=>by kernel_rfl⟩
theorem xZiZ (N:Nat):xZaJ.Ok prog N:=xZjB.give tb_ok hm N N (fun _=>⟨xZcO N,xZdZ N,trivial⟩) fun a r s h=>by
 exact s.main [] trivial (.trans (by kernel_rfl) h)
noncomputable def xZ7X:Fn xZ12:=⟨f28,[],⟨[],[],sbf,bof⟩,fun _=>[xZ12,xZO],[true],none,1,0,fun _ _=>true,some EqR.cls,[],[],[]⟩
theorem xZ4g:xZ7X.Ok prog:=⟨Is.of (by kernel_rfl) (by kernel_rfl),by kernel_rfl,xZ5 sb_ok bo_ok,trivial,trivial,fun _=>by kernel_rfl⟩
theorem xZ3D:∀ N,xZ12.Ok prog N
 | 0=>⟨xZ4g.is.enters,fun a r h=>by (have h:none=some r:=h;cases h)⟩
 | N+1=>by
   obtain h_judge_reader_truth_v501:=xZ3D N
   ·exact xZ4g.give tb_ok hm N (N+1) (fun _=>⟨h_judge_reader_truth_v501,xZ4u N,trivial⟩) fun a r s h=>by
     exact s.main [] trivial (.trans (by kernel_rfl) h)
theorem xZ82 (N:Nat):xZ12.Ok prog N:=(xZ3D N)
noncomputable def xZin:Fn xZaD:=⟨f203,[],⟨[],[],sbf,bof⟩,fun _=>[xZbe],[true],none,0,0,fun _ _=>true,none,[],[],[]⟩
theorem xZjm:xZin.Ok prog:=⟨Is.of (by kernel_rfl) (by kernel_rfl),by kernel_rfl,xZ5 sb_ok bo_ok,trivial,trivial,fun _=>by kernel_rfl⟩
theorem xZiR (N:Nat):xZaD.Ok prog N:=xZjm.give tb_ok hm N N (fun _=>⟨xZfH N,trivial⟩) fun a r s h=>by
 exact s.main [] trivial (.trans (by kernel_rfl) h)
noncomputable def xZkF:Fn xZc3:=⟨f204,[],⟨[],[],sbf,bof⟩,fun _=>[xZbe],[true],none,0,0,fun _ _=>true,none,[],[],[]⟩
theorem xZl6:xZkF.Ok prog:=⟨Is.of (by kernel_rfl) (by kernel_rfl),by kernel_rfl,xZ5 sb_ok bo_ok,trivial,trivial,fun _=>by kernel_rfl⟩
theorem xZkR (N:Nat):xZc3.Ok prog N:=xZl6.give tb_ok hm N N (fun _=>⟨xZfH N,trivial⟩) fun a r s h=>by
 exact s.main [] trivial (.trans (by kernel_rfl) h)
noncomputable def xZd7:Fn xZ5B:=⟨f200,[],⟨[],[],sbf,bof⟩,fun _=>[xZaD,xZc3],[true,true],none,0,0,fun _ _=>true,none,[],[],[]⟩
theorem xZdi:xZd7.Ok prog:=⟨Is.of (by kernel_rfl) (by kernel_rfl),by kernel_rfl,xZ5 sb_ok bo_ok,trivial,trivial,fun _=>by kernel_rfl⟩
theorem xZdd (N:Nat):xZ5B.Ok prog N:=xZdi.give tb_ok hm N N (fun _=>⟨xZiR N,xZkR N,trivial⟩) fun a r s h=>by
 exact s.main [] trivial (.trans (by kernel_rfl) h)
noncomputable def xZd6:Fn xZ5A:=⟨f214,[],⟨[],[],sbf,bof⟩,fun _=>[],[true],none,0,0,fun _ _=>true,none,[],[],[]⟩
theorem xZdh:xZd6.Ok prog:=⟨Is.of (by kernel_rfl) (by kernel_rfl),by kernel_rfl,xZ5 sb_ok bo_ok,trivial,trivial,fun _=>by kernel_rfl⟩
theorem xZdc (N:Nat):xZ5A.Ok prog N:=xZdh.give tb_ok hm N N (fun _=>trivial) fun a r s h=>by
 exact s.main [] trivial (.trans (by kernel_rfl) h)
noncomputable def xZbf:Fn xZ4m:=⟨f207,[],⟨[],[],sbf,bof⟩,fun _=>[xZ5A],[true],none,0,0,fun _ _=>true,none,[],[],[]⟩
theorem xZbN:xZbf.Ok prog:=⟨Is.of (by kernel_rfl) (by kernel_rfl),by kernel_rfl,xZ5 sb_ok bo_ok,trivial,trivial,fun _=>by kernel_rfl⟩
theorem xZbk (N:Nat):xZ4m.Ok prog N:=xZbN.give tb_ok hm N N (fun _=>⟨xZdc N,trivial⟩) fun a r s h=>by
 exact s.main [] trivial (.trans (by kernel_rfl) h)
noncomputable def xZev:Fn xZ7p:=⟨f215,[],⟨[],[],sbf,bof⟩,fun _=>[],[true],none,0,0,fun _ _=>true,none,[],[],[]⟩
theorem xZeO:xZev.Ok prog:=⟨Is.of (by kernel_rfl) (by kernel_rfl),by kernel_rfl,xZ5 sb_ok bo_ok,trivial,trivial,fun _=>by kernel_rfl⟩
theorem xZeD (N:Nat):xZ7p.Ok prog N:=xZeO.give tb_ok hm N N (fun _=>trivial) fun a r s h=>by
 exact s.main [] trivial (.trans (by kernel_rfl) h)
noncomputable def xZd5:Fn xZ5z:=⟨f208,[],⟨[],[],sbf,bof⟩,fun _=>[xZ7p],[true],none,0,0,fun _ _=>true,none,[],[],[]⟩
theorem xZdg:xZd5.Ok prog:=⟨Is.of (by kernel_rfl) (by kernel_rfl),by kernel_rfl,xZ5 sb_ok bo_ok,trivial,trivial,fun _=>by kernel_rfl⟩
theorem xZdb (N:Nat):xZ5z.Ok prog N:=xZdg.give tb_ok hm N N (fun _=>⟨xZeD N,trivial⟩) fun a r s h=>by
 exact s.main [] trivial (.trans (by kernel_rfl) h)
noncomputable def xZkG:Fn xZc4:=⟨f210,[],⟨[],[],sbf,bof⟩,fun _=>[xZ4N],[true],none,0,0,fun _ _=>true,none,[],[],[]⟩
theorem xZl7:xZkG.Ok prog:=⟨Is.of (by kernel_rfl) (by kernel_rfl),by kernel_rfl,xZ5 sb_ok bo_ok,trivial,trivial,fun _=>by kernel_rfl⟩
theorem xZkS (N:Nat):xZc4.Ok prog N:=xZl7.give tb_ok hm N N (fun _=>⟨xZ8w N,trivial⟩) fun a r s h=>by
 exact s.main [] trivial (.trans (by kernel_rfl) h)
end
end
end Go.Proofs.YtbanfalnbhcknaaGreatDoor.H
