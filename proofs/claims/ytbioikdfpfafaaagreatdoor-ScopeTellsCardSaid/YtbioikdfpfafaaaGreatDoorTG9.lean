/- The code, and what each function of it is walked to. No premise beyond what each theorem says. -/
import Derived.Test.YtbioikdfpfafaaaGreatDoorTG8
set_option linter.all false
set_option linter.unusedSimpArgs false
set_option linter.unusedVariables false
namespace Go.Proofs.YtbioikdfpfafaaaGreatDoor.T
open Go
section
open Go.Proofs.Tryz
set_option maxRecDepth 1000000
noncomputable section
noncomputable def xZj9:Fn xZbC:=⟨f209,[],⟨[],[],sbf,bof⟩,fun _=>[xZcE,xZbo],[true],none,0,0,fun _ _=>true,none,[],[]⟩
theorem xZj2:xZj9.Ok prog:=⟨Is.of (by kernel_rfl) (by kernel_rfl),by kernel_rfl,xZ4 sb_ok bo_ok,trivial,trivial,fun _=>by kernel_rfl⟩
theorem xZjF (N:Nat):xZbC.Ok prog N:=xZj2.give tb_ok hm N N (fun _=>⟨xZlt N,xZjN N,trivial⟩) fun a r s h=>by
 exact s.main [] trivial (.trans (by kernel_rfl) h)
noncomputable def xZhg:Fn xZao:=⟨f205,[],⟨[],[],sbf,bof⟩,fun _=>[xZbC],[true],none,0,0,fun _ _=>true,none,[],[]⟩
theorem xZhe:xZhg.Ok prog:=⟨Is.of (by kernel_rfl) (by kernel_rfl),by kernel_rfl,xZ4 sb_ok bo_ok,trivial,trivial,fun _=>by kernel_rfl⟩
theorem xZhj (N:Nat):xZao.Ok prog N:=xZhe.give tb_ok hm N N (fun _=>⟨xZjF N,trivial⟩) fun a r s h=>by
 exact s.main [] trivial (.trans (by kernel_rfl) h)
noncomputable def xZii:Fn xZ9L:=⟨f200,[],⟨[],[],sbf,bof⟩,fun _=>[xZao],[true],none,0,0,fun _ _=>true,none,[],[]⟩
theorem xZhv:xZii.Ok prog:=⟨Is.of (by kernel_rfl) (by kernel_rfl),by kernel_rfl,xZ4 sb_ok bo_ok,trivial,trivial,fun _=>by kernel_rfl⟩
theorem xZhU (N:Nat):xZ9L.Ok prog N:=xZhv.give tb_ok hm N N (fun _=>⟨xZhj N,trivial⟩) fun a r s h=>by
 exact s.main [] trivial (.trans (by kernel_rfl) h)
noncomputable def xZim:Fn xZ9K:=⟨f190,[],⟨[],[],sbf,bof⟩,fun _=>[xZ4R,xZ9L],[true],none,0,0,fun _ _=>true,none,[],[114]⟩
theorem xZhV:xZim.Ok prog:=⟨Is.of (by kernel_rfl) (by kernel_rfl),by kernel_rfl,xZ4 sb_ok bo_ok,trivial,trivial,fun _=>by kernel_rfl⟩
theorem xZiE (N:Nat):xZ9K.Ok prog N:=xZhV.give tb_ok hm N N (fun _=>⟨xZ9n N,xZhU N,trivial⟩) fun a r s h=>by
 have lj2:=s.jn 1000114 xZaq (xZ9E N) [] trivial (by kernel_rfl) (fun x=>by kernel_rfl)
 exact s.main [(1000114,.of xZaq (xZ9E N))] ⟨lj2,trivial⟩ (.trans (by kernel_rfl) h)
noncomputable def xZiK:Fn xZbs:=⟨f191,[],⟨[],[],sbf,bof⟩,fun _=>[],[true],none,0,0,fun _ _=>true,none,[],[]⟩
theorem xZj0:xZiK.Ok prog:=⟨Is.of (by kernel_rfl) (by kernel_rfl),by kernel_rfl,xZ4 sb_ok bo_ok,trivial,trivial,fun _=>by kernel_rfl⟩
theorem xZjd (N:Nat):xZbs.Ok prog N:=xZj0.give tb_ok hm N N (fun _=>trivial) fun a r s h=>by
 exact s.main [] trivial (.trans (by kernel_rfl) h)
noncomputable def xZlD:Fn xZcz:=⟨f192,[],⟨[],[],sbf,bof⟩,fun _=>[],[true],none,0,0,fun _ _=>true,none,[],[]⟩
theorem xZlk:xZlD.Ok prog:=⟨Is.of (by kernel_rfl) (by kernel_rfl),by kernel_rfl,xZ4 sb_ok bo_ok,trivial,trivial,fun _=>by kernel_rfl⟩
theorem xZlF (N:Nat):xZcz.Ok prog N:=xZlk.give tb_ok hm N N (fun _=>trivial) fun a r s h=>by
 exact s.main [] trivial (.trans (by kernel_rfl) h)
noncomputable def xZku:Fn xZ6y:=⟨f171,[],⟨[],[],sbf,bof⟩,fun _=>[xZcC,xZ9K,xZbs,xZcz,xZ6y],[true,true],none,0,0,fun _ _=>true,none,[],[]⟩
theorem xZf8:xZku.Ok prog:=⟨Is.of (by kernel_rfl) (by kernel_rfl),by kernel_rfl,xZ4 sb_ok bo_ok,trivial,trivial,fun _=>by kernel_rfl⟩
theorem xZdf:∀ N,xZ6y.Ok prog N
 | 0=>⟨xZf8.is.enters,fun a r h=>by (have h:none=some r:=h;cases h)⟩
 | N+1=>by
   obtain h_ref11_tree:=xZdf N
   ·exact xZf8.give tb_ok hm N (N+1) (fun _=>⟨xZlH N,xZiE N,xZjd N,xZlF N,h_ref11_tree,trivial⟩) fun a r s h=>by
     have l0:=s.loop 0 xZ6f (xZci N) N fun next0 h0=>by
      exact fun c v=>s.seg 0 xZ6f [(0,.of xZ6f next0)] ⟨h0,trivial⟩ (by kernel_rfl) (by kernel_rfl)
     exact s.main [(0,.of xZ6f (xZgB N))] ⟨l0,trivial⟩ (.trans (by kernel_rfl) h)
theorem xZjX (N:Nat):xZ6y.Ok prog N:=(xZdf N)
noncomputable def xZhM:Fn xZac:=⟨f145,[],⟨[],[],sbf,bof⟩,fun _=>[xZ6y],[true],none,0,0,fun _ _=>true,none,[],[]⟩
theorem xZhY:xZhM.Ok prog:=⟨Is.of (by kernel_rfl) (by kernel_rfl),by kernel_rfl,xZ4 sb_ok bo_ok,trivial,trivial,fun _=>by kernel_rfl⟩
theorem xZhx (N:Nat):xZac.Ok prog N:=xZhY.give tb_ok hm N N (fun _=>⟨xZjX N,trivial⟩) fun a r s h=>by
 exact s.main [] trivial (.trans (by kernel_rfl) h)
noncomputable def xZhH:Fn xZ9G:=⟨f105,[],⟨[],[],sbf,bof⟩,fun _=>[xZ4R,xZac],[true],none,0,0,fun _ _=>true,none,[],[26,42,63,163,201]⟩
theorem xZif:xZhH.Ok prog:=⟨Is.of (by kernel_rfl) (by kernel_rfl),by kernel_rfl,xZ4 sb_ok bo_ok,trivial,trivial,fun _=>by kernel_rfl⟩
theorem xZiJ (N:Nat):xZ9G.Ok prog N:=xZif.give tb_ok hm N N (fun _=>⟨xZ9n N,xZhx N,trivial⟩) fun a r s h=>by
 have lj4:=s.jn 1000201 xZa2 (xZah N) [] trivial (by kernel_rfl) (fun x=>by kernel_rfl)
 have lj3:=s.jn 1000163 xZ9X (xZag N) [(1000201,.of xZa2 (xZah N))] ⟨lj4,trivial⟩ (by kernel_rfl) (fun x=>by kernel_rfl)
 have lj2:=s.jn 1000063 xZ9P (xZa6 N) [(1000163,.of xZ9X (xZag N))] ⟨lj3,trivial⟩ (by kernel_rfl) (fun x=>by kernel_rfl)
 have lj1:=s.jn 1000042 xZ9D (xZa3 N) [(1000063,.of xZ9P (xZa6 N))] ⟨lj2,trivial⟩ (by kernel_rfl) (fun x=>by kernel_rfl)
 have lj0:=s.jn 1000026 xZ9F (xZaf N) [(1000042,.of xZ9D (xZa3 N))] ⟨lj1,trivial⟩ (by kernel_rfl) (fun x=>by kernel_rfl)
 exact s.main [(1000026,.of xZ9F (xZaf N))] ⟨lj0,trivial⟩ (.trans (by kernel_rfl) h)
noncomputable def xZkf:Fn xZ6w:=⟨f106,[],⟨[],[],sbf,bof⟩,fun _=>[],[true],none,0,0,fun _ _=>true,none,[],[]⟩
theorem xZjb:xZkf.Ok prog:=⟨Is.of (by kernel_rfl) (by kernel_rfl),by kernel_rfl,xZ4 sb_ok bo_ok,trivial,trivial,fun _=>by kernel_rfl⟩
theorem xZaZ (N:Nat):xZ6w.Ok prog N:=xZjb.give tb_ok hm N N (fun _=>trivial) fun a r s h=>by
 exact s.main [] trivial (.trans (by kernel_rfl) h)
noncomputable def xZiS:Fn xZ6s:=⟨f60,[],⟨[],[],sbf,bof⟩,fun _=>[xZ9G,xZ6w,xZ6s],[true,true],none,0,0,fun _ _=>true,none,[],[]⟩
theorem xZeZ:xZiS.Ok prog:=⟨Is.of (by kernel_rfl) (by kernel_rfl),by kernel_rfl,xZ4 sb_ok bo_ok,trivial,trivial,fun _=>by kernel_rfl⟩
theorem xZdC:∀ N,xZ6s.Ok prog N
 | 0=>⟨xZeZ.is.enters,fun a r h=>by (have h:none=some r:=h;cases h)⟩
 | N+1=>by
   obtain h_ref13_tree:=xZdC N
   ·exact xZeZ.give tb_ok hm N (N+1) (fun _=>⟨xZiJ N,xZaZ N,h_ref13_tree,trivial⟩) fun a r s h=>by
     have l0:=s.loop 0 xZ5Y (xZck N) N fun next0 h0=>by
      exact fun c v=>s.seg 0 xZ5Y [(0,.of xZ5Y next0)] ⟨h0,trivial⟩ (by kernel_rfl) (by kernel_rfl)
     exact s.main [(0,.of xZ5Y (xZgy N))] ⟨l0,trivial⟩ (.trans (by kernel_rfl) h)
theorem xZjH (N:Nat):xZ6s.Ok prog N:=(xZdC N)
noncomputable def xZjv:Fn xZbd:=⟨f62,[],⟨[],[],sbf,bof⟩,fun _=>[],[true],none,0,0,fun _ _=>true,none,[],[]⟩
theorem xZiX:xZjv.Ok prog:=⟨Is.of (by kernel_rfl) (by kernel_rfl),by kernel_rfl,xZ4 sb_ok bo_ok,trivial,trivial,fun _=>by kernel_rfl⟩
theorem xZjT (N:Nat):xZbd.Ok prog N:=xZiX.give tb_ok hm N N (fun _=>trivial) fun a r s h=>by
 exact s.main [] trivial (.trans (by kernel_rfl) h)
noncomputable def xZiA:Fn xZ7m:=⟨f32,[],⟨[],[],sbf,bof⟩,fun _=>[xZ6s,xZ4R,xZbd],[true],none,0,0,fun _ _=>true,none,[],[]⟩
theorem xZin:xZiA.Ok prog:=⟨Is.of (by kernel_rfl) (by kernel_rfl),by kernel_rfl,xZ4 sb_ok bo_ok,trivial,trivial,fun _=>by kernel_rfl⟩
theorem xZdH (N:Nat):xZ7m.Ok prog N:=xZin.give tb_ok hm N N (fun _=>⟨xZjH N,xZ9n N,xZjT N,trivial⟩) fun a r s h=>by
 exact s.main [] trivial (.trans (by kernel_rfl) h)
noncomputable def xZkz:Fn xZb7:=⟨f108,[],⟨[],[],sbf,bof⟩,fun _=>[],[true],none,0,0,fun _ _=>true,none,[],[]⟩
theorem xZjG:xZkz.Ok prog:=⟨Is.of (by kernel_rfl) (by kernel_rfl),by kernel_rfl,xZ4 sb_ok bo_ok,trivial,trivial,fun _=>by kernel_rfl⟩
theorem xZkA (N:Nat):xZb7.Ok prog N:=xZjG.give tb_ok hm N N (fun _=>trivial) fun a r s h=>by
 exact s.main [] trivial (.trans (by kernel_rfl) h)
noncomputable def xZlY:Fn xZcG:=⟨f63,[],⟨[],[],sbf,bof⟩,fun _=>[xZ4R,xZb7],[true],none,0,0,fun _ _=>true,none,[],[]⟩
theorem xZlW:xZlY.Ok prog:=⟨Is.of (by kernel_rfl) (by kernel_rfl),by kernel_rfl,xZ4 sb_ok bo_ok,trivial,trivial,fun _=>by kernel_rfl⟩
theorem xZm4 (N:Nat):xZcG.Ok prog N:=xZlW.give tb_ok hm N N (fun _=>⟨xZ9n N,xZkA N,trivial⟩) fun a r s h=>by
 have l0:=s.loop 0 xZ5o (xZdh N) N fun next0 h0=>by
  have l2:=s.loop 2 xZ7B (xZdA N next0) N fun next2 h2=>by
   exact fun c v=>s.seg 2 xZ7B [(0,.of xZ5o next0),(2,.of xZ7B next2)] ⟨h0,h2,trivial⟩ (by kernel_rfl) (by kernel_rfl)
  exact fun c v=>s.seg 0 xZ5o [(0,.of xZ5o next0),(2,.of xZ7B (xZhy N next0))] ⟨h0,l2,trivial⟩ (by kernel_rfl) (by kernel_rfl)
 exact s.main [(0,.of xZ5o (xZhr N))] ⟨l0,trivial⟩ (.trans (by kernel_rfl) h)
noncomputable def xZhd:Fn xZal:=⟨f33,[],⟨[],[],sbf,bof⟩,fun _=>[xZcG],[true],none,0,0,fun _ _=>true,none,[],[]⟩
theorem xZhR:xZhd.Ok prog:=⟨Is.of (by kernel_rfl) (by kernel_rfl),by kernel_rfl,xZ4 sb_ok bo_ok,trivial,trivial,fun _=>by kernel_rfl⟩
theorem xZha (N:Nat):xZal.Ok prog N:=xZhR.give tb_ok hm N N (fun _=>⟨xZm4 N,trivial⟩) fun a r s h=>by
 have l0:=s.loop 0 xZ3u (xZaM N) N fun next0 h0=>by
  have l2:=s.loop 2 xZ52 (xZaH N next0) N fun next2 h2=>by
   exact fun c v=>s.seg 2 xZ52 [(0,.of xZ3u next0),(2,.of xZ52 next2)] ⟨h0,h2,trivial⟩ (by kernel_rfl) (by kernel_rfl)
  exact fun c v=>s.seg 0 xZ3u [(0,.of xZ3u next0),(2,.of xZ52 (xZfn N next0))] ⟨h0,l2,trivial⟩ (by kernel_rfl) (by kernel_rfl)
 exact s.main [(0,.of xZ3u (xZfC N))] ⟨l0,trivial⟩ (.trans (by kernel_rfl) h)
end
end
section
open Go.Proofs.Tryz
set_option maxRecDepth 1000000
noncomputable section
noncomputable def xZj3:Fn xZ2W:=⟨f34,[],⟨[],[],sbf,bof⟩,fun _=>[],[true],none,0,0,fun _ _=>true,none,[],[]⟩
theorem xZkj:xZj3.Ok prog:=⟨Is.of (by kernel_rfl) (by kernel_rfl),by kernel_rfl,xZ4 sb_ok bo_ok,trivial,trivial,fun _=>by kernel_rfl⟩
theorem xZ4U (N:Nat):xZ2W.Ok prog N:=xZkj.give tb_ok hm N N (fun _=>trivial) fun a r s h=>by
 exact s.main [] trivial (.trans (by kernel_rfl) h)
noncomputable def xZiO:Fn xZ6t:=⟨f64,[],⟨[],[],sbf,bof⟩,fun _=>[],[true,true],none,0,0,fun _ _=>true,none,[],[]⟩
theorem xZiU:xZiO.Ok prog:=⟨Is.of (by kernel_rfl) (by kernel_rfl),by kernel_rfl,xZ4 sb_ok bo_ok,trivial,trivial,fun _=>by kernel_rfl⟩
theorem xZbn (N:Nat):xZ6t.Ok prog N:=xZiU.give tb_ok hm N N (fun _=>trivial) fun a r s h=>by
 have l0:=s.loop 0 xZ5N (xZce N) N fun next0 h0=>by
  exact fun c v=>s.seg 0 xZ5N [(0,.of xZ5N next0)] ⟨h0,trivial⟩ (by kernel_rfl) (by kernel_rfl)
 exact s.main [(0,.of xZ5N (xZgs N))] ⟨l0,trivial⟩ (.trans (by kernel_rfl) h)
noncomputable def xZn3:Fn xZct:=⟨f65,[],⟨[],[],sbf,bof⟩,fun _=>[],[true,true],none,0,0,fun _ _=>true,none,[],[]⟩
theorem xZmB:xZn3.Ok prog:=⟨Is.of (by kernel_rfl) (by kernel_rfl),by kernel_rfl,xZ4 sb_ok bo_ok,trivial,trivial,fun _=>by kernel_rfl⟩
theorem xZih (N:Nat):xZct.Ok prog N:=xZmB.give tb_ok hm N N (fun _=>trivial) fun a r s h=>by
 have l0:=s.loop 0 xZ96 (xZes N) N fun next0 h0=>by
  exact fun c v=>s.seg 0 xZ96 [(0,.of xZ96 next0)] ⟨h0,trivial⟩ (by kernel_rfl) (by kernel_rfl)
 exact s.main [(0,.of xZ96 (xZjg N))] ⟨l0,trivial⟩ (.trans (by kernel_rfl) h)
noncomputable def xZhm:Fn xZaj:=⟨f35,[],⟨[],[],sbf,bof⟩,fun _=>[xZ2W,xZ6t,xZct],[true],none,0,0,fun _ _=>true,none,[],[]⟩
theorem xZhI:xZhm.Ok prog:=⟨Is.of (by kernel_rfl) (by kernel_rfl),by kernel_rfl,xZ4 sb_ok bo_ok,trivial,trivial,fun _=>by kernel_rfl⟩
theorem xZip (N:Nat):xZaj.Ok prog N:=xZhI.give tb_ok hm N N (fun _=>⟨xZ4U N,xZbn N,xZih N,trivial⟩) fun a r s h=>by
 have l0:=s.loop 0 xZ5j (xZaO N) N fun next0 h0=>by
  exact fun c v=>s.seg 0 xZ5j [(0,.of xZ5j next0)] ⟨h0,trivial⟩ (by kernel_rfl) (by kernel_rfl)
 exact s.main [(0,.of xZ5j (xZfr N))] ⟨l0,trivial⟩ (.trans (by kernel_rfl) h)
noncomputable def xZj4:Fn xZb3:=⟨f75,[],⟨[(40,1)],[],sbf,bof⟩,fun _=>[],[true],none,0,0,fun _ _=>true,none,[],[]⟩
theorem xZka:xZj4.Ok prog:=⟨Is.of (by kernel_rfl) (by kernel_rfl),by kernel_rfl,xZ4 sb_ok bo_ok,trivial,trivial,fun _=>by kernel_rfl⟩
theorem xZkl (N:Nat):xZb3.Ok prog N:=xZka.give tb_ok hm N N (fun _=>trivial) fun a r s h=>by
 have l0:=s.loop 0 xZ63 (xZbS N) N fun next0 h0=>by
  exact fun c v=>s.seg 0 xZ63 [(0,.of xZ63 next0)] ⟨h0,trivial⟩ (by kernel_rfl) (by kernel_rfl)
 exact s.main [(0,.of xZ63 (xZgP N))] ⟨l0,trivial⟩ (.trans (by kernel_rfl) h)
noncomputable def xZjJ:Fn xZb2:=⟨f112,[],⟨[],[],sbf,bof⟩,fun _=>[xZ6w],[true],none,0,0,fun _ _=>true,none,[],[]⟩
theorem xZjm:xZjJ.Ok prog:=⟨Is.of (by kernel_rfl) (by kernel_rfl),by kernel_rfl,xZ4 sb_ok bo_ok,trivial,trivial,fun _=>by kernel_rfl⟩
theorem xZiP (N:Nat):xZb2.Ok prog N:=xZjm.give tb_ok hm N N (fun _=>⟨xZaZ N,trivial⟩) fun a r s h=>by
 have l0:=s.loop 0 xZ6d (xZbL N) N fun next0 h0=>by
  exact fun c v=>s.seg 0 xZ6d [(0,.of xZ6d next0)] ⟨h0,trivial⟩ (by kernel_rfl) (by kernel_rfl)
 exact s.main [(0,.of xZ6d (xZh5 N))] ⟨l0,trivial⟩ (.trans (by kernel_rfl) h)
noncomputable def xZkv:Fn xZ6E:=⟨f72,[],⟨[(21,0)],[],sbf,bof⟩,fun _=>[xZ6w,xZb2],[true],none,0,0,fun _ _=>true,none,[],[]⟩
theorem xZkg:xZkv.Ok prog:=⟨Is.of (by kernel_rfl) (by kernel_rfl),by kernel_rfl,xZ4 sb_ok bo_ok,trivial,trivial,fun _=>by kernel_rfl⟩
theorem xZbr (N:Nat):xZ6E.Ok prog N:=xZkg.give tb_ok hm N N (fun _=>⟨xZaZ N,xZiP N,trivial⟩) fun a r s h=>by
 have l0:=s.loop 0 xZ6a (xZbX N) N fun next0 h0=>by
  exact fun c v=>s.seg 0 xZ6a [(0,.of xZ6a next0)] ⟨h0,trivial⟩ (by kernel_rfl) (by kernel_rfl)
 exact s.main [(0,.of xZ6a (xZgz N))] ⟨l0,trivial⟩ (.trans (by kernel_rfl) h)
noncomputable def xZlx:Fn xZaB:=⟨f66,[],⟨[],[],sbf,bof⟩,fun _=>[],[true],none,0,0,fun _ _=>true,none,[],[]⟩
theorem xZlL:xZlx.Ok prog:=⟨Is.of (by kernel_rfl) (by kernel_rfl),by kernel_rfl,xZ4 sb_ok bo_ok,trivial,trivial,fun _=>by kernel_rfl⟩
theorem xZfV (N:Nat):xZaB.Ok prog N:=xZlL.give tb_ok hm N N (fun _=>trivial) fun a r s h=>by
 have l0:=s.loop 0 xZ7o (xZdk N) N fun next0 h0=>by
  exact fun c v=>s.seg 0 xZ7o [(0,.of xZ7o next0)] ⟨h0,trivial⟩ (by kernel_rfl) (by kernel_rfl)
 exact s.main [(0,.of xZ7o (xZhb N))] ⟨l0,trivial⟩ (.trans (by kernel_rfl) h)
noncomputable def xZiW:Fn xZbt:=⟨f76,[],⟨[(24,1)],[],sbf,bof⟩,fun _=>[xZaB],[true],none,0,0,fun _ _=>true,none,[],[]⟩
theorem xZkw:xZiW.Ok prog:=⟨Is.of (by kernel_rfl) (by kernel_rfl),by kernel_rfl,xZ4 sb_ok bo_ok,trivial,trivial,fun _=>by kernel_rfl⟩
theorem xZjC (N:Nat):xZbt.Ok prog N:=xZkw.give tb_ok hm N N (fun _=>⟨xZfV N,trivial⟩) fun a r s h=>by
 have l0:=s.loop 0 xZ6g (xZbO N) N fun next0 h0=>by
  exact fun c v=>s.seg 0 xZ6g [(0,.of xZ6g next0)] ⟨h0,trivial⟩ (by kernel_rfl) (by kernel_rfl)
 exact s.main [(0,.of xZ6g (xZgx N))] ⟨l0,trivial⟩ (.trans (by kernel_rfl) h)
noncomputable def xZfg:Fn xZ3w:=⟨f40,[],⟨[],[],sbf,bof⟩,fun _=>[xZ2W,xZb3,xZ6E,xZ3w,xZbt],[true,true,true],none,0,0,fun _ _=>true,none,[],[]⟩
theorem xZaY:xZfg.Ok prog:=⟨Is.of (by kernel_rfl) (by kernel_rfl),by kernel_rfl,xZ4 sb_ok bo_ok,trivial,trivial,fun _=>by kernel_rfl⟩
theorem xZ9O:∀ N,xZ3w.Ok prog N
 | 0=>⟨xZaY.is.enters,fun a r h=>by (have h:none=some r:=h;cases h)⟩
 | N+1=>by
   obtain h_ref15_through:=xZ9O N
   ·exact xZaY.give tb_ok hm N (N+1) (fun _=>⟨xZ4U N,xZkl N,xZbr N,h_ref15_through,xZjC N,trivial⟩) fun a r s h=>by
     have l0:=s.loop 0 xZ3F (xZ9v N) N fun next0 h0=>by
      exact fun c v=>s.seg 0 xZ3F [(0,.of xZ3F next0)] ⟨h0,trivial⟩ (by kernel_rfl) (by kernel_rfl)
     exact s.main [(0,.of xZ3F (xZe8 N))] ⟨l0,trivial⟩ (.trans (by kernel_rfl) h)
theorem xZfF (N:Nat):xZ3w.Ok prog N:=(xZ9O N)
noncomputable def xZiG:Fn xZ7t:=⟨f16,[],⟨[],[],sbf,bof⟩,fun _=>[xZ7m,xZ2W,xZ3w],[true],none,0,0,fun _ _=>true,none,[],[]⟩
theorem xZhO:xZiG.Ok prog:=⟨Is.of (by kernel_rfl) (by kernel_rfl),by kernel_rfl,xZ4 sb_ok bo_ok,trivial,trivial,fun _=>by kernel_rfl⟩
theorem xZdu (N:Nat):xZ7t.Ok prog N:=xZhO.give tb_ok hm N N (fun _=>⟨xZdH N,xZ4U N,xZfF N,trivial⟩) fun a r s h=>by
 exact s.main [] trivial (.trans (by kernel_rfl) h)
noncomputable def xZgC:Fn xZ9f:=⟨f109,[],⟨[],[],sbf,bof⟩,fun _=>[xZ6t],[true],none,0,0,fun _ _=>true,none,[],[]⟩
theorem xZg7:xZgC.Ok prog:=⟨Is.of (by kernel_rfl) (by kernel_rfl),by kernel_rfl,xZ4 sb_ok bo_ok,trivial,trivial,fun _=>by kernel_rfl⟩
theorem xZgJ (N:Nat):xZ9f.Ok prog N:=xZg7.give tb_ok hm N N (fun _=>⟨xZbn N,trivial⟩) fun a r s h=>by
 have l0:=s.loop 0 xZ4m (xZ9M N) N fun next0 h0=>by
  exact fun c v=>s.seg 0 xZ4m [(0,.of xZ4m next0)] ⟨h0,trivial⟩ (by kernel_rfl) (by kernel_rfl)
 exact s.main [(0,.of xZ4m (xZfc N))] ⟨l0,trivial⟩ (.trans (by kernel_rfl) h)
noncomputable def xZhG:Fn xZ7a:=⟨f67,[],⟨[],[],sbf,bof⟩,fun _=>[xZ6t,xZ9f,xZct],[true],none,0,0,fun _ _=>true,none,[],[]⟩
theorem xZis:xZhG.Ok prog:=⟨Is.of (by kernel_rfl) (by kernel_rfl),by kernel_rfl,xZ4 sb_ok bo_ok,trivial,trivial,fun _=>by kernel_rfl⟩
theorem xZdq (N:Nat):xZ7a.Ok prog N:=xZis.give tb_ok hm N N (fun _=>⟨xZbn N,xZgJ N,xZih N,trivial⟩) fun a r s h=>by
 exact s.main [] trivial (.trans (by kernel_rfl) h)
noncomputable def xZgI:Fn xZ69:=⟨f111,[],⟨[],[],sbf,bof⟩,fun _=>[],[true],none,0,0,fun _ _=>true,none,[],[]⟩
theorem xZgd:xZgI.Ok prog:=⟨Is.of (by kernel_rfl) (by kernel_rfl),by kernel_rfl,xZ4 sb_ok bo_ok,trivial,trivial,fun _=>by kernel_rfl⟩
theorem xZc9 (N:Nat):xZ69.Ok prog N:=xZgd.give tb_ok hm N N (fun _=>trivial) fun a r s h=>by
 exact s.main [] trivial (.trans (by kernel_rfl) h)
noncomputable def xZlQ:Fn xZdc:=⟨f110,[],⟨[],[],sbf,bof⟩,fun _=>[xZ69],[true],none,0,0,fun _ _=>true,none,[],[]⟩
theorem xZlZ:xZlQ.Ok prog:=⟨Is.of (by kernel_rfl) (by kernel_rfl),by kernel_rfl,xZ4 sb_ok bo_ok,trivial,trivial,fun _=>by kernel_rfl⟩
theorem xZlX (N:Nat):xZdc.Ok prog N:=xZlZ.give tb_ok hm N N (fun _=>⟨xZc9 N,trivial⟩) fun a r s h=>by
 exact s.main [] trivial (.trans (by kernel_rfl) h)
noncomputable def xZiY:Fn xZ6q:=⟨f68,[],⟨[],[],sbf,bof⟩,fun _=>[xZ7a,xZ6q,xZdc],[true,true],none,0,0,fun _ _=>true,none,[],[]⟩
theorem xZeq:xZiY.Ok prog:=⟨Is.of (by kernel_rfl) (by kernel_rfl),by kernel_rfl,xZ4 sb_ok bo_ok,trivial,trivial,fun _=>by kernel_rfl⟩
theorem xZdz:∀ N,xZ6q.Ok prog N
 | 0=>⟨xZeq.is.enters,fun a r h=>by (have h:none=some r:=h;cases h)⟩
 | N+1=>by
   obtain h_ref15_side:=xZdz N
   ·exact xZeq.give tb_ok hm N (N+1) (fun _=>⟨xZdq N,h_ref15_side,xZlX N,trivial⟩) fun a r s h=>by
     exact s.main [] trivial (.trans (by kernel_rfl) h)
theorem xZjp (N:Nat):xZ6q.Ok prog N:=(xZdz N)
end
end
section
open Go.Proofs.Tryz
set_option maxRecDepth 1000000
noncomputable section
noncomputable def xZkp:Fn xZbx:=⟨f69,[],⟨[],[],sbf,bof⟩,fun _=>[xZ69],[true],none,0,0,fun _ _=>true,none,[],[]⟩
theorem xZkn:xZkp.Ok prog:=⟨Is.of (by kernel_rfl) (by kernel_rfl),by kernel_rfl,xZ4 sb_ok bo_ok,trivial,trivial,fun _=>by kernel_rfl⟩
theorem xZkr (N:Nat):xZbx.Ok prog N:=xZkn.give tb_ok hm N N (fun _=>⟨xZc9 N,trivial⟩) fun a r s h=>by
 exact s.main [] trivial (.trans (by kernel_rfl) h)
noncomputable def xZjs:Fn xZbk:=⟨f36,[],⟨[],[],sbf,bof⟩,fun _=>[xZ7t,xZaB,xZ7a,xZ6q,xZbx],[true],none,0,0,fun _ _=>true,none,[],[]⟩
theorem xZjU:xZjs.Ok prog:=⟨Is.of (by kernel_rfl) (by kernel_rfl),by kernel_rfl,xZ4 sb_ok bo_ok,trivial,trivial,fun _=>by kernel_rfl⟩
theorem xZjP (N:Nat):xZbk.Ok prog N:=xZjU.give tb_ok hm N N (fun _=>⟨xZdu N,xZfV N,xZdq N,xZjp N,xZkr N,trivial⟩) fun a r s h=>by
 have l2:=s.loop 2 xZ62 (xZbH N) N fun next2 h2=>by
  exact fun c v=>s.seg 2 xZ62 [(2,.of xZ62 next2)] ⟨h2,trivial⟩ (by kernel_rfl) (by kernel_rfl)
 have l0:=s.loop 0 xZ5X (xZbU N) N fun next0 h0=>by
  exact fun c v=>s.seg 0 xZ5X [(0,.of xZ5X next0),(2,.of xZ62 (xZga N))] ⟨h0,l2,trivial⟩ (by kernel_rfl) (by kernel_rfl)
 exact s.main [(0,.of xZ5X (xZh0 N))] ⟨l0,trivial⟩ (.trans (by kernel_rfl) h)
noncomputable def xZi7:Fn xZ3Y:=⟨f38,[],⟨[],[],sbf,bof⟩,fun _=>[xZ2W,xZ3Y,xZ6E],[true],none,0,0,fun _ _=>true,none,[],[]⟩
theorem xZdo:xZi7.Ok prog:=⟨Is.of (by kernel_rfl) (by kernel_rfl),by kernel_rfl,xZ4 sb_ok bo_ok,trivial,trivial,fun _=>by kernel_rfl⟩
theorem xZcj:∀ N,xZ3Y.Ok prog N
 | 0=>⟨xZdo.is.enters,fun a r h=>by (have h:none=some r:=h;cases h)⟩
 | N+1=>by
   obtain h_ref15_Empty:=xZcj N
   ·exact xZdo.give tb_ok hm N (N+1) (fun _=>⟨xZ4U N,h_ref15_Empty,xZbr N,trivial⟩) fun a r s h=>by
     have l0:=s.loop 0 xZ5a (xZaI N) N fun next0 h0=>by
      exact fun c v=>s.seg 0 xZ5a [(0,.of xZ5a next0)] ⟨h0,trivial⟩ (by kernel_rfl) (by kernel_rfl)
     exact s.main [(0,.of xZ5a (xZfo N))] ⟨l0,trivial⟩ (.trans (by kernel_rfl) h)
theorem xZdF (N:Nat):xZ3Y.Ok prog N:=(xZcj N)
noncomputable def xZit:Fn xZ5l:=⟨f71,[],⟨[(16,0)],[],sbf,bof⟩,fun _=>[xZ2W,xZ6E,xZ5l,xZ3Y],[true],none,0,0,fun _ _=>true,none,[],[]⟩
theorem xZdm:xZit.Ok prog:=⟨Is.of (by kernel_rfl) (by kernel_rfl),by kernel_rfl,xZ4 sb_ok bo_ok,trivial,trivial,fun _=>by kernel_rfl⟩
theorem xZch:∀ N,xZ5l.Ok prog N
 | 0=>⟨xZdm.is.enters,fun a r h=>by (have h:none=some r:=h;cases h)⟩
 | N+1=>by
   obtain h_ref15_First:=xZch N
   ·exact xZdm.give tb_ok hm N (N+1) (fun _=>⟨xZ4U N,xZbr N,h_ref15_First,xZdF N,trivial⟩) fun a r s h=>by
     have l0:=s.loop 0 xZ55 (xZaX N) N fun next0 h0=>by
      exact fun c v=>s.seg 0 xZ55 [(0,.of xZ55 next0)] ⟨h0,trivial⟩ (by kernel_rfl) (by kernel_rfl)
     exact s.main [(0,.of xZ55 (xZfw N))] ⟨l0,trivial⟩ (.trans (by kernel_rfl) h)
theorem xZiH (N:Nat):xZ5l.Ok prog N:=(xZch N)
noncomputable def xZny:Fn xZeY:=⟨f70,[],⟨[],[],sbf,bof⟩,fun _=>[],[true],none,0,0,fun _ _=>true,none,[],[]⟩
theorem xZno:xZny.Ok prog:=⟨Is.of (by kernel_rfl) (by kernel_rfl),by kernel_rfl,xZ4 sb_ok bo_ok,trivial,trivial,fun _=>by kernel_rfl⟩
theorem xZmO (N:Nat):xZeY.Ok prog N:=xZno.give tb_ok hm N N (fun _=>trivial) fun a r s h=>by
 have l0:=s.loop 0 xZ9o (xZeI N) N fun next0 h0=>by
  exact fun c v=>s.seg 0 xZ9o [(0,.of xZ9o next0)] ⟨h0,trivial⟩ (by kernel_rfl) (by kernel_rfl)
 exact s.main [(0,.of xZ9o (xZj6 N))] ⟨l0,trivial⟩ (.trans (by kernel_rfl) h)
noncomputable def xZe2:Fn xZ5y:=⟨f37,[],⟨[],[],sbf,bof⟩,fun _=>[xZ5l,xZeY],[true],none,0,0,fun _ _=>true,none,[],[]⟩
theorem xZed:xZe2.Ok prog:=⟨Is.of (by kernel_rfl) (by kernel_rfl),by kernel_rfl,xZ4 sb_ok bo_ok,trivial,trivial,fun _=>by kernel_rfl⟩
theorem xZeb (N:Nat):xZ5y.Ok prog N:=xZed.give tb_ok hm N N (fun _=>⟨xZiH N,xZmO N,trivial⟩) fun a r s h=>by
 have l0:=s.loop 0 xZ2D (xZ7y N) N fun next0 h0=>by
  exact fun c v=>s.seg 0 xZ2D [(0,.of xZ2D next0)] ⟨h0,trivial⟩ (by kernel_rfl) (by kernel_rfl)
 exact s.main [(0,.of xZ2D (xZcf N))] ⟨l0,trivial⟩ (.trans (by kernel_rfl) h)
noncomputable def xZhf:Fn xZ9R:=⟨f13,[],⟨[],[],sbf,bof⟩,fun _=>[xZ7m,xZal,xZ2W,xZaj,xZbk,xZ5y,xZ3Y],[true,true],none,0,0,fun _ _=>true,none,[],[]⟩
theorem xZio:xZhf.Ok prog:=⟨Is.of (by kernel_rfl) (by kernel_rfl),by kernel_rfl,xZ4 sb_ok bo_ok,trivial,trivial,fun _=>by kernel_rfl⟩
theorem xZhS (N:Nat):xZ9R.Ok prog N:=xZio.give tb_ok hm N N (fun _=>⟨xZdH N,xZha N,xZ4U N,xZip N,xZjP N,xZeb N,xZdF N,trivial⟩) fun a r s h=>by
 have l4:=s.loop 4 xZ5h (xZaW N) N fun next4 h4=>by
  exact fun c v=>s.seg 4 xZ5h [(4,.of xZ5h next4)] ⟨h4,trivial⟩ (by kernel_rfl) (by kernel_rfl)
 have l2:=s.loop 2 xZ59 (xZaN N) N fun next2 h2=>by
  exact fun c v=>s.seg 2 xZ59 [(2,.of xZ59 next2),(4,.of xZ5h (xZfy N))] ⟨h2,l4,trivial⟩ (by kernel_rfl) (by kernel_rfl)
 have l0:=s.loop 0 xZ5b (xZaL N) N fun next0 h0=>by
  exact fun c v=>s.seg 0 xZ5b [(0,.of xZ5b next0),(2,.of xZ59 (xZfx N))] ⟨h0,l2,trivial⟩ (by kernel_rfl) (by kernel_rfl)
 exact s.main [(0,.of xZ5b (xZfq N))] ⟨l0,trivial⟩ (.trans (by kernel_rfl) h)
noncomputable def xZhX:Fn xZ9T:=⟨f15,[],⟨[(51,1),(2000037,10),(2000042,11)],[],sbf,bof⟩,fun _=>[xZ7l,xZ2O,xZ94,xZ3V],[true],none,0,0,fun _ _=>true,none,[],[]⟩
theorem xZhu:xZhX.Ok prog:=⟨Is.of (by kernel_rfl) (by kernel_rfl),by kernel_rfl,xZ4 sb_ok bo_ok,trivial,trivial,fun _=>by kernel_rfl⟩
theorem xZi8 (N:Nat):xZ9T.Ok prog N:=xZhu.give tb_ok hm N N (fun _=>⟨xZdn N,xZ4Z N,xZf5 N,xZ8M N,trivial⟩) fun a r s h=>by
 have l0:=s.loop 0 xZ53 (xZaK N) N fun next0 h0=>by
  exact fun c v=>s.seg 0 xZ53 [(0,.of xZ53 next0)] ⟨h0,trivial⟩ (by kernel_rfl) (by kernel_rfl)
 exact s.main [(0,.of xZ53 (xZfd N))] ⟨l0,trivial⟩ (.trans (by kernel_rfl) h)
noncomputable def xZdO:Fn xZ5E:=⟨f14,[],⟨[],[],sbf,bof⟩,fun _=>[],[true],none,0,0,fun _ _=>true,none,[],[]⟩
theorem xZdN:xZdO.Ok prog:=⟨Is.of (by kernel_rfl) (by kernel_rfl),by kernel_rfl,xZ4 sb_ok bo_ok,trivial,trivial,fun _=>by kernel_rfl⟩
theorem xZdS (N:Nat):xZ5E.Ok prog N:=xZdN.give tb_ok hm N N (fun _=>trivial) fun a r s h=>by
 have l0:=s.loop 0 xZ2A (xZ7K N) N fun next0 h0=>by
  exact fun c v=>s.seg 0 xZ2A [(0,.of xZ2A next0)] ⟨h0,trivial⟩ (by kernel_rfl) (by kernel_rfl)
 exact s.main [(0,.of xZ2A (xZbR N))] ⟨l0,trivial⟩ (.trans (by kernel_rfl) h)
noncomputable def xZcv:Fn xZ8N:=⟨f3,[],⟨[],[],sbf,bof⟩,fun _=>[xZbz,xZdD,xZbp,xZcU,xZd2,xZ9S,xZ9R,xZ9T,xZ7t,xZ5E],[true],none,0,0,fun _ _=>true,none,[],[]⟩
theorem xZd4:xZcv.Ok prog:=⟨Is.of (by kernel_rfl) (by kernel_rfl),by kernel_rfl,xZ4 sb_ok bo_ok,trivial,trivial,fun _=>by kernel_rfl⟩
theorem xZd5 (N:Nat):xZ8N.Ok prog N:=xZd4.give tb_ok hm N N (fun _=>⟨xZiZ N,xZht N,xZiQ N,xZlE N,xZlJ N,xZiz N,xZhS N,xZi8 N,xZdu N,xZdS N,trivial⟩) fun a r s h=>by
 have l0:=s.loop 0 xZ2n (xZ6N N) N fun next0 h0=>by
  exact fun c v=>s.seg 0 xZ2n [(0,.of xZ2n next0)] ⟨h0,trivial⟩ (by kernel_rfl) (by kernel_rfl)
 exact s.main [(0,.of xZ2n (xZb0 N))] ⟨l0,trivial⟩ (.trans (by kernel_rfl) h)
end
end
end Go.Proofs.YtbioikdfpfafaaaGreatDoor.T
