/- The code, and what each function of it is walked to. No premise beyond what each theorem says. -/
import Derived.Test.YtmllclbhdmajmaaGreatBG8
set_option linter.all false
set_option linter.unusedSimpArgs false
set_option linter.unusedVariables false
namespace Go.Proofs.YtmllclbhdmajmaaGreat.B
open Go
section
open Go.Proofs.Tryz
set_option maxRecDepth 1000000
noncomputable section
noncomputable def xZj4:Fn xZ9D:=⟨f30,[],⟨[(28,1)],[],sbf,bof⟩,fun _=>[],[true],none,0,0,fun _ _=>true,none,[],[],[]⟩
theorem xZjD:xZj4.Ok prog:=⟨Is.of (by kernel_rfl) (by kernel_rfl),by kernel_rfl,xZ5 sb_ok bo_ok,trivial,trivial,fun _=>by kernel_rfl⟩
theorem xZe9 (N:Nat):xZ9D.Ok prog N:=xZjD.give tb_ok hm N N (fun _=>trivial) fun a r s h=>by
 have l0:=s.loop 0 xZ6L (xZcl N) N fun next0 h0=>by
  exact fun c v=>s.seg 0 xZ6L [(0,.of xZ6L next0)] ⟨h0,trivial⟩ (by kernel_rfl) (by kernel_rfl)
 exact s.main [(0,.of xZ6L (xZgj N))] ⟨l0,trivial⟩ (.trans (by kernel_rfl) h)
noncomputable def xZj5:Fn xZby:=⟨f9,[],⟨[(43,4)],[],sbf,bof⟩,fun _=>[xZ9D],[true],none,0,0,fun _ _=>true,none,[],[],[]⟩
theorem xZjE:xZj5.Ok prog:=⟨Is.of (by kernel_rfl) (by kernel_rfl),by kernel_rfl,xZ5 sb_ok bo_ok,trivial,trivial,fun _=>by kernel_rfl⟩
theorem xZjk (N:Nat):xZby.Ok prog N:=xZjE.give tb_ok hm N N (fun _=>⟨xZe9 N,trivial⟩) fun a r s h=>by
 have l0:=s.loop 0 xZ6M (xZcm N) N fun next0 h0=>by
  exact fun c v=>s.seg 0 xZ6M [(0,.of xZ6M next0)] ⟨h0,trivial⟩ (by kernel_rfl) (by kernel_rfl)
 exact s.main [(0,.of xZ6M (xZgk N))] ⟨l0,trivial⟩ (.trans (by kernel_rfl) h)
noncomputable def xZcC:Fn xZ2l:=⟨f127,[],⟨[],[],sbf,bof⟩,fun _=>[],[true],none,0,0,fun _ _=>true,none,[],[],[]⟩
theorem xZcR:xZcC.Ok prog:=⟨Is.of (by kernel_rfl) (by kernel_rfl),by kernel_rfl,xZ5 sb_ok bo_ok,trivial,trivial,fun _=>by kernel_rfl⟩
theorem xZ55 (N:Nat):xZ2l.Ok prog N:=xZcR.give tb_ok hm N N (fun _=>trivial) fun a r s h=>by
 exact s.main [] trivial (.trans (by kernel_rfl) h)
noncomputable def xZaH:Fn xZ41:=⟨f96,[],⟨[],[],sbf,bof⟩,fun _=>[xZ2l],[true],none,0,0,fun _ _=>true,none,[],[],[]⟩
theorem xZbj:xZaH.Ok prog:=⟨Is.of (by kernel_rfl) (by kernel_rfl),by kernel_rfl,xZ5 sb_ok bo_ok,trivial,trivial,fun _=>by kernel_rfl⟩
theorem xZaM (N:Nat):xZ41.Ok prog N:=xZbj.give tb_ok hm N N (fun _=>⟨xZ55 N,trivial⟩) fun a r s h=>by
 exact s.main [] trivial (.trans (by kernel_rfl) h)
noncomputable def xZbI:Fn xZ4z:=⟨f128,[],⟨[],[],sbf,bof⟩,fun _=>[],[true],none,0,0,fun _ _=>true,none,[],[],[]⟩
theorem xZc2:xZbI.Ok prog:=⟨Is.of (by kernel_rfl) (by kernel_rfl),by kernel_rfl,xZ5 sb_ok bo_ok,trivial,trivial,fun _=>by kernel_rfl⟩
theorem xZbR (N:Nat):xZ4z.Ok prog N:=xZc2.give tb_ok hm N N (fun _=>trivial) fun a r s h=>by
 exact s.main [] trivial (.trans (by kernel_rfl) h)
noncomputable def xZbH:Fn xZ4y:=⟨f97,[],⟨[],[],sbf,bof⟩,fun _=>[xZ2l,xZ4z,xZ4T,xZa5],[true],none,0,0,fun _ _=>true,none,[],[],[]⟩
theorem xZc1:xZbH.Ok prog:=⟨Is.of (by kernel_rfl) (by kernel_rfl),by kernel_rfl,xZ5 sb_ok bo_ok,trivial,trivial,fun _=>by kernel_rfl⟩
theorem xZbQ (N:Nat):xZ4y.Ok prog N:=xZc1.give tb_ok hm N N (fun _=>⟨xZ55 N,xZbR N,xZ9d N,xZdg N,trivial⟩) fun a r s h=>by
 exact s.main [] trivial (.trans (by kernel_rfl) h)
noncomputable def xZcB:Fn xZ53:=⟨f130,[],⟨[],[],sbf,bof⟩,fun _=>[],[true],none,0,0,fun _ _=>true,none,[],[],[]⟩
theorem xZcQ:xZcB.Ok prog:=⟨Is.of (by kernel_rfl) (by kernel_rfl),by kernel_rfl,xZ5 sb_ok bo_ok,trivial,trivial,fun _=>by kernel_rfl⟩
theorem xZcI (N:Nat):xZ53.Ok prog N:=xZcQ.give tb_ok hm N N (fun _=>trivial) fun a r s h=>by
 exact s.main [] trivial (.trans (by kernel_rfl) h)
noncomputable def xZcD:Fn xZ54:=⟨f98,[],⟨[],[],sbf,bof⟩,fun _=>[xZ53],[true],none,0,0,fun _ _=>true,none,[],[],[]⟩
theorem xZcS:xZcD.Ok prog:=⟨Is.of (by kernel_rfl) (by kernel_rfl),by kernel_rfl,xZ5 sb_ok bo_ok,trivial,trivial,fun _=>by kernel_rfl⟩
theorem xZcJ (N:Nat):xZ54.Ok prog N:=xZcS.give tb_ok hm N N (fun _=>⟨xZcI N,trivial⟩) fun a r s h=>by
 exact s.main [] trivial (.trans (by kernel_rfl) h)
noncomputable def xZcA:Fn xZ3t:=⟨f99,[],⟨[],[],sbf,bof⟩,fun _=>[xZ2l],[true],none,0,0,fun _ _=>true,none,[],[],[]⟩
theorem xZcP:xZcA.Ok prog:=⟨Is.of (by kernel_rfl) (by kernel_rfl),by kernel_rfl,xZ5 sb_ok bo_ok,trivial,trivial,fun _=>by kernel_rfl⟩
theorem xZ8C (N:Nat):xZ3t.Ok prog N:=xZcP.give tb_ok hm N N (fun _=>⟨xZ55 N,trivial⟩) fun a r s h=>by
 exact s.main [] trivial (.trans (by kernel_rfl) h)
noncomputable def xZgZ:Fn xZ5V:=⟨f60,[],⟨[],[],sbf,bof⟩,fun _=>[xZ41,xZ4y,xZ54,xZ3t,xZ5V],[true,true],none,0,0,fun _ _=>true,none,[],[],[]⟩
theorem xZdz:xZgZ.Ok prog:=⟨Is.of (by kernel_rfl) (by kernel_rfl),by kernel_rfl,xZ5 sb_ok bo_ok,trivial,trivial,fun _=>by kernel_rfl⟩
theorem xZcj:∀ N,xZ5V.Ok prog N
 | 0=>⟨xZdz.is.enters,fun a r h=>by (have h:none=some r:=h;cases h)⟩
 | N+1=>by
   obtain h_shape_tree:=xZcj N
   ·exact xZdz.give tb_ok hm N (N+1) (fun _=>⟨xZaM N,xZbQ N,xZcJ N,xZ8C N,h_shape_tree,trivial⟩) fun a r s h=>by
     have l1:=s.loop 1 xZ5z (xZb9 N) N fun next1 h1=>by
      exact fun c v=>s.seg 1 xZ5z [(1,.of xZ5z next1)] ⟨h1,trivial⟩ (by kernel_rfl) (by kernel_rfl)
     exact s.main [(1,.of xZ5z (xZff N))] ⟨l1,trivial⟩ (.trans (by kernel_rfl) h)
theorem xZhs (N:Nat):xZ5V.Ok prog N:=(xZcj N)
noncomputable def xZgY:Fn xZah:=⟨f62,[],⟨[],[],sbf,bof⟩,fun _=>[],[true],none,0,0,fun _ _=>true,none,[],[],[]⟩
theorem xZi1:xZgY.Ok prog:=⟨Is.of (by kernel_rfl) (by kernel_rfl),by kernel_rfl,xZ5 sb_ok bo_ok,trivial,trivial,fun _=>by kernel_rfl⟩
theorem xZhr (N:Nat):xZah.Ok prog N:=xZi1.give tb_ok hm N N (fun _=>trivial) fun a r s h=>by
 exact s.main [] trivial (.trans (by kernel_rfl) h)
noncomputable def xZfA:Fn xZ6z:=⟨f31,[],⟨[],[],sbf,bof⟩,fun _=>[xZ5V,xZ4T,xZah],[true],none,0,0,fun _ _=>true,none,[],[],[]⟩
theorem xZga:xZfA.Ok prog:=⟨Is.of (by kernel_rfl) (by kernel_rfl),by kernel_rfl,xZ5 sb_ok bo_ok,trivial,trivial,fun _=>by kernel_rfl⟩
theorem xZcd (N:Nat):xZ6z.Ok prog N:=xZga.give tb_ok hm N N (fun _=>⟨xZhs N,xZ9d N,xZhr N,trivial⟩) fun a r s h=>by
 exact s.main [] trivial (.trans (by kernel_rfl) h)
noncomputable def xZ8G:Fn xZJ:=⟨f103,[],⟨[(23,3)],[],sbf,bof⟩,fun _=>[],[],none,1,2,fun _ _=>true,none,[],[],[(0,[(0,some 1,3)])]⟩
theorem xZ8R:xZ8G.Ok prog:=⟨Is.of (by kernel_rfl) (by kernel_rfl),by kernel_rfl,xZ5 sb_ok bo_ok,trivial,trivial,fun _=>by kernel_rfl⟩
theorem xZ1J (N:Nat):xZJ.Ok prog N:=xZ8R.give tb_ok hm N N (fun _=>trivial) fun a r s h=>by
 exact s.main [] trivial (.trans (by kernel_rfl) h)
noncomputable def xZgX:Fn xZag:=⟨f86,[],⟨[],[],sbf,bof⟩,fun _=>[xZ3t],[true],none,0,0,fun _ _=>true,none,[],[],[]⟩
theorem xZi0:xZgX.Ok prog:=⟨Is.of (by kernel_rfl) (by kernel_rfl),by kernel_rfl,xZ5 sb_ok bo_ok,trivial,trivial,fun _=>by kernel_rfl⟩
theorem xZhq (N:Nat):xZag.Ok prog N:=xZi0.give tb_ok hm N N (fun _=>⟨xZ8C N,trivial⟩) fun a r s h=>by
 have l0:=s.loop 0 xZ5y (xZb8 N) N fun next0 h0=>by
  exact fun c v=>s.seg 0 xZ5y [(0,.of xZ5y next0)] ⟨h0,trivial⟩ (by kernel_rfl) (by kernel_rfl)
 exact s.main [(0,.of xZ5y (xZfe N))] ⟨l0,trivial⟩ (.trans (by kernel_rfl) h)
noncomputable def xZ7W:Fn xZ29:=⟨f63,[],⟨[(44,2)],[],sbf,bof⟩,fun _=>[xZJ,xZ1X],[],none,1,2,fun _ _=>true,none,[],[],[(0,[(0,some 1,3),(0,some 2,2)])]⟩
theorem xZ8c:xZ7W.Ok prog:=⟨Is.of (by kernel_rfl) (by kernel_rfl),by kernel_rfl,xZ5 sb_ok bo_ok,trivial,trivial,fun _=>by kernel_rfl⟩
theorem xZ84 (N:Nat):xZ29.Ok prog N:=xZ8c.give tb_ok hm N N (fun _=>⟨xZ1J N,xZ3j N,trivial⟩) fun a r s h=>by
 exact s.main [] trivial (.trans (by kernel_rfl) h)
end
end
section
open Go.Proofs.Tryz
set_option maxRecDepth 1000000
noncomputable section
noncomputable def xZ7Y:Fn xZu:=⟨f32,[],⟨[],[],sbf,bof⟩,fun _=>[xZ2r,xZ2p,xZ2q,xZ29],[],none,1,2,fun _ _=>true,none,[],[],[(0,[(0,some 1,3),(0,some 2,2)])]⟩
theorem xZ4d:xZ7Y.Ok prog:=⟨Is.of (by kernel_rfl) (by kernel_rfl),by kernel_rfl,xZ5 sb_ok bo_ok,trivial,trivial,fun _=>by kernel_rfl⟩
noncomputable def xZ8I:Fn xZ2r:=⟨f64,[],⟨[],[],sbf,bof⟩,fun _=>[xZ1A],[],none,1,2,fun _ _=>true,none,[],[],[]⟩
theorem xZ4s:xZ8I.Ok prog:=⟨Is.of (by kernel_rfl) (by kernel_rfl),by kernel_rfl,xZ5 sb_ok bo_ok,trivial,trivial,fun _=>by kernel_rfl⟩
noncomputable def xZ7X:Fn xZ1A:=⟨f105,[],⟨[],[],sbf,bof⟩,fun _=>[xZJ,xZu,xZag],[],none,1,2,fun _ _=>true,none,[],[],[]⟩
theorem xZ4c:xZ7X.Ok prog:=⟨Is.of (by kernel_rfl) (by kernel_rfl),by kernel_rfl,xZ5 sb_ok bo_ok,trivial,trivial,fun _=>by kernel_rfl⟩
noncomputable def xZ8F:Fn xZ2p:=⟨f65,[],⟨[],[],sbf,bof⟩,fun _=>[xZ1A],[],none,1,2,fun _ _=>true,none,[],[],[]⟩
theorem xZ4q:xZ8F.Ok prog:=⟨Is.of (by kernel_rfl) (by kernel_rfl),by kernel_rfl,xZ5 sb_ok bo_ok,trivial,trivial,fun _=>by kernel_rfl⟩
noncomputable def xZ8H:Fn xZ2q:=⟨f66,[],⟨[],[],sbf,bof⟩,fun _=>[xZJ,xZu,xZ13],[],none,1,2,fun _ _=>true,none,[],[],[]⟩
theorem xZ4r:xZ8H.Ok prog:=⟨Is.of (by kernel_rfl) (by kernel_rfl),by kernel_rfl,xZ5 sb_ok bo_ok,trivial,trivial,fun _=>by kernel_rfl⟩
noncomputable def xZ6f:Fn xZ13:=⟨f106,[],⟨[],[],sbf,bof⟩,fun _=>[xZJ,xZu,xZ13],[],none,1,2,fun _ _=>true,none,[],[],[(0,[(0,some 1,3),(0,some 2,2)])]⟩
theorem xZ3c:xZ6f.Ok prog:=⟨Is.of (by kernel_rfl) (by kernel_rfl),by kernel_rfl,xZ5 sb_ok bo_ok,trivial,trivial,fun _=>by kernel_rfl⟩
theorem xZ3O:∀ N,xZu.Ok prog N∧xZ2r.Ok prog N∧xZ1A.Ok prog N∧xZ2p.Ok prog N∧xZ2q.Ok prog N∧xZ13.Ok prog N
 | 0=>⟨⟨xZ4d.is.enters,fun a r h=>by (have h:none=some r:=h;cases h)⟩,⟨xZ4s.is.enters,fun a r h=>by (have h:none=some r:=h;cases h)⟩,⟨xZ4c.is.enters,fun a r h=>by (have h:none=some r:=h;cases h)⟩,⟨xZ4q.is.enters,fun a r h=>by (have h:none=some r:=h;cases h)⟩,⟨xZ4r.is.enters,fun a r h=>by (have h:none=some r:=h;cases h)⟩,⟨xZ3c.is.enters,fun a r h=>by (have h:none=some r:=h;cases h)⟩⟩
 | N+1=>by
   obtain ⟨h_core_builder_tree_v961,h_core_builder_seq_v961,h_core_builder_list_v241,h_core_builder_alt_v961,h_core_builder_rep_v961,h_core_builder_perhaps_v642⟩:=xZ3O N
   refine ⟨?_,?_,?_,?_,?_,?_⟩
   ·exact xZ4d.give tb_ok hm N (N+1) (fun _=>⟨h_core_builder_seq_v961,h_core_builder_alt_v961,h_core_builder_rep_v961,xZ84 N,trivial⟩) fun a r s h=>by
     exact s.main [] trivial (.trans (by kernel_rfl) h)
   ·exact xZ4s.give tb_ok hm N (N+1) (fun _=>⟨h_core_builder_list_v241,trivial⟩) fun a r s h=>by
     exact s.main [] trivial (.trans (by kernel_rfl) h)
   ·exact xZ4c.give tb_ok hm N (N+1) (fun _=>⟨xZ1J N,h_core_builder_tree_v961,xZhq N,trivial⟩) fun a r s h=>by
     have l0:=s.loop 0 xZ1f (xZ3l N) N fun next0 h0=>by
      exact fun c v=>s.seg 0 xZ1f [(0,.of xZ1f next0)] ⟨h0,trivial⟩ (by kernel_rfl) (by kernel_rfl)
     exact s.main [(0,.of xZ1f (xZ7p N))] ⟨l0,trivial⟩ (.trans (by kernel_rfl) h)
   ·exact xZ4q.give tb_ok hm N (N+1) (fun _=>⟨h_core_builder_list_v241,trivial⟩) fun a r s h=>by
     exact s.main [] trivial (.trans (by kernel_rfl) h)
   ·exact xZ4r.give tb_ok hm N (N+1) (fun _=>⟨xZ1J N,h_core_builder_tree_v961,h_core_builder_perhaps_v642,trivial⟩) fun a r s h=>by
     have l0:=s.loop 0 xZ1u (xZ3Q N) N fun next0 h0=>by
      exact fun c v=>s.seg 0 xZ1u [(0,.of xZ1u next0)] ⟨h0,trivial⟩ (by kernel_rfl) (by kernel_rfl)
     exact s.main [(0,.of xZ1u (xZ7J N))] ⟨l0,trivial⟩ (.trans (by kernel_rfl) h)
   ·exact xZ3c.give tb_ok hm N (N+1) (fun _=>⟨xZ1J N,h_core_builder_tree_v961,h_core_builder_perhaps_v642,trivial⟩) fun a r s h=>by
     exact s.main [] trivial (.trans (by kernel_rfl) h)
theorem xZ85 (N:Nat):xZu.Ok prog N:=(xZ3O N).1
noncomputable def xZgy:Fn xZa0:=⟨f10,[],⟨[],[],sbf,bof⟩,fun _=>[xZ6z,xZu],[true,true],none,0,0,fun _ _=>true,none,[],[],[(26,[(12,some 1,3),(12,some 2,2)])]⟩
theorem xZhF:xZgy.Ok prog:=⟨Is.of (by kernel_rfl) (by kernel_rfl),by kernel_rfl,xZ5 sb_ok bo_ok,trivial,trivial,fun _=>by kernel_rfl⟩
theorem xZh7 (N:Nat):xZa0.Ok prog N:=xZhF.give tb_ok hm N N (fun _=>⟨xZcd N,xZ85 N,trivial⟩) fun a r s h=>by
 exact s.main [] trivial (.trans (by kernel_rfl) h)
noncomputable def xZd7:Fn xZ5O:=⟨f109,[],⟨[(5,0)],[],sbf,bof⟩,fun _=>[],[true],none,0,0,fun _ _=>true,none,[],[],[]⟩
theorem xZdu:xZd7.Ok prog:=⟨Is.of (by kernel_rfl) (by kernel_rfl),by kernel_rfl,xZ5 sb_ok bo_ok,trivial,trivial,fun _=>by kernel_rfl⟩
theorem xZdi (N:Nat):xZ5O.Ok prog N:=xZdu.give tb_ok hm N N (fun _=>trivial) fun a r s h=>by
 have l0:=s.loop 0 xZ2Z (xZ7G N) N fun next0 h0=>by
  exact fun c v=>s.seg 0 xZ2Z [(0,.of xZ2Z next0)] ⟨h0,trivial⟩ (by kernel_rfl) (by kernel_rfl)
 exact s.main [(0,.of xZ2Z (xZc6 N))] ⟨l0,trivial⟩ (.trans (by kernel_rfl) h)
noncomputable def xZgH:Fn xZ5N:=⟨f68,[],⟨[],[],sbf,bof⟩,fun _=>[xZ5O],[true],none,0,0,fun _ _=>true,none,[],[],[]⟩
theorem xZhO:xZgH.Ok prog:=⟨Is.of (by kernel_rfl) (by kernel_rfl),by kernel_rfl,xZ5 sb_ok bo_ok,trivial,trivial,fun _=>by kernel_rfl⟩
theorem xZaq (N:Nat):xZ5N.Ok prog N:=xZhO.give tb_ok hm N N (fun _=>⟨xZdi N,trivial⟩) fun a r s h=>by
 have l0:=s.loop 0 xZ5n (xZaX N) N fun next0 h0=>by
  exact fun c v=>s.seg 0 xZ5n [(0,.of xZ5n next0)] ⟨h0,trivial⟩ (by kernel_rfl) (by kernel_rfl)
 exact s.main [(0,.of xZ5n (xZf3 N))] ⟨l0,trivial⟩ (.trans (by kernel_rfl) h)
noncomputable def xZjb:Fn xZbE:=⟨f157,[],⟨[],[],sbf,bof⟩,fun _=>[],[true],none,0,0,fun _ _=>true,none,[],[],[]⟩
theorem xZjK:xZjb.Ok prog:=⟨Is.of (by kernel_rfl) (by kernel_rfl),by kernel_rfl,xZ5 sb_ok bo_ok,trivial,trivial,fun _=>by kernel_rfl⟩
theorem xZjq (N:Nat):xZbE.Ok prog N:=xZjK.give tb_ok hm N N (fun _=>trivial) fun a r s h=>by
 exact s.main [] trivial (.trans (by kernel_rfl) h)
noncomputable def xZj9:Fn xZbC:=⟨f179,[],⟨[],[],sbf,bof⟩,fun _=>[],[true],none,0,0,fun _ _=>true,none,[],[],[]⟩
theorem xZjI:xZj9.Ok prog:=⟨Is.of (by kernel_rfl) (by kernel_rfl),by kernel_rfl,xZ5 sb_ok bo_ok,trivial,trivial,fun _=>by kernel_rfl⟩
theorem xZjo (N:Nat):xZbC.Ok prog N:=xZjI.give tb_ok hm N N (fun _=>trivial) fun a r s h=>by
 exact s.main [] trivial (.trans (by kernel_rfl) h)
noncomputable def xZgF:Fn xZa7:=⟨f180,[],⟨[],[],sbf,bof⟩,fun _=>[],[true],none,0,0,fun _ _=>true,none,[],[],[]⟩
theorem xZhM:xZgF.Ok prog:=⟨Is.of (by kernel_rfl) (by kernel_rfl),by kernel_rfl,xZ5 sb_ok bo_ok,trivial,trivial,fun _=>by kernel_rfl⟩
theorem xZhd (N:Nat):xZa7.Ok prog N:=xZhM.give tb_ok hm N N (fun _=>trivial) fun a r s h=>by
 exact s.main [] trivial (.trans (by kernel_rfl) h)
noncomputable def xZgG:Fn xZa8:=⟨f175,[],⟨[],[],sbf,bof⟩,fun _=>[xZbC,xZa7],[true],none,0,0,fun _ _=>true,none,[],[],[]⟩
theorem xZhN:xZgG.Ok prog:=⟨Is.of (by kernel_rfl) (by kernel_rfl),by kernel_rfl,xZ5 sb_ok bo_ok,trivial,trivial,fun _=>by kernel_rfl⟩
theorem xZhe (N:Nat):xZa8.Ok prog N:=xZhN.give tb_ok hm N N (fun _=>⟨xZjo N,xZhd N,trivial⟩) fun a r s h=>by
 exact s.main [] trivial (.trans (by kernel_rfl) h)
noncomputable def xZfq:Fn xZ8Z:=⟨f171,[],⟨[],[],sbf,bof⟩,fun _=>[xZa8],[true],none,0,0,fun _ _=>true,none,[],[],[]⟩
theorem xZg1:xZfq.Ok prog:=⟨Is.of (by kernel_rfl) (by kernel_rfl),by kernel_rfl,xZ5 sb_ok bo_ok,trivial,trivial,fun _=>by kernel_rfl⟩
theorem xZfF (N:Nat):xZ8Z.Ok prog N:=xZg1.give tb_ok hm N N (fun _=>⟨xZhe N,trivial⟩) fun a r s h=>by
 exact s.main [] trivial (.trans (by kernel_rfl) h)
noncomputable def xZfr:Fn xZ90:=⟨f166,[],⟨[],[],sbf,bof⟩,fun _=>[xZ8Z],[true],none,0,0,fun _ _=>true,none,[],[],[]⟩
theorem xZg2:xZfr.Ok prog:=⟨Is.of (by kernel_rfl) (by kernel_rfl),by kernel_rfl,xZ5 sb_ok bo_ok,trivial,trivial,fun _=>by kernel_rfl⟩
theorem xZfG (N:Nat):xZ90.Ok prog N:=xZg2.give tb_ok hm N N (fun _=>⟨xZfF N,trivial⟩) fun a r s h=>by
 exact s.main [] trivial (.trans (by kernel_rfl) h)
end
end
section
open Go.Proofs.Tryz
set_option maxRecDepth 1000000
noncomputable section
noncomputable def xZft:Fn xZ92:=⟨f158,[],⟨[],[],sbf,bof⟩,fun _=>[xZ5N,xZ90],[true],none,0,0,fun _ _=>true,none,[],[114],[]⟩
theorem xZg4:xZft.Ok prog:=⟨Is.of (by kernel_rfl) (by kernel_rfl),by kernel_rfl,xZ5 sb_ok bo_ok,trivial,trivial,fun _=>by kernel_rfl⟩
theorem xZfI (N:Nat):xZ92.Ok prog N:=xZg4.give tb_ok hm N N (fun _=>⟨xZaq N,xZfG N,trivial⟩) fun a r s h=>by
 have lj2:=s.jn 1000114 xZ9o (xZ9u N) [] trivial (by kernel_rfl) (fun x=>by kernel_rfl)
 exact s.main [(1000114,.of xZ9o (xZ9u N))] ⟨lj2,trivial⟩ (.trans (by kernel_rfl) h)
noncomputable def xZgI:Fn xZa9:=⟨f159,[],⟨[],[],sbf,bof⟩,fun _=>[],[true],none,0,0,fun _ _=>true,none,[],[],[]⟩
theorem xZhP:xZgI.Ok prog:=⟨Is.of (by kernel_rfl) (by kernel_rfl),by kernel_rfl,xZ5 sb_ok bo_ok,trivial,trivial,fun _=>by kernel_rfl⟩
theorem xZhf (N:Nat):xZa9.Ok prog N:=xZhP.give tb_ok hm N N (fun _=>trivial) fun a r s h=>by
 exact s.main [] trivial (.trans (by kernel_rfl) h)
noncomputable def xZja:Fn xZbD:=⟨f160,[],⟨[],[],sbf,bof⟩,fun _=>[],[true],none,0,0,fun _ _=>true,none,[],[],[]⟩
theorem xZjJ:xZja.Ok prog:=⟨Is.of (by kernel_rfl) (by kernel_rfl),by kernel_rfl,xZ5 sb_ok bo_ok,trivial,trivial,fun _=>by kernel_rfl⟩
theorem xZjp (N:Nat):xZbD.Ok prog N:=xZjJ.give tb_ok hm N N (fun _=>trivial) fun a r s h=>by
 exact s.main [] trivial (.trans (by kernel_rfl) h)
noncomputable def xZgK:Fn xZ5P:=⟨f146,[],⟨[],[],sbf,bof⟩,fun _=>[xZbE,xZ92,xZa9,xZbD,xZ5P],[true,true],none,0,0,fun _ _=>true,none,[],[],[]⟩
theorem xZdv:xZgK.Ok prog:=⟨Is.of (by kernel_rfl) (by kernel_rfl),by kernel_rfl,xZ5 sb_ok bo_ok,trivial,trivial,fun _=>by kernel_rfl⟩
theorem xZcf:∀ N,xZ5P.Ok prog N
 | 0=>⟨xZdv.is.enters,fun a r h=>by (have h:none=some r:=h;cases h)⟩
 | N+1=>by
   obtain h_ref11_tree:=xZcf N
   ·exact xZdv.give tb_ok hm N (N+1) (fun _=>⟨xZjq N,xZfI N,xZhf N,xZjp N,h_ref11_tree,trivial⟩) fun a r s h=>by
     have l0:=s.loop 0 xZ5p (xZaZ N) N fun next0 h0=>by
      exact fun c v=>s.seg 0 xZ5p [(0,.of xZ5p next0)] ⟨h0,trivial⟩ (by kernel_rfl) (by kernel_rfl)
     exact s.main [(0,.of xZ5p (xZf5 N))] ⟨l0,trivial⟩ (.trans (by kernel_rfl) h)
theorem xZhh (N:Nat):xZ5P.Ok prog N:=(xZcf N)
noncomputable def xZfs:Fn xZ91:=⟨f131,[],⟨[],[],sbf,bof⟩,fun _=>[xZ5P],[true],none,0,0,fun _ _=>true,none,[],[],[]⟩
theorem xZg3:xZfs.Ok prog:=⟨Is.of (by kernel_rfl) (by kernel_rfl),by kernel_rfl,xZ5 sb_ok bo_ok,trivial,trivial,fun _=>by kernel_rfl⟩
theorem xZfH (N:Nat):xZ91.Ok prog N:=xZg3.give tb_ok hm N N (fun _=>⟨xZhh N,trivial⟩) fun a r s h=>by
 exact s.main [] trivial (.trans (by kernel_rfl) h)
noncomputable def xZfv:Fn xZ93:=⟨f107,[],⟨[],[],sbf,bof⟩,fun _=>[xZ5N,xZ91],[true],none,0,0,fun _ _=>true,none,[],[26,42,63,163,201],[]⟩
theorem xZg6:xZfv.Ok prog:=⟨Is.of (by kernel_rfl) (by kernel_rfl),by kernel_rfl,xZ5 sb_ok bo_ok,trivial,trivial,fun _=>by kernel_rfl⟩
theorem xZfJ (N:Nat):xZ93.Ok prog N:=xZg6.give tb_ok hm N N (fun _=>⟨xZaq N,xZfH N,trivial⟩) fun a r s h=>by
 have lj4:=s.jn 1000201 xZ9t (xZ9z N) [] trivial (by kernel_rfl) (fun x=>by kernel_rfl)
 have lj3:=s.jn 1000163 xZ9s (xZ9y N) [(1000201,.of xZ9t (xZ9z N))] ⟨lj4,trivial⟩ (by kernel_rfl) (fun x=>by kernel_rfl)
 have lj2:=s.jn 1000063 xZ9r (xZ9x N) [(1000163,.of xZ9s (xZ9y N))] ⟨lj3,trivial⟩ (by kernel_rfl) (fun x=>by kernel_rfl)
 have lj1:=s.jn 1000042 xZ9q (xZ9w N) [(1000063,.of xZ9r (xZ9x N))] ⟨lj2,trivial⟩ (by kernel_rfl) (fun x=>by kernel_rfl)
 have lj0:=s.jn 1000026 xZ9p (xZ9v N) [(1000042,.of xZ9q (xZ9w N))] ⟨lj1,trivial⟩ (by kernel_rfl) (fun x=>by kernel_rfl)
 exact s.main [(1000026,.of xZ9p (xZ9v N))] ⟨lj0,trivial⟩ (.trans (by kernel_rfl) h)
noncomputable def xZgL:Fn xZ5Q:=⟨f108,[],⟨[],[],sbf,bof⟩,fun _=>[],[true],none,0,0,fun _ _=>true,none,[],[],[]⟩
theorem xZhR:xZgL.Ok prog:=⟨Is.of (by kernel_rfl) (by kernel_rfl),by kernel_rfl,xZ5 sb_ok bo_ok,trivial,trivial,fun _=>by kernel_rfl⟩
theorem xZar (N:Nat):xZ5Q.Ok prog N:=xZhR.give tb_ok hm N N (fun _=>trivial) fun a r s h=>by
 exact s.main [] trivial (.trans (by kernel_rfl) h)
noncomputable def xZgO:Fn xZ5R:=⟨f67,[],⟨[],[],sbf,bof⟩,fun _=>[xZ93,xZ5Q,xZ5R],[true,true],none,0,0,fun _ _=>true,none,[],[],[]⟩
theorem xZdw:xZgO.Ok prog:=⟨Is.of (by kernel_rfl) (by kernel_rfl),by kernel_rfl,xZ5 sb_ok bo_ok,trivial,trivial,fun _=>by kernel_rfl⟩
theorem xZcg:∀ N,xZ5R.Ok prog N
 | 0=>⟨xZdw.is.enters,fun a r h=>by (have h:none=some r:=h;cases h)⟩
 | N+1=>by
   obtain h_ref13_tree:=xZcg N
   ·exact xZdw.give tb_ok hm N (N+1) (fun _=>⟨xZfJ N,xZar N,h_ref13_tree,trivial⟩) fun a r s h=>by
     have l0:=s.loop 0 xZ5r (xZb1 N) N fun next0 h0=>by
      exact fun c v=>s.seg 0 xZ5r [(0,.of xZ5r next0)] ⟨h0,trivial⟩ (by kernel_rfl) (by kernel_rfl)
     exact s.main [(0,.of xZ5r (xZf7 N))] ⟨l0,trivial⟩ (.trans (by kernel_rfl) h)
theorem xZhk (N:Nat):xZ5R.Ok prog N:=(xZcg N)
noncomputable def xZgN:Fn xZac:=⟨f69,[],⟨[],[],sbf,bof⟩,fun _=>[],[true],none,0,0,fun _ _=>true,none,[],[],[]⟩
theorem xZhT:xZgN.Ok prog:=⟨Is.of (by kernel_rfl) (by kernel_rfl),by kernel_rfl,xZ5 sb_ok bo_ok,trivial,trivial,fun _=>by kernel_rfl⟩
theorem xZhj (N:Nat):xZac.Ok prog N:=xZhT.give tb_ok hm N N (fun _=>trivial) fun a r s h=>by
 exact s.main [] trivial (.trans (by kernel_rfl) h)
noncomputable def xZfu:Fn xZ6y:=⟨f33,[],⟨[],[],sbf,bof⟩,fun _=>[xZ5R,xZ5N,xZac],[true],none,0,0,fun _ _=>true,none,[],[],[]⟩
theorem xZg5:xZfu.Ok prog:=⟨Is.of (by kernel_rfl) (by kernel_rfl),by kernel_rfl,xZ5 sb_ok bo_ok,trivial,trivial,fun _=>by kernel_rfl⟩
theorem xZcc (N:Nat):xZ6y.Ok prog N:=xZg5.give tb_ok hm N N (fun _=>⟨xZhk N,xZaq N,xZhj N,trivial⟩) fun a r s h=>by
 exact s.main [] trivial (.trans (by kernel_rfl) h)
noncomputable def xZgP:Fn xZ5S:=⟨f45,[],⟨[],[],sbf,bof⟩,fun _=>[],[true],none,0,0,fun _ _=>true,none,[],[],[]⟩
theorem xZhU:xZgP.Ok prog:=⟨Is.of (by kernel_rfl) (by kernel_rfl),by kernel_rfl,xZ5 sb_ok bo_ok,trivial,trivial,fun _=>by kernel_rfl⟩
theorem xZas (N:Nat):xZ5S.Ok prog N:=xZhU.give tb_ok hm N N (fun _=>trivial) fun a r s h=>by
 exact s.main [] trivial (.trans (by kernel_rfl) h)
noncomputable def xZgM:Fn xZab:=⟨f110,[],⟨[],[],sbf,bof⟩,fun _=>[xZ5Q],[true],none,0,0,fun _ _=>true,none,[],[],[]⟩
theorem xZhS:xZgM.Ok prog:=⟨Is.of (by kernel_rfl) (by kernel_rfl),by kernel_rfl,xZ5 sb_ok bo_ok,trivial,trivial,fun _=>by kernel_rfl⟩
theorem xZhi (N:Nat):xZab.Ok prog N:=xZhS.give tb_ok hm N N (fun _=>⟨xZar N,trivial⟩) fun a r s h=>by
 have l0:=s.loop 0 xZ5q (xZb0 N) N fun next0 h0=>by
  exact fun c v=>s.seg 0 xZ5q [(0,.of xZ5q next0)] ⟨h0,trivial⟩ (by kernel_rfl) (by kernel_rfl)
 exact s.main [(0,.of xZ5q (xZf6 N))] ⟨l0,trivial⟩ (.trans (by kernel_rfl) h)
noncomputable def xZgV:Fn xZ7U:=⟨f70,[],⟨[(21,13)],[],sbf,bof⟩,fun _=>[xZ5Q,xZab],[true],none,0,0,fun _ _=>true,none,[],[],[]⟩
theorem xZhZ:xZgV.Ok prog:=⟨Is.of (by kernel_rfl) (by kernel_rfl),by kernel_rfl,xZ5 sb_ok bo_ok,trivial,trivial,fun _=>by kernel_rfl⟩
theorem xZdj (N:Nat):xZ7U.Ok prog N:=xZhZ.give tb_ok hm N N (fun _=>⟨xZar N,xZhi N,trivial⟩) fun a r s h=>by
 have l0:=s.loop 0 xZ5x (xZb7 N) N fun next0 h0=>by
  exact fun c v=>s.seg 0 xZ5x [(0,.of xZ5x next0)] ⟨h0,trivial⟩ (by kernel_rfl) (by kernel_rfl)
 exact s.main [(0,.of xZ5x (xZfd N))] ⟨l0,trivial⟩ (.trans (by kernel_rfl) h)
noncomputable def xZfx:Fn xZ4S:=⟨f34,[],⟨[],[],sbf,bof⟩,fun _=>[xZ5S,xZ7U,xZ4S],[true,true],none,0,0,fun _ _=>true,none,[],[],[]⟩
theorem xZcq:xZfx.Ok prog:=⟨Is.of (by kernel_rfl) (by kernel_rfl),by kernel_rfl,xZ5 sb_ok bo_ok,trivial,trivial,fun _=>by kernel_rfl⟩
theorem xZaP:∀ N,xZ4S.Ok prog N
 | 0=>⟨xZcq.is.enters,fun a r h=>by (have h:none=some r:=h;cases h)⟩
 | N+1=>by
   obtain h_ref16_count:=xZaP N
   ·exact xZcq.give tb_ok hm N (N+1) (fun _=>⟨xZas N,xZdj N,h_ref16_count,trivial⟩) fun a r s h=>by
     have l0:=s.loop 0 xZ4N (xZ9V N) N fun next0 h0=>by
      exact fun c v=>s.seg 0 xZ4N [(0,.of xZ4N next0)] ⟨h0,trivial⟩ (by kernel_rfl) (by kernel_rfl)
     exact s.main [(0,.of xZ4N (xZe1 N))] ⟨l0,trivial⟩ (.trans (by kernel_rfl) h)
theorem xZfL (N:Nat):xZ4S.Ok prog N:=(xZaP N)
noncomputable def xZgU:Fn xZ5T:=⟨f73,[],⟨[(10,3)],[],sbf,bof⟩,fun _=>[],[true],none,0,0,fun _ _=>true,none,[],[],[]⟩
theorem xZhY:xZgU.Ok prog:=⟨Is.of (by kernel_rfl) (by kernel_rfl),by kernel_rfl,xZ5 sb_ok bo_ok,trivial,trivial,fun _=>by kernel_rfl⟩
theorem xZat (N:Nat):xZ5T.Ok prog N:=xZhY.give tb_ok hm N N (fun _=>trivial) fun a r s h=>by
 exact s.main [] trivial (.trans (by kernel_rfl) h)
end
end
end Go.Proofs.YtmllclbhdmajmaaGreat.B
