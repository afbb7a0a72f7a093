/- The code, and what each function of it is walked to. No premise beyond what each theorem says. -/
import Derived.Test.YtmllclbhdmajmaaGreatWG8
set_option linter.all false
set_option linter.unusedSimpArgs false
set_option linter.unusedVariables false
namespace Go.Proofs.YtmllclbhdmajmaaGreat.W
open Go
section
open Go.Proofs.Tryz
set_option maxRecDepth 1000000
noncomputable section
noncomputable def xZgo:Fn xZ9O:=⟨f22,[],⟨[],[],sbf,bof⟩,fun _=>[],[true],none,0,0,fun _ _=>true,none,[],[],[]⟩
theorem xZht:xZgo.Ok prog:=⟨Is.of (by kernel_rfl) (by kernel_rfl),by kernel_rfl,xZ6 sb_ok bo_ok,trivial,trivial,fun _=>by kernel_rfl⟩
theorem xZgW (N:Nat):xZ9O.Ok prog N:=xZht.give tb_ok hm N N (fun _=>trivial) fun a r s h=>by
 have l0:=s.loop 0 xZ5d (xZaG N) N fun next0 h0=>by
  exact fun c v=>s.seg 0 xZ5d [(0,.of xZ5d next0)] ⟨h0,trivial⟩ (by kernel_rfl) (by kernel_rfl)
 exact s.main [(0,.of xZ5d (xZeD N))] ⟨l0,trivial⟩ (.trans (by kernel_rfl) h)
noncomputable def xZiP:Fn xZbb:=⟨f30,[],⟨[(28,1)],[],sbf,bof⟩,fun _=>[],[true],none,0,0,fun _ _=>true,none,[],[],[]⟩
theorem xZjf:xZiP.Ok prog:=⟨Is.of (by kernel_rfl) (by kernel_rfl),by kernel_rfl,xZ6 sb_ok bo_ok,trivial,trivial,fun _=>by kernel_rfl⟩
theorem xZj0 (N:Nat):xZbb.Ok prog N:=xZjf.give tb_ok hm N N (fun _=>trivial) fun a r s h=>by
 have l0:=s.loop 0 xZ6x (xZbQ N) N fun next0 h0=>by
  exact fun c v=>s.seg 0 xZ6x [(0,.of xZ6x next0)] ⟨h0,trivial⟩ (by kernel_rfl) (by kernel_rfl)
 exact s.main [(0,.of xZ6x (xZg6 N))] ⟨l0,trivial⟩ (.trans (by kernel_rfl) h)
noncomputable def xZiQ:Fn xZbc:=⟨f9,[],⟨[(43,4)],[],sbf,bof⟩,fun _=>[xZbb],[true],none,0,0,fun _ _=>true,none,[],[],[]⟩
theorem xZjg:xZiQ.Ok prog:=⟨Is.of (by kernel_rfl) (by kernel_rfl),by kernel_rfl,xZ6 sb_ok bo_ok,trivial,trivial,fun _=>by kernel_rfl⟩
theorem xZj1 (N:Nat):xZbc.Ok prog N:=xZjg.give tb_ok hm N N (fun _=>⟨xZj0 N,trivial⟩) fun a r s h=>by
 have l0:=s.loop 0 xZ6y (xZbR N) N fun next0 h0=>by
  exact fun c v=>s.seg 0 xZ6y [(0,.of xZ6y next0)] ⟨h0,trivial⟩ (by kernel_rfl) (by kernel_rfl)
 exact s.main [(0,.of xZ6y (xZg7 N))] ⟨l0,trivial⟩ (.trans (by kernel_rfl) h)
noncomputable def xZc7:Fn xZ2a:=⟨f127,[],⟨[],[],sbf,bof⟩,fun _=>[],[true],none,0,0,fun _ _=>true,none,[],[],[]⟩
theorem xZcm:xZc7.Ok prog:=⟨Is.of (by kernel_rfl) (by kernel_rfl),by kernel_rfl,xZ6 sb_ok bo_ok,trivial,trivial,fun _=>by kernel_rfl⟩
theorem xZ4T (N:Nat):xZ2a.Ok prog N:=xZcm.give tb_ok hm N N (fun _=>trivial) fun a r s h=>by
 exact s.main [] trivial (.trans (by kernel_rfl) h)
noncomputable def xZas:Fn xZ3R:=⟨f96,[],⟨[],[],sbf,bof⟩,fun _=>[xZ2a],[true],none,0,0,fun _ _=>true,none,[],[],[]⟩
theorem xZb2:xZas.Ok prog:=⟨Is.of (by kernel_rfl) (by kernel_rfl),by kernel_rfl,xZ6 sb_ok bo_ok,trivial,trivial,fun _=>by kernel_rfl⟩
theorem xZax (N:Nat):xZ3R.Ok prog N:=xZb2.give tb_ok hm N N (fun _=>⟨xZ4T N,trivial⟩) fun a r s h=>by
 exact s.main [] trivial (.trans (by kernel_rfl) h)
noncomputable def xZbj:Fn xZ4j:=⟨f128,[],⟨[],[],sbf,bof⟩,fun _=>[],[true],none,0,0,fun _ _=>true,none,[],[],[]⟩
theorem xZbA:xZbj.Ok prog:=⟨Is.of (by kernel_rfl) (by kernel_rfl),by kernel_rfl,xZ6 sb_ok bo_ok,trivial,trivial,fun _=>by kernel_rfl⟩
theorem xZbp (N:Nat):xZ4j.Ok prog N:=xZbA.give tb_ok hm N N (fun _=>trivial) fun a r s h=>by
 exact s.main [] trivial (.trans (by kernel_rfl) h)
noncomputable def xZbi:Fn xZ4i:=⟨f97,[],⟨[],[],sbf,bof⟩,fun _=>[xZ2a,xZ4j,xZ4J,xZ9Q],[true],none,0,0,fun _ _=>true,none,[],[],[]⟩
theorem xZbz:xZbi.Ok prog:=⟨Is.of (by kernel_rfl) (by kernel_rfl),by kernel_rfl,xZ6 sb_ok bo_ok,trivial,trivial,fun _=>by kernel_rfl⟩
theorem xZbo (N:Nat):xZ4i.Ok prog N:=xZbz.give tb_ok hm N N (fun _=>⟨xZ4T N,xZbp N,xZ8U N,xZcN N,trivial⟩) fun a r s h=>by
 exact s.main [] trivial (.trans (by kernel_rfl) h)
noncomputable def xZc6:Fn xZ4R:=⟨f130,[],⟨[],[],sbf,bof⟩,fun _=>[],[true],none,0,0,fun _ _=>true,none,[],[],[]⟩
theorem xZcl:xZc6.Ok prog:=⟨Is.of (by kernel_rfl) (by kernel_rfl),by kernel_rfl,xZ6 sb_ok bo_ok,trivial,trivial,fun _=>by kernel_rfl⟩
theorem xZcd (N:Nat):xZ4R.Ok prog N:=xZcl.give tb_ok hm N N (fun _=>trivial) fun a r s h=>by
 exact s.main [] trivial (.trans (by kernel_rfl) h)
noncomputable def xZc8:Fn xZ4S:=⟨f98,[],⟨[],[],sbf,bof⟩,fun _=>[xZ4R],[true],none,0,0,fun _ _=>true,none,[],[],[]⟩
theorem xZcn:xZc8.Ok prog:=⟨Is.of (by kernel_rfl) (by kernel_rfl),by kernel_rfl,xZ6 sb_ok bo_ok,trivial,trivial,fun _=>by kernel_rfl⟩
theorem xZce (N:Nat):xZ4S.Ok prog N:=xZcn.give tb_ok hm N N (fun _=>⟨xZcd N,trivial⟩) fun a r s h=>by
 exact s.main [] trivial (.trans (by kernel_rfl) h)
noncomputable def xZc5:Fn xZ3d:=⟨f99,[],⟨[],[],sbf,bof⟩,fun _=>[xZ2a],[true],none,0,0,fun _ _=>true,none,[],[],[]⟩
theorem xZck:xZc5.Ok prog:=⟨Is.of (by kernel_rfl) (by kernel_rfl),by kernel_rfl,xZ6 sb_ok bo_ok,trivial,trivial,fun _=>by kernel_rfl⟩
theorem xZ8c (N:Nat):xZ3d.Ok prog N:=xZck.give tb_ok hm N N (fun _=>⟨xZ4T N,trivial⟩) fun a r s h=>by
 exact s.main [] trivial (.trans (by kernel_rfl) h)
noncomputable def xZgM:Fn xZ5O:=⟨f60,[],⟨[],[],sbf,bof⟩,fun _=>[xZ3R,xZ4i,xZ4S,xZ3d,xZ5O],[true,true],none,0,0,fun _ _=>true,none,[],[],[]⟩
theorem xZd9:xZgM.Ok prog:=⟨Is.of (by kernel_rfl) (by kernel_rfl),by kernel_rfl,xZ6 sb_ok bo_ok,trivial,trivial,fun _=>by kernel_rfl⟩
theorem xZbO:∀ N,xZ5O.Ok prog N
 | 0=>⟨xZd9.is.enters,fun a r h=>by (have h:none=some r:=h;cases h)⟩
 | N+1=>by
   obtain h_shape_tree:=xZbO N
   ·exact xZd9.give tb_ok hm N (N+1) (fun _=>⟨xZax N,xZbo N,xZce N,xZ8c N,h_shape_tree,trivial⟩) fun a r s h=>by
     have l1:=s.loop 1 xZ5q (xZaT N) N fun next1 h1=>by
      exact fun c v=>s.seg 1 xZ5q [(1,.of xZ5q next1)] ⟨h1,trivial⟩ (by kernel_rfl) (by kernel_rfl)
     exact s.main [(1,.of xZ5q (xZeQ N))] ⟨l1,trivial⟩ (.trans (by kernel_rfl) h)
theorem xZhc (N:Nat):xZ5O.Ok prog N:=(xZbO N)
noncomputable def xZgL:Fn xZa0:=⟨f62,[],⟨[],[],sbf,bof⟩,fun _=>[],[true],none,0,0,fun _ _=>true,none,[],[],[]⟩
theorem xZhM:xZgL.Ok prog:=⟨Is.of (by kernel_rfl) (by kernel_rfl),by kernel_rfl,xZ6 sb_ok bo_ok,trivial,trivial,fun _=>by kernel_rfl⟩
theorem xZhb (N:Nat):xZa0.Ok prog N:=xZhM.give tb_ok hm N N (fun _=>trivial) fun a r s h=>by
 exact s.main [] trivial (.trans (by kernel_rfl) h)
noncomputable def xZfe:Fn xZ8K:=⟨f31,[],⟨[],[],sbf,bof⟩,fun _=>[xZ5O,xZ4J,xZa0],[true],none,0,0,fun _ _=>true,none,[],[],[]⟩
theorem xZfX:xZfe.Ok prog:=⟨Is.of (by kernel_rfl) (by kernel_rfl),by kernel_rfl,xZ6 sb_ok bo_ok,trivial,trivial,fun _=>by kernel_rfl⟩
theorem xZfv (N:Nat):xZ8K.Ok prog N:=xZfX.give tb_ok hm N N (fun _=>⟨xZhc N,xZ8U N,xZhb N,trivial⟩) fun a r s h=>by
 exact s.main [] trivial (.trans (by kernel_rfl) h)
noncomputable def xZ8k:Fn xZH:=⟨f103,[],⟨[(23,3)],[],sbf,bof⟩,fun _=>[],[],none,1,2,fun _ _=>true,none,[],[],[(0,[(0,some 1,3)])]⟩
theorem xZ8s:xZ8k.Ok prog:=⟨Is.of (by kernel_rfl) (by kernel_rfl),by kernel_rfl,xZ6 sb_ok bo_ok,trivial,trivial,fun _=>by kernel_rfl⟩
theorem xZ1A (N:Nat):xZH.Ok prog N:=xZ8s.give tb_ok hm N N (fun _=>trivial) fun a r s h=>by
 exact s.main [] trivial (.trans (by kernel_rfl) h)
noncomputable def xZgK:Fn xZ9Z:=⟨f86,[],⟨[],[],sbf,bof⟩,fun _=>[xZ3d],[true],none,0,0,fun _ _=>true,none,[],[],[]⟩
theorem xZhL:xZgK.Ok prog:=⟨Is.of (by kernel_rfl) (by kernel_rfl),by kernel_rfl,xZ6 sb_ok bo_ok,trivial,trivial,fun _=>by kernel_rfl⟩
theorem xZha (N:Nat):xZ9Z.Ok prog N:=xZhL.give tb_ok hm N N (fun _=>⟨xZ8c N,trivial⟩) fun a r s h=>by
 have l0:=s.loop 0 xZ5p (xZaS N) N fun next0 h0=>by
  exact fun c v=>s.seg 0 xZ5p [(0,.of xZ5p next0)] ⟨h0,trivial⟩ (by kernel_rfl) (by kernel_rfl)
 exact s.main [(0,.of xZ5p (xZeP N))] ⟨l0,trivial⟩ (.trans (by kernel_rfl) h)
noncomputable def xZ7D:Fn xZ21:=⟨f63,[],⟨[(44,2)],[],sbf,bof⟩,fun _=>[xZH,xZ1O],[],none,1,2,fun _ _=>true,none,[],[],[(0,[(0,some 1,3),(0,some 2,2)])]⟩
theorem xZ7Q:xZ7D.Ok prog:=⟨Is.of (by kernel_rfl) (by kernel_rfl),by kernel_rfl,xZ6 sb_ok bo_ok,trivial,trivial,fun _=>by kernel_rfl⟩
theorem xZ7K (N:Nat):xZ21.Ok prog N:=xZ7Q.give tb_ok hm N N (fun _=>⟨xZ1A N,xZ33 N,trivial⟩) fun a r s h=>by
 exact s.main [] trivial (.trans (by kernel_rfl) h)
end
end
section
open Go.Proofs.Tryz
set_option maxRecDepth 1000000
noncomputable section
noncomputable def xZ7F:Fn xZv:=⟨f32,[],⟨[],[],sbf,bof⟩,fun _=>[xZ2f,xZ2d,xZ2e,xZ21],[],none,1,2,fun _ _=>true,none,[],[],[(0,[(0,some 1,3),(0,some 2,2)])]⟩
theorem xZ41:xZ7F.Ok prog:=⟨Is.of (by kernel_rfl) (by kernel_rfl),by kernel_rfl,xZ6 sb_ok bo_ok,trivial,trivial,fun _=>by kernel_rfl⟩
noncomputable def xZ8m:Fn xZ2f:=⟨f64,[],⟨[],[],sbf,bof⟩,fun _=>[xZ1q],[],none,1,2,fun _ _=>true,none,[],[],[]⟩
theorem xZ4c:xZ8m.Ok prog:=⟨Is.of (by kernel_rfl) (by kernel_rfl),by kernel_rfl,xZ6 sb_ok bo_ok,trivial,trivial,fun _=>by kernel_rfl⟩
noncomputable def xZ7E:Fn xZ1q:=⟨f105,[],⟨[],[],sbf,bof⟩,fun _=>[xZH,xZv,xZ9Z],[],none,1,2,fun _ _=>true,none,[],[],[]⟩
theorem xZ40:xZ7E.Ok prog:=⟨Is.of (by kernel_rfl) (by kernel_rfl),by kernel_rfl,xZ6 sb_ok bo_ok,trivial,trivial,fun _=>by kernel_rfl⟩
noncomputable def xZ8j:Fn xZ2d:=⟨f65,[],⟨[],[],sbf,bof⟩,fun _=>[xZ1q],[],none,1,2,fun _ _=>true,none,[],[],[]⟩
theorem xZ4a:xZ8j.Ok prog:=⟨Is.of (by kernel_rfl) (by kernel_rfl),by kernel_rfl,xZ6 sb_ok bo_ok,trivial,trivial,fun _=>by kernel_rfl⟩
noncomputable def xZ8l:Fn xZ2e:=⟨f66,[],⟨[],[],sbf,bof⟩,fun _=>[xZH,xZv,xZ10],[],none,1,2,fun _ _=>true,none,[],[],[]⟩
theorem xZ4b:xZ8l.Ok prog:=⟨Is.of (by kernel_rfl) (by kernel_rfl),by kernel_rfl,xZ6 sb_ok bo_ok,trivial,trivial,fun _=>by kernel_rfl⟩
noncomputable def xZ65:Fn xZ10:=⟨f106,[],⟨[],[],sbf,bof⟩,fun _=>[xZH,xZv,xZ10],[],none,1,2,fun _ _=>true,none,[],[],[(0,[(0,some 1,3),(0,some 2,2)])]⟩
theorem xZ2V:xZ65.Ok prog:=⟨Is.of (by kernel_rfl) (by kernel_rfl),by kernel_rfl,xZ6 sb_ok bo_ok,trivial,trivial,fun _=>by kernel_rfl⟩
theorem xZ3D:∀ N,xZv.Ok prog N∧xZ2f.Ok prog N∧xZ1q.Ok prog N∧xZ2d.Ok prog N∧xZ2e.Ok prog N∧xZ10.Ok prog N
 | 0=>⟨⟨xZ41.is.enters,fun a r h=>by (have h:none=some r:=h;cases h)⟩,⟨xZ4c.is.enters,fun a r h=>by (have h:none=some r:=h;cases h)⟩,⟨xZ40.is.enters,fun a r h=>by (have h:none=some r:=h;cases h)⟩,⟨xZ4a.is.enters,fun a r h=>by (have h:none=some r:=h;cases h)⟩,⟨xZ4b.is.enters,fun a r h=>by (have h:none=some r:=h;cases h)⟩,⟨xZ2V.is.enters,fun a r h=>by (have h:none=some r:=h;cases h)⟩⟩
 | N+1=>by
   obtain ⟨h_core_builder_tree_v961,h_core_builder_seq_v961,h_core_builder_list_v241,h_core_builder_alt_v961,h_core_builder_rep_v961,h_core_builder_perhaps_v642⟩:=xZ3D N
   refine ⟨?_,?_,?_,?_,?_,?_⟩
   ·exact xZ41.give tb_ok hm N (N+1) (fun _=>⟨h_core_builder_seq_v961,h_core_builder_alt_v961,h_core_builder_rep_v961,xZ7K N,trivial⟩) fun a r s h=>by
     exact s.main [] trivial (.trans (by kernel_rfl) h)
   ·exact xZ4c.give tb_ok hm N (N+1) (fun _=>⟨h_core_builder_list_v241,trivial⟩) fun a r s h=>by
     exact s.main [] trivial (.trans (by kernel_rfl) h)
   ·exact xZ40.give tb_ok hm N (N+1) (fun _=>⟨xZ1A N,h_core_builder_tree_v961,xZha N,trivial⟩) fun a r s h=>by
     have l0:=s.loop 0 xZ1d (xZ35 N) N fun next0 h0=>by
      exact fun c v=>s.seg 0 xZ1d [(0,.of xZ1d next0)] ⟨h0,trivial⟩ (by kernel_rfl) (by kernel_rfl)
     exact s.main [(0,.of xZ1d (xZ7b N))] ⟨l0,trivial⟩ (.trans (by kernel_rfl) h)
   ·exact xZ4a.give tb_ok hm N (N+1) (fun _=>⟨h_core_builder_list_v241,trivial⟩) fun a r s h=>by
     exact s.main [] trivial (.trans (by kernel_rfl) h)
   ·exact xZ4b.give tb_ok hm N (N+1) (fun _=>⟨xZ1A N,h_core_builder_tree_v961,h_core_builder_perhaps_v642,trivial⟩) fun a r s h=>by
     have l0:=s.loop 0 xZ1l (xZ3F N) N fun next0 h0=>by
      exact fun c v=>s.seg 0 xZ1l [(0,.of xZ1l next0)] ⟨h0,trivial⟩ (by kernel_rfl) (by kernel_rfl)
     exact s.main [(0,.of xZ1l (xZ7s N))] ⟨l0,trivial⟩ (.trans (by kernel_rfl) h)
   ·exact xZ2V.give tb_ok hm N (N+1) (fun _=>⟨xZ1A N,h_core_builder_tree_v961,h_core_builder_perhaps_v642,trivial⟩) fun a r s h=>by
     exact s.main [] trivial (.trans (by kernel_rfl) h)
theorem xZ7L (N:Nat):xZv.Ok prog N:=(xZ3D N).1
noncomputable def xZgl:Fn xZ9M:=⟨f10,[],⟨[],[],sbf,bof⟩,fun _=>[xZ8K,xZv],[true,true],none,0,0,fun _ _=>true,none,[],[],[(26,[(12,some 1,3),(12,some 2,2)])]⟩
theorem xZhq:xZgl.Ok prog:=⟨Is.of (by kernel_rfl) (by kernel_rfl),by kernel_rfl,xZ6 sb_ok bo_ok,trivial,trivial,fun _=>by kernel_rfl⟩
theorem xZgU (N:Nat):xZ9M.Ok prog N:=xZhq.give tb_ok hm N N (fun _=>⟨xZfv N,xZ7L N,trivial⟩) fun a r s h=>by
 exact s.main [] trivial (.trans (by kernel_rfl) h)
noncomputable def xZcE:Fn xZ5G:=⟨f109,[],⟨[(5,0)],[],sbf,bof⟩,fun _=>[],[true],none,0,0,fun _ _=>true,none,[],[],[]⟩
theorem xZd4:xZcE.Ok prog:=⟨Is.of (by kernel_rfl) (by kernel_rfl),by kernel_rfl,xZ6 sb_ok bo_ok,trivial,trivial,fun _=>by kernel_rfl⟩
theorem xZcP (N:Nat):xZ5G.Ok prog N:=xZd4.give tb_ok hm N N (fun _=>trivial) fun a r s h=>by
 have l0:=s.loop 0 xZ2J (xZ7o N) N fun next0 h0=>by
  exact fun c v=>s.seg 0 xZ2J [(0,.of xZ2J next0)] ⟨h0,trivial⟩ (by kernel_rfl) (by kernel_rfl)
 exact s.main [(0,.of xZ2J (xZbE N))] ⟨l0,trivial⟩ (.trans (by kernel_rfl) h)
noncomputable def xZgu:Fn xZ5F:=⟨f68,[],⟨[],[],sbf,bof⟩,fun _=>[xZ5G],[true],none,0,0,fun _ _=>true,none,[],[],[]⟩
theorem xZhz:xZgu.Ok prog:=⟨Is.of (by kernel_rfl) (by kernel_rfl),by kernel_rfl,xZ6 sb_ok bo_ok,trivial,trivial,fun _=>by kernel_rfl⟩
theorem xZa9 (N:Nat):xZ5F.Ok prog N:=xZhz.give tb_ok hm N N (fun _=>⟨xZcP N,trivial⟩) fun a r s h=>by
 have l0:=s.loop 0 xZ5f (xZaI N) N fun next0 h0=>by
  exact fun c v=>s.seg 0 xZ5f [(0,.of xZ5f next0)] ⟨h0,trivial⟩ (by kernel_rfl) (by kernel_rfl)
 exact s.main [(0,.of xZ5f (xZeF N))] ⟨l0,trivial⟩ (.trans (by kernel_rfl) h)
noncomputable def xZiU:Fn xZbg:=⟨f157,[],⟨[],[],sbf,bof⟩,fun _=>[],[true],none,0,0,fun _ _=>true,none,[],[],[]⟩
theorem xZjk:xZiU.Ok prog:=⟨Is.of (by kernel_rfl) (by kernel_rfl),by kernel_rfl,xZ6 sb_ok bo_ok,trivial,trivial,fun _=>by kernel_rfl⟩
theorem xZj5 (N:Nat):xZbg.Ok prog N:=xZjk.give tb_ok hm N N (fun _=>trivial) fun a r s h=>by
 exact s.main [] trivial (.trans (by kernel_rfl) h)
noncomputable def xZiS:Fn xZbe:=⟨f179,[],⟨[],[],sbf,bof⟩,fun _=>[],[true],none,0,0,fun _ _=>true,none,[],[],[]⟩
theorem xZji:xZiS.Ok prog:=⟨Is.of (by kernel_rfl) (by kernel_rfl),by kernel_rfl,xZ6 sb_ok bo_ok,trivial,trivial,fun _=>by kernel_rfl⟩
theorem xZj3 (N:Nat):xZbe.Ok prog N:=xZji.give tb_ok hm N N (fun _=>trivial) fun a r s h=>by
 exact s.main [] trivial (.trans (by kernel_rfl) h)
noncomputable def xZgs:Fn xZ9S:=⟨f180,[],⟨[],[],sbf,bof⟩,fun _=>[],[true],none,0,0,fun _ _=>true,none,[],[],[]⟩
theorem xZhx:xZgs.Ok prog:=⟨Is.of (by kernel_rfl) (by kernel_rfl),by kernel_rfl,xZ6 sb_ok bo_ok,trivial,trivial,fun _=>by kernel_rfl⟩
theorem xZgZ (N:Nat):xZ9S.Ok prog N:=xZhx.give tb_ok hm N N (fun _=>trivial) fun a r s h=>by
 exact s.main [] trivial (.trans (by kernel_rfl) h)
noncomputable def xZgt:Fn xZ9T:=⟨f175,[],⟨[],[],sbf,bof⟩,fun _=>[xZbe,xZ9S],[true],none,0,0,fun _ _=>true,none,[],[],[]⟩
theorem xZhy:xZgt.Ok prog:=⟨Is.of (by kernel_rfl) (by kernel_rfl),by kernel_rfl,xZ6 sb_ok bo_ok,trivial,trivial,fun _=>by kernel_rfl⟩
theorem xZh0 (N:Nat):xZ9T.Ok prog N:=xZhy.give tb_ok hm N N (fun _=>⟨xZj3 N,xZgZ N,trivial⟩) fun a r s h=>by
 exact s.main [] trivial (.trans (by kernel_rfl) h)
noncomputable def xZf2:Fn xZ8B:=⟨f171,[],⟨[],[],sbf,bof⟩,fun _=>[xZ9T],[true],none,0,0,fun _ _=>true,none,[],[],[]⟩
theorem xZfN:xZf2.Ok prog:=⟨Is.of (by kernel_rfl) (by kernel_rfl),by kernel_rfl,xZ6 sb_ok bo_ok,trivial,trivial,fun _=>by kernel_rfl⟩
theorem xZfk (N:Nat):xZ8B.Ok prog N:=xZfN.give tb_ok hm N N (fun _=>⟨xZh0 N,trivial⟩) fun a r s h=>by
 exact s.main [] trivial (.trans (by kernel_rfl) h)
noncomputable def xZf3:Fn xZ8C:=⟨f166,[],⟨[],[],sbf,bof⟩,fun _=>[xZ8B],[true],none,0,0,fun _ _=>true,none,[],[],[]⟩
theorem xZfO:xZf3.Ok prog:=⟨Is.of (by kernel_rfl) (by kernel_rfl),by kernel_rfl,xZ6 sb_ok bo_ok,trivial,trivial,fun _=>by kernel_rfl⟩
theorem xZfl (N:Nat):xZ8C.Ok prog N:=xZfO.give tb_ok hm N N (fun _=>⟨xZfk N,trivial⟩) fun a r s h=>by
 exact s.main [] trivial (.trans (by kernel_rfl) h)
end
end
section
open Go.Proofs.Tryz
set_option maxRecDepth 1000000
noncomputable section
noncomputable def xZf5:Fn xZ8E:=⟨f158,[],⟨[],[],sbf,bof⟩,fun _=>[xZ5F,xZ8C],[true],none,0,0,fun _ _=>true,none,[],[114],[]⟩
theorem xZfQ:xZf5.Ok prog:=⟨Is.of (by kernel_rfl) (by kernel_rfl),by kernel_rfl,xZ6 sb_ok bo_ok,trivial,trivial,fun _=>by kernel_rfl⟩
theorem xZfn (N:Nat):xZ8E.Ok prog N:=xZfQ.give tb_ok hm N N (fun _=>⟨xZa9 N,xZfl N,trivial⟩) fun a r s h=>by
 have lj2:=s.jn 1000114 xZ93 (xZ99 N) [] trivial (by kernel_rfl) (fun x=>by kernel_rfl)
 exact s.main [(1000114,.of xZ93 (xZ99 N))] ⟨lj2,trivial⟩ (.trans (by kernel_rfl) h)
noncomputable def xZgv:Fn xZ9U:=⟨f159,[],⟨[],[],sbf,bof⟩,fun _=>[],[true],none,0,0,fun _ _=>true,none,[],[],[]⟩
theorem xZhA:xZgv.Ok prog:=⟨Is.of (by kernel_rfl) (by kernel_rfl),by kernel_rfl,xZ6 sb_ok bo_ok,trivial,trivial,fun _=>by kernel_rfl⟩
theorem xZh1 (N:Nat):xZ9U.Ok prog N:=xZhA.give tb_ok hm N N (fun _=>trivial) fun a r s h=>by
 exact s.main [] trivial (.trans (by kernel_rfl) h)
noncomputable def xZiT:Fn xZbf:=⟨f160,[],⟨[],[],sbf,bof⟩,fun _=>[],[true],none,0,0,fun _ _=>true,none,[],[],[]⟩
theorem xZjj:xZiT.Ok prog:=⟨Is.of (by kernel_rfl) (by kernel_rfl),by kernel_rfl,xZ6 sb_ok bo_ok,trivial,trivial,fun _=>by kernel_rfl⟩
theorem xZj4 (N:Nat):xZbf.Ok prog N:=xZjj.give tb_ok hm N N (fun _=>trivial) fun a r s h=>by
 exact s.main [] trivial (.trans (by kernel_rfl) h)
noncomputable def xZgw:Fn xZ5H:=⟨f146,[],⟨[],[],sbf,bof⟩,fun _=>[xZbg,xZ8E,xZ9U,xZbf,xZ5H],[true,true],none,0,0,fun _ _=>true,none,[],[],[]⟩
theorem xZd5:xZgw.Ok prog:=⟨Is.of (by kernel_rfl) (by kernel_rfl),by kernel_rfl,xZ6 sb_ok bo_ok,trivial,trivial,fun _=>by kernel_rfl⟩
theorem xZbK:∀ N,xZ5H.Ok prog N
 | 0=>⟨xZd5.is.enters,fun a r h=>by (have h:none=some r:=h;cases h)⟩
 | N+1=>by
   obtain h_ref11_tree:=xZbK N
   ·exact xZd5.give tb_ok hm N (N+1) (fun _=>⟨xZj5 N,xZfn N,xZh1 N,xZj4 N,h_ref11_tree,trivial⟩) fun a r s h=>by
     have l0:=s.loop 0 xZ5g (xZaJ N) N fun next0 h0=>by
      exact fun c v=>s.seg 0 xZ5g [(0,.of xZ5g next0)] ⟨h0,trivial⟩ (by kernel_rfl) (by kernel_rfl)
     exact s.main [(0,.of xZ5g (xZeG N))] ⟨l0,trivial⟩ (.trans (by kernel_rfl) h)
theorem xZh2 (N:Nat):xZ5H.Ok prog N:=(xZbK N)
noncomputable def xZf4:Fn xZ8D:=⟨f131,[],⟨[],[],sbf,bof⟩,fun _=>[xZ5H],[true],none,0,0,fun _ _=>true,none,[],[],[]⟩
theorem xZfP:xZf4.Ok prog:=⟨Is.of (by kernel_rfl) (by kernel_rfl),by kernel_rfl,xZ6 sb_ok bo_ok,trivial,trivial,fun _=>by kernel_rfl⟩
theorem xZfm (N:Nat):xZ8D.Ok prog N:=xZfP.give tb_ok hm N N (fun _=>⟨xZh2 N,trivial⟩) fun a r s h=>by
 exact s.main [] trivial (.trans (by kernel_rfl) h)
noncomputable def xZf7:Fn xZ8G:=⟨f107,[],⟨[],[],sbf,bof⟩,fun _=>[xZ5F,xZ8D],[true],none,0,0,fun _ _=>true,none,[],[26,42,63,163,201],[]⟩
theorem xZfS:xZf7.Ok prog:=⟨Is.of (by kernel_rfl) (by kernel_rfl),by kernel_rfl,xZ6 sb_ok bo_ok,trivial,trivial,fun _=>by kernel_rfl⟩
theorem xZfp (N:Nat):xZ8G.Ok prog N:=xZfS.give tb_ok hm N N (fun _=>⟨xZa9 N,xZfm N,trivial⟩) fun a r s h=>by
 have lj4:=s.jn 1000201 xZ98 (xZ9e N) [] trivial (by kernel_rfl) (fun x=>by kernel_rfl)
 have lj3:=s.jn 1000163 xZ97 (xZ9d N) [(1000201,.of xZ98 (xZ9e N))] ⟨lj4,trivial⟩ (by kernel_rfl) (fun x=>by kernel_rfl)
 have lj2:=s.jn 1000063 xZ96 (xZ9c N) [(1000163,.of xZ97 (xZ9d N))] ⟨lj3,trivial⟩ (by kernel_rfl) (fun x=>by kernel_rfl)
 have lj1:=s.jn 1000042 xZ95 (xZ9b N) [(1000063,.of xZ96 (xZ9c N))] ⟨lj2,trivial⟩ (by kernel_rfl) (fun x=>by kernel_rfl)
 have lj0:=s.jn 1000026 xZ94 (xZ9a N) [(1000042,.of xZ95 (xZ9b N))] ⟨lj1,trivial⟩ (by kernel_rfl) (fun x=>by kernel_rfl)
 exact s.main [(1000026,.of xZ94 (xZ9a N))] ⟨lj0,trivial⟩ (.trans (by kernel_rfl) h)
noncomputable def xZgx:Fn xZ5I:=⟨f108,[],⟨[],[],sbf,bof⟩,fun _=>[],[true],none,0,0,fun _ _=>true,none,[],[],[]⟩
theorem xZhB:xZgx.Ok prog:=⟨Is.of (by kernel_rfl) (by kernel_rfl),by kernel_rfl,xZ6 sb_ok bo_ok,trivial,trivial,fun _=>by kernel_rfl⟩
theorem xZaa (N:Nat):xZ5I.Ok prog N:=xZhB.give tb_ok hm N N (fun _=>trivial) fun a r s h=>by
 exact s.main [] trivial (.trans (by kernel_rfl) h)
noncomputable def xZgA:Fn xZ5J:=⟨f67,[],⟨[],[],sbf,bof⟩,fun _=>[xZ8G,xZ5I,xZ5J],[true,true],none,0,0,fun _ _=>true,none,[],[],[]⟩
theorem xZd6:xZgA.Ok prog:=⟨Is.of (by kernel_rfl) (by kernel_rfl),by kernel_rfl,xZ6 sb_ok bo_ok,trivial,trivial,fun _=>by kernel_rfl⟩
theorem xZbL:∀ N,xZ5J.Ok prog N
 | 0=>⟨xZd6.is.enters,fun a r h=>by (have h:none=some r:=h;cases h)⟩
 | N+1=>by
   obtain h_ref13_tree:=xZbL N
   ·exact xZd6.give tb_ok hm N (N+1) (fun _=>⟨xZfp N,xZaa N,h_ref13_tree,trivial⟩) fun a r s h=>by
     have l0:=s.loop 0 xZ5i (xZaL N) N fun next0 h0=>by
      exact fun c v=>s.seg 0 xZ5i [(0,.of xZ5i next0)] ⟨h0,trivial⟩ (by kernel_rfl) (by kernel_rfl)
     exact s.main [(0,.of xZ5i (xZeI N))] ⟨l0,trivial⟩ (.trans (by kernel_rfl) h)
theorem xZh5 (N:Nat):xZ5J.Ok prog N:=(xZbL N)
noncomputable def xZgz:Fn xZ9W:=⟨f69,[],⟨[],[],sbf,bof⟩,fun _=>[],[true],none,0,0,fun _ _=>true,none,[],[],[]⟩
theorem xZhD:xZgz.Ok prog:=⟨Is.of (by kernel_rfl) (by kernel_rfl),by kernel_rfl,xZ6 sb_ok bo_ok,trivial,trivial,fun _=>by kernel_rfl⟩
theorem xZh4 (N:Nat):xZ9W.Ok prog N:=xZhD.give tb_ok hm N N (fun _=>trivial) fun a r s h=>by
 exact s.main [] trivial (.trans (by kernel_rfl) h)
noncomputable def xZf6:Fn xZ8F:=⟨f33,[],⟨[],[],sbf,bof⟩,fun _=>[xZ5J,xZ5F,xZ9W],[true],none,0,0,fun _ _=>true,none,[],[],[]⟩
theorem xZfR:xZf6.Ok prog:=⟨Is.of (by kernel_rfl) (by kernel_rfl),by kernel_rfl,xZ6 sb_ok bo_ok,trivial,trivial,fun _=>by kernel_rfl⟩
theorem xZfo (N:Nat):xZ8F.Ok prog N:=xZfR.give tb_ok hm N N (fun _=>⟨xZh5 N,xZa9 N,xZh4 N,trivial⟩) fun a r s h=>by
 exact s.main [] trivial (.trans (by kernel_rfl) h)
noncomputable def xZgB:Fn xZ5K:=⟨f45,[],⟨[],[],sbf,bof⟩,fun _=>[],[true],none,0,0,fun _ _=>true,none,[],[],[]⟩
theorem xZhE:xZgB.Ok prog:=⟨Is.of (by kernel_rfl) (by kernel_rfl),by kernel_rfl,xZ6 sb_ok bo_ok,trivial,trivial,fun _=>by kernel_rfl⟩
theorem xZab (N:Nat):xZ5K.Ok prog N:=xZhE.give tb_ok hm N N (fun _=>trivial) fun a r s h=>by
 exact s.main [] trivial (.trans (by kernel_rfl) h)
noncomputable def xZgy:Fn xZ9V:=⟨f110,[],⟨[],[],sbf,bof⟩,fun _=>[xZ5I],[true],none,0,0,fun _ _=>true,none,[],[],[]⟩
theorem xZhC:xZgy.Ok prog:=⟨Is.of (by kernel_rfl) (by kernel_rfl),by kernel_rfl,xZ6 sb_ok bo_ok,trivial,trivial,fun _=>by kernel_rfl⟩
theorem xZh3 (N:Nat):xZ9V.Ok prog N:=xZhC.give tb_ok hm N N (fun _=>⟨xZaa N,trivial⟩) fun a r s h=>by
 have l0:=s.loop 0 xZ5h (xZaK N) N fun next0 h0=>by
  exact fun c v=>s.seg 0 xZ5h [(0,.of xZ5h next0)] ⟨h0,trivial⟩ (by kernel_rfl) (by kernel_rfl)
 exact s.main [(0,.of xZ5h (xZeH N))] ⟨l0,trivial⟩ (.trans (by kernel_rfl) h)
noncomputable def xZgH:Fn xZ5M:=⟨f70,[],⟨[(21,13)],[],sbf,bof⟩,fun _=>[xZ5I,xZ9V],[true],none,0,0,fun _ _=>true,none,[],[],[]⟩
theorem xZhJ:xZgH.Ok prog:=⟨Is.of (by kernel_rfl) (by kernel_rfl),by kernel_rfl,xZ6 sb_ok bo_ok,trivial,trivial,fun _=>by kernel_rfl⟩
theorem xZad (N:Nat):xZ5M.Ok prog N:=xZhJ.give tb_ok hm N N (fun _=>⟨xZaa N,xZh3 N,trivial⟩) fun a r s h=>by
 have l0:=s.loop 0 xZ5n (xZaQ N) N fun next0 h0=>by
  exact fun c v=>s.seg 0 xZ5n [(0,.of xZ5n next0)] ⟨h0,trivial⟩ (by kernel_rfl) (by kernel_rfl)
 exact s.main [(0,.of xZ5n (xZeN N))] ⟨l0,trivial⟩ (.trans (by kernel_rfl) h)
noncomputable def xZfa:Fn xZ4I:=⟨f34,[],⟨[],[],sbf,bof⟩,fun _=>[xZ5K,xZ5M,xZ4I],[true,true],none,0,0,fun _ _=>true,none,[],[],[]⟩
theorem xZbU:xZfa.Ok prog:=⟨Is.of (by kernel_rfl) (by kernel_rfl),by kernel_rfl,xZ6 sb_ok bo_ok,trivial,trivial,fun _=>by kernel_rfl⟩
theorem xZaB:∀ N,xZ4I.Ok prog N
 | 0=>⟨xZbU.is.enters,fun a r h=>by (have h:none=some r:=h;cases h)⟩
 | N+1=>by
   obtain h_ref16_count:=xZaB N
   ·exact xZbU.give tb_ok hm N (N+1) (fun _=>⟨xZab N,xZad N,h_ref16_count,trivial⟩) fun a r s h=>by
     have l0:=s.loop 0 xZ4B (xZ9F N) N fun next0 h0=>by
      exact fun c v=>s.seg 0 xZ4B [(0,.of xZ4B next0)] ⟨h0,trivial⟩ (by kernel_rfl) (by kernel_rfl)
     exact s.main [(0,.of xZ4B (xZdy N))] ⟨l0,trivial⟩ (.trans (by kernel_rfl) h)
theorem xZfs (N:Nat):xZ4I.Ok prog N:=(xZaB N)
noncomputable def xZgG:Fn xZ5L:=⟨f73,[],⟨[(10,3)],[],sbf,bof⟩,fun _=>[],[true],none,0,0,fun _ _=>true,none,[],[],[]⟩
theorem xZhI:xZgG.Ok prog:=⟨Is.of (by kernel_rfl) (by kernel_rfl),by kernel_rfl,xZ6 sb_ok bo_ok,trivial,trivial,fun _=>by kernel_rfl⟩
theorem xZac (N:Nat):xZ5L.Ok prog N:=xZhI.give tb_ok hm N N (fun _=>trivial) fun a r s h=>by
 exact s.main [] trivial (.trans (by kernel_rfl) h)
end
end
end Go.Proofs.YtmllclbhdmajmaaGreat.W
