/- The code, and what each function of it is walked to. No premise beyond what each theorem says. -/
import Derived.Test.YtmllclbhdmajmaaGreatKG8
set_option linter.all false
set_option linter.unusedSimpArgs false
set_option linter.unusedVariables false
namespace Go.Proofs.YtmllclbhdmajmaaGreat.K
open Go
section
open Go.Proofs.Tryz
set_option maxRecDepth 1000000
noncomputable section
noncomputable def xZhI:Fn xZaS:=⟨f30,[],⟨[(28,1)],[],sbf,bof⟩,fun _=>[],[true],none,0,0,fun _ _=>true,none,[],[],[]⟩
theorem xZi6:xZhI.Ok prog:=⟨Is.of (by kernel_rfl) (by kernel_rfl),by kernel_rfl,xZ6 sb_ok bo_ok,trivial,trivial,fun _=>by kernel_rfl⟩
theorem xZhT (N:Nat):xZaS.Ok prog N:=xZi6.give tb_ok hm N N (fun _=>trivial) fun a r s h=>by
 have l0:=s.loop 0 xZ6A (xZby N) N fun next0 h0=>by
  exact fun c v=>s.seg 0 xZ6A [(0,.of xZ6A next0)] ⟨h0,trivial⟩ (by kernel_rfl) (by kernel_rfl)
 exact s.main [(0,.of xZ6A (xZff N))] ⟨l0,trivial⟩ (.trans (by kernel_rfl) h)
noncomputable def xZhJ:Fn xZaT:=⟨f9,[],⟨[(43,4)],[],sbf,bof⟩,fun _=>[xZaS],[true],none,0,0,fun _ _=>true,none,[],[],[]⟩
theorem xZi7:xZhJ.Ok prog:=⟨Is.of (by kernel_rfl) (by kernel_rfl),by kernel_rfl,xZ6 sb_ok bo_ok,trivial,trivial,fun _=>by kernel_rfl⟩
theorem xZhU (N:Nat):xZaT.Ok prog N:=xZi7.give tb_ok hm N N (fun _=>⟨xZhT N,trivial⟩) fun a r s h=>by
 have l0:=s.loop 0 xZ6B (xZbz N) N fun next0 h0=>by
  exact fun c v=>s.seg 0 xZ6B [(0,.of xZ6B next0)] ⟨h0,trivial⟩ (by kernel_rfl) (by kernel_rfl)
 exact s.main [(0,.of xZ6B (xZfg N))] ⟨l0,trivial⟩ (.trans (by kernel_rfl) h)
noncomputable def xZbO:Fn xZ2v:=⟨f127,[],⟨[],[],sbf,bof⟩,fun _=>[],[true],none,0,0,fun _ _=>true,none,[],[],[]⟩
theorem xZc4:xZbO.Ok prog:=⟨Is.of (by kernel_rfl) (by kernel_rfl),by kernel_rfl,xZ6 sb_ok bo_ok,trivial,trivial,fun _=>by kernel_rfl⟩
theorem xZ59 (N:Nat):xZ2v.Ok prog N:=xZc4.give tb_ok hm N N (fun _=>trivial) fun a r s h=>by
 exact s.main [] trivial (.trans (by kernel_rfl) h)
noncomputable def xZae:Fn xZ4c:=⟨f96,[],⟨[],[],sbf,bof⟩,fun _=>[xZ2v],[true],none,0,0,fun _ _=>true,none,[],[],[]⟩
theorem xZaF:xZae.Ok prog:=⟨Is.of (by kernel_rfl) (by kernel_rfl),by kernel_rfl,xZ6 sb_ok bo_ok,trivial,trivial,fun _=>by kernel_rfl⟩
theorem xZai (N:Nat):xZ4c.Ok prog N:=xZaF.give tb_ok hm N N (fun _=>⟨xZ59 N,trivial⟩) fun a r s h=>by
 exact s.main [] trivial (.trans (by kernel_rfl) h)
noncomputable def xZb0:Fn xZ4I:=⟨f128,[],⟨[],[],sbf,bof⟩,fun _=>[],[true],none,0,0,fun _ _=>true,none,[],[],[]⟩
theorem xZbg:xZb0.Ok prog:=⟨Is.of (by kernel_rfl) (by kernel_rfl),by kernel_rfl,xZ6 sb_ok bo_ok,trivial,trivial,fun _=>by kernel_rfl⟩
theorem xZb7 (N:Nat):xZ4I.Ok prog N:=xZbg.give tb_ok hm N N (fun _=>trivial) fun a r s h=>by
 exact s.main [] trivial (.trans (by kernel_rfl) h)
noncomputable def xZaZ:Fn xZ4H:=⟨f97,[],⟨[],[],sbf,bof⟩,fun _=>[xZ2v,xZ4I,xZ4Y,xZ9F],[true],none,0,0,fun _ _=>true,none,[],[],[]⟩
theorem xZbf:xZaZ.Ok prog:=⟨Is.of (by kernel_rfl) (by kernel_rfl),by kernel_rfl,xZ6 sb_ok bo_ok,trivial,trivial,fun _=>by kernel_rfl⟩
theorem xZb6 (N:Nat):xZ4H.Ok prog N:=xZbf.give tb_ok hm N N (fun _=>⟨xZ59 N,xZb7 N,xZ8S N,xZcq N,trivial⟩) fun a r s h=>by
 exact s.main [] trivial (.trans (by kernel_rfl) h)
noncomputable def xZbN:Fn xZ57:=⟨f130,[],⟨[],[],sbf,bof⟩,fun _=>[],[true],none,0,0,fun _ _=>true,none,[],[],[]⟩
theorem xZc3:xZbN.Ok prog:=⟨Is.of (by kernel_rfl) (by kernel_rfl),by kernel_rfl,xZ6 sb_ok bo_ok,trivial,trivial,fun _=>by kernel_rfl⟩
theorem xZbU (N:Nat):xZ57.Ok prog N:=xZc3.give tb_ok hm N N (fun _=>trivial) fun a r s h=>by
 exact s.main [] trivial (.trans (by kernel_rfl) h)
noncomputable def xZbP:Fn xZ58:=⟨f98,[],⟨[],[],sbf,bof⟩,fun _=>[xZ57],[true],none,0,0,fun _ _=>true,none,[],[],[]⟩
theorem xZc5:xZbP.Ok prog:=⟨Is.of (by kernel_rfl) (by kernel_rfl),by kernel_rfl,xZ6 sb_ok bo_ok,trivial,trivial,fun _=>by kernel_rfl⟩
theorem xZbV (N:Nat):xZ58.Ok prog N:=xZc5.give tb_ok hm N N (fun _=>⟨xZbU N,trivial⟩) fun a r s h=>by
 exact s.main [] trivial (.trans (by kernel_rfl) h)
noncomputable def xZbM:Fn xZ3F:=⟨f99,[],⟨[],[],sbf,bof⟩,fun _=>[xZ2v],[true],none,0,0,fun _ _=>true,none,[],[],[]⟩
theorem xZc2:xZbM.Ok prog:=⟨Is.of (by kernel_rfl) (by kernel_rfl),by kernel_rfl,xZ6 sb_ok bo_ok,trivial,trivial,fun _=>by kernel_rfl⟩
theorem xZ8n (N:Nat):xZ3F.Ok prog N:=xZc2.give tb_ok hm N N (fun _=>⟨xZ59 N,trivial⟩) fun a r s h=>by
 exact s.main [] trivial (.trans (by kernel_rfl) h)
noncomputable def xZfO:Fn xZ5M:=⟨f60,[],⟨[],[],sbf,bof⟩,fun _=>[xZ4c,xZ4H,xZ58,xZ3F,xZ5M],[true,true],none,0,0,fun _ _=>true,none,[],[],[]⟩
theorem xZcJ:xZfO.Ok prog:=⟨Is.of (by kernel_rfl) (by kernel_rfl),by kernel_rfl,xZ6 sb_ok bo_ok,trivial,trivial,fun _=>by kernel_rfl⟩
theorem xZbw:∀ N,xZ5M.Ok prog N
 | 0=>⟨xZcJ.is.enters,fun a r h=>by (have h:none=some r:=h;cases h)⟩
 | N+1=>by
   obtain h_shape_tree:=xZbw N
   ·exact xZcJ.give tb_ok hm N (N+1) (fun _=>⟨xZai N,xZb6 N,xZbV N,xZ8n N,h_shape_tree,trivial⟩) fun a r s h=>by
     have l1:=s.loop 1 xZ5w (xZax N) N fun next1 h1=>by
      exact fun c v=>s.seg 1 xZ5w [(1,.of xZ5w next1)] ⟨h1,trivial⟩ (by kernel_rfl) (by kernel_rfl)
     exact s.main [(1,.of xZ5w (xZe7 N))] ⟨l1,trivial⟩ (.trans (by kernel_rfl) h)
theorem xZgc (N:Nat):xZ5M.Ok prog N:=(xZbw N)
noncomputable def xZfN:Fn xZ9P:=⟨f62,[],⟨[],[],sbf,bof⟩,fun _=>[],[true],none,0,0,fun _ _=>true,none,[],[],[]⟩
theorem xZgJ:xZfN.Ok prog:=⟨Is.of (by kernel_rfl) (by kernel_rfl),by kernel_rfl,xZ6 sb_ok bo_ok,trivial,trivial,fun _=>by kernel_rfl⟩
theorem xZgb (N:Nat):xZ9P.Ok prog N:=xZgJ.give tb_ok hm N N (fun _=>trivial) fun a r s h=>by
 exact s.main [] trivial (.trans (by kernel_rfl) h)
noncomputable def xZes:Fn xZ6m:=⟨f31,[],⟨[],[],sbf,bof⟩,fun _=>[xZ5M,xZ4Y,xZ9P],[true],none,0,0,fun _ _=>true,none,[],[],[]⟩
theorem xZf6:xZes.Ok prog:=⟨Is.of (by kernel_rfl) (by kernel_rfl),by kernel_rfl,xZ6 sb_ok bo_ok,trivial,trivial,fun _=>by kernel_rfl⟩
theorem xZbq (N:Nat):xZ6m.Ok prog N:=xZf6.give tb_ok hm N N (fun _=>⟨xZgc N,xZ8S N,xZgb N,trivial⟩) fun a r s h=>by
 exact s.main [] trivial (.trans (by kernel_rfl) h)
noncomputable def xZ8q:Fn xZN:=⟨f103,[],⟨[(23,3)],[],sbf,bof⟩,fun _=>[],[],none,1,2,fun _ _=>true,none,[],[],[(0,[(0,some 1,3)])]⟩
theorem xZ8y:xZ8q.Ok prog:=⟨Is.of (by kernel_rfl) (by kernel_rfl),by kernel_rfl,xZ6 sb_ok bo_ok,trivial,trivial,fun _=>by kernel_rfl⟩
theorem xZ1P (N:Nat):xZN.Ok prog N:=xZ8y.give tb_ok hm N N (fun _=>trivial) fun a r s h=>by
 exact s.main [] trivial (.trans (by kernel_rfl) h)
noncomputable def xZfM:Fn xZ5L:=⟨f86,[],⟨[],[],sbf,bof⟩,fun _=>[xZ3F],[true],none,0,0,fun _ _=>true,none,[],[],[]⟩
theorem xZgI:xZfM.Ok prog:=⟨Is.of (by kernel_rfl) (by kernel_rfl),by kernel_rfl,xZ6 sb_ok bo_ok,trivial,trivial,fun _=>by kernel_rfl⟩
theorem xZa0 (N:Nat):xZ5L.Ok prog N:=xZgI.give tb_ok hm N N (fun _=>⟨xZ8n N,trivial⟩) fun a r s h=>by
 have l0:=s.loop 0 xZ5v (xZaw N) N fun next0 h0=>by
  exact fun c v=>s.seg 0 xZ5v [(0,.of xZ5v next0)] ⟨h0,trivial⟩ (by kernel_rfl) (by kernel_rfl)
 exact s.main [(0,.of xZ5v (xZe6 N))] ⟨l0,trivial⟩ (.trans (by kernel_rfl) h)
noncomputable def xZ7M:Fn xZ2l:=⟨f63,[],⟨[(44,2)],[],sbf,bof⟩,fun _=>[xZN,xZ24],[],none,1,2,fun _ _=>true,none,[],[],[(0,[(0,some 1,3),(0,some 2,2)])]⟩
theorem xZ84:xZ7M.Ok prog:=⟨Is.of (by kernel_rfl) (by kernel_rfl),by kernel_rfl,xZ6 sb_ok bo_ok,trivial,trivial,fun _=>by kernel_rfl⟩
theorem xZ7W (N:Nat):xZ2l.Ok prog N:=xZ84.give tb_ok hm N N (fun _=>⟨xZ1P N,xZ3r N,trivial⟩) fun a r s h=>by
 exact s.main [] trivial (.trans (by kernel_rfl) h)
end
end
section
open Go.Proofs.Tryz
set_option maxRecDepth 1000000
noncomputable section
noncomputable def xZ7O:Fn xZw:=⟨f32,[],⟨[],[],sbf,bof⟩,fun _=>[xZ2A,xZ2y,xZ2z,xZ2l],[],none,1,2,fun _ _=>true,none,[],[],[(0,[(0,some 1,3),(0,some 2,2)])]⟩
theorem xZ4n:xZ7O.Ok prog:=⟨Is.of (by kernel_rfl) (by kernel_rfl),by kernel_rfl,xZ6 sb_ok bo_ok,trivial,trivial,fun _=>by kernel_rfl⟩
noncomputable def xZ8s:Fn xZ2A:=⟨f64,[],⟨[],[],sbf,bof⟩,fun _=>[xZ1H],[],none,1,2,fun _ _=>true,none,[],[],[]⟩
theorem xZ4C:xZ8s.Ok prog:=⟨Is.of (by kernel_rfl) (by kernel_rfl),by kernel_rfl,xZ6 sb_ok bo_ok,trivial,trivial,fun _=>by kernel_rfl⟩
noncomputable def xZ7N:Fn xZ1H:=⟨f105,[],⟨[],[],sbf,bof⟩,fun _=>[xZN,xZw,xZ5L],[],none,1,2,fun _ _=>true,none,[],[],[]⟩
theorem xZ4m:xZ7N.Ok prog:=⟨Is.of (by kernel_rfl) (by kernel_rfl),by kernel_rfl,xZ6 sb_ok bo_ok,trivial,trivial,fun _=>by kernel_rfl⟩
noncomputable def xZ8p:Fn xZ2y:=⟨f65,[],⟨[],[],sbf,bof⟩,fun _=>[xZ1H],[],none,1,2,fun _ _=>true,none,[],[],[]⟩
theorem xZ4A:xZ8p.Ok prog:=⟨Is.of (by kernel_rfl) (by kernel_rfl),by kernel_rfl,xZ6 sb_ok bo_ok,trivial,trivial,fun _=>by kernel_rfl⟩
noncomputable def xZ8r:Fn xZ2z:=⟨f66,[],⟨[],[],sbf,bof⟩,fun _=>[xZN,xZw,xZ1b],[],none,1,2,fun _ _=>true,none,[],[],[]⟩
theorem xZ4B:xZ8r.Ok prog:=⟨Is.of (by kernel_rfl) (by kernel_rfl),by kernel_rfl,xZ6 sb_ok bo_ok,trivial,trivial,fun _=>by kernel_rfl⟩
noncomputable def xZ64:Fn xZ1b:=⟨f106,[],⟨[],[],sbf,bof⟩,fun _=>[xZN,xZw,xZ1b],[],none,1,2,fun _ _=>true,none,[],[],[(0,[(0,some 1,3),(0,some 2,2)])]⟩
theorem xZ3l:xZ64.Ok prog:=⟨Is.of (by kernel_rfl) (by kernel_rfl),by kernel_rfl,xZ6 sb_ok bo_ok,trivial,trivial,fun _=>by kernel_rfl⟩
theorem xZ3X:∀ N,xZw.Ok prog N∧xZ2A.Ok prog N∧xZ1H.Ok prog N∧xZ2y.Ok prog N∧xZ2z.Ok prog N∧xZ1b.Ok prog N
 | 0=>⟨⟨xZ4n.is.enters,fun a r h=>by (have h:none=some r:=h;cases h)⟩,⟨xZ4C.is.enters,fun a r h=>by (have h:none=some r:=h;cases h)⟩,⟨xZ4m.is.enters,fun a r h=>by (have h:none=some r:=h;cases h)⟩,⟨xZ4A.is.enters,fun a r h=>by (have h:none=some r:=h;cases h)⟩,⟨xZ4B.is.enters,fun a r h=>by (have h:none=some r:=h;cases h)⟩,⟨xZ3l.is.enters,fun a r h=>by (have h:none=some r:=h;cases h)⟩⟩
 | N+1=>by
   obtain ⟨h_core_builder_tree_v961,h_core_builder_seq_v961,h_core_builder_list_v241,h_core_builder_alt_v961,h_core_builder_rep_v961,h_core_builder_perhaps_v642⟩:=xZ3X N
   refine ⟨?_,?_,?_,?_,?_,?_⟩
   ·exact xZ4n.give tb_ok hm N (N+1) (fun _=>⟨h_core_builder_seq_v961,h_core_builder_alt_v961,h_core_builder_rep_v961,xZ7W N,trivial⟩) fun a r s h=>by
     exact s.main [] trivial (.trans (by kernel_rfl) h)
   ·exact xZ4C.give tb_ok hm N (N+1) (fun _=>⟨h_core_builder_list_v241,trivial⟩) fun a r s h=>by
     exact s.main [] trivial (.trans (by kernel_rfl) h)
   ·exact xZ4m.give tb_ok hm N (N+1) (fun _=>⟨xZ1P N,h_core_builder_tree_v961,xZa0 N,trivial⟩) fun a r s h=>by
     have l0:=s.loop 0 xZ1n (xZ3t N) N fun next0 h0=>by
      exact fun c v=>s.seg 0 xZ1n [(0,.of xZ1n next0)] ⟨h0,trivial⟩ (by kernel_rfl) (by kernel_rfl)
     exact s.main [(0,.of xZ1n (xZ7i N))] ⟨l0,trivial⟩ (.trans (by kernel_rfl) h)
   ·exact xZ4A.give tb_ok hm N (N+1) (fun _=>⟨h_core_builder_list_v241,trivial⟩) fun a r s h=>by
     exact s.main [] trivial (.trans (by kernel_rfl) h)
   ·exact xZ4B.give tb_ok hm N (N+1) (fun _=>⟨xZ1P N,h_core_builder_tree_v961,h_core_builder_perhaps_v642,trivial⟩) fun a r s h=>by
     have l0:=s.loop 0 xZ1B (xZ41 N) N fun next0 h0=>by
      exact fun c v=>s.seg 0 xZ1B [(0,.of xZ1B next0)] ⟨h0,trivial⟩ (by kernel_rfl) (by kernel_rfl)
     exact s.main [(0,.of xZ1B (xZ7E N))] ⟨l0,trivial⟩ (.trans (by kernel_rfl) h)
   ·exact xZ3l.give tb_ok hm N (N+1) (fun _=>⟨xZ1P N,h_core_builder_tree_v961,h_core_builder_perhaps_v642,trivial⟩) fun a r s h=>by
     exact s.main [] trivial (.trans (by kernel_rfl) h)
theorem xZ7X (N:Nat):xZw.Ok prog N:=(xZ3X N).1
noncomputable def xZft:Fn xZ9C:=⟨f10,[],⟨[],[],sbf,bof⟩,fun _=>[xZ6m,xZw],[true,true],none,0,0,fun _ _=>true,none,[],[],[(26,[(12,some 1,3),(12,some 2,2)])]⟩
theorem xZgs:xZft.Ok prog:=⟨Is.of (by kernel_rfl) (by kernel_rfl),by kernel_rfl,xZ6 sb_ok bo_ok,trivial,trivial,fun _=>by kernel_rfl⟩
theorem xZfW (N:Nat):xZ9C.Ok prog N:=xZgs.give tb_ok hm N N (fun _=>⟨xZbq N,xZ7X N,trivial⟩) fun a r s h=>by
 exact s.main [] trivial (.trans (by kernel_rfl) h)
noncomputable def xZci:Fn xZ5G:=⟨f109,[],⟨[(5,0)],[],sbf,bof⟩,fun _=>[],[true],none,0,0,fun _ _=>true,none,[],[],[]⟩
theorem xZcF:xZci.Ok prog:=⟨Is.of (by kernel_rfl) (by kernel_rfl),by kernel_rfl,xZ6 sb_ok bo_ok,trivial,trivial,fun _=>by kernel_rfl⟩
theorem xZcs (N:Nat):xZ5G.Ok prog N:=xZcF.give tb_ok hm N N (fun _=>trivial) fun a r s h=>by
 have l0:=s.loop 0 xZ39 (xZ7B N) N fun next0 h0=>by
  exact fun c v=>s.seg 0 xZ39 [(0,.of xZ39 next0)] ⟨h0,trivial⟩ (by kernel_rfl) (by kernel_rfl)
 exact s.main [(0,.of xZ39 (xZbl N))] ⟨l0,trivial⟩ (.trans (by kernel_rfl) h)
noncomputable def xZfA:Fn xZ5F:=⟨f68,[],⟨[],[],sbf,bof⟩,fun _=>[xZ5G],[true],none,0,0,fun _ _=>true,none,[],[],[]⟩
theorem xZgz:xZfA.Ok prog:=⟨Is.of (by kernel_rfl) (by kernel_rfl),by kernel_rfl,xZ6 sb_ok bo_ok,trivial,trivial,fun _=>by kernel_rfl⟩
theorem xZ9Y (N:Nat):xZ5F.Ok prog N:=xZgz.give tb_ok hm N N (fun _=>⟨xZcs N,trivial⟩) fun a r s h=>by
 have l0:=s.loop 0 xZ5o (xZap N) N fun next0 h0=>by
  exact fun c v=>s.seg 0 xZ5o [(0,.of xZ5o next0)] ⟨h0,trivial⟩ (by kernel_rfl) (by kernel_rfl)
 exact s.main [(0,.of xZ5o (xZdZ N))] ⟨l0,trivial⟩ (.trans (by kernel_rfl) h)
noncomputable def xZhN:Fn xZaX:=⟨f157,[],⟨[],[],sbf,bof⟩,fun _=>[],[true],none,0,0,fun _ _=>true,none,[],[],[]⟩
theorem xZib:xZhN.Ok prog:=⟨Is.of (by kernel_rfl) (by kernel_rfl),by kernel_rfl,xZ6 sb_ok bo_ok,trivial,trivial,fun _=>by kernel_rfl⟩
theorem xZhY (N:Nat):xZaX.Ok prog N:=xZib.give tb_ok hm N N (fun _=>trivial) fun a r s h=>by
 exact s.main [] trivial (.trans (by kernel_rfl) h)
noncomputable def xZhL:Fn xZaV:=⟨f179,[],⟨[],[],sbf,bof⟩,fun _=>[],[true],none,0,0,fun _ _=>true,none,[],[],[]⟩
theorem xZi9:xZhL.Ok prog:=⟨Is.of (by kernel_rfl) (by kernel_rfl),by kernel_rfl,xZ6 sb_ok bo_ok,trivial,trivial,fun _=>by kernel_rfl⟩
theorem xZhW (N:Nat):xZaV.Ok prog N:=xZi9.give tb_ok hm N N (fun _=>trivial) fun a r s h=>by
 exact s.main [] trivial (.trans (by kernel_rfl) h)
noncomputable def xZfy:Fn xZ9H:=⟨f180,[],⟨[],[],sbf,bof⟩,fun _=>[],[true],none,0,0,fun _ _=>true,none,[],[],[]⟩
theorem xZgx:xZfy.Ok prog:=⟨Is.of (by kernel_rfl) (by kernel_rfl),by kernel_rfl,xZ6 sb_ok bo_ok,trivial,trivial,fun _=>by kernel_rfl⟩
theorem xZg0 (N:Nat):xZ9H.Ok prog N:=xZgx.give tb_ok hm N N (fun _=>trivial) fun a r s h=>by
 exact s.main [] trivial (.trans (by kernel_rfl) h)
noncomputable def xZfz:Fn xZ9I:=⟨f175,[],⟨[],[],sbf,bof⟩,fun _=>[xZaV,xZ9H],[true],none,0,0,fun _ _=>true,none,[],[],[]⟩
theorem xZgy:xZfz.Ok prog:=⟨Is.of (by kernel_rfl) (by kernel_rfl),by kernel_rfl,xZ6 sb_ok bo_ok,trivial,trivial,fun _=>by kernel_rfl⟩
theorem xZg1 (N:Nat):xZ9I.Ok prog N:=xZgy.give tb_ok hm N N (fun _=>⟨xZhW N,xZg0 N,trivial⟩) fun a r s h=>by
 exact s.main [] trivial (.trans (by kernel_rfl) h)
noncomputable def xZej:Fn xZ8H:=⟨f171,[],⟨[],[],sbf,bof⟩,fun _=>[xZ9I],[true],none,0,0,fun _ _=>true,none,[],[],[]⟩
theorem xZeX:xZej.Ok prog:=⟨Is.of (by kernel_rfl) (by kernel_rfl),by kernel_rfl,xZ6 sb_ok bo_ok,trivial,trivial,fun _=>by kernel_rfl⟩
theorem xZeA (N:Nat):xZ8H.Ok prog N:=xZeX.give tb_ok hm N N (fun _=>⟨xZg1 N,trivial⟩) fun a r s h=>by
 exact s.main [] trivial (.trans (by kernel_rfl) h)
noncomputable def xZek:Fn xZ8I:=⟨f166,[],⟨[],[],sbf,bof⟩,fun _=>[xZ8H],[true],none,0,0,fun _ _=>true,none,[],[],[]⟩
theorem xZeY:xZek.Ok prog:=⟨Is.of (by kernel_rfl) (by kernel_rfl),by kernel_rfl,xZ6 sb_ok bo_ok,trivial,trivial,fun _=>by kernel_rfl⟩
theorem xZeB (N:Nat):xZ8I.Ok prog N:=xZeY.give tb_ok hm N N (fun _=>⟨xZeA N,trivial⟩) fun a r s h=>by
 exact s.main [] trivial (.trans (by kernel_rfl) h)
end
end
section
open Go.Proofs.Tryz
set_option maxRecDepth 1000000
noncomputable section
noncomputable def xZem:Fn xZ8K:=⟨f158,[],⟨[],[],sbf,bof⟩,fun _=>[xZ5F,xZ8I],[true],none,0,0,fun _ _=>true,none,[],[114],[]⟩
theorem xZf0:xZem.Ok prog:=⟨Is.of (by kernel_rfl) (by kernel_rfl),by kernel_rfl,xZ6 sb_ok bo_ok,trivial,trivial,fun _=>by kernel_rfl⟩
theorem xZeD (N:Nat):xZ8K.Ok prog N:=xZf0.give tb_ok hm N N (fun _=>⟨xZ9Y N,xZeB N,trivial⟩) fun a r s h=>by
 have lj2:=s.jn 1000114 xZ90 (xZ96 N) [] trivial (by kernel_rfl) (fun x=>by kernel_rfl)
 exact s.main [(1000114,.of xZ90 (xZ96 N))] ⟨lj2,trivial⟩ (.trans (by kernel_rfl) h)
noncomputable def xZfB:Fn xZ9J:=⟨f159,[],⟨[],[],sbf,bof⟩,fun _=>[],[true],none,0,0,fun _ _=>true,none,[],[],[]⟩
theorem xZgA:xZfB.Ok prog:=⟨Is.of (by kernel_rfl) (by kernel_rfl),by kernel_rfl,xZ6 sb_ok bo_ok,trivial,trivial,fun _=>by kernel_rfl⟩
theorem xZg2 (N:Nat):xZ9J.Ok prog N:=xZgA.give tb_ok hm N N (fun _=>trivial) fun a r s h=>by
 exact s.main [] trivial (.trans (by kernel_rfl) h)
noncomputable def xZhM:Fn xZaW:=⟨f160,[],⟨[],[],sbf,bof⟩,fun _=>[],[true],none,0,0,fun _ _=>true,none,[],[],[]⟩
theorem xZia:xZhM.Ok prog:=⟨Is.of (by kernel_rfl) (by kernel_rfl),by kernel_rfl,xZ6 sb_ok bo_ok,trivial,trivial,fun _=>by kernel_rfl⟩
theorem xZhX (N:Nat):xZaW.Ok prog N:=xZia.give tb_ok hm N N (fun _=>trivial) fun a r s h=>by
 exact s.main [] trivial (.trans (by kernel_rfl) h)
noncomputable def xZfC:Fn xZ5H:=⟨f146,[],⟨[],[],sbf,bof⟩,fun _=>[xZaX,xZ8K,xZ9J,xZaW,xZ5H],[true,true],none,0,0,fun _ _=>true,none,[],[],[]⟩
theorem xZcG:xZfC.Ok prog:=⟨Is.of (by kernel_rfl) (by kernel_rfl),by kernel_rfl,xZ6 sb_ok bo_ok,trivial,trivial,fun _=>by kernel_rfl⟩
theorem xZbt:∀ N,xZ5H.Ok prog N
 | 0=>⟨xZcG.is.enters,fun a r h=>by (have h:none=some r:=h;cases h)⟩
 | N+1=>by
   obtain h_ref11_tree:=xZbt N
   ·exact xZcG.give tb_ok hm N (N+1) (fun _=>⟨xZhY N,xZeD N,xZg2 N,xZhX N,h_ref11_tree,trivial⟩) fun a r s h=>by
     have l0:=s.loop 0 xZ5p (xZaq N) N fun next0 h0=>by
      exact fun c v=>s.seg 0 xZ5p [(0,.of xZ5p next0)] ⟨h0,trivial⟩ (by kernel_rfl) (by kernel_rfl)
     exact s.main [(0,.of xZ5p (xZe0 N))] ⟨l0,trivial⟩ (.trans (by kernel_rfl) h)
theorem xZg3 (N:Nat):xZ5H.Ok prog N:=(xZbt N)
noncomputable def xZel:Fn xZ8J:=⟨f131,[],⟨[],[],sbf,bof⟩,fun _=>[xZ5H],[true],none,0,0,fun _ _=>true,none,[],[],[]⟩
theorem xZeZ:xZel.Ok prog:=⟨Is.of (by kernel_rfl) (by kernel_rfl),by kernel_rfl,xZ6 sb_ok bo_ok,trivial,trivial,fun _=>by kernel_rfl⟩
theorem xZeC (N:Nat):xZ8J.Ok prog N:=xZeZ.give tb_ok hm N N (fun _=>⟨xZg3 N,trivial⟩) fun a r s h=>by
 exact s.main [] trivial (.trans (by kernel_rfl) h)
noncomputable def xZeo:Fn xZ8M:=⟨f107,[],⟨[],[],sbf,bof⟩,fun _=>[xZ5F,xZ8J],[true],none,0,0,fun _ _=>true,none,[],[26,42,63,163,201],[]⟩
theorem xZf2:xZeo.Ok prog:=⟨Is.of (by kernel_rfl) (by kernel_rfl),by kernel_rfl,xZ6 sb_ok bo_ok,trivial,trivial,fun _=>by kernel_rfl⟩
theorem xZeF (N:Nat):xZ8M.Ok prog N:=xZf2.give tb_ok hm N N (fun _=>⟨xZ9Y N,xZeC N,trivial⟩) fun a r s h=>by
 have lj4:=s.jn 1000201 xZ95 (xZ9b N) [] trivial (by kernel_rfl) (fun x=>by kernel_rfl)
 have lj3:=s.jn 1000163 xZ94 (xZ9a N) [(1000201,.of xZ95 (xZ9b N))] ⟨lj4,trivial⟩ (by kernel_rfl) (fun x=>by kernel_rfl)
 have lj2:=s.jn 1000063 xZ93 (xZ99 N) [(1000163,.of xZ94 (xZ9a N))] ⟨lj3,trivial⟩ (by kernel_rfl) (fun x=>by kernel_rfl)
 have lj1:=s.jn 1000042 xZ92 (xZ98 N) [(1000063,.of xZ93 (xZ99 N))] ⟨lj2,trivial⟩ (by kernel_rfl) (fun x=>by kernel_rfl)
 have lj0:=s.jn 1000026 xZ91 (xZ97 N) [(1000042,.of xZ92 (xZ98 N))] ⟨lj1,trivial⟩ (by kernel_rfl) (fun x=>by kernel_rfl)
 exact s.main [(1000026,.of xZ91 (xZ97 N))] ⟨lj0,trivial⟩ (.trans (by kernel_rfl) h)
noncomputable def xZfD:Fn xZ5I:=⟨f108,[],⟨[],[],sbf,bof⟩,fun _=>[],[true],none,0,0,fun _ _=>true,none,[],[],[]⟩
theorem xZgB:xZfD.Ok prog:=⟨Is.of (by kernel_rfl) (by kernel_rfl),by kernel_rfl,xZ6 sb_ok bo_ok,trivial,trivial,fun _=>by kernel_rfl⟩
theorem xZ9Z (N:Nat):xZ5I.Ok prog N:=xZgB.give tb_ok hm N N (fun _=>trivial) fun a r s h=>by
 exact s.main [] trivial (.trans (by kernel_rfl) h)
noncomputable def xZfG:Fn xZ5J:=⟨f67,[],⟨[],[],sbf,bof⟩,fun _=>[xZ8M,xZ5I,xZ5J],[true,true],none,0,0,fun _ _=>true,none,[],[],[]⟩
theorem xZcH:xZfG.Ok prog:=⟨Is.of (by kernel_rfl) (by kernel_rfl),by kernel_rfl,xZ6 sb_ok bo_ok,trivial,trivial,fun _=>by kernel_rfl⟩
theorem xZbu:∀ N,xZ5J.Ok prog N
 | 0=>⟨xZcH.is.enters,fun a r h=>by (have h:none=some r:=h;cases h)⟩
 | N+1=>by
   obtain h_ref13_tree:=xZbu N
   ·exact xZcH.give tb_ok hm N (N+1) (fun _=>⟨xZeF N,xZ9Z N,h_ref13_tree,trivial⟩) fun a r s h=>by
     have l0:=s.loop 0 xZ5r (xZas N) N fun next0 h0=>by
      exact fun c v=>s.seg 0 xZ5r [(0,.of xZ5r next0)] ⟨h0,trivial⟩ (by kernel_rfl) (by kernel_rfl)
     exact s.main [(0,.of xZ5r (xZe2 N))] ⟨l0,trivial⟩ (.trans (by kernel_rfl) h)
theorem xZg6 (N:Nat):xZ5J.Ok prog N:=(xZbu N)
noncomputable def xZfF:Fn xZ9L:=⟨f69,[],⟨[],[],sbf,bof⟩,fun _=>[],[true],none,0,0,fun _ _=>true,none,[],[],[]⟩
theorem xZgD:xZfF.Ok prog:=⟨Is.of (by kernel_rfl) (by kernel_rfl),by kernel_rfl,xZ6 sb_ok bo_ok,trivial,trivial,fun _=>by kernel_rfl⟩
theorem xZg5 (N:Nat):xZ9L.Ok prog N:=xZgD.give tb_ok hm N N (fun _=>trivial) fun a r s h=>by
 exact s.main [] trivial (.trans (by kernel_rfl) h)
noncomputable def xZen:Fn xZ8L:=⟨f33,[],⟨[],[],sbf,bof⟩,fun _=>[xZ5J,xZ5F,xZ9L],[true],none,0,0,fun _ _=>true,none,[],[],[]⟩
theorem xZf1:xZen.Ok prog:=⟨Is.of (by kernel_rfl) (by kernel_rfl),by kernel_rfl,xZ6 sb_ok bo_ok,trivial,trivial,fun _=>by kernel_rfl⟩
theorem xZeE (N:Nat):xZ8L.Ok prog N:=xZf1.give tb_ok hm N N (fun _=>⟨xZg6 N,xZ9Y N,xZg5 N,trivial⟩) fun a r s h=>by
 exact s.main [] trivial (.trans (by kernel_rfl) h)
noncomputable def xZfH:Fn xZ9M:=⟨f45,[],⟨[],[],sbf,bof⟩,fun _=>[],[true],none,0,0,fun _ _=>true,none,[],[],[]⟩
theorem xZgE:xZfH.Ok prog:=⟨Is.of (by kernel_rfl) (by kernel_rfl),by kernel_rfl,xZ6 sb_ok bo_ok,trivial,trivial,fun _=>by kernel_rfl⟩
theorem xZg7 (N:Nat):xZ9M.Ok prog N:=xZgE.give tb_ok hm N N (fun _=>trivial) fun a r s h=>by
 exact s.main [] trivial (.trans (by kernel_rfl) h)
noncomputable def xZfE:Fn xZ9K:=⟨f110,[],⟨[],[],sbf,bof⟩,fun _=>[xZ5I],[true],none,0,0,fun _ _=>true,none,[],[],[]⟩
theorem xZgC:xZfE.Ok prog:=⟨Is.of (by kernel_rfl) (by kernel_rfl),by kernel_rfl,xZ6 sb_ok bo_ok,trivial,trivial,fun _=>by kernel_rfl⟩
theorem xZg4 (N:Nat):xZ9K.Ok prog N:=xZgC.give tb_ok hm N N (fun _=>⟨xZ9Z N,trivial⟩) fun a r s h=>by
 have l0:=s.loop 0 xZ5q (xZar N) N fun next0 h0=>by
  exact fun c v=>s.seg 0 xZ5q [(0,.of xZ5q next0)] ⟨h0,trivial⟩ (by kernel_rfl) (by kernel_rfl)
 exact s.main [(0,.of xZ5q (xZe1 N))] ⟨l0,trivial⟩ (.trans (by kernel_rfl) h)
noncomputable def xZfI:Fn xZ9N:=⟨f82,[],⟨[(21,13)],[],sbf,bof⟩,fun _=>[xZ5I,xZ9K],[true],none,0,0,fun _ _=>true,none,[],[],[]⟩
theorem xZgF:xZfI.Ok prog:=⟨Is.of (by kernel_rfl) (by kernel_rfl),by kernel_rfl,xZ6 sb_ok bo_ok,trivial,trivial,fun _=>by kernel_rfl⟩
theorem xZg8 (N:Nat):xZ9N.Ok prog N:=xZgF.give tb_ok hm N N (fun _=>⟨xZ9Z N,xZg4 N,trivial⟩) fun a r s h=>by
 have l0:=s.loop 0 xZ5s (xZat N) N fun next0 h0=>by
  exact fun c v=>s.seg 0 xZ5s [(0,.of xZ5s next0)] ⟨h0,trivial⟩ (by kernel_rfl) (by kernel_rfl)
 exact s.main [(0,.of xZ5s (xZe3 N))] ⟨l0,trivial⟩ (.trans (by kernel_rfl) h)
noncomputable def xZdq:Fn xZ7K:=⟨f83,[],⟨[],[],sbf,bof⟩,fun _=>[],[true,true],none,0,0,fun _ _=>true,none,[],[],[]⟩
theorem xZdS:xZdq.Ok prog:=⟨Is.of (by kernel_rfl) (by kernel_rfl),by kernel_rfl,xZ6 sb_ok bo_ok,trivial,trivial,fun _=>by kernel_rfl⟩
theorem xZdw (N:Nat):xZ7K.Ok prog N:=xZdS.give tb_ok hm N N (fun _=>trivial) fun a r s h=>by
 exact s.main [] trivial (.trans (by kernel_rfl) h)
noncomputable def xZfJ:Fn xZ5K:=⟨f54,[],⟨[(22,13),(27,13)],[],sbf,bof⟩,fun _=>[xZ9M,xZ9N,xZ7K,xZ5K],[true],none,0,0,fun _ _=>true,none,[],[],[]⟩
theorem xZcI:xZfJ.Ok prog:=⟨Is.of (by kernel_rfl) (by kernel_rfl),by kernel_rfl,xZ6 sb_ok bo_ok,trivial,trivial,fun _=>by kernel_rfl⟩
theorem xZbv:∀ N,xZ5K.Ok prog N
 | 0=>⟨xZcI.is.enters,fun a r h=>by (have h:none=some r:=h;cases h)⟩
 | N+1=>by
   obtain h_ref15_walk:=xZbv N
   ·exact xZcI.give tb_ok hm N (N+1) (fun _=>⟨xZg7 N,xZg8 N,xZdw N,h_ref15_walk,trivial⟩) fun a r s h=>by
     have l0:=s.loop 0 xZ5t (xZau N) N fun next0 h0=>by
      exact fun c v=>s.seg 0 xZ5t [(0,.of xZ5t next0)] ⟨h0,trivial⟩ (by kernel_rfl) (by kernel_rfl)
     have l2:=s.loop 2 xZ5u (xZav N) N fun next2 h2=>by
      exact fun c v=>s.seg 2 xZ5u [(2,.of xZ5u next2)] ⟨h2,trivial⟩ (by kernel_rfl) (by kernel_rfl)
     exact s.main [(0,.of xZ5t (xZe4 N)),(2,.of xZ5u (xZe5 N))] ⟨l0,l2,trivial⟩ (.trans (by kernel_rfl) h)
theorem xZg9 (N:Nat):xZ5K.Ok prog N:=(xZbv N)
end
end
end Go.Proofs.YtmllclbhdmajmaaGreat.K
