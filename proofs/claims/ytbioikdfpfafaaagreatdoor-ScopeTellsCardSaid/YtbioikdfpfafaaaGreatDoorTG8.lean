/- The code, and what each function of it is walked to. No premise beyond what each theorem says. -/
import Derived.Test.YtbioikdfpfafaaaGreatDoorTG7
set_option linter.all false
set_option linter.unusedSimpArgs false
set_option linter.unusedVariables false
namespace Go.Proofs.YtbioikdfpfafaaaGreatDoor.T
open Go
section
open Go.Proofs.Tryz
set_option maxRecDepth 1000000
noncomputable section
noncomputable def xZks:Fn xZbp:=⟨f8,[],⟨[],[],sbf,bof⟩,fun _=>[],[true],none,0,0,fun _ _=>true,none,[],[]⟩
theorem xZjy:xZks.Ok prog:=⟨Is.of (by kernel_rfl) (by kernel_rfl),by kernel_rfl,xZ4 sb_ok bo_ok,trivial,trivial,fun _=>by kernel_rfl⟩
theorem xZiQ (N:Nat):xZbp.Ok prog N:=xZjy.give tb_ok hm N N (fun _=>trivial) fun a r s h=>by
 have l0:=s.loop 0 xZ4x (xZc0 N) N fun next0 h0=>by
  have l2:=s.loop 2 xZ65 (xZc2 N next0) N fun next2 h2=>by
   exact fun c v=>s.seg 2 xZ65 [(0,.of xZ4x next0),(2,.of xZ65 next2)] ⟨h0,h2,trivial⟩ (by kernel_rfl) (by kernel_rfl)
  exact fun c v=>s.seg 0 xZ4x [(0,.of xZ4x next0),(2,.of xZ65 (xZgG N next0))] ⟨h0,l2,trivial⟩ (by kernel_rfl) (by kernel_rfl)
 exact s.main [(0,.of xZ4x (xZgm N))] ⟨l0,trivial⟩ (.trans (by kernel_rfl) h)
noncomputable def xZlm:Fn xZd7:=⟨f23,[],⟨[(28,4)],[],sbf,bof⟩,fun _=>[],[true],none,0,0,fun _ _=>true,none,[],[]⟩
theorem xZlu:xZlm.Ok prog:=⟨Is.of (by kernel_rfl) (by kernel_rfl),by kernel_rfl,xZ4 sb_ok bo_ok,trivial,trivial,fun _=>by kernel_rfl⟩
theorem xZlz (N:Nat):xZd7.Ok prog N:=xZlu.give tb_ok hm N N (fun _=>trivial) fun a r s h=>by
 have l0:=s.loop 0 xZ78 (xZdy N) N fun next0 h0=>by
  exact fun c v=>s.seg 0 xZ78 [(0,.of xZ78 next0)] ⟨h0,trivial⟩ (by kernel_rfl) (by kernel_rfl)
 exact s.main [(0,.of xZ78 (xZid N))] ⟨l0,trivial⟩ (.trans (by kernel_rfl) h)
noncomputable def xZm7:Fn xZcU:=⟨f10,[],⟨[(43,5)],[],sbf,bof⟩,fun _=>[xZd7],[true],none,0,0,fun _ _=>true,none,[],[]⟩
theorem xZls:xZm7.Ok prog:=⟨Is.of (by kernel_rfl) (by kernel_rfl),by kernel_rfl,xZ4 sb_ok bo_ok,trivial,trivial,fun _=>by kernel_rfl⟩
theorem xZlE (N:Nat):xZcU.Ok prog N:=xZls.give tb_ok hm N N (fun _=>⟨xZlz N,trivial⟩) fun a r s h=>by
 have l0:=s.loop 0 xZ7w (xZdw N) N fun next0 h0=>by
  exact fun c v=>s.seg 0 xZ7w [(0,.of xZ7w next0)] ⟨h0,trivial⟩ (by kernel_rfl) (by kernel_rfl)
 exact s.main [(0,.of xZ7w (xZiB N))] ⟨l0,trivial⟩ (.trans (by kernel_rfl) h)
noncomputable def xZlI:Fn xZd2:=⟨f12,[],⟨[(39,2),(44,3)],[],sbf,bof⟩,fun _=>[],[true],none,0,0,fun _ _=>true,none,[],[]⟩
theorem xZlR:xZlI.Ok prog:=⟨Is.of (by kernel_rfl) (by kernel_rfl),by kernel_rfl,xZ4 sb_ok bo_ok,trivial,trivial,fun _=>by kernel_rfl⟩
theorem xZlJ (N:Nat):xZd2.Ok prog N:=xZlR.give tb_ok hm N N (fun _=>trivial) fun a r s h=>by
 have l0:=s.loop 0 xZ5m (xZdK N) N fun next0 h0=>by
  have l2:=s.loop 2 xZ7u (xZdx N next0) N fun next2 h2=>by
   exact fun c v=>s.seg 2 xZ7u [(0,.of xZ5m next0),(2,.of xZ7u next2)] ⟨h0,h2,trivial⟩ (by kernel_rfl) (by kernel_rfl)
  exact fun c v=>s.seg 0 xZ5m [(0,.of xZ5m next0),(2,.of xZ7u (xZhB N next0))] ⟨h0,l2,trivial⟩ (by kernel_rfl) (by kernel_rfl)
 exact s.main [(0,.of xZ5m (xZig N))] ⟨l0,trivial⟩ (.trans (by kernel_rfl) h)
noncomputable def xZdY:Fn xZ2w:=⟨f139,[],⟨[],[],sbf,bof⟩,fun _=>[],[true],none,0,0,fun _ _=>true,none,[],[]⟩
theorem xZdR:xZdY.Ok prog:=⟨Is.of (by kernel_rfl) (by kernel_rfl),by kernel_rfl,xZ4 sb_ok bo_ok,trivial,trivial,fun _=>by kernel_rfl⟩
theorem xZ5w (N:Nat):xZ2w.Ok prog N:=xZdR.give tb_ok hm N N (fun _=>trivial) fun a r s h=>by
 exact s.main [] trivial (.trans (by kernel_rfl) h)
noncomputable def xZbT:Fn xZ4i:=⟨f92,[],⟨[],[],sbf,bof⟩,fun _=>[xZ2w],[true],none,0,0,fun _ _=>true,none,[],[]⟩
theorem xZcg:xZbT.Ok prog:=⟨Is.of (by kernel_rfl) (by kernel_rfl),by kernel_rfl,xZ4 sb_ok bo_ok,trivial,trivial,fun _=>by kernel_rfl⟩
theorem xZc4 (N:Nat):xZ4i.Ok prog N:=xZcg.give tb_ok hm N N (fun _=>⟨xZ5w N,trivial⟩) fun a r s h=>by
 exact s.main [] trivial (.trans (by kernel_rfl) h)
noncomputable def xZcB:Fn xZ4Y:=⟨f140,[],⟨[],[],sbf,bof⟩,fun _=>[],[true],none,0,0,fun _ _=>true,none,[],[]⟩
theorem xZcD:xZcB.Ok prog:=⟨Is.of (by kernel_rfl) (by kernel_rfl),by kernel_rfl,xZ4 sb_ok bo_ok,trivial,trivial,fun _=>by kernel_rfl⟩
theorem xZda (N:Nat):xZ4Y.Ok prog N:=xZcD.give tb_ok hm N N (fun _=>trivial) fun a r s h=>by
 exact s.main [] trivial (.trans (by kernel_rfl) h)
noncomputable def xZcR:Fn xZ4J:=⟨f93,[],⟨[],[],sbf,bof⟩,fun _=>[xZ2w,xZ4Y,xZ44,xZbg],[true],none,0,0,fun _ _=>true,none,[],[]⟩
theorem xZd0:xZcR.Ok prog:=⟨Is.of (by kernel_rfl) (by kernel_rfl),by kernel_rfl,xZ4 sb_ok bo_ok,trivial,trivial,fun _=>by kernel_rfl⟩
theorem xZcM (N:Nat):xZ4J.Ok prog N:=xZd0.give tb_ok hm N N (fun _=>⟨xZ5w N,xZda N,xZ7i N,xZf9 N,trivial⟩) fun a r s h=>by
 exact s.main [] trivial (.trans (by kernel_rfl) h)
noncomputable def xZdU:Fn xZ5D:=⟨f142,[],⟨[],[],sbf,bof⟩,fun _=>[],[true],none,0,0,fun _ _=>true,none,[],[]⟩
theorem xZec:xZdU.Ok prog:=⟨Is.of (by kernel_rfl) (by kernel_rfl),by kernel_rfl,xZ4 sb_ok bo_ok,trivial,trivial,fun _=>by kernel_rfl⟩
theorem xZdP (N:Nat):xZ5D.Ok prog N:=xZec.give tb_ok hm N N (fun _=>trivial) fun a r s h=>by
 exact s.main [] trivial (.trans (by kernel_rfl) h)
noncomputable def xZea:Fn xZ5F:=⟨f94,[],⟨[],[],sbf,bof⟩,fun _=>[xZ5D],[true],none,0,0,fun _ _=>true,none,[],[]⟩
theorem xZe5:xZea.Ok prog:=⟨Is.of (by kernel_rfl) (by kernel_rfl),by kernel_rfl,xZ4 sb_ok bo_ok,trivial,trivial,fun _=>by kernel_rfl⟩
theorem xZdQ (N:Nat):xZ5F.Ok prog N:=xZe5.give tb_ok hm N N (fun _=>⟨xZdP N,trivial⟩) fun a r s h=>by
 exact s.main [] trivial (.trans (by kernel_rfl) h)
noncomputable def xZe1:Fn xZ5A:=⟨f95,[],⟨[],[],sbf,bof⟩,fun _=>[xZ2w],[true],none,0,0,fun _ _=>true,none,[],[]⟩
theorem xZdW:xZe1.Ok prog:=⟨Is.of (by kernel_rfl) (by kernel_rfl),by kernel_rfl,xZ4 sb_ok bo_ok,trivial,trivial,fun _=>by kernel_rfl⟩
theorem xZe3 (N:Nat):xZ5A.Ok prog N:=xZdW.give tb_ok hm N N (fun _=>⟨xZ5w N,trivial⟩) fun a r s h=>by
 exact s.main [] trivial (.trans (by kernel_rfl) h)
noncomputable def xZk4:Fn xZ6M:=⟨f48,[],⟨[],[],sbf,bof⟩,fun _=>[xZ4i,xZ4J,xZ5F,xZ5A,xZ6M],[true,true],none,0,0,fun _ _=>true,none,[],[]⟩
theorem xZeo:xZk4.Ok prog:=⟨Is.of (by kernel_rfl) (by kernel_rfl),by kernel_rfl,xZ4 sb_ok bo_ok,trivial,trivial,fun _=>by kernel_rfl⟩
theorem xZdt:∀ N,xZ6M.Ok prog N
 | 0=>⟨xZeo.is.enters,fun a r h=>by (have h:none=some r:=h;cases h)⟩
 | N+1=>by
   obtain h_shape_tree:=xZdt N
   ·exact xZeo.give tb_ok hm N (N+1) (fun _=>⟨xZc4 N,xZcM N,xZdQ N,xZe3 N,h_shape_tree,trivial⟩) fun a r s h=>by
     have l1:=s.loop 1 xZ5J (xZca N) N fun next1 h1=>by
      exact fun c v=>s.seg 1 xZ5J [(1,.of xZ5J next1)] ⟨h1,trivial⟩ (by kernel_rfl) (by kernel_rfl)
     exact s.main [(1,.of xZ5J (xZg5 N))] ⟨l1,trivial⟩ (.trans (by kernel_rfl) h)
theorem xZjA (N:Nat):xZ6M.Ok prog N:=(xZdt N)
noncomputable def xZj8:Fn xZbq:=⟨f50,[],⟨[],[],sbf,bof⟩,fun _=>[],[true],none,0,0,fun _ _=>true,none,[],[]⟩
theorem xZkc:xZj8.Ok prog:=⟨Is.of (by kernel_rfl) (by kernel_rfl),by kernel_rfl,xZ4 sb_ok bo_ok,trivial,trivial,fun _=>by kernel_rfl⟩
theorem xZjQ (N:Nat):xZbq.Ok prog N:=xZkc.give tb_ok hm N N (fun _=>trivial) fun a r s h=>by
 exact s.main [] trivial (.trans (by kernel_rfl) h)
noncomputable def xZi3:Fn xZ7l:=⟨f24,[],⟨[],[],sbf,bof⟩,fun _=>[xZ6M,xZ44,xZbq],[true],none,0,0,fun _ _=>true,none,[],[]⟩
theorem xZiq:xZi3.Ok prog:=⟨Is.of (by kernel_rfl) (by kernel_rfl),by kernel_rfl,xZ4 sb_ok bo_ok,trivial,trivial,fun _=>by kernel_rfl⟩
theorem xZdn (N:Nat):xZ7l.Ok prog N:=xZiq.give tb_ok hm N N (fun _=>⟨xZjA N,xZ7i N,xZjQ N,trivial⟩) fun a r s h=>by
 exact s.main [] trivial (.trans (by kernel_rfl) h)
noncomputable def xZc5:Fn xZ1W:=⟨f55,[],⟨[],[],sbf,bof⟩,fun _=>[],[true,true],none,0,0,fun _ _=>true,none,[],[]⟩
theorem xZbY:xZc5.Ok prog:=⟨Is.of (by kernel_rfl) (by kernel_rfl),by kernel_rfl,xZ4 sb_ok bo_ok,trivial,trivial,fun _=>by kernel_rfl⟩
theorem xZ4n (N:Nat):xZ1W.Ok prog N:=xZbY.give tb_ok hm N N (fun _=>trivial) fun a r s h=>by
 have l0:=s.loop 0 xZ2b (xZ5G N) N fun next0 h0=>by
  exact fun c v=>s.seg 0 xZ2b [(0,.of xZ2b next0)] ⟨h0,trivial⟩ (by kernel_rfl) (by kernel_rfl)
 exact s.main [(0,.of xZ2b (xZaG N))] ⟨l0,trivial⟩ (.trans (by kernel_rfl) h)
noncomputable def xZkh:Fn xZb5:=⟨f99,[],⟨[],[],sbf,bof⟩,fun _=>[],[true],none,0,0,fun _ _=>true,none,[],[]⟩
theorem xZiV:xZkh.Ok prog:=⟨Is.of (by kernel_rfl) (by kernel_rfl),by kernel_rfl,xZ4 sb_ok bo_ok,trivial,trivial,fun _=>by kernel_rfl⟩
theorem xZk3 (N:Nat):xZb5.Ok prog N:=xZiV.give tb_ok hm N N (fun _=>trivial) fun a r s h=>by
 exact s.main [] trivial (.trans (by kernel_rfl) h)
end
end
section
open Go.Proofs.Tryz
set_option maxRecDepth 1000000
noncomputable section
noncomputable def xZbK:Fn xZ4v:=⟨f51,[],⟨[],[],sbf,bof⟩,fun _=>[xZ44,xZ1W,xZb5],[true],none,0,0,fun _ _=>true,none,[],[]⟩
theorem xZbN:xZbK.Ok prog:=⟨Is.of (by kernel_rfl) (by kernel_rfl),by kernel_rfl,xZ4 sb_ok bo_ok,trivial,trivial,fun _=>by kernel_rfl⟩
theorem xZco (N:Nat):xZ4v.Ok prog N:=xZbN.give tb_ok hm N N (fun _=>⟨xZ7i N,xZ4n N,xZk3 N,trivial⟩) fun a r s h=>by
 have l0:=s.loop 0 xZ2c (xZ5H N) N fun next0 h0=>by
  exact fun c v=>s.seg 0 xZ2c [(0,.of xZ2c next0)] ⟨h0,trivial⟩ (by kernel_rfl) (by kernel_rfl)
 exact s.main [(0,.of xZ2c (xZaF N))] ⟨l0,trivial⟩ (.trans (by kernel_rfl) h)
noncomputable def xZia:Fn xZ7q:=⟨f52,[],⟨[],[],sbf,bof⟩,fun _=>[xZ1R],[true,true],none,0,0,fun _ _=>true,none,[],[]⟩
theorem xZi9:xZia.Ok prog:=⟨Is.of (by kernel_rfl) (by kernel_rfl),by kernel_rfl,xZ4 sb_ok bo_ok,trivial,trivial,fun _=>by kernel_rfl⟩
theorem xZdI (N:Nat):xZ7q.Ok prog N:=xZi9.give tb_ok hm N N (fun _=>⟨xZ3f N,trivial⟩) fun a r s h=>by
 have l0:=s.loop 0 xZ58 (xZaP N) N fun next0 h0=>by
  exact fun c v=>s.seg 0 xZ58 [(0,.of xZ58 next0)] ⟨h0,trivial⟩ (by kernel_rfl) (by kernel_rfl)
 exact s.main [(0,.of xZ58 (xZfj N))] ⟨l0,trivial⟩ (.trans (by kernel_rfl) h)
noncomputable def xZgO:Fn xZ8R:=⟨f25,[],⟨[],[],sbf,bof⟩,fun _=>[xZ4v,xZ7q],[true],none,0,0,fun _ _=>true,none,[],[]⟩
theorem xZgt:xZgO.Ok prog:=⟨Is.of (by kernel_rfl) (by kernel_rfl),by kernel_rfl,xZ4 sb_ok bo_ok,trivial,trivial,fun _=>by kernel_rfl⟩
theorem xZgK (N:Nat):xZ8R.Ok prog N:=xZgt.give tb_ok hm N N (fun _=>⟨xZco N,xZdI N,trivial⟩) fun a r s h=>by
 have l0:=s.loop 0 xZ4t (xZa9 N) N fun next0 h0=>by
  exact fun c v=>s.seg 0 xZ4t [(0,.of xZ4t next0)] ⟨h0,trivial⟩ (by kernel_rfl) (by kernel_rfl)
 exact s.main [(0,.of xZ4t (xZeK N))] ⟨l0,trivial⟩ (.trans (by kernel_rfl) h)
noncomputable def xZk2:Fn xZ2O:=⟨f28,[],⟨[],[],sbf,bof⟩,fun _=>[],[true],none,0,0,fun _ _=>true,none,[],[]⟩
theorem xZk1:xZk2.Ok prog:=⟨Is.of (by kernel_rfl) (by kernel_rfl),by kernel_rfl,xZ4 sb_ok bo_ok,trivial,trivial,fun _=>by kernel_rfl⟩
theorem xZ4Z (N:Nat):xZ2O.Ok prog N:=xZk1.give tb_ok hm N N (fun _=>trivial) fun a r s h=>by
 exact s.main [] trivial (.trans (by kernel_rfl) h)
noncomputable def xZcY:Fn xZ4N:=⟨f143,[],⟨[],[],sbf,bof⟩,fun _=>[],[true],none,1,0,fun _ _=>true,none,[],[]⟩
theorem xZcX:xZcY.Ok prog:=⟨Is.of (by kernel_rfl) (by kernel_rfl),by kernel_rfl,xZ4 sb_ok bo_ok,trivial,trivial,fun _=>by kernel_rfl⟩
theorem xZcZ (N:Nat):xZ4N.Ok prog N:=xZcX.give tb_ok hm N N (fun _=>trivial) fun a r s h=>by
 exact s.main [] trivial (.trans (by kernel_rfl) h)
noncomputable def xZ4D:Fn xZY:=⟨f27,[],⟨[],[],sbf,bof⟩,fun _=>[xZ4N],[true],none,1,0,fun _ _=>true,none,[],[]⟩
theorem xZ4j:xZ4D.Ok prog:=⟨Is.of (by kernel_rfl) (by kernel_rfl),by kernel_rfl,xZ4 sb_ok bo_ok,trivial,trivial,fun _=>by kernel_rfl⟩
theorem xZ4h (N:Nat):xZY.Ok prog N:=xZ4j.give tb_ok hm N N (fun _=>⟨xZcZ N,trivial⟩) fun a r s h=>by
 have l0:=s.loop 0 xZs (xZ1I N) N fun next0 h0=>by
  exact fun c v=>s.seg 0 xZs [(0,.of xZs next0)] ⟨h0,trivial⟩ (by kernel_rfl) (by kernel_rfl)
 exact s.main [(0,.of xZs (xZ3N N))] ⟨l0,trivial⟩ (.trans (by kernel_rfl) h)
noncomputable def xZnH:Fn xZc3:=⟨f101,[],⟨[],[],sbf,bof⟩,fun _=>[xZY],[true],none,0,0,fun _ _=>true,none,[],[]⟩
theorem xZms:xZnH.Ok prog:=⟨Is.of (by kernel_rfl) (by kernel_rfl),by kernel_rfl,xZ4 sb_ok bo_ok,trivial,trivial,fun _=>by kernel_rfl⟩
theorem xZhP (N:Nat):xZc3.Ok prog N:=xZms.give tb_ok hm N N (fun _=>⟨xZ4h N,trivial⟩) fun a r s h=>by
 exact s.main [] trivial (.trans (by kernel_rfl) h)
noncomputable def xZk5:Fn xZ9q:=⟨f58,[],⟨[],[],sbf,bof⟩,fun _=>[],[true],none,0,0,fun _ _=>true,none,[],[]⟩
theorem xZk0:xZk5.Ok prog:=⟨Is.of (by kernel_rfl) (by kernel_rfl),by kernel_rfl,xZ4 sb_ok bo_ok,trivial,trivial,fun _=>by kernel_rfl⟩
theorem xZeU (N:Nat):xZ9q.Ok prog N:=xZk0.give tb_ok hm N N (fun _=>trivial) fun a r s h=>by
 exact s.main [] trivial (.trans (by kernel_rfl) h)
noncomputable def xZfb:Fn xZ6K:=⟨f102,[],⟨[(2000011,11),(2000015,11),(2000018,11)],[],sbf,bof⟩,fun _=>[],[true],none,0,0,fun _ _=>true,none,[],[]⟩
theorem xZf0:xZfb.Ok prog:=⟨Is.of (by kernel_rfl) (by kernel_rfl),by kernel_rfl,xZ4 sb_ok bo_ok,trivial,trivial,fun _=>by kernel_rfl⟩
theorem xZeT (N:Nat):xZ6K.Ok prog N:=xZf0.give tb_ok hm N N (fun _=>trivial) fun a r s h=>by
 have l0:=s.loop 0 xZ39 (xZ8z N) N fun next0 h0=>by
  exact fun c v=>s.seg 0 xZ39 [(0,.of xZ39 next0)] ⟨h0,trivial⟩ (by kernel_rfl) (by kernel_rfl)
 exact s.main [(0,.of xZ39 (xZcF N))] ⟨l0,trivial⟩ (.trans (by kernel_rfl) h)
noncomputable def xZaa:Fn xZ1m:=⟨f53,[],⟨[(2000029,10),(2000040,11)],[],sbf,bof⟩,fun _=>[xZ2O,xZc3,xZ9q,xZ1m,xZ6K],[true,true],none,1,0,fun _ _=>true,none,[],[]⟩
theorem xZ5q:xZaa.Ok prog:=⟨Is.of (by kernel_rfl) (by kernel_rfl),by kernel_rfl,xZ4 sb_ok bo_ok,trivial,trivial,fun _=>by kernel_rfl⟩
theorem xZ4G:∀ N,xZ1m.Ok prog N
 | 0=>⟨xZ5q.is.enters,fun a r h=>by (have h:none=some r:=h;cases h)⟩
 | N+1=>by
   obtain h_scope_flow_tree_v461:=xZ4G N
   ·exact xZ5q.give tb_ok hm N (N+1) (fun _=>⟨xZ4Z N,xZhP N,xZeU N,h_scope_flow_tree_v461,xZeT N,trivial⟩) fun a r s h=>by
     have l0:=s.loop 0 xZ1B (xZ4e N) N fun next0 h0=>by
      exact fun c v=>s.seg 0 xZ1B [(0,.of xZ1B next0)] ⟨h0,trivial⟩ (by kernel_rfl) (by kernel_rfl)
     exact s.main [(0,.of xZ1B (xZ8S N))] ⟨l0,trivial⟩ (.trans (by kernel_rfl) h)
theorem xZ9U (N:Nat):xZ1m.Ok prog N:=(xZ4G N)
noncomputable def xZji:Fn xZ94:=⟨f26,[],⟨[],[],sbf,bof⟩,fun _=>[xZ1m],[false],none,0,0,fun _ _=>true,none,[],[]⟩
theorem xZjW:xZji.Ok prog:=⟨Is.of (by kernel_rfl) (by kernel_rfl),by kernel_rfl,xZ4 sb_ok bo_ok,trivial,trivial,fun _=>by kernel_rfl⟩
theorem xZf5 (N:Nat):xZ94.Ok prog N:=xZjW.give tb_ok hm N N (fun _=>⟨xZ9U N,trivial⟩) fun a r s h=>by
 exact s.main [] trivial (.trans (by kernel_rfl) h)
noncomputable def xZ4E:Fn xZV:=⟨f27,[],⟨[],[],sbf,bof⟩,fun _=>[xZ2O],[true],none,0,0,fun _ _=>true,none,[],[]⟩
theorem xZ4B:xZ4E.Ok prog:=⟨Is.of (by kernel_rfl) (by kernel_rfl),by kernel_rfl,xZ4 sb_ok bo_ok,trivial,trivial,fun _=>by kernel_rfl⟩
theorem xZ4r (N:Nat):xZV.Ok prog N:=xZ4B.give tb_ok hm N N (fun _=>⟨xZ4Z N,trivial⟩) fun a r s h=>by
 have l0:=s.loop 0 xZp (xZ1J N) N fun next0 h0=>by
  exact fun c v=>s.seg 0 xZp [(0,.of xZp next0)] ⟨h0,trivial⟩ (by kernel_rfl) (by kernel_rfl)
 exact s.main [(0,.of xZp (xZ3M N))] ⟨l0,trivial⟩ (.trans (by kernel_rfl) h)
noncomputable def xZ7V:Fn xZ1h:=⟨f54,[],⟨[],[],sbf,bof⟩,fun _=>[xZ7q],[true,true],none,2,0,fun _ _=>true,none,[],[]⟩
theorem xZ8d:xZ7V.Ok prog:=⟨Is.of (by kernel_rfl) (by kernel_rfl),by kernel_rfl,xZ4 sb_ok bo_ok,trivial,trivial,fun _=>by kernel_rfl⟩
theorem xZ3x (N:Nat):xZ1h.Ok prog N:=xZ8d.give tb_ok hm N N (fun _=>⟨xZdI N,trivial⟩) fun a r s h=>by
 exact s.main [] trivial (.trans (by kernel_rfl) h)
noncomputable def xZ8g:Fn xZ24:=⟨f29,[],⟨[],[],sbf,bof⟩,fun _=>[xZ2O,xZ1h,xZ1W],[true],none,2,0,fun _ _=>true,none,[],[]⟩
theorem xZ8l:xZ8g.Ok prog:=⟨Is.of (by kernel_rfl) (by kernel_rfl),by kernel_rfl,xZ4 sb_ok bo_ok,trivial,trivial,fun _=>by kernel_rfl⟩
theorem xZ84 (N:Nat):xZ24.Ok prog N:=xZ8l.give tb_ok hm N N (fun _=>⟨xZ4Z N,xZ3x N,xZ4n N,trivial⟩) fun a r s h=>by
 have l0:=s.loop 0 xZ11 (xZ2L N) N fun next0 h0=>by
  exact fun c v=>s.seg 0 xZ11 [(0,.of xZ11 next0)] ⟨h0,trivial⟩ (by kernel_rfl) (by kernel_rfl)
 exact s.main [(0,.of xZ11 (xZ6F N))] ⟨l0,trivial⟩ (.trans (by kernel_rfl) h)
noncomputable def xZ7P:Fn xZ1j:=⟨f56,[],⟨[(2000036,10),(2000037,11)],[],sbf,bof⟩,fun _=>[xZc3,xZ1h,xZ1W],[true,true],none,2,0,fun _ _=>true,none,[],[]⟩
theorem xZ7N:xZ7P.Ok prog:=⟨Is.of (by kernel_rfl) (by kernel_rfl),by kernel_rfl,xZ4 sb_ok bo_ok,trivial,trivial,fun _=>by kernel_rfl⟩
theorem xZ3s (N:Nat):xZ1j.Ok prog N:=xZ7N.give tb_ok hm N N (fun _=>⟨xZhP N,xZ3x N,xZ4n N,trivial⟩) fun a r s h=>by
 exact s.main [] trivial (.trans (by kernel_rfl) h)
end
end
section
open Go.Proofs.Tryz
set_option maxRecDepth 1000000
noncomputable section
noncomputable def xZe9:Fn xZ5x:=⟨f170,[],⟨[],[],sbf,bof⟩,fun _=>[],[true],none,0,0,fun _ _=>true,none,[],[]⟩
theorem xZdZ:xZe9.Ok prog:=⟨Is.of (by kernel_rfl) (by kernel_rfl),by kernel_rfl,xZ4 sb_ok bo_ok,trivial,trivial,fun _=>by kernel_rfl⟩
theorem xZe6 (N:Nat):xZ5x.Ok prog N:=xZdZ.give tb_ok hm N N (fun _=>trivial) fun a r s h=>by
 exact s.main [] trivial (.trans (by kernel_rfl) h)
noncomputable def xZiF:Fn xZ7c:=⟨f144,[],⟨[],[],sbf,bof⟩,fun _=>[xZ5x],[true],none,0,0,fun _ _=>true,none,[],[]⟩
theorem xZhN:xZiF.Ok prog:=⟨Is.of (by kernel_rfl) (by kernel_rfl),by kernel_rfl,xZ4 sb_ok bo_ok,trivial,trivial,fun _=>by kernel_rfl⟩
theorem xZdE (N:Nat):xZ7c.Ok prog N:=xZhN.give tb_ok hm N N (fun _=>⟨xZe6 N,trivial⟩) fun a r s h=>by
 exact s.main [] trivial (.trans (by kernel_rfl) h)
noncomputable def xZ8D:Fn xZR:=⟨f103,[],⟨[],[],sbf,bof⟩,fun _=>[xZ1j,xZR,xZ7c],[true,true],none,2,0,fun _ _=>true,none,[],[]⟩
theorem xZ40:xZ8D.Ok prog:=⟨Is.of (by kernel_rfl) (by kernel_rfl),by kernel_rfl,xZ4 sb_ok bo_ok,trivial,trivial,fun _=>by kernel_rfl⟩
theorem xZ3B:∀ N,xZR.Ok prog N
 | 0=>⟨xZ40.is.enters,fun a r h=>by (have h:none=some r:=h;cases h)⟩
 | N+1=>by
   obtain h_scope_checker_side_v714:=xZ3B N
   ·exact xZ40.give tb_ok hm N (N+1) (fun _=>⟨xZ3s N,h_scope_checker_side_v714,xZdE N,trivial⟩) fun a r s h=>by
     exact s.main [] trivial (.trans (by kernel_rfl) h)
theorem xZ8w (N:Nat):xZR.Ok prog N:=(xZ3B N)
noncomputable def xZgo:Fn xZ9m:=⟨f104,[],⟨[],[],sbf,bof⟩,fun _=>[xZ7c],[true],none,0,0,fun _ _=>true,none,[],[]⟩
theorem xZg4:xZgo.Ok prog:=⟨Is.of (by kernel_rfl) (by kernel_rfl),by kernel_rfl,xZ4 sb_ok bo_ok,trivial,trivial,fun _=>by kernel_rfl⟩
theorem xZgV (N:Nat):xZ9m.Ok prog N:=xZg4.give tb_ok hm N N (fun _=>⟨xZdE N,trivial⟩) fun a r s h=>by
 exact s.main [] trivial (.trans (by kernel_rfl) h)
noncomputable def xZ8I:Fn xZ2g:=⟨f57,[],⟨[],[],sbf,bof⟩,fun _=>[xZR,xZ9m],[true],none,2,0,fun _ _=>true,none,[],[]⟩
theorem xZ8A:xZ8I.Ok prog:=⟨Is.of (by kernel_rfl) (by kernel_rfl),by kernel_rfl,xZ4 sb_ok bo_ok,trivial,trivial,fun _=>by kernel_rfl⟩
theorem xZ8O (N:Nat):xZ2g.Ok prog N:=xZ8A.give tb_ok hm N N (fun _=>⟨xZ8w N,xZgV N,trivial⟩) fun a r s h=>by
 exact s.main [] trivial (.trans (by kernel_rfl) h)
noncomputable def xZ8B:Fn xZ2k:=⟨f30,[],⟨[],[],sbf,bof⟩,fun _=>[xZ1j,xZ2g],[true],none,2,0,fun _ _=>true,none,[],[]⟩
theorem xZ8y:xZ8B.Ok prog:=⟨Is.of (by kernel_rfl) (by kernel_rfl),by kernel_rfl,xZ4 sb_ok bo_ok,trivial,trivial,fun _=>by kernel_rfl⟩
theorem xZ8x (N:Nat):xZ2k.Ok prog N:=xZ8y.give tb_ok hm N N (fun _=>⟨xZ3s N,xZ8O N,trivial⟩) fun a r s h=>by
 have l2:=s.loop 2 xZ1a (xZ3h N) N fun next2 h2=>by
  exact fun c v=>s.seg 2 xZ1a [(2,.of xZ1a next2)] ⟨h2,trivial⟩ (by kernel_rfl) (by kernel_rfl)
 have l0:=s.loop 0 xZ16 (xZ3q N) N fun next0 h0=>by
  exact fun c v=>s.seg 0 xZ16 [(0,.of xZ16 next0),(2,.of xZ1a (xZ77 N))] ⟨h0,l2,trivial⟩ (by kernel_rfl) (by kernel_rfl)
 exact s.main [(0,.of xZ16 (xZ6V N))] ⟨l0,trivial⟩ (.trans (by kernel_rfl) h)
noncomputable def xZcN:Fn xZ4Q:=⟨f59,[],⟨[(2000011,11),(2000015,11),(2000018,11)],[],sbf,bof⟩,fun _=>[],[true],none,0,0,fun _ _=>true,none,[],[]⟩
theorem xZcx:xZcN.Ok prog:=⟨Is.of (by kernel_rfl) (by kernel_rfl),by kernel_rfl,xZ4 sb_ok bo_ok,trivial,trivial,fun _=>by kernel_rfl⟩
theorem xZcI (N:Nat):xZ4Q.Ok prog N:=xZcx.give tb_ok hm N N (fun _=>trivial) fun a r s h=>by
 have l0:=s.loop 0 xZ2s (xZ6v N) N fun next0 h0=>by
  exact fun c v=>s.seg 0 xZ2s [(0,.of xZ2s next0)] ⟨h0,trivial⟩ (by kernel_rfl) (by kernel_rfl)
 exact s.main [(0,.of xZ2s (xZby N))] ⟨l0,trivial⟩ (.trans (by kernel_rfl) h)
noncomputable def xZ9B:Fn xZ1e:=⟨f31,[],⟨[(2000025,11)],[],sbf,bof⟩,fun _=>[xZ2O,xZ9q,xZ1e,xZ4Q],[true,true,true],none,1,0,fun _ _=>true,none,[],[]⟩
theorem xZ4I:xZ9B.Ok prog:=⟨Is.of (by kernel_rfl) (by kernel_rfl),by kernel_rfl,xZ4 sb_ok bo_ok,trivial,trivial,fun _=>by kernel_rfl⟩
theorem xZ4p:∀ N,xZ1e.Ok prog N
 | 0=>⟨xZ4I.is.enters,fun a r h=>by (have h:none=some r:=h;cases h)⟩
 | N+1=>by
   obtain h_scope_heads_tree_v166:=xZ4p N
   ·exact xZ4I.give tb_ok hm N (N+1) (fun _=>⟨xZ4Z N,xZeU N,h_scope_heads_tree_v166,xZcI N,trivial⟩) fun a r s h=>by
     have l0:=s.loop 0 xZ1u (xZ3T N) N fun next0 h0=>by
      exact fun c v=>s.seg 0 xZ1u [(0,.of xZ1u next0)] ⟨h0,trivial⟩ (by kernel_rfl) (by kernel_rfl)
     exact s.main [(0,.of xZ1u (xZ8v N))] ⟨l0,trivial⟩ (.trans (by kernel_rfl) h)
theorem xZ9A (N:Nat):xZ1e.Ok prog N:=(xZ4p N)
noncomputable def xZhk:Fn xZ9S:=⟨f11,[],⟨[(2000094,11),(2000101,11)],[],sbf,bof⟩,fun _=>[xZ7l,xZ8R,xZ94,xZV,xZ2O,xZ24,xZ2k,xZ1e],[true,true],none,0,0,fun _ _=>true,some EqR.cls,[],[]⟩
theorem xZhi:xZhk.Ok prog:=⟨Is.of (by kernel_rfl) (by kernel_rfl),by kernel_rfl,xZ4 sb_ok bo_ok,trivial,trivial,fun _=>by kernel_rfl⟩
theorem xZiz (N:Nat):xZ9S.Ok prog N:=xZhi.give tb_ok hm N N (fun _=>⟨xZdn N,xZgK N,xZf5 N,xZ4r N,xZ4Z N,xZ84 N,xZ8x N,xZ9A N,trivial⟩) fun a r s h=>by
 have l4:=s.loop 4 xZ5g (xZaV N) N fun next4 h4=>by
  exact fun c v=>s.seg 4 xZ5g [(4,.of xZ5g next4)] ⟨h4,trivial⟩ (by kernel_rfl) (by kernel_rfl)
 have l2:=s.loop 2 xZ56 (xZaS N) N fun next2 h2=>by
  exact fun c v=>s.seg 2 xZ56 [(2,.of xZ56 next2),(4,.of xZ5g (xZfB N))] ⟨h2,l4,trivial⟩ (by kernel_rfl) (by kernel_rfl)
 have l0:=s.loop 0 xZ54 (xZaT N) N fun next0 h0=>by
  exact fun c v=>s.seg 0 xZ54 [(0,.of xZ54 next0),(2,.of xZ56 (xZfi N))] ⟨h0,l2,trivial⟩ (by kernel_rfl) (by kernel_rfl)
 exact s.main [(0,.of xZ54 (xZfz N))] ⟨l0,trivial⟩ (.trans (by kernel_rfl) h)
noncomputable def xZeF:Fn xZ6G:=⟨f107,[],⟨[(5,1)],[],sbf,bof⟩,fun _=>[],[true],none,0,0,fun _ _=>true,none,[],[]⟩
theorem xZeu:xZeF.Ok prog:=⟨Is.of (by kernel_rfl) (by kernel_rfl),by kernel_rfl,xZ4 sb_ok bo_ok,trivial,trivial,fun _=>by kernel_rfl⟩
theorem xZf2 (N:Nat):xZ6G.Ok prog N:=xZeu.give tb_ok hm N N (fun _=>trivial) fun a r s h=>by
 have l0:=s.loop 0 xZ3a (xZ8J N) N fun next0 h0=>by
  exact fun c v=>s.seg 0 xZ3a [(0,.of xZ3a next0)] ⟨h0,trivial⟩ (by kernel_rfl) (by kernel_rfl)
 exact s.main [(0,.of xZ3a (xZd1 N))] ⟨l0,trivial⟩ (.trans (by kernel_rfl) h)
noncomputable def xZjh:Fn xZ4R:=⟨f61,[],⟨[],[],sbf,bof⟩,fun _=>[xZ6G],[true],none,0,0,fun _ _=>true,none,[],[]⟩
theorem xZkd:xZjh.Ok prog:=⟨Is.of (by kernel_rfl) (by kernel_rfl),by kernel_rfl,xZ4 sb_ok bo_ok,trivial,trivial,fun _=>by kernel_rfl⟩
theorem xZ9n (N:Nat):xZ4R.Ok prog N:=xZkd.give tb_ok hm N N (fun _=>⟨xZf2 N,trivial⟩) fun a r s h=>by
 have l0:=s.loop 0 xZ64 (xZcb N) N fun next0 h0=>by
  exact fun c v=>s.seg 0 xZ64 [(0,.of xZ64 next0)] ⟨h0,trivial⟩ (by kernel_rfl) (by kernel_rfl)
 exact s.main [(0,.of xZ64 (xZge N))] ⟨l0,trivial⟩ (.trans (by kernel_rfl) h)
noncomputable def xZlo:Fn xZcC:=⟨f189,[],⟨[],[],sbf,bof⟩,fun _=>[],[true],none,0,0,fun _ _=>true,none,[],[]⟩
theorem xZlG:xZlo.Ok prog:=⟨Is.of (by kernel_rfl) (by kernel_rfl),by kernel_rfl,xZ4 sb_ok bo_ok,trivial,trivial,fun _=>by kernel_rfl⟩
theorem xZlH (N:Nat):xZcC.Ok prog N:=xZlG.give tb_ok hm N N (fun _=>trivial) fun a r s h=>by
 exact s.main [] trivial (.trans (by kernel_rfl) h)
noncomputable def xZlr:Fn xZcE:=⟨f213,[],⟨[],[],sbf,bof⟩,fun _=>[],[true],none,0,0,fun _ _=>true,none,[],[]⟩
theorem xZlq:xZlr.Ok prog:=⟨Is.of (by kernel_rfl) (by kernel_rfl),by kernel_rfl,xZ4 sb_ok bo_ok,trivial,trivial,fun _=>by kernel_rfl⟩
theorem xZlt (N:Nat):xZcE.Ok prog N:=xZlq.give tb_ok hm N N (fun _=>trivial) fun a r s h=>by
 exact s.main [] trivial (.trans (by kernel_rfl) h)
noncomputable def xZjx:Fn xZbo:=⟨f214,[],⟨[],[],sbf,bof⟩,fun _=>[],[true],none,0,0,fun _ _=>true,none,[],[]⟩
theorem xZkm:xZjx.Ok prog:=⟨Is.of (by kernel_rfl) (by kernel_rfl),by kernel_rfl,xZ4 sb_ok bo_ok,trivial,trivial,fun _=>by kernel_rfl⟩
theorem xZjN (N:Nat):xZbo.Ok prog N:=xZkm.give tb_ok hm N N (fun _=>trivial) fun a r s h=>by
 exact s.main [] trivial (.trans (by kernel_rfl) h)
end
end
end Go.Proofs.YtbioikdfpfafaaaGreatDoor.T
