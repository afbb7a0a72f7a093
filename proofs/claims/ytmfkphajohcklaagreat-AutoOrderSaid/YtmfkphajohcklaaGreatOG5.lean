/- The code, and what each function of it is walked to. No premise beyond what each theorem says. -/
import Derived.Test.YtmfkphajohcklaaGreatOG4
set_option linter.all false
set_option linter.unusedSimpArgs false
set_option linter.unusedVariables false
namespace Go.Proofs.YtmfkphajohcklaaGreat.O
open Go
section
open Go.Proofs.Tryz
set_option maxRecDepth 1000000
noncomputable section
noncomputable def xZ7r:Fn xZ30:=⟨f161,[],⟨[],[],sbf,bof⟩,fun _=>[xZ5F],[true,true],none,1,1,fun _ _=>true,none,[],[],[]⟩
theorem xZ7C:xZ7r.Ok prog:=⟨Is.of (by kernel_rfl) (by kernel_rfl),by kernel_rfl,xZ6 sb_ok bo_ok,trivial,trivial,fun _=>by kernel_rfl⟩
theorem xZ7t (N:Nat):xZ30.Ok prog N:=xZ7C.give tb_ok hm N N (fun _=>⟨xZ7U N,trivial⟩) fun a r s h=>by
 exact s.main [] trivial (.trans (by kernel_rfl) h)
noncomputable def xZ7q:Fn xZ22:=⟨f139,[],⟨[],[],sbf,bof⟩,fun _=>[xZ30],[true],none,1,1,fun _ _=>true,none,[],[],[]⟩
theorem xZ7B:xZ7q.Ok prog:=⟨Is.of (by kernel_rfl) (by kernel_rfl),by kernel_rfl,xZ6 sb_ok bo_ok,trivial,trivial,fun _=>by kernel_rfl⟩
theorem xZ4E (N:Nat):xZ22.Ok prog N:=xZ7B.give tb_ok hm N N (fun _=>⟨xZ7t N,trivial⟩) fun a r s h=>by
 exact s.main [] trivial (.trans (by kernel_rfl) h)
noncomputable def xZ5u:Fn xZ24:=⟨f138,[],⟨[],[],sbf,bof⟩,fun _=>[xZ22],[true],none,1,1,fun _ _=>true,none,[],[],[]⟩
theorem xZ5y:xZ5u.Ok prog:=⟨Is.of (by kernel_rfl) (by kernel_rfl),by kernel_rfl,xZ6 sb_ok bo_ok,trivial,trivial,fun _=>by kernel_rfl⟩
theorem xZ5w (N:Nat):xZ24.Ok prog N:=xZ5y.give tb_ok hm N N (fun _=>⟨xZ4E N,trivial⟩) fun a r s h=>by
 exact s.main [] trivial (.trans (by kernel_rfl) h)
noncomputable def xZ62:Fn xZ2h:=⟨f93,[],⟨[],[],sbf,bof⟩,fun _=>[xZ24,xZ22],[true,true],none,0,1,fun _ _=>true,none,[],[],[]⟩
theorem xZ68:xZ62.Ok prog:=⟨Is.of (by kernel_rfl) (by kernel_rfl),by kernel_rfl,xZ6 sb_ok bo_ok,trivial,trivial,fun _=>by kernel_rfl⟩
theorem xZ65 (N:Nat):xZ2h.Ok prog N:=xZ68.give tb_ok hm N N (fun _=>⟨xZ5w N,xZ4E N,trivial⟩) fun a r s h=>by
 exact s.main [] trivial (.trans (by kernel_rfl) h)
noncomputable def xZ5R:Fn xZ2d:=⟨f94,[],⟨[],[],sbf,bof⟩,fun _=>[],[],none,0,1,fun _ _=>true,none,[],[],[]⟩
theorem xZ5U:xZ5R.Ok prog:=⟨Is.of (by kernel_rfl) (by kernel_rfl),by kernel_rfl,xZ6 sb_ok bo_ok,trivial,trivial,fun _=>by kernel_rfl⟩
theorem xZ5S (N:Nat):xZ2d.Ok prog N:=xZ5U.give tb_ok hm N N (fun _=>trivial) fun a r s h=>by
 have l0:=s.loop 0 xZ15 (xZ3o N) N fun next0 h0=>by
  exact fun c v=>s.seg 0 xZ15 [(0,.of xZ15 next0)] ⟨h0,trivial⟩ (by kernel_rfl) (by kernel_rfl)
 exact s.main [(0,.of xZ15 (xZ5A N))] ⟨l0,trivial⟩ (.trans (by kernel_rfl) h)
noncomputable def xZ4Q:Fn xZ1t:=⟨f95,[],⟨[],[],sbf,bof⟩,fun _=>[xZ5F],[true],none,0,1,fun _ _=>true,none,[],[],[]⟩
theorem xZ4S:xZ4Q.Ok prog:=⟨Is.of (by kernel_rfl) (by kernel_rfl),by kernel_rfl,xZ6 sb_ok bo_ok,trivial,trivial,fun _=>by kernel_rfl⟩
theorem xZ4R (N:Nat):xZ1t.Ok prog N:=xZ4S.give tb_ok hm N N (fun _=>⟨xZ7U N,trivial⟩) fun a r s h=>by
 have l0:=s.loop 0 xZa (xZ2u N) N fun next0 h0=>by
  have l6:=s.loop 6 xZl (xZ2x N next0) N fun next6 h6=>by
   exact fun c v=>s.seg 6 xZl [(0,.of xZa next0),(6,.of xZl next6)] ⟨h0,h6,trivial⟩ (by kernel_rfl) (by kernel_rfl)
  have l4:=s.loop 4 xZA (xZ2w N next0) N fun next4 h4=>by
   exact fun c v=>s.seg 4 xZA [(0,.of xZa next0),(4,.of xZA next4),(6,.of xZl (xZ2y N next0))] ⟨h0,h4,l6,trivial⟩ (by kernel_rfl) (by kernel_rfl)
  have l2:=s.loop 2 xZz (xZ2v N next0) N fun next2 h2=>by
   exact fun c v=>s.seg 2 xZz [(0,.of xZa next0),(2,.of xZz next2),(4,.of xZA (xZ4I N next0)),(6,.of xZl (xZ2y N next0))] ⟨h0,h2,l4,l6,trivial⟩ (by kernel_rfl) (by kernel_rfl)
  exact fun c v=>s.seg 0 xZa [(0,.of xZa next0),(2,.of xZz (xZ4H N next0))] ⟨h0,l2,trivial⟩ (by kernel_rfl) (by kernel_rfl)
 exact s.main [(0,.of xZa (xZ4G N))] ⟨l0,trivial⟩ (.trans (by kernel_rfl) h)
noncomputable def xZ5v:Fn xZ25:=⟨f96,[],⟨[],[],sbf,bof⟩,fun _=>[xZ5F],[true],none,0,1,fun _ _=>true,none,[],[],[]⟩
theorem xZ5z:xZ5v.Ok prog:=⟨Is.of (by kernel_rfl) (by kernel_rfl),by kernel_rfl,xZ6 sb_ok bo_ok,trivial,trivial,fun _=>by kernel_rfl⟩
theorem xZ5x (N:Nat):xZ25.Ok prog N:=xZ5z.give tb_ok hm N N (fun _=>⟨xZ7U N,trivial⟩) fun a r s h=>by
 have l0:=s.loop 0 xZj (xZ3a N) N fun next0 h0=>by
  have l4:=s.loop 4 xZU (xZ3c N next0) N fun next4 h4=>by
   exact fun c v=>s.seg 4 xZU [(0,.of xZj next0),(4,.of xZU next4)] ⟨h0,h4,trivial⟩ (by kernel_rfl) (by kernel_rfl)
  have l2:=s.loop 2 xZT (xZ3b N next0) N fun next2 h2=>by
   exact fun c v=>s.seg 2 xZT [(0,.of xZj next0),(2,.of xZT next2),(4,.of xZU (xZ5j N next0))] ⟨h0,h2,l4,trivial⟩ (by kernel_rfl) (by kernel_rfl)
  exact fun c v=>s.seg 0 xZj [(0,.of xZj next0),(2,.of xZT (xZ5i N next0))] ⟨h0,l2,trivial⟩ (by kernel_rfl) (by kernel_rfl)
 exact s.main [(0,.of xZj (xZ5h N))] ⟨l0,trivial⟩ (.trans (by kernel_rfl) h)
end
end
section
open Go.Proofs.Tryz
set_option maxRecDepth 1000000
noncomputable section
noncomputable def xZ6y:Fn xZ2A:=⟨f97,[],⟨[],[],sbf,bof⟩,fun _=>[xZ5F],[true,true],none,0,1,fun _ _=>true,none,[],[],[]⟩
theorem xZ6K:xZ6y.Ok prog:=⟨Is.of (by kernel_rfl) (by kernel_rfl),by kernel_rfl,xZ6 sb_ok bo_ok,trivial,trivial,fun _=>by kernel_rfl⟩
theorem xZ6C (N:Nat):xZ2A.Ok prog N:=xZ6K.give tb_ok hm N N (fun _=>⟨xZ7U N,trivial⟩) fun a r s h=>by
 have l4:=s.loop 4 xZs (xZ3O N) N fun next4 h4=>by
  have l8:=s.loop 8 xZ1q (xZ3Q N next4) N fun next8 h8=>by
   exact fun c v=>s.seg 8 xZ1q [(4,.of xZs next4),(8,.of xZ1q next8)] ⟨h4,h8,trivial⟩ (by kernel_rfl) (by kernel_rfl)
  have l6:=s.loop 6 xZ1p (xZ3P N next4) N fun next6 h6=>by
   exact fun c v=>s.seg 6 xZ1p [(4,.of xZs next4),(6,.of xZ1p next6),(8,.of xZ1q (xZ6f N next4))] ⟨h4,h6,l8,trivial⟩ (by kernel_rfl) (by kernel_rfl)
  exact fun c v=>s.seg 4 xZs [(4,.of xZs next4),(6,.of xZ1p (xZ6e N next4))] ⟨h4,l6,trivial⟩ (by kernel_rfl) (by kernel_rfl)
 have l2:=s.loop 2 xZ1o (xZ3N N) N fun next2 h2=>by
  exact fun c v=>s.seg 2 xZ1o [(2,.of xZ1o next2),(4,.of xZs (xZ6d N))] ⟨h2,l4,trivial⟩ (by kernel_rfl) (by kernel_rfl)
 have l0:=s.loop 0 xZ1n (xZ3M N) N fun next0 h0=>by
  exact fun c v=>s.seg 0 xZ1n [(0,.of xZ1n next0),(2,.of xZ1o (xZ6c N))] ⟨h0,l2,trivial⟩ (by kernel_rfl) (by kernel_rfl)
 exact s.main [(0,.of xZ1n (xZ6b N))] ⟨l0,trivial⟩ (.trans (by kernel_rfl) h)
noncomputable def xZ7i:Fn xZ17:=⟨f62,[],⟨[],[],sbf,bof⟩,fun _=>[xZ29,xZ2E,xZ28,xZ2h,xZ2d,xZ1t,xZ5F,xZ25,xZ2A,xZ17],[],none,0,1,fun _ _=>true,none,[],[96,136,151,195],[]⟩
theorem xZ4r:xZ7i.Ok prog:=⟨Is.of (by kernel_rfl) (by kernel_rfl),by kernel_rfl,xZ6 sb_ok bo_ok,trivial,trivial,fun _=>by kernel_rfl⟩
theorem xZ4d:∀ N,xZ17.Ok prog N
 | 0=>⟨xZ4r.is.enters,fun a r h=>by (have h:none=some r:=h;cases h)⟩
 | N+1=>by
   obtain h_slices_pdqsortCmpFunc_auto_Edge_v169:=xZ4d N
   ·exact xZ4r.give tb_ok hm N (N+1) (fun _=>⟨xZ5J N,xZ6V N,xZ5I N,xZ65 N,xZ5S N,xZ4R N,xZ7U N,xZ5x N,xZ6C N,h_slices_pdqsortCmpFunc_auto_Edge_v169,trivial⟩) fun a r s h=>by
     have l0:=s.loop 0 xZg (xZ4a N) N fun next0 h0=>by
      have lj3:=s.jn 1000195 xZ43 (xZ47 N next0) [(0,.of xZg next0)] ⟨h0,trivial⟩ (by kernel_rfl) (fun x=>by kernel_rfl)
      have lj2:=s.jn 1000151 xZ42 (xZ46 N next0) [(0,.of xZg next0),(1000195,.of xZ43 (xZ47 N next0))] ⟨h0,lj3,trivial⟩ (by kernel_rfl) (fun x=>by kernel_rfl)
      have lj1:=s.jn 1000136 xZ41 (xZ45 N next0) [(0,.of xZg next0),(1000151,.of xZ42 (xZ46 N next0))] ⟨h0,lj2,trivial⟩ (by kernel_rfl) (fun x=>by kernel_rfl)
      have lj0:=s.jn 1000096 xZ40 (xZ44 N next0) [(0,.of xZg next0),(1000136,.of xZ41 (xZ45 N next0))] ⟨h0,lj1,trivial⟩ (by kernel_rfl) (fun x=>by kernel_rfl)
      exact fun c v=>s.seg 0 xZg [(0,.of xZg next0),(1000096,.of xZ40 (xZ44 N next0))] ⟨h0,lj0,trivial⟩ (by kernel_rfl) (by kernel_rfl)
     exact s.main [(0,.of xZg (xZ6N N))] ⟨l0,trivial⟩ (.trans (by kernel_rfl) h)
theorem xZ7j (N:Nat):xZ17.Ok prog N:=(xZ4d N)
noncomputable def xZ8u:Fn xZ3T:=⟨f43,[],⟨[],[],sbf,bof⟩,fun _=>[xZ7o,xZ17],[],none,0,1,fun _ _=>true,none,[],[],[]⟩
theorem xZ8y:xZ8u.Ok prog:=⟨Is.of (by kernel_rfl) (by kernel_rfl),by kernel_rfl,xZ6 sb_ok bo_ok,trivial,trivial,fun _=>by kernel_rfl⟩
theorem xZ8w (N:Nat):xZ3T.Ok prog N:=xZ8y.give tb_ok hm N N (fun _=>⟨xZaj N,xZ7j N,trivial⟩) fun a r s h=>by
 exact s.main [] trivial (.trans (by kernel_rfl) h)
noncomputable def xZdX:Fn xZ39:=⟨f108,[],⟨[],[],sbf,bof⟩,fun _=>[xZ6Q],[true],none,0,0,fun _ _=>true,none,[],[],[]⟩
theorem xZeb:xZdX.Ok prog:=⟨Is.of (by kernel_rfl) (by kernel_rfl),by kernel_rfl,xZ6 sb_ok bo_ok,trivial,trivial,fun _=>by kernel_rfl⟩
theorem xZ4l (N:Nat):xZ39.Ok prog N:=xZeb.give tb_ok hm N N (fun _=>⟨xZaQ N,trivial⟩) fun a r s h=>by
 exact s.main [] trivial (.trans (by kernel_rfl) h)
noncomputable def xZ6q:Fn xZ2q:=⟨f102,[],⟨[],[],sbf,bof⟩,fun _=>[xZ39],[],none,0,1,fun _ _=>true,none,[],[],[]⟩
theorem xZ6u:xZ6q.Ok prog:=⟨Is.of (by kernel_rfl) (by kernel_rfl),by kernel_rfl,xZ6 sb_ok bo_ok,trivial,trivial,fun _=>by kernel_rfl⟩
theorem xZ6s (N:Nat):xZ2q.Ok prog N:=xZ6u.give tb_ok hm N N (fun _=>⟨xZ4l N,trivial⟩) fun a r s h=>by
 have l0:=s.loop 0 xZH (xZ3y N) N fun next0 h0=>by
  have l2:=s.loop 2 xZ1j (xZ3z N next0) N fun next2 h2=>by
   exact fun c v=>s.seg 2 xZ1j [(0,.of xZH next0),(2,.of xZ1j next2)] ⟨h0,h2,trivial⟩ (by kernel_rfl) (by kernel_rfl)
  exact fun c v=>s.seg 0 xZH [(0,.of xZH next0),(2,.of xZ1j (xZ5X N next0))] ⟨h0,l2,trivial⟩ (by kernel_rfl) (by kernel_rfl)
 exact s.main [(0,.of xZH (xZ5W N))] ⟨l0,trivial⟩ (.trans (by kernel_rfl) h)
noncomputable def xZ7T:Fn xZ3e:=⟨f140,[],⟨[],[],sbf,bof⟩,fun _=>[xZ39],[],none,0,1,fun _ _=>true,none,[],[],[]⟩
theorem xZ7Z:xZ7T.Ok prog:=⟨Is.of (by kernel_rfl) (by kernel_rfl),by kernel_rfl,xZ6 sb_ok bo_ok,trivial,trivial,fun _=>by kernel_rfl⟩
theorem xZ7W (N:Nat):xZ3e.Ok prog N:=xZ7Z.give tb_ok hm N N (fun _=>⟨xZ4l N,trivial⟩) fun a r s h=>by
 have l0:=s.loop 0 xZ1X (xZ4q N) N fun next0 h0=>by
  exact fun c v=>s.seg 0 xZ1X [(0,.of xZ1X next0)] ⟨h0,trivial⟩ (by kernel_rfl) (by kernel_rfl)
 exact s.main [(0,.of xZ1X (xZ7n N))] ⟨l0,trivial⟩ (.trans (by kernel_rfl) h)
end
end
section
open Go.Proofs.Tryz
set_option maxRecDepth 1000000
noncomputable section
noncomputable def xZ7S:Fn xZ3d:=⟨f103,[],⟨[],[],sbf,bof⟩,fun _=>[xZ3e],[],none,0,1,fun _ _=>true,none,[],[],[]⟩
theorem xZ7Y:xZ7S.Ok prog:=⟨Is.of (by kernel_rfl) (by kernel_rfl),by kernel_rfl,xZ6 sb_ok bo_ok,trivial,trivial,fun _=>by kernel_rfl⟩
theorem xZ7V (N:Nat):xZ3d.Ok prog N:=xZ7Y.give tb_ok hm N N (fun _=>⟨xZ7W N,trivial⟩) fun a r s h=>by
 have l2:=s.loop 2 xZ1W (xZ4p N) N fun next2 h2=>by
  exact fun c v=>s.seg 2 xZ1W [(2,.of xZ1W next2)] ⟨h2,trivial⟩ (by kernel_rfl) (by kernel_rfl)
 have l0:=s.loop 0 xZ1V (xZ4o N) N fun next0 h0=>by
  exact fun c v=>s.seg 0 xZ1V [(0,.of xZ1V next0),(2,.of xZ1W (xZ7m N))] ⟨h0,l2,trivial⟩ (by kernel_rfl) (by kernel_rfl)
 exact s.main [(0,.of xZ1V (xZ7l N))] ⟨l0,trivial⟩ (.trans (by kernel_rfl) h)
noncomputable def xZ6p:Fn xZ2p:=⟨f104,[],⟨[],[],sbf,bof⟩,fun _=>[xZ4P,xZ3D],[],none,0,1,fun _ _=>true,none,[],[],[]⟩
theorem xZ6t:xZ6p.Ok prog:=⟨Is.of (by kernel_rfl) (by kernel_rfl),by kernel_rfl,xZ6 sb_ok bo_ok,trivial,trivial,fun _=>by kernel_rfl⟩
theorem xZ6r (N:Nat):xZ2p.Ok prog N:=xZ6t.give tb_ok hm N N (fun _=>⟨xZ8q N,xZ78 N,trivial⟩) fun a r s h=>by
 have l0:=s.loop 0 xZ1i (xZ3x N) N fun next0 h0=>by
  exact fun c v=>s.seg 0 xZ1i [(0,.of xZ1i next0)] ⟨h0,trivial⟩ (by kernel_rfl) (by kernel_rfl)
 exact s.main [(0,.of xZ1i (xZ5V N))] ⟨l0,trivial⟩ (.trans (by kernel_rfl) h)
noncomputable def xZ8d:Fn xZ3r:=⟨f162,[],⟨[],[],sbf,bof⟩,fun _=>[xZ39],[true,true],none,1,1,fun _ _=>true,none,[],[],[]⟩
theorem xZ8m:xZ8d.Ok prog:=⟨Is.of (by kernel_rfl) (by kernel_rfl),by kernel_rfl,xZ6 sb_ok bo_ok,trivial,trivial,fun _=>by kernel_rfl⟩
theorem xZ8h (N:Nat):xZ3r.Ok prog N:=xZ8m.give tb_ok hm N N (fun _=>⟨xZ4l N,trivial⟩) fun a r s h=>by
 exact s.main [] trivial (.trans (by kernel_rfl) h)
noncomputable def xZ8c:Fn xZ2n:=⟨f142,[],⟨[],[],sbf,bof⟩,fun _=>[xZ3r],[true],none,1,1,fun _ _=>true,none,[],[],[]⟩
theorem xZ8l:xZ8c.Ok prog:=⟨Is.of (by kernel_rfl) (by kernel_rfl),by kernel_rfl,xZ6 sb_ok bo_ok,trivial,trivial,fun _=>by kernel_rfl⟩
theorem xZ55 (N:Nat):xZ2n.Ok prog N:=xZ8l.give tb_ok hm N N (fun _=>⟨xZ8h N,trivial⟩) fun a r s h=>by
 exact s.main [] trivial (.trans (by kernel_rfl) h)
noncomputable def xZ63:Fn xZ2i:=⟨f141,[],⟨[],[],sbf,bof⟩,fun _=>[xZ2n],[true],none,1,1,fun _ _=>true,none,[],[],[]⟩
theorem xZ69:xZ63.Ok prog:=⟨Is.of (by kernel_rfl) (by kernel_rfl),by kernel_rfl,xZ6 sb_ok bo_ok,trivial,trivial,fun _=>by kernel_rfl⟩
theorem xZ66 (N:Nat):xZ2i.Ok prog N:=xZ69.give tb_ok hm N N (fun _=>⟨xZ55 N,trivial⟩) fun a r s h=>by
 exact s.main [] trivial (.trans (by kernel_rfl) h)
noncomputable def xZ6R:Fn xZ2D:=⟨f105,[],⟨[],[],sbf,bof⟩,fun _=>[xZ2i,xZ2n],[true,true],none,0,1,fun _ _=>true,none,[],[],[]⟩
theorem xZ6X:xZ6R.Ok prog:=⟨Is.of (by kernel_rfl) (by kernel_rfl),by kernel_rfl,xZ6 sb_ok bo_ok,trivial,trivial,fun _=>by kernel_rfl⟩
theorem xZ6U (N:Nat):xZ2D.Ok prog N:=xZ6X.give tb_ok hm N N (fun _=>⟨xZ66 N,xZ55 N,trivial⟩) fun a r s h=>by
 exact s.main [] trivial (.trans (by kernel_rfl) h)
noncomputable def xZ6z:Fn xZ2B:=⟨f106,[],⟨[],[],sbf,bof⟩,fun _=>[],[],none,0,1,fun _ _=>true,none,[],[],[]⟩
theorem xZ6L:xZ6z.Ok prog:=⟨Is.of (by kernel_rfl) (by kernel_rfl),by kernel_rfl,xZ6 sb_ok bo_ok,trivial,trivial,fun _=>by kernel_rfl⟩
theorem xZ6D (N:Nat):xZ2B.Ok prog N:=xZ6L.give tb_ok hm N N (fun _=>trivial) fun a r s h=>by
 have l0:=s.loop 0 xZ1r (xZ3R N) N fun next0 h0=>by
  exact fun c v=>s.seg 0 xZ1r [(0,.of xZ1r next0)] ⟨h0,trivial⟩ (by kernel_rfl) (by kernel_rfl)
 exact s.main [(0,.of xZ1r (xZ6g N))] ⟨l0,trivial⟩ (.trans (by kernel_rfl) h)
noncomputable def xZ5b:Fn xZ1K:=⟨f107,[],⟨[],[],sbf,bof⟩,fun _=>[xZ39],[true],none,0,1,fun _ _=>true,none,[],[],[]⟩
theorem xZ5d:xZ5b.Ok prog:=⟨Is.of (by kernel_rfl) (by kernel_rfl),by kernel_rfl,xZ6 sb_ok bo_ok,trivial,trivial,fun _=>by kernel_rfl⟩
theorem xZ5c (N:Nat):xZ1K.Ok prog N:=xZ5d.give tb_ok hm N N (fun _=>⟨xZ4l N,trivial⟩) fun a r s h=>by
 have l0:=s.loop 0 xZc (xZ2L N) N fun next0 h0=>by
  have l6:=s.loop 6 xZq (xZ2O N next0) N fun next6 h6=>by
   exact fun c v=>s.seg 6 xZq [(0,.of xZc next0),(6,.of xZq next6)] ⟨h0,h6,trivial⟩ (by kernel_rfl) (by kernel_rfl)
  have l4:=s.loop 4 xZK (xZ2N N next0) N fun next4 h4=>by
   exact fun c v=>s.seg 4 xZK [(0,.of xZc next0),(4,.of xZK next4),(6,.of xZq (xZ2P N next0))] ⟨h0,h4,l6,trivial⟩ (by kernel_rfl) (by kernel_rfl)
  have l2:=s.loop 2 xZJ (xZ2M N next0) N fun next2 h2=>by
   exact fun c v=>s.seg 2 xZJ [(0,.of xZc next0),(2,.of xZJ next2),(4,.of xZK (xZ53 N next0)),(6,.of xZq (xZ2P N next0))] ⟨h0,h2,l4,l6,trivial⟩ (by kernel_rfl) (by kernel_rfl)
  exact fun c v=>s.seg 0 xZc [(0,.of xZc next0),(2,.of xZJ (xZ52 N next0))] ⟨h0,l2,trivial⟩ (by kernel_rfl) (by kernel_rfl)
 exact s.main [(0,.of xZc (xZ51 N))] ⟨l0,trivial⟩ (.trans (by kernel_rfl) h)
end
end
end Go.Proofs.YtmfkphajohcklaaGreat.O
