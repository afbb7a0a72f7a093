/- The code, and what each function of it is walked to. No premise beyond what each theorem says. -/
import Derived.Test.YtmfkphajohcklaaGreatPG4
set_option linter.all false
set_option linter.unusedSimpArgs false
set_option linter.unusedVariables false
namespace Go.Proofs.YtmfkphajohcklaaGreat.P
open Go
section
open Go.Proofs.Tryz
set_option maxRecDepth 1000000
noncomputable section
noncomputable def xZ7F:Fn xZ32:=⟨f161,[],⟨[],[],sbf,bof⟩,fun _=>[xZ5Q],[true,true],none,1,1,fun _ _=>true,none,[],[],[]⟩
theorem xZ7R:xZ7F.Ok prog:=⟨Is.of (by kernel_rfl) (by kernel_rfl),by kernel_rfl,xZ5 sb_ok bo_ok,trivial,trivial,fun _=>by kernel_rfl⟩
theorem xZ7H (N:Nat):xZ32.Ok prog N:=xZ7R.give tb_ok hm N N (fun _=>⟨xZ88 N,trivial⟩) fun a r s h=>by
 exact s.main [] trivial (.trans (by kernel_rfl) h)
noncomputable def xZ7E:Fn xZ23:=⟨f139,[],⟨[],[],sbf,bof⟩,fun _=>[xZ32],[true],none,1,1,fun _ _=>true,none,[],[],[]⟩
theorem xZ7Q:xZ7E.Ok prog:=⟨Is.of (by kernel_rfl) (by kernel_rfl),by kernel_rfl,xZ5 sb_ok bo_ok,trivial,trivial,fun _=>by kernel_rfl⟩
theorem xZ4K (N:Nat):xZ23.Ok prog N:=xZ7Q.give tb_ok hm N N (fun _=>⟨xZ7H N,trivial⟩) fun a r s h=>by
 exact s.main [] trivial (.trans (by kernel_rfl) h)
noncomputable def xZ5G:Fn xZ25:=⟨f138,[],⟨[],[],sbf,bof⟩,fun _=>[xZ23],[true],none,1,1,fun _ _=>true,none,[],[],[]⟩
theorem xZ5K:xZ5G.Ok prog:=⟨Is.of (by kernel_rfl) (by kernel_rfl),by kernel_rfl,xZ5 sb_ok bo_ok,trivial,trivial,fun _=>by kernel_rfl⟩
theorem xZ5I (N:Nat):xZ25.Ok prog N:=xZ5K.give tb_ok hm N N (fun _=>⟨xZ4K N,trivial⟩) fun a r s h=>by
 exact s.main [] trivial (.trans (by kernel_rfl) h)
noncomputable def xZ6g:Fn xZ2j:=⟨f93,[],⟨[],[],sbf,bof⟩,fun _=>[xZ25,xZ23],[true,true],none,0,1,fun _ _=>true,none,[],[],[]⟩
theorem xZ6m:xZ6g.Ok prog:=⟨Is.of (by kernel_rfl) (by kernel_rfl),by kernel_rfl,xZ5 sb_ok bo_ok,trivial,trivial,fun _=>by kernel_rfl⟩
theorem xZ6j (N:Nat):xZ2j.Ok prog N:=xZ6m.give tb_ok hm N N (fun _=>⟨xZ5I N,xZ4K N,trivial⟩) fun a r s h=>by
 exact s.main [] trivial (.trans (by kernel_rfl) h)
noncomputable def xZ65:Fn xZ2f:=⟨f94,[],⟨[],[],sbf,bof⟩,fun _=>[],[],none,0,1,fun _ _=>true,none,[],[],[]⟩
theorem xZ68:xZ65.Ok prog:=⟨Is.of (by kernel_rfl) (by kernel_rfl),by kernel_rfl,xZ5 sb_ok bo_ok,trivial,trivial,fun _=>by kernel_rfl⟩
theorem xZ66 (N:Nat):xZ2f.Ok prog N:=xZ68.give tb_ok hm N N (fun _=>trivial) fun a r s h=>by
 have l0:=s.loop 0 xZ16 (xZ3q N) N fun next0 h0=>by
  exact fun c v=>s.seg 0 xZ16 [(0,.of xZ16 next0)] ⟨h0,trivial⟩ (by kernel_rfl) (by kernel_rfl)
 exact s.main [(0,.of xZ16 (xZ5M N))] ⟨l0,trivial⟩ (.trans (by kernel_rfl) h)
noncomputable def xZ4W:Fn xZ1t:=⟨f95,[],⟨[],[],sbf,bof⟩,fun _=>[xZ5Q],[true],none,0,1,fun _ _=>true,none,[],[],[]⟩
theorem xZ4Y:xZ4W.Ok prog:=⟨Is.of (by kernel_rfl) (by kernel_rfl),by kernel_rfl,xZ5 sb_ok bo_ok,trivial,trivial,fun _=>by kernel_rfl⟩
theorem xZ4X (N:Nat):xZ1t.Ok prog N:=xZ4Y.give tb_ok hm N N (fun _=>⟨xZ88 N,trivial⟩) fun a r s h=>by
 have l0:=s.loop 0 xZa (xZ2w N) N fun next0 h0=>by
  have l6:=s.loop 6 xZl (xZ2z N next0) N fun next6 h6=>by
   exact fun c v=>s.seg 6 xZl [(0,.of xZa next0),(6,.of xZl next6)] ⟨h0,h6,trivial⟩ (by kernel_rfl) (by kernel_rfl)
  have l4:=s.loop 4 xZA (xZ2y N next0) N fun next4 h4=>by
   exact fun c v=>s.seg 4 xZA [(0,.of xZa next0),(4,.of xZA next4),(6,.of xZl (xZ2A N next0))] ⟨h0,h4,l6,trivial⟩ (by kernel_rfl) (by kernel_rfl)
  have l2:=s.loop 2 xZz (xZ2x N next0) N fun next2 h2=>by
   exact fun c v=>s.seg 2 xZz [(0,.of xZa next0),(2,.of xZz next2),(4,.of xZA (xZ4O N next0)),(6,.of xZl (xZ2A N next0))] ⟨h0,h2,l4,l6,trivial⟩ (by kernel_rfl) (by kernel_rfl)
  exact fun c v=>s.seg 0 xZa [(0,.of xZa next0),(2,.of xZz (xZ4N N next0))] ⟨h0,l2,trivial⟩ (by kernel_rfl) (by kernel_rfl)
 exact s.main [(0,.of xZa (xZ4M N))] ⟨l0,trivial⟩ (.trans (by kernel_rfl) h)
noncomputable def xZ5H:Fn xZ26:=⟨f96,[],⟨[],[],sbf,bof⟩,fun _=>[xZ5Q],[true],none,0,1,fun _ _=>true,none,[],[],[]⟩
theorem xZ5L:xZ5H.Ok prog:=⟨Is.of (by kernel_rfl) (by kernel_rfl),by kernel_rfl,xZ5 sb_ok bo_ok,trivial,trivial,fun _=>by kernel_rfl⟩
theorem xZ5J (N:Nat):xZ26.Ok prog N:=xZ5L.give tb_ok hm N N (fun _=>⟨xZ88 N,trivial⟩) fun a r s h=>by
 have l0:=s.loop 0 xZj (xZ3c N) N fun next0 h0=>by
  have l4:=s.loop 4 xZV (xZ3e N next0) N fun next4 h4=>by
   exact fun c v=>s.seg 4 xZV [(0,.of xZj next0),(4,.of xZV next4)] ⟨h0,h4,trivial⟩ (by kernel_rfl) (by kernel_rfl)
  have l2:=s.loop 2 xZU (xZ3d N next0) N fun next2 h2=>by
   exact fun c v=>s.seg 2 xZU [(0,.of xZj next0),(2,.of xZU next2),(4,.of xZV (xZ5u N next0))] ⟨h0,h2,l4,trivial⟩ (by kernel_rfl) (by kernel_rfl)
  exact fun c v=>s.seg 0 xZj [(0,.of xZj next0),(2,.of xZU (xZ5t N next0))] ⟨h0,l2,trivial⟩ (by kernel_rfl) (by kernel_rfl)
 exact s.main [(0,.of xZj (xZ5s N))] ⟨l0,trivial⟩ (.trans (by kernel_rfl) h)
end
end
section
open Go.Proofs.Tryz
set_option maxRecDepth 1000000
noncomputable section
noncomputable def xZ6J:Fn xZ2C:=⟨f97,[],⟨[],[],sbf,bof⟩,fun _=>[xZ5Q],[true,true],none,0,1,fun _ _=>true,none,[],[],[]⟩
theorem xZ6U:xZ6J.Ok prog:=⟨Is.of (by kernel_rfl) (by kernel_rfl),by kernel_rfl,xZ5 sb_ok bo_ok,trivial,trivial,fun _=>by kernel_rfl⟩
theorem xZ6N (N:Nat):xZ2C.Ok prog N:=xZ6U.give tb_ok hm N N (fun _=>⟨xZ88 N,trivial⟩) fun a r s h=>by
 have l4:=s.loop 4 xZs (xZ3P N) N fun next4 h4=>by
  have l8:=s.loop 8 xZ1q (xZ3R N next4) N fun next8 h8=>by
   exact fun c v=>s.seg 8 xZ1q [(4,.of xZs next4),(8,.of xZ1q next8)] ⟨h4,h8,trivial⟩ (by kernel_rfl) (by kernel_rfl)
  have l6:=s.loop 6 xZ1p (xZ3Q N next4) N fun next6 h6=>by
   exact fun c v=>s.seg 6 xZ1p [(4,.of xZs next4),(6,.of xZ1p next6),(8,.of xZ1q (xZ6t N next4))] ⟨h4,h6,l8,trivial⟩ (by kernel_rfl) (by kernel_rfl)
  exact fun c v=>s.seg 4 xZs [(4,.of xZs next4),(6,.of xZ1p (xZ6s N next4))] ⟨h4,l6,trivial⟩ (by kernel_rfl) (by kernel_rfl)
 have l2:=s.loop 2 xZ1o (xZ3O N) N fun next2 h2=>by
  exact fun c v=>s.seg 2 xZ1o [(2,.of xZ1o next2),(4,.of xZs (xZ6r N))] ⟨h2,l4,trivial⟩ (by kernel_rfl) (by kernel_rfl)
 have l0:=s.loop 0 xZ1n (xZ3N N) N fun next0 h0=>by
  exact fun c v=>s.seg 0 xZ1n [(0,.of xZ1n next0),(2,.of xZ1o (xZ6q N))] ⟨h0,l2,trivial⟩ (by kernel_rfl) (by kernel_rfl)
 exact s.main [(0,.of xZ1n (xZ6p N))] ⟨l0,trivial⟩ (.trans (by kernel_rfl) h)
noncomputable def xZ7w:Fn xZ18:=⟨f62,[],⟨[],[],sbf,bof⟩,fun _=>[xZ2a,xZ2G,xZ29,xZ2j,xZ2f,xZ1t,xZ5Q,xZ26,xZ2C,xZ18],[],none,0,1,fun _ _=>true,none,[],[96,136,151,195],[]⟩
theorem xZ4u:xZ7w.Ok prog:=⟨Is.of (by kernel_rfl) (by kernel_rfl),by kernel_rfl,xZ5 sb_ok bo_ok,trivial,trivial,fun _=>by kernel_rfl⟩
theorem xZ4h:∀ N,xZ18.Ok prog N
 | 0=>⟨xZ4u.is.enters,fun a r h=>by (have h:none=some r:=h;cases h)⟩
 | N+1=>by
   obtain h_slices_pdqsortCmpFunc_auto_Edge_v169:=xZ4h N
   ·exact xZ4u.give tb_ok hm N (N+1) (fun _=>⟨xZ5W N,xZ78 N,xZ5V N,xZ6j N,xZ66 N,xZ4X N,xZ88 N,xZ5J N,xZ6N N,h_slices_pdqsortCmpFunc_auto_Edge_v169,trivial⟩) fun a r s h=>by
     have l0:=s.loop 0 xZg (xZ4e N) N fun next0 h0=>by
      have lj3:=s.jn 1000195 xZ45 (xZ49 N next0) [(0,.of xZg next0)] ⟨h0,trivial⟩ (by kernel_rfl) (fun x=>by kernel_rfl)
      have lj2:=s.jn 1000151 xZ44 (xZ48 N next0) [(0,.of xZg next0),(1000195,.of xZ45 (xZ49 N next0))] ⟨h0,lj3,trivial⟩ (by kernel_rfl) (fun x=>by kernel_rfl)
      have lj1:=s.jn 1000136 xZ43 (xZ47 N next0) [(0,.of xZg next0),(1000151,.of xZ44 (xZ48 N next0))] ⟨h0,lj2,trivial⟩ (by kernel_rfl) (fun x=>by kernel_rfl)
      have lj0:=s.jn 1000096 xZ42 (xZ46 N next0) [(0,.of xZg next0),(1000136,.of xZ43 (xZ47 N next0))] ⟨h0,lj1,trivial⟩ (by kernel_rfl) (fun x=>by kernel_rfl)
      exact fun c v=>s.seg 0 xZg [(0,.of xZg next0),(1000096,.of xZ42 (xZ46 N next0))] ⟨h0,lj0,trivial⟩ (by kernel_rfl) (by kernel_rfl)
     exact s.main [(0,.of xZg (xZ6Z N))] ⟨l0,trivial⟩ (.trans (by kernel_rfl) h)
theorem xZ7x (N:Nat):xZ18.Ok prog N:=(xZ4h N)
noncomputable def xZ8I:Fn xZ3V:=⟨f43,[],⟨[],[],sbf,bof⟩,fun _=>[xZ7C,xZ18],[],none,0,1,fun _ _=>true,none,[],[],[]⟩
theorem xZ8N:xZ8I.Ok prog:=⟨Is.of (by kernel_rfl) (by kernel_rfl),by kernel_rfl,xZ5 sb_ok bo_ok,trivial,trivial,fun _=>by kernel_rfl⟩
theorem xZ8L (N:Nat):xZ3V.Ok prog N:=xZ8N.give tb_ok hm N N (fun _=>⟨xZaF N,xZ7x N,trivial⟩) fun a r s h=>by
 exact s.main [] trivial (.trans (by kernel_rfl) h)
noncomputable def xZeF:Fn xZ3b:=⟨f108,[],⟨[],[],sbf,bof⟩,fun _=>[xZ73],[true],none,0,0,fun _ _=>true,none,[],[],[]⟩
theorem xZeS:xZeF.Ok prog:=⟨Is.of (by kernel_rfl) (by kernel_rfl),by kernel_rfl,xZ5 sb_ok bo_ok,trivial,trivial,fun _=>by kernel_rfl⟩
theorem xZ4o (N:Nat):xZ3b.Ok prog N:=xZeS.give tb_ok hm N N (fun _=>⟨xZbe N,trivial⟩) fun a r s h=>by
 exact s.main [] trivial (.trans (by kernel_rfl) h)
noncomputable def xZ6A:Fn xZ2s:=⟨f102,[],⟨[],[],sbf,bof⟩,fun _=>[xZ3b],[],none,0,1,fun _ _=>true,none,[],[],[]⟩
theorem xZ6E:xZ6A.Ok prog:=⟨Is.of (by kernel_rfl) (by kernel_rfl),by kernel_rfl,xZ5 sb_ok bo_ok,trivial,trivial,fun _=>by kernel_rfl⟩
theorem xZ6C (N:Nat):xZ2s.Ok prog N:=xZ6E.give tb_ok hm N N (fun _=>⟨xZ4o N,trivial⟩) fun a r s h=>by
 have l0:=s.loop 0 xZH (xZ3A N) N fun next0 h0=>by
  have l2:=s.loop 2 xZ1j (xZ3B N next0) N fun next2 h2=>by
   exact fun c v=>s.seg 2 xZ1j [(0,.of xZH next0),(2,.of xZ1j next2)] ⟨h0,h2,trivial⟩ (by kernel_rfl) (by kernel_rfl)
  exact fun c v=>s.seg 0 xZH [(0,.of xZH next0),(2,.of xZ1j (xZ6b N next0))] ⟨h0,l2,trivial⟩ (by kernel_rfl) (by kernel_rfl)
 exact s.main [(0,.of xZH (xZ6a N))] ⟨l0,trivial⟩ (.trans (by kernel_rfl) h)
noncomputable def xZ87:Fn xZ3g:=⟨f140,[],⟨[],[],sbf,bof⟩,fun _=>[xZ3b],[],none,0,1,fun _ _=>true,none,[],[],[]⟩
theorem xZ8c:xZ87.Ok prog:=⟨Is.of (by kernel_rfl) (by kernel_rfl),by kernel_rfl,xZ5 sb_ok bo_ok,trivial,trivial,fun _=>by kernel_rfl⟩
theorem xZ8a (N:Nat):xZ3g.Ok prog N:=xZ8c.give tb_ok hm N N (fun _=>⟨xZ4o N,trivial⟩) fun a r s h=>by
 have l0:=s.loop 0 xZ1Y (xZ4t N) N fun next0 h0=>by
  exact fun c v=>s.seg 0 xZ1Y [(0,.of xZ1Y next0)] ⟨h0,trivial⟩ (by kernel_rfl) (by kernel_rfl)
 exact s.main [(0,.of xZ1Y (xZ7B N))] ⟨l0,trivial⟩ (.trans (by kernel_rfl) h)
end
end
section
open Go.Proofs.Tryz
set_option maxRecDepth 1000000
noncomputable section
noncomputable def xZ86:Fn xZ3f:=⟨f103,[],⟨[],[],sbf,bof⟩,fun _=>[xZ3g],[],none,0,1,fun _ _=>true,none,[],[],[]⟩
theorem xZ8b:xZ86.Ok prog:=⟨Is.of (by kernel_rfl) (by kernel_rfl),by kernel_rfl,xZ5 sb_ok bo_ok,trivial,trivial,fun _=>by kernel_rfl⟩
theorem xZ89 (N:Nat):xZ3f.Ok prog N:=xZ8b.give tb_ok hm N N (fun _=>⟨xZ8a N,trivial⟩) fun a r s h=>by
 have l2:=s.loop 2 xZ1X (xZ4s N) N fun next2 h2=>by
  exact fun c v=>s.seg 2 xZ1X [(2,.of xZ1X next2)] ⟨h2,trivial⟩ (by kernel_rfl) (by kernel_rfl)
 have l0:=s.loop 0 xZ1W (xZ4r N) N fun next0 h0=>by
  exact fun c v=>s.seg 0 xZ1W [(0,.of xZ1W next0),(2,.of xZ1X (xZ7A N))] ⟨h0,l2,trivial⟩ (by kernel_rfl) (by kernel_rfl)
 exact s.main [(0,.of xZ1W (xZ7z N))] ⟨l0,trivial⟩ (.trans (by kernel_rfl) h)
noncomputable def xZ6z:Fn xZ2r:=⟨f104,[],⟨[],[],sbf,bof⟩,fun _=>[xZ4T,xZ3E],[],none,0,1,fun _ _=>true,none,[],[],[]⟩
theorem xZ6D:xZ6z.Ok prog:=⟨Is.of (by kernel_rfl) (by kernel_rfl),by kernel_rfl,xZ5 sb_ok bo_ok,trivial,trivial,fun _=>by kernel_rfl⟩
theorem xZ6B (N:Nat):xZ2r.Ok prog N:=xZ6D.give tb_ok hm N N (fun _=>⟨xZ8D N,xZ7l N,trivial⟩) fun a r s h=>by
 have l0:=s.loop 0 xZ1i (xZ3z N) N fun next0 h0=>by
  exact fun c v=>s.seg 0 xZ1i [(0,.of xZ1i next0)] ⟨h0,trivial⟩ (by kernel_rfl) (by kernel_rfl)
 exact s.main [(0,.of xZ1i (xZ69 N))] ⟨l0,trivial⟩ (.trans (by kernel_rfl) h)
noncomputable def xZ8p:Fn xZ3t:=⟨f162,[],⟨[],[],sbf,bof⟩,fun _=>[xZ3b],[true,true],none,1,1,fun _ _=>true,none,[],[],[]⟩
theorem xZ8y:xZ8p.Ok prog:=⟨Is.of (by kernel_rfl) (by kernel_rfl),by kernel_rfl,xZ5 sb_ok bo_ok,trivial,trivial,fun _=>by kernel_rfl⟩
theorem xZ8t (N:Nat):xZ3t.Ok prog N:=xZ8y.give tb_ok hm N N (fun _=>⟨xZ4o N,trivial⟩) fun a r s h=>by
 exact s.main [] trivial (.trans (by kernel_rfl) h)
noncomputable def xZ8o:Fn xZ2p:=⟨f142,[],⟨[],[],sbf,bof⟩,fun _=>[xZ3t],[true],none,1,1,fun _ _=>true,none,[],[],[]⟩
theorem xZ8x:xZ8o.Ok prog:=⟨Is.of (by kernel_rfl) (by kernel_rfl),by kernel_rfl,xZ5 sb_ok bo_ok,trivial,trivial,fun _=>by kernel_rfl⟩
theorem xZ5c (N:Nat):xZ2p.Ok prog N:=xZ8x.give tb_ok hm N N (fun _=>⟨xZ8t N,trivial⟩) fun a r s h=>by
 exact s.main [] trivial (.trans (by kernel_rfl) h)
noncomputable def xZ6h:Fn xZ2k:=⟨f141,[],⟨[],[],sbf,bof⟩,fun _=>[xZ2p],[true],none,1,1,fun _ _=>true,none,[],[],[]⟩
theorem xZ6n:xZ6h.Ok prog:=⟨Is.of (by kernel_rfl) (by kernel_rfl),by kernel_rfl,xZ5 sb_ok bo_ok,trivial,trivial,fun _=>by kernel_rfl⟩
theorem xZ6k (N:Nat):xZ2k.Ok prog N:=xZ6n.give tb_ok hm N N (fun _=>⟨xZ5c N,trivial⟩) fun a r s h=>by
 exact s.main [] trivial (.trans (by kernel_rfl) h)
noncomputable def xZ74:Fn xZ2F:=⟨f105,[],⟨[],[],sbf,bof⟩,fun _=>[xZ2k,xZ2p],[true,true],none,0,1,fun _ _=>true,none,[],[],[]⟩
theorem xZ7a:xZ74.Ok prog:=⟨Is.of (by kernel_rfl) (by kernel_rfl),by kernel_rfl,xZ5 sb_ok bo_ok,trivial,trivial,fun _=>by kernel_rfl⟩
theorem xZ77 (N:Nat):xZ2F.Ok prog N:=xZ7a.give tb_ok hm N N (fun _=>⟨xZ6k N,xZ5c N,trivial⟩) fun a r s h=>by
 exact s.main [] trivial (.trans (by kernel_rfl) h)
noncomputable def xZ6K:Fn xZ2D:=⟨f106,[],⟨[],[],sbf,bof⟩,fun _=>[],[],none,0,1,fun _ _=>true,none,[],[],[]⟩
theorem xZ6V:xZ6K.Ok prog:=⟨Is.of (by kernel_rfl) (by kernel_rfl),by kernel_rfl,xZ5 sb_ok bo_ok,trivial,trivial,fun _=>by kernel_rfl⟩
theorem xZ6O (N:Nat):xZ2D.Ok prog N:=xZ6V.give tb_ok hm N N (fun _=>trivial) fun a r s h=>by
 have l0:=s.loop 0 xZ1r (xZ3S N) N fun next0 h0=>by
  exact fun c v=>s.seg 0 xZ1r [(0,.of xZ1r next0)] ⟨h0,trivial⟩ (by kernel_rfl) (by kernel_rfl)
 exact s.main [(0,.of xZ1r (xZ6u N))] ⟨l0,trivial⟩ (.trans (by kernel_rfl) h)
noncomputable def xZ5m:Fn xZ1M:=⟨f107,[],⟨[],[],sbf,bof⟩,fun _=>[xZ3b],[true],none,0,1,fun _ _=>true,none,[],[],[]⟩
theorem xZ5o:xZ5m.Ok prog:=⟨Is.of (by kernel_rfl) (by kernel_rfl),by kernel_rfl,xZ5 sb_ok bo_ok,trivial,trivial,fun _=>by kernel_rfl⟩
theorem xZ5n (N:Nat):xZ1M.Ok prog N:=xZ5o.give tb_ok hm N N (fun _=>⟨xZ4o N,trivial⟩) fun a r s h=>by
 have l0:=s.loop 0 xZc (xZ2N N) N fun next0 h0=>by
  have l6:=s.loop 6 xZq (xZ2Q N next0) N fun next6 h6=>by
   exact fun c v=>s.seg 6 xZq [(0,.of xZc next0),(6,.of xZq next6)] ⟨h0,h6,trivial⟩ (by kernel_rfl) (by kernel_rfl)
  have l4:=s.loop 4 xZK (xZ2P N next0) N fun next4 h4=>by
   exact fun c v=>s.seg 4 xZK [(0,.of xZc next0),(4,.of xZK next4),(6,.of xZq (xZ2R N next0))] ⟨h0,h4,l6,trivial⟩ (by kernel_rfl) (by kernel_rfl)
  have l2:=s.loop 2 xZJ (xZ2O N next0) N fun next2 h2=>by
   exact fun c v=>s.seg 2 xZJ [(0,.of xZc next0),(2,.of xZJ next2),(4,.of xZK (xZ5a N next0)),(6,.of xZq (xZ2R N next0))] ⟨h0,h2,l4,l6,trivial⟩ (by kernel_rfl) (by kernel_rfl)
  exact fun c v=>s.seg 0 xZc [(0,.of xZc next0),(2,.of xZJ (xZ59 N next0))] ⟨h0,l2,trivial⟩ (by kernel_rfl) (by kernel_rfl)
 exact s.main [(0,.of xZc (xZ58 N))] ⟨l0,trivial⟩ (.trans (by kernel_rfl) h)
end
end
end Go.Proofs.YtmfkphajohcklaaGreat.P
