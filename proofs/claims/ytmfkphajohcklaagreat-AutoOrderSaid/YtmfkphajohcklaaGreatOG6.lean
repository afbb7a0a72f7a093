/- The code, and what each function of it is walked to. No premise beyond what each theorem says. -/
import Derived.Test.YtmfkphajohcklaaGreatOG5
set_option linter.all false
set_option linter.unusedSimpArgs false
set_option linter.unusedVariables false
namespace Go.Proofs.YtmfkphajohcklaaGreat.O
open Go
section
open Go.Proofs.Tryz
set_option maxRecDepth 1000000
noncomputable section
noncomputable def xZ64:Fn xZ2j:=⟨f109,[],⟨[],[],sbf,bof⟩,fun _=>[xZ39],[true],none,0,1,fun _ _=>true,none,[],[],[]⟩
theorem xZ6a:xZ64.Ok prog:=⟨Is.of (by kernel_rfl) (by kernel_rfl),by kernel_rfl,xZ6 sb_ok bo_ok,trivial,trivial,fun _=>by kernel_rfl⟩
theorem xZ67 (N:Nat):xZ2j.Ok prog N:=xZ6a.give tb_ok hm N N (fun _=>⟨xZ4l N,trivial⟩) fun a r s h=>by
 have l0:=s.loop 0 xZp (xZ3s N) N fun next0 h0=>by
  have l4:=s.loop 4 xZ1c (xZ3u N next0) N fun next4 h4=>by
   exact fun c v=>s.seg 4 xZ1c [(0,.of xZp next0),(4,.of xZ1c next4)] ⟨h0,h4,trivial⟩ (by kernel_rfl) (by kernel_rfl)
  have l2:=s.loop 2 xZ1b (xZ3t N next0) N fun next2 h2=>by
   exact fun c v=>s.seg 2 xZ1b [(0,.of xZp next0),(2,.of xZ1b next2),(4,.of xZ1c (xZ5O N next0))] ⟨h0,h2,l4,trivial⟩ (by kernel_rfl) (by kernel_rfl)
  exact fun c v=>s.seg 0 xZp [(0,.of xZp next0),(2,.of xZ1b (xZ5N N next0))] ⟨h0,l2,trivial⟩ (by kernel_rfl) (by kernel_rfl)
 exact s.main [(0,.of xZp (xZ5M N))] ⟨l0,trivial⟩ (.trans (by kernel_rfl) h)
noncomputable def xZ7s:Fn xZ31:=⟨f110,[],⟨[],[],sbf,bof⟩,fun _=>[xZ39],[true,true],none,0,1,fun _ _=>true,none,[],[],[]⟩
theorem xZ7D:xZ7s.Ok prog:=⟨Is.of (by kernel_rfl) (by kernel_rfl),by kernel_rfl,xZ6 sb_ok bo_ok,trivial,trivial,fun _=>by kernel_rfl⟩
theorem xZ7u (N:Nat):xZ31.Ok prog N:=xZ7D.give tb_ok hm N N (fun _=>⟨xZ4l N,trivial⟩) fun a r s h=>by
 have l4:=s.loop 4 xZB (xZ4g N) N fun next4 h4=>by
  have l8:=s.loop 8 xZ1Q (xZ4i N next4) N fun next8 h8=>by
   exact fun c v=>s.seg 8 xZ1Q [(4,.of xZB next4),(8,.of xZ1Q next8)] ⟨h4,h8,trivial⟩ (by kernel_rfl) (by kernel_rfl)
  have l6:=s.loop 6 xZ1P (xZ4h N next4) N fun next6 h6=>by
   exact fun c v=>s.seg 6 xZ1P [(4,.of xZB next4),(6,.of xZ1P next6),(8,.of xZ1Q (xZ74 N next4))] ⟨h4,h6,l8,trivial⟩ (by kernel_rfl) (by kernel_rfl)
  exact fun c v=>s.seg 4 xZB [(4,.of xZB next4),(6,.of xZ1P (xZ73 N next4))] ⟨h4,l6,trivial⟩ (by kernel_rfl) (by kernel_rfl)
 have l2:=s.loop 2 xZ1O (xZ4f N) N fun next2 h2=>by
  exact fun c v=>s.seg 2 xZ1O [(2,.of xZ1O next2),(4,.of xZB (xZ72 N))] ⟨h2,l4,trivial⟩ (by kernel_rfl) (by kernel_rfl)
 have l0:=s.loop 0 xZ1N (xZ4e N) N fun next0 h0=>by
  exact fun c v=>s.seg 0 xZ1N [(0,.of xZ1N next0),(2,.of xZ1O (xZ71 N))] ⟨h0,l2,trivial⟩ (by kernel_rfl) (by kernel_rfl)
 exact s.main [(0,.of xZ1N (xZ70 N))] ⟨l0,trivial⟩ (.trans (by kernel_rfl) h)
noncomputable def xZ86:Fn xZ1u:=⟨f67,[],⟨[],[],sbf,bof⟩,fun _=>[xZ2q,xZ3d,xZ2p,xZ2D,xZ2B,xZ1K,xZ39,xZ2j,xZ31,xZ1u],[],none,0,1,fun _ _=>true,none,[],[86,122,137,175],[]⟩
theorem xZ4V:xZ86.Ok prog:=⟨Is.of (by kernel_rfl) (by kernel_rfl),by kernel_rfl,xZ6 sb_ok bo_ok,trivial,trivial,fun _=>by kernel_rfl⟩
theorem xZ4K:∀ N,xZ1u.Ok prog N
 | 0=>⟨xZ4V.is.enters,fun a r h=>by (have h:none=some r:=h;cases h)⟩
 | N+1=>by
   obtain h_slices_pdqsortOrdered_uint32_v535:=xZ4K N
   ·exact xZ4V.give tb_ok hm N (N+1) (fun _=>⟨xZ6s N,xZ7V N,xZ6r N,xZ6U N,xZ6D N,xZ5c N,xZ4l N,xZ67 N,xZ7u N,h_slices_pdqsortOrdered_uint32_v535,trivial⟩) fun a r s h=>by
     have l0:=s.loop 0 xZk (xZ4F N) N fun next0 h0=>by
      have lj3:=s.jn 1000175 xZ4v (xZ4z N next0) [(0,.of xZk next0)] ⟨h0,trivial⟩ (by kernel_rfl) (fun x=>by kernel_rfl)
      have lj2:=s.jn 1000137 xZ4u (xZ4y N next0) [(0,.of xZk next0),(1000175,.of xZ4v (xZ4z N next0))] ⟨h0,lj3,trivial⟩ (by kernel_rfl) (fun x=>by kernel_rfl)
      have lj1:=s.jn 1000122 xZ4t (xZ4x N next0) [(0,.of xZk next0),(1000137,.of xZ4u (xZ4y N next0))] ⟨h0,lj2,trivial⟩ (by kernel_rfl) (fun x=>by kernel_rfl)
      have lj0:=s.jn 1000086 xZ4s (xZ4w N next0) [(0,.of xZk next0),(1000122,.of xZ4t (xZ4x N next0))] ⟨h0,lj1,trivial⟩ (by kernel_rfl) (fun x=>by kernel_rfl)
      exact fun c v=>s.seg 0 xZk [(0,.of xZk next0),(1000086,.of xZ4s (xZ4w N next0))] ⟨h0,lj0,trivial⟩ (by kernel_rfl) (by kernel_rfl)
     exact s.main [(0,.of xZk (xZ7F N))] ⟨l0,trivial⟩ (.trans (by kernel_rfl) h)
theorem xZ88 (N:Nat):xZ1u.Ok prog N:=(xZ4K N)
noncomputable def xZaN:Fn xZ5o:=⟨f45,[],⟨[],[],sbf,bof⟩,fun _=>[xZ7o,xZ1u],[],none,0,1,fun _ _=>true,none,[],[],[]⟩
theorem xZaZ:xZaN.Ok prog:=⟨Is.of (by kernel_rfl) (by kernel_rfl),by kernel_rfl,xZ6 sb_ok bo_ok,trivial,trivial,fun _=>by kernel_rfl⟩
theorem xZaU (N:Nat):xZ5o.Ok prog N:=xZaZ.give tb_ok hm N N (fun _=>⟨xZaj N,xZ88 N,trivial⟩) fun a r s h=>by
 exact s.main [] trivial (.trans (by kernel_rfl) h)
noncomputable def xZb8:Fn xZ5E:=⟨f24,[],⟨[(17,14),(53,11),(89,14),(110,14),(3000125,15),(4000041,14)],[],sbf,bof⟩,fun _=>[xZ7P,xZ3T,xZ5o,xZ4T,xZ5m],[true,true,true],none,1,0,fun _ _=>true,some EqR.cls,[],[],[]⟩
theorem xZbj:xZb8.Ok prog:=⟨Is.of (by kernel_rfl) (by kernel_rfl),by kernel_rfl,xZ6 sb_ok bo_ok,trivial,trivial,fun _=>by kernel_rfl⟩
theorem xZbe (N:Nat):xZ5E.Ok prog N:=xZbj.give tb_ok hm N N (fun _=>⟨xZ9j N,xZ8w N,xZaU N,xZ87 N,xZ8v N,trivial⟩) fun a r s h=>by
 have l0:=s.loop 0 xZ35 (xZ7w N) N fun next0 h0=>by
  have l2:=s.loop 2 xZ48 (xZ7x N next0) N fun next2 h2=>by
   exact fun c v=>s.seg 2 xZ48 [(0,.of xZ35 next0),(2,.of xZ48 next2)] ⟨h0,h2,trivial⟩ (by kernel_rfl) (by kernel_rfl)
  exact fun c v=>s.seg 0 xZ35 [(0,.of xZ35 next0),(2,.of xZ48 (xZaF N next0))] ⟨h0,l2,trivial⟩ (by kernel_rfl) (by kernel_rfl)
 exact s.main [(0,.of xZ35 (xZaE N))] ⟨l0,trivial⟩ (.trans (by kernel_rfl) h)
end
end
section
open Go.Proofs.Tryz
set_option maxRecDepth 1000000
noncomputable section
noncomputable def xZh5:Fn xZb2:=⟨f8,[],⟨[(80,14),(99,16),(104,17)],[],sbf,bof⟩,fun _=>[xZb3,xZ4W,xZ7P,xZ5E],[true,true],none,0,0,fun _ _=>true,some EqR.cls,[],[],[]⟩
theorem xZhE:xZh5.Ok prog:=⟨Is.of (by kernel_rfl) (by kernel_rfl),by kernel_rfl,xZ6 sb_ok bo_ok,trivial,trivial,fun _=>by kernel_rfl⟩
theorem xZct (N:Nat):xZb2.Ok prog N:=xZhE.give tb_ok hm N N (fun _=>⟨xZfG N,xZ9B N,xZ9j N,xZbe N,trivial⟩) fun a r s h=>by
 have l2:=s.loop 2 xZ93 (xZcR N) N fun next2 h2=>by
  exact fun c v=>s.seg 2 xZ93 [(2,.of xZ93 next2)] ⟨h2,trivial⟩ (by kernel_rfl) (by kernel_rfl)
 have l0:=s.loop 0 xZ92 (xZcQ N) N fun next0 h0=>by
  exact fun c v=>s.seg 0 xZ92 [(0,.of xZ92 next0),(2,.of xZ93 (xZg4 N))] ⟨h0,l2,trivial⟩ (by kernel_rfl) (by kernel_rfl)
 exact s.main [(0,.of xZ92 (xZg3 N))] ⟨l0,trivial⟩ (.trans (by kernel_rfl) h)
theorem xZbg (N:Nat):xZ8a.Ok prog N:=xZmw (te:=51) (tb:=4) (e:=135) (CloneIs.of (fn:=f132) (by kernel_rfl) (by kernel_rfl) (by kernel_rfl) (by kernel_rfl) (by kernel_rfl) (by kernel_rfl) (by decide)) hm N
theorem xZal (N:Nat):xZ7p.Ok prog N:=xZkX (te:=51) (tb:=4) (e:=135) (CloneIs.of (fn:=f132) (by kernel_rfl) (by kernel_rfl) (by kernel_rfl) (by kernel_rfl) (by kernel_rfl) (by kernel_rfl) (by decide)) hm N
noncomputable def xZ9u:Fn xZ1B:=⟨f187,[],⟨[],[],sbf,bof⟩,fun _=>[],[true],none,1,0,fun _ _=>true,none,[],[],[]⟩
theorem xZ9F:xZ9u.Ok prog:=⟨Is.of (by kernel_rfl) (by kernel_rfl),by kernel_rfl,xZ6 sb_ok bo_ok,trivial,trivial,fun _=>by kernel_rfl⟩
theorem xZ2K (N:Nat):xZ1B.Ok prog N:=xZ9F.give tb_ok hm N N (fun _=>trivial) fun a r s h=>by
 exact s.main [] trivial (.trans (by kernel_rfl) h)
noncomputable def xZ9h:Fn xZ4J:=⟨f177,[],⟨[],[],sbf,bof⟩,fun _=>[],[true],none,1,0,fun _ _=>true,none,[],[],[]⟩
theorem xZ9k:xZ9h.Ok prog:=⟨Is.of (by kernel_rfl) (by kernel_rfl),by kernel_rfl,xZ6 sb_ok bo_ok,trivial,trivial,fun _=>by kernel_rfl⟩
theorem xZ6B (N:Nat):xZ4J.Ok prog N:=xZ9k.give tb_ok hm N N (fun _=>trivial) fun a r s h=>by
 exact s.main [] trivial (.trans (by kernel_rfl) h)
noncomputable def xZ9t:Fn xZ27:=⟨f190,[],⟨[],[],sbf,bof⟩,fun _=>[xZ4J],[],none,1,0,fun _ _=>true,none,[],[],[]⟩
theorem xZ9E:xZ9t.Ok prog:=⟨Is.of (by kernel_rfl) (by kernel_rfl),by kernel_rfl,xZ6 sb_ok bo_ok,trivial,trivial,fun _=>by kernel_rfl⟩
theorem xZ3E (N:Nat):xZ27.Ok prog N:=xZ9E.give tb_ok hm N N (fun _=>⟨xZ6B N,trivial⟩) fun a r s h=>by
 exact s.main [] trivial (.trans (by kernel_rfl) h)
noncomputable def xZ8U:Fn xZ4A:=⟨f189,[],⟨[],[],sbf,bof⟩,fun _=>[xZ1B,xZ27],[],none,1,0,fun _ _=>true,none,[],[],[]⟩
theorem xZ90:xZ8U.Ok prog:=⟨Is.of (by kernel_rfl) (by kernel_rfl),by kernel_rfl,xZ6 sb_ok bo_ok,trivial,trivial,fun _=>by kernel_rfl⟩
theorem xZ8X (N:Nat):xZ4A.Ok prog N:=xZ90.give tb_ok hm N N (fun _=>⟨xZ2K N,xZ3E N,trivial⟩) fun a r s h=>by
 exact s.main [] trivial (.trans (by kernel_rfl) h)
noncomputable def xZaf:Fn xZ1J:=⟨f183,[],⟨[],[],sbf,bof⟩,fun _=>[xZ1B],[true],none,1,0,fun _ _=>true,none,[],[],[]⟩
theorem xZan:xZaf.Ok prog:=⟨Is.of (by kernel_rfl) (by kernel_rfl),by kernel_rfl,xZ6 sb_ok bo_ok,trivial,trivial,fun _=>by kernel_rfl⟩
theorem xZ33 (N:Nat):xZ1J.Ok prog N:=xZan.give tb_ok hm N N (fun _=>⟨xZ2K N,trivial⟩) fun a r s h=>by
 exact s.main [] trivial (.trans (by kernel_rfl) h)
noncomputable def xZaM:Fn xZ5n:=⟨f188,[],⟨[],[],sbf,bof⟩,fun _=>[xZ4Y],[true],none,0,0,fun _ _=>true,none,[],[],[]⟩
theorem xZaY:xZaM.Ok prog:=⟨Is.of (by kernel_rfl) (by kernel_rfl),by kernel_rfl,xZ6 sb_ok bo_ok,trivial,trivial,fun _=>by kernel_rfl⟩
theorem xZaT (N:Nat):xZ5n.Ok prog N:=xZaY.give tb_ok hm N N (fun _=>⟨xZ77 N,trivial⟩) fun a r s h=>by
 have l2:=s.loop 2 xZ3I (xZ7d N) N fun next2 h2=>by
  exact fun c v=>s.seg 2 xZ3I [(2,.of xZ3I next2)] ⟨h2,trivial⟩ (by kernel_rfl) (by kernel_rfl)
 have l0:=s.loop 0 xZ3H (xZ7c N) N fun next0 h0=>by
  exact fun c v=>s.seg 0 xZ3H [(0,.of xZ3H next0),(2,.of xZ3I (xZ9N N))] ⟨h0,l2,trivial⟩ (by kernel_rfl) (by kernel_rfl)
 exact s.main [(0,.of xZ3H (xZ9M N))] ⟨l0,trivial⟩ (.trans (by kernel_rfl) h)
noncomputable def xZeq:Fn xZ5l:=⟨f184,[],⟨[(6,1)],[],sbf,bof⟩,fun _=>[xZ5n],[true],none,0,0,fun _ _=>true,none,[],[],[]⟩
theorem xZeN:xZeq.Ok prog:=⟨Is.of (by kernel_rfl) (by kernel_rfl),by kernel_rfl,xZ6 sb_ok bo_ok,trivial,trivial,fun _=>by kernel_rfl⟩
theorem xZ8g (N:Nat):xZ5l.Ok prog N:=xZeN.give tb_ok hm N N (fun _=>⟨xZaT N,trivial⟩) fun a r s h=>by
 exact s.main [] trivial (.trans (by kernel_rfl) h)
noncomputable def xZ9w:Fn xZ3C:=⟨f193,[],⟨[],[],sbf,bof⟩,fun _=>[xZ1B,xZ27],[true],none,1,0,fun _ _=>true,none,[],[],[]⟩
theorem xZ9G:xZ9w.Ok prog:=⟨Is.of (by kernel_rfl) (by kernel_rfl),by kernel_rfl,xZ6 sb_ok bo_ok,trivial,trivial,fun _=>by kernel_rfl⟩
theorem xZ76 (N:Nat):xZ3C.Ok prog N:=xZ9G.give tb_ok hm N N (fun _=>⟨xZ2K N,xZ3E N,trivial⟩) fun a r s h=>by
 exact s.main [] trivial (.trans (by kernel_rfl) h)
noncomputable def xZ9x:Fn xZ4X:=⟨f195,[],⟨[(24,1),(40,1),(51,1),(54,1)],[],sbf,bof⟩,fun _=>[xZ1J,xZ1B,xZ27,xZ3C],[true],none,1,0,fun _ _=>true,none,[],[],[]⟩
theorem xZ9H:xZ9x.Ok prog:=⟨Is.of (by kernel_rfl) (by kernel_rfl),by kernel_rfl,xZ6 sb_ok bo_ok,trivial,trivial,fun _=>by kernel_rfl⟩
theorem xZ9C (N:Nat):xZ4X.Ok prog N:=xZ9H.give tb_ok hm N N (fun _=>⟨xZ33 N,xZ2K N,xZ3E N,xZ76 N,trivial⟩) fun a r s h=>by
 exact s.main [] trivial (.trans (by kernel_rfl) h)
noncomputable def xZag:Fn xZ5a:=⟨f191,[],⟨[(14,6),(23,6)],[],sbf,bof⟩,fun _=>[xZ4X,xZ1J,xZ5l],[true],none,1,0,fun _ _=>true,none,[],[],[]⟩
theorem xZao:xZag.Ok prog:=⟨Is.of (by kernel_rfl) (by kernel_rfl),by kernel_rfl,xZ6 sb_ok bo_ok,trivial,trivial,fun _=>by kernel_rfl⟩
theorem xZak (N:Nat):xZ5a.Ok prog N:=xZao.give tb_ok hm N N (fun _=>⟨xZ9C N,xZ33 N,xZ8g N,trivial⟩) fun a r s h=>by
 have l0:=s.loop 0 xZ3w (xZ6H N) N fun next0 h0=>by
  exact fun c v=>s.seg 0 xZ3w [(0,.of xZ3w next0)] ⟨h0,trivial⟩ (by kernel_rfl) (by kernel_rfl)
 exact s.main [(0,.of xZ3w (xZ9m N))] ⟨l0,trivial⟩ (.trans (by kernel_rfl) h)
noncomputable def xZfy:Fn xZ8T:=⟨f180,[],⟨[],[],sbf,bof⟩,fun _=>[],[true],none,0,0,fun _ _=>true,none,[],[],[]⟩
theorem xZfW:xZfy.Ok prog:=⟨Is.of (by kernel_rfl) (by kernel_rfl),by kernel_rfl,xZ6 sb_ok bo_ok,trivial,trivial,fun _=>by kernel_rfl⟩
theorem xZcK (N:Nat):xZ8T.Ok prog N:=xZfW.give tb_ok hm N N (fun _=>trivial) fun a r s h=>by
 exact s.main [] trivial (.trans (by kernel_rfl) h)
noncomputable def xZh8:Fn xZci:=⟨f192,[],⟨[],[],sbf,bof⟩,fun _=>[xZ8T],[true],none,0,0,fun _ _=>true,none,[],[],[]⟩
theorem xZhH:xZh8.Ok prog:=⟨Is.of (by kernel_rfl) (by kernel_rfl),by kernel_rfl,xZ6 sb_ok bo_ok,trivial,trivial,fun _=>by kernel_rfl⟩
theorem xZho (N:Nat):xZci.Ok prog N:=xZhH.give tb_ok hm N N (fun _=>⟨xZcK N,trivial⟩) fun a r s h=>by
 have l0:=s.loop 0 xZ95 (xZcT N) N fun next0 h0=>by
  exact fun c v=>s.seg 0 xZ95 [(0,.of xZ95 next0)] ⟨h0,trivial⟩ (by kernel_rfl) (by kernel_rfl)
 exact s.main [(0,.of xZ95 (xZg6 N))] ⟨l0,trivial⟩ (.trans (by kernel_rfl) h)
end
end
section
open Go.Proofs.Tryz
set_option maxRecDepth 1000000
noncomputable section
noncomputable def xZaL:Fn xZ4b:=⟨f179,[],⟨[(16,6)],[],sbf,bof⟩,fun _=>[xZ59,xZ1J,xZ5l],[true],none,1,0,fun _ _=>true,none,[],[],[]⟩
theorem xZ83:xZaL.Ok prog:=⟨Is.of (by kernel_rfl) (by kernel_rfl),by kernel_rfl,xZ6 sb_ok bo_ok,trivial,trivial,fun _=>by kernel_rfl⟩
noncomputable def xZae:Fn xZ59:=⟨f182,[],⟨[(16,6)],[],sbf,bof⟩,fun _=>[xZ3B,xZ1J,xZ5l],[true],none,1,0,fun _ _=>true,none,[],[],[]⟩
theorem xZ7A:xZae.Ok prog:=⟨Is.of (by kernel_rfl) (by kernel_rfl),by kernel_rfl,xZ6 sb_ok bo_ok,trivial,trivial,fun _=>by kernel_rfl⟩
noncomputable def xZ9v:Fn xZ3B:=⟨f186,[],⟨[(18,6),(49,6)],[],sbf,bof⟩,fun _=>[xZ4A,xZ1J,xZ3B,xZ5l,xZ4b,xZ27,xZ5a,xZ1B,xZci,xZ3C],[true],none,1,0,fun _ _=>true,none,[],[],[]⟩
theorem xZ7e:xZ9v.Ok prog:=⟨Is.of (by kernel_rfl) (by kernel_rfl),by kernel_rfl,xZ6 sb_ok bo_ok,trivial,trivial,fun _=>by kernel_rfl⟩
theorem xZ7v:∀ N,xZ4b.Ok prog N∧xZ59.Ok prog N∧xZ3B.Ok prog N
 | 0=>⟨⟨xZ83.is.enters,fun a r h=>by (have h:none=some r:=h;cases h)⟩,⟨xZ7A.is.enters,fun a r h=>by (have h:none=some r:=h;cases h)⟩,⟨xZ7e.is.enters,fun a r h=>by (have h:none=some r:=h;cases h)⟩⟩
 | N+1=>by
   obtain ⟨h_predtext_parser_or_v927,h_predtext_parser_and_v927,h_predtext_parser_part_v927⟩:=xZ7v N
   refine ⟨?_,?_,?_⟩
   ·exact xZ83.give tb_ok hm N (N+1) (fun _=>⟨h_predtext_parser_and_v927,xZ33 N,xZ8g N,trivial⟩) fun a r s h=>by
     have l0:=s.loop 0 xZ3G (xZ7b N) N fun next0 h0=>by
      exact fun c v=>s.seg 0 xZ3G [(0,.of xZ3G next0)] ⟨h0,trivial⟩ (by kernel_rfl) (by kernel_rfl)
     exact s.main [(0,.of xZ3G (xZ9L N))] ⟨l0,trivial⟩ (.trans (by kernel_rfl) h)
   ·exact xZ7A.give tb_ok hm N (N+1) (fun _=>⟨h_predtext_parser_part_v927,xZ33 N,xZ8g N,trivial⟩) fun a r s h=>by
     have l0:=s.loop 0 xZ3v (xZ6G N) N fun next0 h0=>by
      exact fun c v=>s.seg 0 xZ3v [(0,.of xZ3v next0)] ⟨h0,trivial⟩ (by kernel_rfl) (by kernel_rfl)
     exact s.main [(0,.of xZ3v (xZ9l N))] ⟨l0,trivial⟩ (.trans (by kernel_rfl) h)
   ·exact xZ7e.give tb_ok hm N (N+1) (fun _=>⟨xZ8X N,xZ33 N,h_predtext_parser_part_v927,xZ8g N,h_predtext_parser_or_v927,xZ3E N,xZak N,xZ2K N,xZho N,xZ76 N,trivial⟩) fun a r s h=>by
     exact s.main [] trivial (.trans (by kernel_rfl) h)
theorem xZaS (N:Nat):xZ4b.Ok prog N:=(xZ7v N).1
noncomputable def xZdn:Fn xZ8s:=⟨f171,[],⟨[],[],sbf,bof⟩,fun _=>[],[true],none,0,0,fun _ _=>true,none,[],[],[]⟩
theorem xZdA:xZdn.Ok prog:=⟨Is.of (by kernel_rfl) (by kernel_rfl),by kernel_rfl,xZ6 sb_ok bo_ok,trivial,trivial,fun _=>by kernel_rfl⟩
theorem xZdr (N:Nat):xZ8s.Ok prog N:=xZdA.give tb_ok hm N N (fun _=>trivial) fun a r s h=>by
 exact s.main [] trivial (.trans (by kernel_rfl) h)
noncomputable def xZf2:Fn xZ8E:=⟨f128,[],⟨[],[],sbf,bof⟩,fun _=>[],[true],none,0,0,fun _ _=>true,none,[],[],[]⟩
theorem xZfa:xZf2.Ok prog:=⟨Is.of (by kernel_rfl) (by kernel_rfl),by kernel_rfl,xZ6 sb_ok bo_ok,trivial,trivial,fun _=>by kernel_rfl⟩
theorem xZca (N:Nat):xZ8E.Ok prog N:=xZfa.give tb_ok hm N N (fun _=>trivial) fun a r s h=>by
 exact s.main [] trivial (.trans (by kernel_rfl) h)
noncomputable def xZe1:Fn xZ8P:=⟨f129,[],⟨[],[],sbf,bof⟩,fun _=>[],[true],none,0,0,fun _ _=>true,none,[],[],[]⟩
theorem xZef:xZe1.Ok prog:=⟨Is.of (by kernel_rfl) (by kernel_rfl),by kernel_rfl,xZ6 sb_ok bo_ok,trivial,trivial,fun _=>by kernel_rfl⟩
theorem xZe6 (N:Nat):xZ8P.Ok prog N:=xZef.give tb_ok hm N N (fun _=>trivial) fun a r s h=>by
 exact s.main [] trivial (.trans (by kernel_rfl) h)
noncomputable def xZgm:Fn xZbE:=⟨f130,[],⟨[],[],sbf,bof⟩,fun _=>[xZ8E],[true],none,0,0,fun _ _=>true,none,[],[],[]⟩
theorem xZgJ:xZgm.Ok prog:=⟨Is.of (by kernel_rfl) (by kernel_rfl),by kernel_rfl,xZ6 sb_ok bo_ok,trivial,trivial,fun _=>by kernel_rfl⟩
theorem xZgu (N:Nat):xZbE.Ok prog N:=xZgJ.give tb_ok hm N N (fun _=>⟨xZca N,trivial⟩) fun a r s h=>by
 exact s.main [] trivial (.trans (by kernel_rfl) h)
noncomputable def xZgl:Fn xZbD:=⟨f84,[],⟨[],[],sbf,bof⟩,fun _=>[xZ8E,xZ8P,xZbE],[true],none,0,0,fun _ _=>true,none,[],[],[]⟩
theorem xZgI:xZgl.Ok prog:=⟨Is.of (by kernel_rfl) (by kernel_rfl),by kernel_rfl,xZ6 sb_ok bo_ok,trivial,trivial,fun _=>by kernel_rfl⟩
theorem xZgt (N:Nat):xZbD.Ok prog N:=xZgI.give tb_ok hm N N (fun _=>⟨xZca N,xZe6 N,xZgu N,trivial⟩) fun a r s h=>by
 have l0:=s.loop 0 xZ8H (xZcd N) N fun next0 h0=>by
  exact fun c v=>s.seg 0 xZ8H [(0,.of xZ8H next0)] ⟨h0,trivial⟩ (by kernel_rfl) (by kernel_rfl)
 exact s.main [(0,.of xZ8H (xZfd N))] ⟨l0,trivial⟩ (.trans (by kernel_rfl) h)
noncomputable def xZhh:Fn xZcn:=⟨f185,[],⟨[],[],sbf,bof⟩,fun _=>[],[false],none,0,0,fun _ _=>true,none,[],[],[]⟩
theorem xZhQ:xZhh.Ok prog:=⟨Is.of (by kernel_rfl) (by kernel_rfl),by kernel_rfl,xZ6 sb_ok bo_ok,trivial,trivial,fun _=>by kernel_rfl⟩
theorem xZhu (N:Nat):xZcn.Ok prog N:=xZhQ.give tb_ok hm N N (fun _=>trivial) fun a r s h=>by
 exact s.main [] trivial (.trans (by kernel_rfl) h)
noncomputable def xZcq:Fn xZ7R:=⟨f213,[],⟨[],[],sbf,bof⟩,fun _=>[],[true],none,0,0,fun _ _=>true,none,[],[],[]⟩
theorem xZcD:xZcq.Ok prog:=⟨Is.of (by kernel_rfl) (by kernel_rfl),by kernel_rfl,xZ6 sb_ok bo_ok,trivial,trivial,fun _=>by kernel_rfl⟩
theorem xZcw (N:Nat):xZ7R.Ok prog N:=xZcD.give tb_ok hm N N (fun _=>trivial) fun a r s h=>by
 exact s.main [] trivial (.trans (by kernel_rfl) h)
noncomputable def xZdo:Fn xZ8t:=⟨f214,[],⟨[],[],sbf,bof⟩,fun _=>[],[true],none,0,0,fun _ _=>true,none,[],[],[]⟩
theorem xZdB:xZdo.Ok prog:=⟨Is.of (by kernel_rfl) (by kernel_rfl),by kernel_rfl,xZ6 sb_ok bo_ok,trivial,trivial,fun _=>by kernel_rfl⟩
theorem xZds (N:Nat):xZ8t.Ok prog N:=xZdB.give tb_ok hm N N (fun _=>trivial) fun a r s h=>by
 exact s.main [] trivial (.trans (by kernel_rfl) h)
noncomputable def xZkL:Fn xZfx:=⟨f164,[(168,.fb)],⟨[],[],sbf,bof⟩,fun _=>[],[true],none,0,0,fun _ _=>true,none,[],[],[]⟩
theorem xZll:xZkL.Ok prog:=⟨Is.of (by kernel_rfl) (by kernel_rfl),by kernel_rfl,xZ6 sb_ok bo_ok,trivial,⟨ExtIs.mk' f168 (by kernel_rfl) (by kernel_rfl) (by kernel_rfl) (by kernel_rfl) (by kernel_rfl),trivial⟩,fun _=>by kernel_rfl⟩
theorem xZkU (N:Nat):xZfx.Ok prog N:=xZll.give tb_ok hm N N (fun _=>trivial) fun a r s h=>by
 exact s.main [] trivial (.trans (by kernel_rfl) h)
noncomputable def xZhd:Fn xZcl:=⟨f150,[],⟨[],[],sbf,bof⟩,fun _=>[xZfx],[true],none,0,0,fun _ _=>true,none,[],[],[]⟩
theorem xZhM:xZhd.Ok prog:=⟨Is.of (by kernel_rfl) (by kernel_rfl),by kernel_rfl,xZ6 sb_ok bo_ok,trivial,trivial,fun _=>by kernel_rfl⟩
theorem xZhs (N:Nat):xZcl.Ok prog N:=xZhM.give tb_ok hm N N (fun _=>⟨xZkU N,trivial⟩) fun a r s h=>by
 exact s.main [] trivial (.trans (by kernel_rfl) h)
noncomputable def xZcp:Fn xZ7Q:=⟨f215,[],⟨[],[],sbf,bof⟩,fun _=>[],[true],none,0,0,fun _ _=>true,none,[],[],[]⟩
theorem xZcC:xZcp.Ok prog:=⟨Is.of (by kernel_rfl) (by kernel_rfl),by kernel_rfl,xZ6 sb_ok bo_ok,trivial,trivial,fun _=>by kernel_rfl⟩
theorem xZcv (N:Nat):xZ7Q.Ok prog N:=xZcC.give tb_ok hm N N (fun _=>trivial) fun a r s h=>by
 exact s.main [] trivial (.trans (by kernel_rfl) h)
noncomputable def xZcI:Fn xZ8b:=⟨f216,[],⟨[],[],sbf,bof⟩,fun _=>[],[true],none,0,0,fun _ _=>true,none,[],[],[]⟩
theorem xZd4:xZcI.Ok prog:=⟨Is.of (by kernel_rfl) (by kernel_rfl),by kernel_rfl,xZ6 sb_ok bo_ok,trivial,trivial,fun _=>by kernel_rfl⟩
theorem xZcL (N:Nat):xZ8b.Ok prog N:=xZd4.give tb_ok hm N N (fun _=>trivial) fun a r s h=>by
 exact s.main [] trivial (.trans (by kernel_rfl) h)
noncomputable def xZgn:Fn xZbF:=⟨f181,[],⟨[],[],sbf,bof⟩,fun _=>[xZcn,xZ7R,xZ8t,xZcl,xZ7Q,xZ8b],[true],none,0,0,fun _ _=>true,none,[],[],[]⟩
theorem xZgK:xZgn.Ok prog:=⟨Is.of (by kernel_rfl) (by kernel_rfl),by kernel_rfl,xZ6 sb_ok bo_ok,trivial,trivial,fun _=>by kernel_rfl⟩
theorem xZgv (N:Nat):xZbF.Ok prog N:=xZgK.give tb_ok hm N N (fun _=>⟨xZhu N,xZcw N,xZds N,xZhs N,xZcv N,xZcL N,trivial⟩) fun a r s h=>by
 exact s.main [] trivial (.trans (by kernel_rfl) h)
end
end
section
open Go.Proofs.Tryz
set_option maxRecDepth 1000000
noncomputable section
noncomputable def xZe0:Fn xZ8O:=⟨f173,[],⟨[],[],sbf,bof⟩,fun _=>[xZ8T,xZbD,xZbF],[true],none,0,0,fun _ _=>true,none,[],[],[]⟩
theorem xZee:xZe0.Ok prog:=⟨Is.of (by kernel_rfl) (by kernel_rfl),by kernel_rfl,xZ6 sb_ok bo_ok,trivial,trivial,fun _=>by kernel_rfl⟩
theorem xZe5 (N:Nat):xZ8O.Ok prog N:=xZee.give tb_ok hm N N (fun _=>⟨xZcK N,xZgt N,xZgv N,trivial⟩) fun a r s h=>by
 exact s.main [] trivial (.trans (by kernel_rfl) h)
noncomputable def xZfB:Fn xZb5:=⟨f172,[],⟨[],[],sbf,bof⟩,fun _=>[xZ8O],[true],none,0,0,fun _ _=>true,none,[],[],[]⟩
theorem xZfZ:xZfB.Ok prog:=⟨Is.of (by kernel_rfl) (by kernel_rfl),by kernel_rfl,xZ6 sb_ok bo_ok,trivial,trivial,fun _=>by kernel_rfl⟩
theorem xZfI (N:Nat):xZb5.Ok prog N:=xZfZ.give tb_ok hm N N (fun _=>⟨xZe5 N,trivial⟩) fun a r s h=>by
 exact s.main [] trivial (.trans (by kernel_rfl) h)
noncomputable def xZfA:Fn xZb4:=⟨f172,[],⟨[],[],sbf,bof⟩,fun _=>[xZ9g],[true],none,0,0,fun _ _=>true,none,[],[],[]⟩
theorem xZfY:xZfA.Ok prog:=⟨Is.of (by kernel_rfl) (by kernel_rfl),by kernel_rfl,xZ6 sb_ok bo_ok,trivial,trivial,fun _=>by kernel_rfl⟩
theorem xZfH (N:Nat):xZb4.Ok prog N:=xZfY.give tb_ok hm N N (fun _=>⟨xZbI N,trivial⟩) fun a r s h=>by
 exact s.main [] trivial (.trans (by kernel_rfl) h)
noncomputable def xZiQ:Fn xZdl:=⟨f175,[],⟨[],[],sbf,bof⟩,fun _=>[],[true],none,0,0,fun _ _=>true,none,[],[],[]⟩
theorem xZj8:xZiQ.Ok prog:=⟨Is.of (by kernel_rfl) (by kernel_rfl),by kernel_rfl,xZ6 sb_ok bo_ok,trivial,trivial,fun _=>by kernel_rfl⟩
theorem xZiY (N:Nat):xZdl.Ok prog N:=xZj8.give tb_ok hm N N (fun _=>trivial) fun a r s h=>by
 exact s.main [] trivial (.trans (by kernel_rfl) h)
noncomputable def xZf1:Fn xZac:=⟨f176,[],⟨[],[],sbf,bof⟩,fun _=>[],[true],none,0,0,fun _ _=>true,none,[],[],[]⟩
theorem xZf9:xZf1.Ok prog:=⟨Is.of (by kernel_rfl) (by kernel_rfl),by kernel_rfl,xZ6 sb_ok bo_ok,trivial,trivial,fun _=>by kernel_rfl⟩
theorem xZf4 (N:Nat):xZac.Ok prog N:=xZf9.give tb_ok hm N N (fun _=>trivial) fun a r s h=>by
 exact s.main [] trivial (.trans (by kernel_rfl) h)
noncomputable def xZb9:Fn xZ3q:=⟨f167,[],⟨[],[],sbf,bof⟩,fun _=>[xZ8s,xZb5,xZb4,xZdl,xZac,xZ3q],[true],none,1,0,fun _ _=>true,none,[],[],[]⟩
theorem xZ8k:xZb9.Ok prog:=⟨Is.of (by kernel_rfl) (by kernel_rfl),by kernel_rfl,xZ6 sb_ok bo_ok,trivial,trivial,fun _=>by kernel_rfl⟩
theorem xZ82:∀ N,xZ3q.Ok prog N
 | 0=>⟨xZ8k.is.enters,fun a r h=>by (have h:none=some r:=h;cases h)⟩
 | N+1=>by
   obtain h_pred_checker_tree_v739:=xZ82 N
   ·exact xZ8k.give tb_ok hm N (N+1) (fun _=>⟨xZdr N,xZfI N,xZfH N,xZiY N,xZf4 N,h_pred_checker_tree_v739,trivial⟩) fun a r s h=>by
     have l0:=s.loop 0 xZ49 (xZ7y N) N fun next0 h0=>by
      exact fun c v=>s.seg 0 xZ49 [(0,.of xZ49 next0)] ⟨h0,trivial⟩ (by kernel_rfl) (by kernel_rfl)
     exact s.main [(0,.of xZ49 (xZaG N))] ⟨l0,trivial⟩ (.trans (by kernel_rfl) h)
theorem xZbf (N:Nat):xZ3q.Ok prog N:=(xZ82 N)
noncomputable def xZhc:Fn xZep:=⟨f158,[],⟨[],[],sbf,bof⟩,fun _=>[xZ3q],[true],none,0,0,fun _ _=>true,none,[],[],[]⟩
theorem xZhL:xZhc.Ok prog:=⟨Is.of (by kernel_rfl) (by kernel_rfl),by kernel_rfl,xZ6 sb_ok bo_ok,trivial,trivial,fun _=>by kernel_rfl⟩
theorem xZhr (N:Nat):xZep.Ok prog N:=xZhL.give tb_ok hm N N (fun _=>⟨xZbf N,trivial⟩) fun a r s h=>by
 exact s.main [] trivial (.trans (by kernel_rfl) h)
end
end
end Go.Proofs.YtmfkphajohcklaaGreat.O
