/- The code, and what each function of it is walked to. No premise beyond what each theorem says. -/
import Derived.Test.YtmfkphajohcklaaGreatPG5
set_option linter.all false
set_option linter.unusedSimpArgs false
set_option linter.unusedVariables false
namespace Go.Proofs.YtmfkphajohcklaaGreat.P
open Go
section
open Go.Proofs.Tryz
set_option maxRecDepth 1000000
noncomputable section
noncomputable def xZ6i:Fn xZ2l:=⟨f109,[],⟨[],[],sbf,bof⟩,fun _=>[xZ3b],[true],none,0,1,fun _ _=>true,none,[],[],[]⟩
theorem xZ6o:xZ6i.Ok prog:=⟨Is.of (by kernel_rfl) (by kernel_rfl),by kernel_rfl,xZ5 sb_ok bo_ok,trivial,trivial,fun _=>by kernel_rfl⟩
theorem xZ6l (N:Nat):xZ2l.Ok prog N:=xZ6o.give tb_ok hm N N (fun _=>⟨xZ4o N,trivial⟩) fun a r s h=>by
 have l0:=s.loop 0 xZp (xZ3u N) N fun next0 h0=>by
  have l4:=s.loop 4 xZ1c (xZ3w N next0) N fun next4 h4=>by
   exact fun c v=>s.seg 4 xZ1c [(0,.of xZp next0),(4,.of xZ1c next4)] ⟨h0,h4,trivial⟩ (by kernel_rfl) (by kernel_rfl)
  have l2:=s.loop 2 xZ1b (xZ3v N next0) N fun next2 h2=>by
   exact fun c v=>s.seg 2 xZ1b [(0,.of xZp next0),(2,.of xZ1b next2),(4,.of xZ1c (xZ62 N next0))] ⟨h0,h2,l4,trivial⟩ (by kernel_rfl) (by kernel_rfl)
  exact fun c v=>s.seg 0 xZp [(0,.of xZp next0),(2,.of xZ1b (xZ61 N next0))] ⟨h0,l2,trivial⟩ (by kernel_rfl) (by kernel_rfl)
 exact s.main [(0,.of xZp (xZ60 N))] ⟨l0,trivial⟩ (.trans (by kernel_rfl) h)
noncomputable def xZ7G:Fn xZ33:=⟨f110,[],⟨[],[],sbf,bof⟩,fun _=>[xZ3b],[true,true],none,0,1,fun _ _=>true,none,[],[],[]⟩
theorem xZ7S:xZ7G.Ok prog:=⟨Is.of (by kernel_rfl) (by kernel_rfl),by kernel_rfl,xZ5 sb_ok bo_ok,trivial,trivial,fun _=>by kernel_rfl⟩
theorem xZ7I (N:Nat):xZ33.Ok prog N:=xZ7S.give tb_ok hm N N (fun _=>⟨xZ4o N,trivial⟩) fun a r s h=>by
 have l4:=s.loop 4 xZB (xZ4k N) N fun next4 h4=>by
  have l8:=s.loop 8 xZ1S (xZ4m N next4) N fun next8 h8=>by
   exact fun c v=>s.seg 8 xZ1S [(4,.of xZB next4),(8,.of xZ1S next8)] ⟨h4,h8,trivial⟩ (by kernel_rfl) (by kernel_rfl)
  have l6:=s.loop 6 xZ1R (xZ4l N next4) N fun next6 h6=>by
   exact fun c v=>s.seg 6 xZ1R [(4,.of xZB next4),(6,.of xZ1R next6),(8,.of xZ1S (xZ7h N next4))] ⟨h4,h6,l8,trivial⟩ (by kernel_rfl) (by kernel_rfl)
  exact fun c v=>s.seg 4 xZB [(4,.of xZB next4),(6,.of xZ1R (xZ7g N next4))] ⟨h4,l6,trivial⟩ (by kernel_rfl) (by kernel_rfl)
 have l2:=s.loop 2 xZ1Q (xZ4j N) N fun next2 h2=>by
  exact fun c v=>s.seg 2 xZ1Q [(2,.of xZ1Q next2),(4,.of xZB (xZ7f N))] ⟨h2,l4,trivial⟩ (by kernel_rfl) (by kernel_rfl)
 have l0:=s.loop 0 xZ1P (xZ4i N) N fun next0 h0=>by
  exact fun c v=>s.seg 0 xZ1P [(0,.of xZ1P next0),(2,.of xZ1Q (xZ7e N))] ⟨h0,l2,trivial⟩ (by kernel_rfl) (by kernel_rfl)
 exact s.main [(0,.of xZ1P (xZ7d N))] ⟨l0,trivial⟩ (.trans (by kernel_rfl) h)
noncomputable def xZ8i:Fn xZ1u:=⟨f67,[],⟨[],[],sbf,bof⟩,fun _=>[xZ2s,xZ3f,xZ2r,xZ2F,xZ2D,xZ1M,xZ3b,xZ2l,xZ33,xZ1u],[],none,0,1,fun _ _=>true,none,[],[86,122,137,175],[]⟩
theorem xZ51:xZ8i.Ok prog:=⟨Is.of (by kernel_rfl) (by kernel_rfl),by kernel_rfl,xZ5 sb_ok bo_ok,trivial,trivial,fun _=>by kernel_rfl⟩
theorem xZ4Q:∀ N,xZ1u.Ok prog N
 | 0=>⟨xZ51.is.enters,fun a r h=>by (have h:none=some r:=h;cases h)⟩
 | N+1=>by
   obtain h_slices_pdqsortOrdered_uint32_v535:=xZ4Q N
   ·exact xZ51.give tb_ok hm N (N+1) (fun _=>⟨xZ6C N,xZ89 N,xZ6B N,xZ77 N,xZ6O N,xZ5n N,xZ4o N,xZ6l N,xZ7I N,h_slices_pdqsortOrdered_uint32_v535,trivial⟩) fun a r s h=>by
     have l0:=s.loop 0 xZk (xZ4L N) N fun next0 h0=>by
      have lj3:=s.jn 1000175 xZ4y (xZ4C N next0) [(0,.of xZk next0)] ⟨h0,trivial⟩ (by kernel_rfl) (fun x=>by kernel_rfl)
      have lj2:=s.jn 1000137 xZ4x (xZ4B N next0) [(0,.of xZk next0),(1000175,.of xZ4y (xZ4C N next0))] ⟨h0,lj3,trivial⟩ (by kernel_rfl) (fun x=>by kernel_rfl)
      have lj1:=s.jn 1000122 xZ4w (xZ4A N next0) [(0,.of xZk next0),(1000137,.of xZ4x (xZ4B N next0))] ⟨h0,lj2,trivial⟩ (by kernel_rfl) (fun x=>by kernel_rfl)
      have lj0:=s.jn 1000086 xZ4v (xZ4z N next0) [(0,.of xZk next0),(1000122,.of xZ4w (xZ4A N next0))] ⟨h0,lj1,trivial⟩ (by kernel_rfl) (fun x=>by kernel_rfl)
      exact fun c v=>s.seg 0 xZk [(0,.of xZk next0),(1000086,.of xZ4v (xZ4z N next0))] ⟨h0,lj0,trivial⟩ (by kernel_rfl) (by kernel_rfl)
     exact s.main [(0,.of xZk (xZ7U N))] ⟨l0,trivial⟩ (.trans (by kernel_rfl) h)
theorem xZ8k (N:Nat):xZ1u.Ok prog N:=(xZ4Q N)
noncomputable def xZbb:Fn xZ5A:=⟨f45,[],⟨[],[],sbf,bof⟩,fun _=>[xZ7C,xZ1u],[],none,0,1,fun _ _=>true,none,[],[],[]⟩
theorem xZbn:xZbb.Ok prog:=⟨Is.of (by kernel_rfl) (by kernel_rfl),by kernel_rfl,xZ5 sb_ok bo_ok,trivial,trivial,fun _=>by kernel_rfl⟩
theorem xZbi (N:Nat):xZ5A.Ok prog N:=xZbn.give tb_ok hm N N (fun _=>⟨xZaF N,xZ8k N,trivial⟩) fun a r s h=>by
 exact s.main [] trivial (.trans (by kernel_rfl) h)
noncomputable def xZbw:Fn xZ5P:=⟨f24,[],⟨[(17,14),(53,11),(89,14),(110,14),(3000125,15),(4000041,14)],[],sbf,bof⟩,fun _=>[xZ6I,xZ3V,xZ5A,xZ4Z,xZ5y],[true,true,true],none,1,0,fun _ _=>true,some EqR.cls,[],[],[]⟩
theorem xZbL:xZbw.Ok prog:=⟨Is.of (by kernel_rfl) (by kernel_rfl),by kernel_rfl,xZ5 sb_ok bo_ok,trivial,trivial,fun _=>by kernel_rfl⟩
theorem xZbE (N:Nat):xZ5P.Ok prog N:=xZbL.give tb_ok hm N N (fun _=>⟨xZ8J N,xZ8L N,xZbi N,xZ8j N,xZ8K N,trivial⟩) fun a r s h=>by
 have l0:=s.loop 0 xZ37 (xZ7K N) N fun next0 h0=>by
  have l2:=s.loop 2 xZ4a (xZ7L N next0) N fun next2 h2=>by
   exact fun c v=>s.seg 2 xZ4a [(0,.of xZ37 next0),(2,.of xZ4a next2)] ⟨h0,h2,trivial⟩ (by kernel_rfl) (by kernel_rfl)
  exact fun c v=>s.seg 0 xZ37 [(0,.of xZ37 next0),(2,.of xZ4a (xZb1 N next0))] ⟨h0,l2,trivial⟩ (by kernel_rfl) (by kernel_rfl)
 exact s.main [(0,.of xZ37 (xZb0 N))] ⟨l0,trivial⟩ (.trans (by kernel_rfl) h)
end
end
section
open Go.Proofs.Tryz
set_option maxRecDepth 1000000
noncomputable section
noncomputable def xZhT:Fn xZbq:=⟨f8,[],⟨[(80,14),(99,16),(104,17)],[],sbf,bof⟩,fun _=>[xZ9a,xZ52,xZ6I,xZ5P],[true,true],none,0,0,fun _ _=>true,some EqR.cls,[],[],[]⟩
theorem xZir:xZhT.Ok prog:=⟨Is.of (by kernel_rfl) (by kernel_rfl),by kernel_rfl,xZ5 sb_ok bo_ok,trivial,trivial,fun _=>by kernel_rfl⟩
theorem xZda (N:Nat):xZbq.Ok prog N:=xZir.give tb_ok hm N N (fun _=>⟨xZds N,xZ9V N,xZ8J N,xZbE N,trivial⟩) fun a r s h=>by
 have l2:=s.loop 2 xZ9k (xZdz N) N fun next2 h2=>by
  exact fun c v=>s.seg 2 xZ9k [(2,.of xZ9k next2)] ⟨h2,trivial⟩ (by kernel_rfl) (by kernel_rfl)
 have l0:=s.loop 0 xZ9j (xZdy N) N fun next0 h0=>by
  exact fun c v=>s.seg 0 xZ9j [(0,.of xZ9j next0),(2,.of xZ9k (xZgQ N))] ⟨h0,l2,trivial⟩ (by kernel_rfl) (by kernel_rfl)
 exact s.main [(0,.of xZ9j (xZgP N))] ⟨l0,trivial⟩ (.trans (by kernel_rfl) h)
theorem xZbG (N:Nat):xZ8m.Ok prog N:=xZnu (te:=51) (tb:=4) (e:=135) (CloneIs.of (fn:=f132) (by kernel_rfl) (by kernel_rfl) (by kernel_rfl) (by kernel_rfl) (by kernel_rfl) (by kernel_rfl) (by decide)) hm N
theorem xZaH (N:Nat):xZ7D.Ok prog N:=xZlS (te:=51) (tb:=4) (e:=135) (CloneIs.of (fn:=f132) (by kernel_rfl) (by kernel_rfl) (by kernel_rfl) (by kernel_rfl) (by kernel_rfl) (by kernel_rfl) (by decide)) hm N
noncomputable def xZ9N:Fn xZ1B:=⟨f187,[],⟨[],[],sbf,bof⟩,fun _=>[],[true],none,1,0,fun _ _=>true,none,[],[],[]⟩
theorem xZa0:xZ9N.Ok prog:=⟨Is.of (by kernel_rfl) (by kernel_rfl),by kernel_rfl,xZ5 sb_ok bo_ok,trivial,trivial,fun _=>by kernel_rfl⟩
theorem xZ2M (N:Nat):xZ1B.Ok prog N:=xZa0.give tb_ok hm N N (fun _=>trivial) fun a r s h=>by
 exact s.main [] trivial (.trans (by kernel_rfl) h)
noncomputable def xZ9z:Fn xZ4P:=⟨f177,[],⟨[],[],sbf,bof⟩,fun _=>[],[true],none,1,0,fun _ _=>true,none,[],[],[]⟩
theorem xZ9B:xZ9z.Ok prog:=⟨Is.of (by kernel_rfl) (by kernel_rfl),by kernel_rfl,xZ5 sb_ok bo_ok,trivial,trivial,fun _=>by kernel_rfl⟩
theorem xZ6M (N:Nat):xZ4P.Ok prog N:=xZ9B.give tb_ok hm N N (fun _=>trivial) fun a r s h=>by
 exact s.main [] trivial (.trans (by kernel_rfl) h)
noncomputable def xZ9M:Fn xZ28:=⟨f190,[],⟨[],[],sbf,bof⟩,fun _=>[xZ4P],[],none,1,0,fun _ _=>true,none,[],[],[]⟩
theorem xZ9Z:xZ9M.Ok prog:=⟨Is.of (by kernel_rfl) (by kernel_rfl),by kernel_rfl,xZ5 sb_ok bo_ok,trivial,trivial,fun _=>by kernel_rfl⟩
theorem xZ3F (N:Nat):xZ28.Ok prog N:=xZ9Z.give tb_ok hm N N (fun _=>⟨xZ6M N,trivial⟩) fun a r s h=>by
 exact s.main [] trivial (.trans (by kernel_rfl) h)
noncomputable def xZ9b:Fn xZ4D:=⟨f189,[],⟨[],[],sbf,bof⟩,fun _=>[xZ1B,xZ28],[],none,1,0,fun _ _=>true,none,[],[],[]⟩
theorem xZ9h:xZ9b.Ok prog:=⟨Is.of (by kernel_rfl) (by kernel_rfl),by kernel_rfl,xZ5 sb_ok bo_ok,trivial,trivial,fun _=>by kernel_rfl⟩
theorem xZ9e (N:Nat):xZ4D.Ok prog N:=xZ9h.give tb_ok hm N N (fun _=>⟨xZ2M N,xZ3F N,trivial⟩) fun a r s h=>by
 exact s.main [] trivial (.trans (by kernel_rfl) h)
noncomputable def xZaB:Fn xZ1L:=⟨f183,[],⟨[],[],sbf,bof⟩,fun _=>[xZ1B],[true],none,1,0,fun _ _=>true,none,[],[],[]⟩
theorem xZaJ:xZaB.Ok prog:=⟨Is.of (by kernel_rfl) (by kernel_rfl),by kernel_rfl,xZ5 sb_ok bo_ok,trivial,trivial,fun _=>by kernel_rfl⟩
theorem xZ35 (N:Nat):xZ1L.Ok prog N:=xZaJ.give tb_ok hm N N (fun _=>⟨xZ2M N,trivial⟩) fun a r s h=>by
 exact s.main [] trivial (.trans (by kernel_rfl) h)
noncomputable def xZba:Fn xZ5z:=⟨f188,[],⟨[],[],sbf,bof⟩,fun _=>[xZ55],[true],none,0,0,fun _ _=>true,none,[],[],[]⟩
theorem xZbm:xZba.Ok prog:=⟨Is.of (by kernel_rfl) (by kernel_rfl),by kernel_rfl,xZ5 sb_ok bo_ok,trivial,trivial,fun _=>by kernel_rfl⟩
theorem xZbh (N:Nat):xZ5z.Ok prog N:=xZbm.give tb_ok hm N N (fun _=>⟨xZ7k N,trivial⟩) fun a r s h=>by
 have l2:=s.loop 2 xZ3J (xZ7q N) N fun next2 h2=>by
  exact fun c v=>s.seg 2 xZ3J [(2,.of xZ3J next2)] ⟨h2,trivial⟩ (by kernel_rfl) (by kernel_rfl)
 have l0:=s.loop 0 xZ3I (xZ7p N) N fun next0 h0=>by
  exact fun c v=>s.seg 0 xZ3I [(0,.of xZ3I next0),(2,.of xZ3J (xZa9 N))] ⟨h0,l2,trivial⟩ (by kernel_rfl) (by kernel_rfl)
 exact s.main [(0,.of xZ3I (xZa8 N))] ⟨l0,trivial⟩ (.trans (by kernel_rfl) h)
noncomputable def xZf7:Fn xZ5x:=⟨f184,[],⟨[(6,1)],[],sbf,bof⟩,fun _=>[xZ5z],[true],none,0,0,fun _ _=>true,none,[],[],[]⟩
theorem xZfu:xZf7.Ok prog:=⟨Is.of (by kernel_rfl) (by kernel_rfl),by kernel_rfl,xZ5 sb_ok bo_ok,trivial,trivial,fun _=>by kernel_rfl⟩
theorem xZ8s (N:Nat):xZ5x.Ok prog N:=xZfu.give tb_ok hm N N (fun _=>⟨xZbh N,trivial⟩) fun a r s h=>by
 exact s.main [] trivial (.trans (by kernel_rfl) h)
noncomputable def xZ9P:Fn xZ3D:=⟨f193,[],⟨[],[],sbf,bof⟩,fun _=>[xZ1B,xZ28],[true],none,1,0,fun _ _=>true,none,[],[],[]⟩
theorem xZa1:xZ9P.Ok prog:=⟨Is.of (by kernel_rfl) (by kernel_rfl),by kernel_rfl,xZ5 sb_ok bo_ok,trivial,trivial,fun _=>by kernel_rfl⟩
theorem xZ7j (N:Nat):xZ3D.Ok prog N:=xZa1.give tb_ok hm N N (fun _=>⟨xZ2M N,xZ3F N,trivial⟩) fun a r s h=>by
 exact s.main [] trivial (.trans (by kernel_rfl) h)
noncomputable def xZ9Q:Fn xZ53:=⟨f195,[],⟨[(24,1),(40,1),(51,1),(54,1)],[],sbf,bof⟩,fun _=>[xZ1L,xZ1B,xZ28,xZ3D],[true],none,1,0,fun _ _=>true,none,[],[],[]⟩
theorem xZa2:xZ9Q.Ok prog:=⟨Is.of (by kernel_rfl) (by kernel_rfl),by kernel_rfl,xZ5 sb_ok bo_ok,trivial,trivial,fun _=>by kernel_rfl⟩
theorem xZ9W (N:Nat):xZ53.Ok prog N:=xZa2.give tb_ok hm N N (fun _=>⟨xZ35 N,xZ2M N,xZ3F N,xZ7j N,trivial⟩) fun a r s h=>by
 exact s.main [] trivial (.trans (by kernel_rfl) h)
noncomputable def xZaC:Fn xZ5l:=⟨f191,[],⟨[(14,6),(23,6)],[],sbf,bof⟩,fun _=>[xZ53,xZ1L,xZ5x],[true],none,1,0,fun _ _=>true,none,[],[],[]⟩
theorem xZaK:xZaC.Ok prog:=⟨Is.of (by kernel_rfl) (by kernel_rfl),by kernel_rfl,xZ5 sb_ok bo_ok,trivial,trivial,fun _=>by kernel_rfl⟩
theorem xZaG (N:Nat):xZ5l.Ok prog N:=xZaK.give tb_ok hm N N (fun _=>⟨xZ9W N,xZ35 N,xZ8s N,trivial⟩) fun a r s h=>by
 have l0:=s.loop 0 xZ3y (xZ6S N) N fun next0 h0=>by
  exact fun c v=>s.seg 0 xZ3y [(0,.of xZ3y next0)] ⟨h0,trivial⟩ (by kernel_rfl) (by kernel_rfl)
 exact s.main [(0,.of xZ3y (xZ9D N))] ⟨l0,trivial⟩ (.trans (by kernel_rfl) h)
noncomputable def xZgh:Fn xZ99:=⟨f180,[],⟨[],[],sbf,bof⟩,fun _=>[],[true],none,0,0,fun _ _=>true,none,[],[],[]⟩
theorem xZgH:xZgh.Ok prog:=⟨Is.of (by kernel_rfl) (by kernel_rfl),by kernel_rfl,xZ5 sb_ok bo_ok,trivial,trivial,fun _=>by kernel_rfl⟩
theorem xZdr (N:Nat):xZ99.Ok prog N:=xZgH.give tb_ok hm N N (fun _=>trivial) fun a r s h=>by
 exact s.main [] trivial (.trans (by kernel_rfl) h)
noncomputable def xZhW:Fn xZcZ:=⟨f192,[],⟨[],[],sbf,bof⟩,fun _=>[xZ99],[true],none,0,0,fun _ _=>true,none,[],[],[]⟩
theorem xZiu:xZhW.Ok prog:=⟨Is.of (by kernel_rfl) (by kernel_rfl),by kernel_rfl,xZ5 sb_ok bo_ok,trivial,trivial,fun _=>by kernel_rfl⟩
theorem xZic (N:Nat):xZcZ.Ok prog N:=xZiu.give tb_ok hm N N (fun _=>⟨xZdr N,trivial⟩) fun a r s h=>by
 have l0:=s.loop 0 xZ9m (xZdB N) N fun next0 h0=>by
  exact fun c v=>s.seg 0 xZ9m [(0,.of xZ9m next0)] ⟨h0,trivial⟩ (by kernel_rfl) (by kernel_rfl)
 exact s.main [(0,.of xZ9m (xZgS N))] ⟨l0,trivial⟩ (.trans (by kernel_rfl) h)
end
end
section
open Go.Proofs.Tryz
set_option maxRecDepth 1000000
noncomputable section
noncomputable def xZb9:Fn xZ4f:=⟨f179,[],⟨[(16,6)],[],sbf,bof⟩,fun _=>[xZ5k,xZ1L,xZ5x],[true],none,1,0,fun _ _=>true,none,[],[],[]⟩
theorem xZ8g:xZb9.Ok prog:=⟨Is.of (by kernel_rfl) (by kernel_rfl),by kernel_rfl,xZ5 sb_ok bo_ok,trivial,trivial,fun _=>by kernel_rfl⟩
noncomputable def xZaA:Fn xZ5k:=⟨f182,[],⟨[(16,6)],[],sbf,bof⟩,fun _=>[xZ3C,xZ1L,xZ5x],[true],none,1,0,fun _ _=>true,none,[],[],[]⟩
theorem xZ7P:xZaA.Ok prog:=⟨Is.of (by kernel_rfl) (by kernel_rfl),by kernel_rfl,xZ5 sb_ok bo_ok,trivial,trivial,fun _=>by kernel_rfl⟩
noncomputable def xZ9O:Fn xZ3C:=⟨f186,[],⟨[(18,6),(49,6)],[],sbf,bof⟩,fun _=>[xZ4D,xZ1L,xZ3C,xZ5x,xZ4f,xZ28,xZ5l,xZ1B,xZcZ,xZ3D],[true],none,1,0,fun _ _=>true,none,[],[],[]⟩
theorem xZ7r:xZ9O.Ok prog:=⟨Is.of (by kernel_rfl) (by kernel_rfl),by kernel_rfl,xZ5 sb_ok bo_ok,trivial,trivial,fun _=>by kernel_rfl⟩
theorem xZ7J:∀ N,xZ4f.Ok prog N∧xZ5k.Ok prog N∧xZ3C.Ok prog N
 | 0=>⟨⟨xZ8g.is.enters,fun a r h=>by (have h:none=some r:=h;cases h)⟩,⟨xZ7P.is.enters,fun a r h=>by (have h:none=some r:=h;cases h)⟩,⟨xZ7r.is.enters,fun a r h=>by (have h:none=some r:=h;cases h)⟩⟩
 | N+1=>by
   obtain ⟨h_predtext_parser_or_v927,h_predtext_parser_and_v927,h_predtext_parser_part_v927⟩:=xZ7J N
   refine ⟨?_,?_,?_⟩
   ·exact xZ8g.give tb_ok hm N (N+1) (fun _=>⟨h_predtext_parser_and_v927,xZ35 N,xZ8s N,trivial⟩) fun a r s h=>by
     have l0:=s.loop 0 xZ3H (xZ7o N) N fun next0 h0=>by
      exact fun c v=>s.seg 0 xZ3H [(0,.of xZ3H next0)] ⟨h0,trivial⟩ (by kernel_rfl) (by kernel_rfl)
     exact s.main [(0,.of xZ3H (xZa7 N))] ⟨l0,trivial⟩ (.trans (by kernel_rfl) h)
   ·exact xZ7P.give tb_ok hm N (N+1) (fun _=>⟨h_predtext_parser_part_v927,xZ35 N,xZ8s N,trivial⟩) fun a r s h=>by
     have l0:=s.loop 0 xZ3x (xZ6R N) N fun next0 h0=>by
      exact fun c v=>s.seg 0 xZ3x [(0,.of xZ3x next0)] ⟨h0,trivial⟩ (by kernel_rfl) (by kernel_rfl)
     exact s.main [(0,.of xZ3x (xZ9C N))] ⟨l0,trivial⟩ (.trans (by kernel_rfl) h)
   ·exact xZ7r.give tb_ok hm N (N+1) (fun _=>⟨xZ9e N,xZ35 N,h_predtext_parser_part_v927,xZ8s N,h_predtext_parser_or_v927,xZ3F N,xZaG N,xZ2M N,xZic N,xZ7j N,trivial⟩) fun a r s h=>by
     exact s.main [] trivial (.trans (by kernel_rfl) h)
theorem xZbg (N:Nat):xZ4f.Ok prog N:=(xZ7J N).1
noncomputable def xZe4:Fn xZ8G:=⟨f171,[],⟨[],[],sbf,bof⟩,fun _=>[],[true],none,0,0,fun _ _=>true,none,[],[],[]⟩
theorem xZeh:xZe4.Ok prog:=⟨Is.of (by kernel_rfl) (by kernel_rfl),by kernel_rfl,xZ5 sb_ok bo_ok,trivial,trivial,fun _=>by kernel_rfl⟩
theorem xZe8 (N:Nat):xZ8G.Ok prog N:=xZeh.give tb_ok hm N N (fun _=>trivial) fun a r s h=>by
 exact s.main [] trivial (.trans (by kernel_rfl) h)
noncomputable def xZfL:Fn xZ8T:=⟨f128,[],⟨[],[],sbf,bof⟩,fun _=>[],[true],none,0,0,fun _ _=>true,none,[],[],[]⟩
theorem xZfT:xZfL.Ok prog:=⟨Is.of (by kernel_rfl) (by kernel_rfl),by kernel_rfl,xZ5 sb_ok bo_ok,trivial,trivial,fun _=>by kernel_rfl⟩
theorem xZcQ (N:Nat):xZ8T.Ok prog N:=xZfT.give tb_ok hm N N (fun _=>trivial) fun a r s h=>by
 exact s.main [] trivial (.trans (by kernel_rfl) h)
noncomputable def xZeJ:Fn xZ95:=⟨f129,[],⟨[],[],sbf,bof⟩,fun _=>[],[true],none,0,0,fun _ _=>true,none,[],[],[]⟩
theorem xZeW:xZeJ.Ok prog:=⟨Is.of (by kernel_rfl) (by kernel_rfl),by kernel_rfl,xZ5 sb_ok bo_ok,trivial,trivial,fun _=>by kernel_rfl⟩
theorem xZeO (N:Nat):xZ95.Ok prog N:=xZeW.give tb_ok hm N N (fun _=>trivial) fun a r s h=>by
 exact s.main [] trivial (.trans (by kernel_rfl) h)
noncomputable def xZh9:Fn xZca:=⟨f130,[],⟨[],[],sbf,bof⟩,fun _=>[xZ8T],[true],none,0,0,fun _ _=>true,none,[],[],[]⟩
theorem xZhw:xZh9.Ok prog:=⟨Is.of (by kernel_rfl) (by kernel_rfl),by kernel_rfl,xZ5 sb_ok bo_ok,trivial,trivial,fun _=>by kernel_rfl⟩
theorem xZhi (N:Nat):xZca.Ok prog N:=xZhw.give tb_ok hm N N (fun _=>⟨xZcQ N,trivial⟩) fun a r s h=>by
 exact s.main [] trivial (.trans (by kernel_rfl) h)
noncomputable def xZh8:Fn xZc9:=⟨f84,[],⟨[],[],sbf,bof⟩,fun _=>[xZ8T,xZ95,xZca],[true],none,0,0,fun _ _=>true,none,[],[],[]⟩
theorem xZhv:xZh8.Ok prog:=⟨Is.of (by kernel_rfl) (by kernel_rfl),by kernel_rfl,xZ5 sb_ok bo_ok,trivial,trivial,fun _=>by kernel_rfl⟩
theorem xZhh (N:Nat):xZc9.Ok prog N:=xZhv.give tb_ok hm N N (fun _=>⟨xZcQ N,xZeO N,xZhi N,trivial⟩) fun a r s h=>by
 have l0:=s.loop 0 xZ8X (xZcU N) N fun next0 h0=>by
  exact fun c v=>s.seg 0 xZ8X [(0,.of xZ8X next0)] ⟨h0,trivial⟩ (by kernel_rfl) (by kernel_rfl)
 exact s.main [(0,.of xZ8X (xZfX N))] ⟨l0,trivial⟩ (.trans (by kernel_rfl) h)
noncomputable def xZi5:Fn xZd4:=⟨f185,[],⟨[],[],sbf,bof⟩,fun _=>[],[false],none,0,0,fun _ _=>true,none,[],[],[]⟩
theorem xZiD:xZi5.Ok prog:=⟨Is.of (by kernel_rfl) (by kernel_rfl),by kernel_rfl,xZ5 sb_ok bo_ok,trivial,trivial,fun _=>by kernel_rfl⟩
theorem xZii (N:Nat):xZd4.Ok prog N:=xZiD.give tb_ok hm N N (fun _=>trivial) fun a r s h=>by
 exact s.main [] trivial (.trans (by kernel_rfl) h)
noncomputable def xZd7:Fn xZ85:=⟨f213,[],⟨[],[],sbf,bof⟩,fun _=>[],[true],none,0,0,fun _ _=>true,none,[],[],[]⟩
theorem xZdk:xZd7.Ok prog:=⟨Is.of (by kernel_rfl) (by kernel_rfl),by kernel_rfl,xZ5 sb_ok bo_ok,trivial,trivial,fun _=>by kernel_rfl⟩
theorem xZdd (N:Nat):xZ85.Ok prog N:=xZdk.give tb_ok hm N N (fun _=>trivial) fun a r s h=>by
 exact s.main [] trivial (.trans (by kernel_rfl) h)
noncomputable def xZe5:Fn xZ8H:=⟨f214,[],⟨[],[],sbf,bof⟩,fun _=>[],[true],none,0,0,fun _ _=>true,none,[],[],[]⟩
theorem xZei:xZe5.Ok prog:=⟨Is.of (by kernel_rfl) (by kernel_rfl),by kernel_rfl,xZ5 sb_ok bo_ok,trivial,trivial,fun _=>by kernel_rfl⟩
theorem xZe9 (N:Nat):xZ8H.Ok prog N:=xZei.give tb_ok hm N N (fun _=>trivial) fun a r s h=>by
 exact s.main [] trivial (.trans (by kernel_rfl) h)
noncomputable def xZlG:Fn xZgg:=⟨f164,[(168,.fb)],⟨[],[],sbf,bof⟩,fun _=>[],[true],none,0,0,fun _ _=>true,none,[],[],[]⟩
theorem xZmg:xZlG.Ok prog:=⟨Is.of (by kernel_rfl) (by kernel_rfl),by kernel_rfl,xZ5 sb_ok bo_ok,trivial,⟨ExtIs.mk' f168 (by kernel_rfl) (by kernel_rfl) (by kernel_rfl) (by kernel_rfl) (by kernel_rfl),trivial⟩,fun _=>by kernel_rfl⟩
theorem xZlP (N:Nat):xZgg.Ok prog N:=xZmg.give tb_ok hm N N (fun _=>trivial) fun a r s h=>by
 exact s.main [] trivial (.trans (by kernel_rfl) h)
noncomputable def xZi1:Fn xZd2:=⟨f150,[],⟨[],[],sbf,bof⟩,fun _=>[xZgg],[true],none,0,0,fun _ _=>true,none,[],[],[]⟩
theorem xZiz:xZi1.Ok prog:=⟨Is.of (by kernel_rfl) (by kernel_rfl),by kernel_rfl,xZ5 sb_ok bo_ok,trivial,trivial,fun _=>by kernel_rfl⟩
theorem xZig (N:Nat):xZd2.Ok prog N:=xZiz.give tb_ok hm N N (fun _=>⟨xZlP N,trivial⟩) fun a r s h=>by
 exact s.main [] trivial (.trans (by kernel_rfl) h)
noncomputable def xZd6:Fn xZ84:=⟨f215,[],⟨[],[],sbf,bof⟩,fun _=>[],[true],none,0,0,fun _ _=>true,none,[],[],[]⟩
theorem xZdj:xZd6.Ok prog:=⟨Is.of (by kernel_rfl) (by kernel_rfl),by kernel_rfl,xZ5 sb_ok bo_ok,trivial,trivial,fun _=>by kernel_rfl⟩
theorem xZdc (N:Nat):xZ84.Ok prog N:=xZdj.give tb_ok hm N N (fun _=>trivial) fun a r s h=>by
 exact s.main [] trivial (.trans (by kernel_rfl) h)
noncomputable def xZdp:Fn xZ8n:=⟨f216,[],⟨[],[],sbf,bof⟩,fun _=>[],[true],none,0,0,fun _ _=>true,none,[],[],[]⟩
theorem xZdM:xZdp.Ok prog:=⟨Is.of (by kernel_rfl) (by kernel_rfl),by kernel_rfl,xZ5 sb_ok bo_ok,trivial,trivial,fun _=>by kernel_rfl⟩
theorem xZdt (N:Nat):xZ8n.Ok prog N:=xZdM.give tb_ok hm N N (fun _=>trivial) fun a r s h=>by
 exact s.main [] trivial (.trans (by kernel_rfl) h)
noncomputable def xZha:Fn xZcb:=⟨f181,[],⟨[],[],sbf,bof⟩,fun _=>[xZd4,xZ85,xZ8H,xZd2,xZ84,xZ8n],[true],none,0,0,fun _ _=>true,none,[],[],[]⟩
theorem xZhx:xZha.Ok prog:=⟨Is.of (by kernel_rfl) (by kernel_rfl),by kernel_rfl,xZ5 sb_ok bo_ok,trivial,trivial,fun _=>by kernel_rfl⟩
theorem xZhj (N:Nat):xZcb.Ok prog N:=xZhx.give tb_ok hm N N (fun _=>⟨xZii N,xZdd N,xZe9 N,xZig N,xZdc N,xZdt N,trivial⟩) fun a r s h=>by
 exact s.main [] trivial (.trans (by kernel_rfl) h)
end
end
section
open Go.Proofs.Tryz
set_option maxRecDepth 1000000
noncomputable section
noncomputable def xZeI:Fn xZ94:=⟨f173,[],⟨[],[],sbf,bof⟩,fun _=>[xZ99,xZc9,xZcb],[true],none,0,0,fun _ _=>true,none,[],[],[]⟩
theorem xZeV:xZeI.Ok prog:=⟨Is.of (by kernel_rfl) (by kernel_rfl),by kernel_rfl,xZ5 sb_ok bo_ok,trivial,trivial,fun _=>by kernel_rfl⟩
theorem xZeN (N:Nat):xZ94.Ok prog N:=xZeV.give tb_ok hm N N (fun _=>⟨xZdr N,xZhh N,xZhj N,trivial⟩) fun a r s h=>by
 exact s.main [] trivial (.trans (by kernel_rfl) h)
noncomputable def xZgl:Fn xZbt:=⟨f172,[],⟨[],[],sbf,bof⟩,fun _=>[xZ94],[true],none,0,0,fun _ _=>true,none,[],[],[]⟩
theorem xZgL:xZgl.Ok prog:=⟨Is.of (by kernel_rfl) (by kernel_rfl),by kernel_rfl,xZ5 sb_ok bo_ok,trivial,trivial,fun _=>by kernel_rfl⟩
theorem xZgs (N:Nat):xZbt.Ok prog N:=xZgL.give tb_ok hm N N (fun _=>⟨xZeN N,trivial⟩) fun a r s h=>by
 exact s.main [] trivial (.trans (by kernel_rfl) h)
noncomputable def xZgk:Fn xZbs:=⟨f172,[],⟨[],[],sbf,bof⟩,fun _=>[xZ9y],[true],none,0,0,fun _ _=>true,none,[],[],[]⟩
theorem xZgK:xZgk.Ok prog:=⟨Is.of (by kernel_rfl) (by kernel_rfl),by kernel_rfl,xZ5 sb_ok bo_ok,trivial,trivial,fun _=>by kernel_rfl⟩
theorem xZgr (N:Nat):xZbs.Ok prog N:=xZgK.give tb_ok hm N N (fun _=>⟨xZce N,trivial⟩) fun a r s h=>by
 exact s.main [] trivial (.trans (by kernel_rfl) h)
noncomputable def xZjG:Fn xZe2:=⟨f175,[],⟨[],[],sbf,bof⟩,fun _=>[],[true],none,0,0,fun _ _=>true,none,[],[],[]⟩
theorem xZk1:xZjG.Ok prog:=⟨Is.of (by kernel_rfl) (by kernel_rfl),by kernel_rfl,xZ5 sb_ok bo_ok,trivial,trivial,fun _=>by kernel_rfl⟩
theorem xZjP (N:Nat):xZe2.Ok prog N:=xZk1.give tb_ok hm N N (fun _=>trivial) fun a r s h=>by
 exact s.main [] trivial (.trans (by kernel_rfl) h)
noncomputable def xZfK:Fn xZay:=⟨f176,[],⟨[],[],sbf,bof⟩,fun _=>[],[true],none,0,0,fun _ _=>true,none,[],[],[]⟩
theorem xZfS:xZfK.Ok prog:=⟨Is.of (by kernel_rfl) (by kernel_rfl),by kernel_rfl,xZ5 sb_ok bo_ok,trivial,trivial,fun _=>by kernel_rfl⟩
theorem xZfN (N:Nat):xZay.Ok prog N:=xZfS.give tb_ok hm N N (fun _=>trivial) fun a r s h=>by
 exact s.main [] trivial (.trans (by kernel_rfl) h)
noncomputable def xZbx:Fn xZ3s:=⟨f167,[],⟨[],[],sbf,bof⟩,fun _=>[xZ8G,xZbt,xZbs,xZe2,xZay,xZ3s],[true],none,1,0,fun _ _=>true,none,[],[],[]⟩
theorem xZ8w:xZbx.Ok prog:=⟨Is.of (by kernel_rfl) (by kernel_rfl),by kernel_rfl,xZ5 sb_ok bo_ok,trivial,trivial,fun _=>by kernel_rfl⟩
theorem xZ8f:∀ N,xZ3s.Ok prog N
 | 0=>⟨xZ8w.is.enters,fun a r h=>by (have h:none=some r:=h;cases h)⟩
 | N+1=>by
   obtain h_pred_checker_tree_v739:=xZ8f N
   ·exact xZ8w.give tb_ok hm N (N+1) (fun _=>⟨xZe8 N,xZgs N,xZgr N,xZjP N,xZfN N,h_pred_checker_tree_v739,trivial⟩) fun a r s h=>by
     have l0:=s.loop 0 xZ4b (xZ7M N) N fun next0 h0=>by
      exact fun c v=>s.seg 0 xZ4b [(0,.of xZ4b next0)] ⟨h0,trivial⟩ (by kernel_rfl) (by kernel_rfl)
     exact s.main [(0,.of xZ4b (xZb2 N))] ⟨l0,trivial⟩ (.trans (by kernel_rfl) h)
theorem xZbF (N:Nat):xZ3s.Ok prog N:=(xZ8f N)
noncomputable def xZi0:Fn xZf6:=⟨f158,[],⟨[],[],sbf,bof⟩,fun _=>[xZ3s],[true],none,0,0,fun _ _=>true,none,[],[],[]⟩
theorem xZiy:xZi0.Ok prog:=⟨Is.of (by kernel_rfl) (by kernel_rfl),by kernel_rfl,xZ5 sb_ok bo_ok,trivial,trivial,fun _=>by kernel_rfl⟩
theorem xZif (N:Nat):xZf6.Ok prog N:=xZiy.give tb_ok hm N N (fun _=>⟨xZbF N,trivial⟩) fun a r s h=>by
 exact s.main [] trivial (.trans (by kernel_rfl) h)
end
end
end Go.Proofs.YtmfkphajohcklaaGreat.P
