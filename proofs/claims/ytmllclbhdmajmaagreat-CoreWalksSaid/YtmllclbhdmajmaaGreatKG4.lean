/- The code, and what each function of it is walked to. No premise beyond what each theorem says. -/
import Derived.Test.YtmllclbhdmajmaaGreatKG3
set_option linter.all false
set_option linter.unusedSimpArgs false
set_option linter.unusedVariables false
namespace Go.Proofs.YtmllclbhdmajmaaGreat.K
open Go
section
open Go.Proofs.Tryz
set_option maxRecDepth 1000000
noncomputable section
noncomputable def xZ7t:Fn xZ1z:=⟨f169,[],⟨[(16,6)],[],sbf,bof⟩,fun _=>[xZ20,xZq,xZ2d],[true],none,1,0,fun _ _=>true,none,[],[],[]⟩
theorem xZ45:xZ7t.Ok prog:=⟨Is.of (by kernel_rfl) (by kernel_rfl),by kernel_rfl,xZ6 sb_ok bo_ok,trivial,trivial,fun _=>by kernel_rfl⟩
noncomputable def xZ6Q:Fn xZ20:=⟨f172,[],⟨[(16,6)],[],sbf,bof⟩,fun _=>[xZ1c,xZq,xZ2d],[true],none,1,0,fun _ _=>true,none,[],[],[]⟩
theorem xZ3B:xZ6Q.Ok prog:=⟨Is.of (by kernel_rfl) (by kernel_rfl),by kernel_rfl,xZ6 sb_ok bo_ok,trivial,trivial,fun _=>by kernel_rfl⟩
noncomputable def xZ67:Fn xZ1c:=⟨f176,[],⟨[(18,6),(49,6)],[],sbf,bof⟩,fun _=>[xZ1I,xZq,xZ1c,xZ2d,xZ1z,xZv,xZ21,xZn,xZ9B,xZ1d],[true],none,1,0,fun _ _=>true,none,[],[],[]⟩
theorem xZ3m:xZ67.Ok prog:=⟨Is.of (by kernel_rfl) (by kernel_rfl),by kernel_rfl,xZ6 sb_ok bo_ok,trivial,trivial,fun _=>by kernel_rfl⟩
theorem xZ3s:∀ N,xZ1z.Ok prog N∧xZ20.Ok prog N∧xZ1c.Ok prog N
 | 0=>⟨⟨xZ45.is.enters,fun a r h=>by (have h:none=some r:=h;cases h)⟩,⟨xZ3B.is.enters,fun a r h=>by (have h:none=some r:=h;cases h)⟩,⟨xZ3m.is.enters,fun a r h=>by (have h:none=some r:=h;cases h)⟩⟩
 | N+1=>by
   obtain ⟨h_predtext_parser_or_v927,h_predtext_parser_and_v927,h_predtext_parser_part_v927⟩:=xZ3s N
   refine ⟨?_,?_,?_⟩
   ·exact xZ45.give tb_ok hm N (N+1) (fun _=>⟨h_predtext_parser_and_v927,xZQ N,xZ4h N,trivial⟩) fun a r s h=>by
     have l0:=s.loop 0 xZ1f (xZ3i N) N fun next0 h0=>by
      exact fun c v=>s.seg 0 xZ1f [(0,.of xZ1f next0)] ⟨h0,trivial⟩ (by kernel_rfl) (by kernel_rfl)
     exact s.main [(0,.of xZ1f (xZ6h N))] ⟨l0,trivial⟩ (.trans (by kernel_rfl) h)
   ·exact xZ3B.give tb_ok hm N (N+1) (fun _=>⟨h_predtext_parser_part_v927,xZQ N,xZ4h N,trivial⟩) fun a r s h=>by
     have l0:=s.loop 0 xZ15 (xZ2V N) N fun next0 h0=>by
      exact fun c v=>s.seg 0 xZ15 [(0,.of xZ15 next0)] ⟨h0,trivial⟩ (by kernel_rfl) (by kernel_rfl)
     exact s.main [(0,.of xZ15 (xZ5Q N))] ⟨l0,trivial⟩ (.trans (by kernel_rfl) h)
   ·exact xZ3m.give tb_ok hm N (N+1) (fun _=>⟨xZ5g N,xZQ N,h_predtext_parser_part_v927,xZ4h N,h_predtext_parser_or_v927,xZ1e N,xZ6W N,xZJ N,xZfV N,xZ3g N,trivial⟩) fun a r s h=>by
     exact s.main [] trivial (.trans (by kernel_rfl) h)
theorem xZ7y (N:Nat):xZ1z.Ok prog N:=(xZ3s N).1
noncomputable def xZaY:Fn xZ4G:=⟨f151,[],⟨[],[],sbf,bof⟩,fun _=>[],[true],none,0,0,fun _ _=>true,none,[],[],[]⟩
theorem xZbe:xZaY.Ok prog:=⟨Is.of (by kernel_rfl) (by kernel_rfl),by kernel_rfl,xZ6 sb_ok bo_ok,trivial,trivial,fun _=>by kernel_rfl⟩
theorem xZb5 (N:Nat):xZ4G.Ok prog N:=xZbe.give tb_ok hm N N (fun _=>trivial) fun a r s h=>by
 exact s.main [] trivial (.trans (by kernel_rfl) h)
noncomputable def xZcW:Fn xZ4U:=⟨f100,[],⟨[],[],sbf,bof⟩,fun _=>[],[true],none,0,0,fun _ _=>true,none,[],[],[]⟩
theorem xZd2:xZcW.Ok prog:=⟨Is.of (by kernel_rfl) (by kernel_rfl),by kernel_rfl,xZ6 sb_ok bo_ok,trivial,trivial,fun _=>by kernel_rfl⟩
theorem xZ9x (N:Nat):xZ4U.Ok prog N:=xZd2.give tb_ok hm N N (fun _=>trivial) fun a r s h=>by
 exact s.main [] trivial (.trans (by kernel_rfl) h)
noncomputable def xZbL:Fn xZ56:=⟨f101,[],⟨[],[],sbf,bof⟩,fun _=>[],[true],none,0,0,fun _ _=>true,none,[],[],[]⟩
theorem xZc1:xZbL.Ok prog:=⟨Is.of (by kernel_rfl) (by kernel_rfl),by kernel_rfl,xZ6 sb_ok bo_ok,trivial,trivial,fun _=>by kernel_rfl⟩
theorem xZbT (N:Nat):xZ56.Ok prog N:=xZc1.give tb_ok hm N N (fun _=>trivial) fun a r s h=>by
 exact s.main [] trivial (.trans (by kernel_rfl) h)
noncomputable def xZer:Fn xZ8O:=⟨f102,[],⟨[],[],sbf,bof⟩,fun _=>[xZ4U],[true],none,0,0,fun _ _=>true,none,[],[],[]⟩
theorem xZf5:xZer.Ok prog:=⟨Is.of (by kernel_rfl) (by kernel_rfl),by kernel_rfl,xZ6 sb_ok bo_ok,trivial,trivial,fun _=>by kernel_rfl⟩
theorem xZeH (N:Nat):xZ8O.Ok prog N:=xZf5.give tb_ok hm N N (fun _=>⟨xZ9x N,trivial⟩) fun a r s h=>by
 exact s.main [] trivial (.trans (by kernel_rfl) h)
noncomputable def xZeq:Fn xZ4Y:=⟨f61,[],⟨[],[],sbf,bof⟩,fun _=>[xZ4U,xZ56,xZ8O],[true],none,0,0,fun _ _=>true,none,[],[],[]⟩
theorem xZf4:xZeq.Ok prog:=⟨Is.of (by kernel_rfl) (by kernel_rfl),by kernel_rfl,xZ6 sb_ok bo_ok,trivial,trivial,fun _=>by kernel_rfl⟩
theorem xZ8S (N:Nat):xZ4Y.Ok prog N:=xZf4.give tb_ok hm N N (fun _=>⟨xZ9x N,xZbT N,xZeH N,trivial⟩) fun a r s h=>by
 have l0:=s.loop 0 xZ4V (xZ9z N) N fun next0 h0=>by
  exact fun c v=>s.seg 0 xZ4V [(0,.of xZ4V next0)] ⟨h0,trivial⟩ (by kernel_rfl) (by kernel_rfl)
 exact s.main [(0,.of xZ4V (xZd3 N))] ⟨l0,trivial⟩ (.trans (by kernel_rfl) h)
noncomputable def xZfP:Fn xZ9Q:=⟨f170,[],⟨[],[],sbf,bof⟩,fun _=>[],[false],none,0,0,fun _ _=>true,none,[],[],[]⟩
theorem xZgK:xZfP.Ok prog:=⟨Is.of (by kernel_rfl) (by kernel_rfl),by kernel_rfl,xZ6 sb_ok bo_ok,trivial,trivial,fun _=>by kernel_rfl⟩
theorem xZgd (N:Nat):xZ9Q.Ok prog N:=xZgK.give tb_ok hm N N (fun _=>trivial) fun a r s h=>by
 exact s.main [] trivial (.trans (by kernel_rfl) h)
noncomputable def xZ9S:Fn xZ3N:=⟨f205,[],⟨[],[],sbf,bof⟩,fun _=>[],[true],none,0,0,fun _ _=>true,none,[],[],[]⟩
theorem xZa7:xZ9S.Ok prog:=⟨Is.of (by kernel_rfl) (by kernel_rfl),by kernel_rfl,xZ6 sb_ok bo_ok,trivial,trivial,fun _=>by kernel_rfl⟩
theorem xZa2 (N:Nat):xZ3N.Ok prog N:=xZa7.give tb_ok hm N N (fun _=>trivial) fun a r s h=>by
 exact s.main [] trivial (.trans (by kernel_rfl) h)
noncomputable def xZb1:Fn xZ4J:=⟨f206,[],⟨[],[],sbf,bof⟩,fun _=>[],[true],none,0,0,fun _ _=>true,none,[],[],[]⟩
theorem xZbh:xZb1.Ok prog:=⟨Is.of (by kernel_rfl) (by kernel_rfl),by kernel_rfl,xZ6 sb_ok bo_ok,trivial,trivial,fun _=>by kernel_rfl⟩
theorem xZb8 (N:Nat):xZ4J.Ok prog N:=xZbh.give tb_ok hm N N (fun _=>trivial) fun a r s h=>by
 exact s.main [] trivial (.trans (by kernel_rfl) h)
noncomputable def xZjX:Fn xZdl:=⟨f148,[(161,.fb)],⟨[],[],sbf,bof⟩,fun _=>[],[true],none,0,0,fun _ _=>true,none,[],[],[]⟩
theorem xZkD:xZjX.Ok prog:=⟨Is.of (by kernel_rfl) (by kernel_rfl),by kernel_rfl,xZ6 sb_ok bo_ok,trivial,⟨ExtIs.mk' f161 (by kernel_rfl) (by kernel_rfl) (by kernel_rfl) (by kernel_rfl) (by kernel_rfl),trivial⟩,fun _=>by kernel_rfl⟩
theorem xZk6 (N:Nat):xZdl.Ok prog N:=xZkD.give tb_ok hm N N (fun _=>trivial) fun a r s h=>by
 exact s.main [] trivial (.trans (by kernel_rfl) h)
noncomputable def xZfx:Fn xZ9G:=⟨f139,[],⟨[],[],sbf,bof⟩,fun _=>[xZdl],[true],none,0,0,fun _ _=>true,none,[],[],[]⟩
theorem xZgw:xZfx.Ok prog:=⟨Is.of (by kernel_rfl) (by kernel_rfl),by kernel_rfl,xZ6 sb_ok bo_ok,trivial,trivial,fun _=>by kernel_rfl⟩
theorem xZfZ (N:Nat):xZ9G.Ok prog N:=xZgw.give tb_ok hm N N (fun _=>⟨xZk6 N,trivial⟩) fun a r s h=>by
 exact s.main [] trivial (.trans (by kernel_rfl) h)
noncomputable def xZ9R:Fn xZ3M:=⟨f207,[],⟨[],[],sbf,bof⟩,fun _=>[],[true],none,0,0,fun _ _=>true,none,[],[],[]⟩
theorem xZa6:xZ9R.Ok prog:=⟨Is.of (by kernel_rfl) (by kernel_rfl),by kernel_rfl,xZ6 sb_ok bo_ok,trivial,trivial,fun _=>by kernel_rfl⟩
theorem xZa1 (N:Nat):xZ3M.Ok prog N:=xZa6.give tb_ok hm N N (fun _=>trivial) fun a r s h=>by
 exact s.main [] trivial (.trans (by kernel_rfl) h)
noncomputable def xZaf:Fn xZ4e:=⟨f208,[],⟨[],[],sbf,bof⟩,fun _=>[],[true],none,0,0,fun _ _=>true,none,[],[],[]⟩
theorem xZaG:xZaf.Ok prog:=⟨Is.of (by kernel_rfl) (by kernel_rfl),by kernel_rfl,xZ6 sb_ok bo_ok,trivial,trivial,fun _=>by kernel_rfl⟩
theorem xZaj (N:Nat):xZ4e.Ok prog N:=xZaG.give tb_ok hm N N (fun _=>trivial) fun a r s h=>by
 exact s.main [] trivial (.trans (by kernel_rfl) h)
noncomputable def xZet:Fn xZ8P:=⟨f165,[],⟨[],[],sbf,bof⟩,fun _=>[xZ9Q,xZ3N,xZ4J,xZ9G,xZ3M,xZ4e],[true],none,0,0,fun _ _=>true,none,[],[],[]⟩
theorem xZf7:xZet.Ok prog:=⟨Is.of (by kernel_rfl) (by kernel_rfl),by kernel_rfl,xZ6 sb_ok bo_ok,trivial,trivial,fun _=>by kernel_rfl⟩
theorem xZeI (N:Nat):xZ8P.Ok prog N:=xZf7.give tb_ok hm N N (fun _=>⟨xZgd N,xZa2 N,xZb8 N,xZfZ N,xZa1 N,xZaj N,trivial⟩) fun a r s h=>by
 exact s.main [] trivial (.trans (by kernel_rfl) h)
end
end
section
open Go.Proofs.Tryz
set_option maxRecDepth 1000000
noncomputable section
noncomputable def xZbK:Fn xZ55:=⟨f153,[],⟨[],[],sbf,bof⟩,fun _=>[xZ5d,xZ4Y,xZ8P],[true],none,0,0,fun _ _=>true,none,[],[],[]⟩
theorem xZc0:xZbK.Ok prog:=⟨Is.of (by kernel_rfl) (by kernel_rfl),by kernel_rfl,xZ6 sb_ok bo_ok,trivial,trivial,fun _=>by kernel_rfl⟩
theorem xZbS (N:Nat):xZ55.Ok prog N:=xZc0.give tb_ok hm N N (fun _=>⟨xZag N,xZ8S N,xZeI N,trivial⟩) fun a r s h=>by
 exact s.main [] trivial (.trans (by kernel_rfl) h)
noncomputable def xZdp:Fn xZ7J:=⟨f152,[],⟨[],[],sbf,bof⟩,fun _=>[xZ55],[true],none,0,0,fun _ _=>true,none,[],[],[]⟩
theorem xZdR:xZdp.Ok prog:=⟨Is.of (by kernel_rfl) (by kernel_rfl),by kernel_rfl,xZ6 sb_ok bo_ok,trivial,trivial,fun _=>by kernel_rfl⟩
theorem xZdv (N:Nat):xZ7J.Ok prog N:=xZdR.give tb_ok hm N N (fun _=>⟨xZbS N,trivial⟩) fun a r s h=>by
 exact s.main [] trivial (.trans (by kernel_rfl) h)
noncomputable def xZdo:Fn xZ7I:=⟨f152,[],⟨[],[],sbf,bof⟩,fun _=>[xZ5E],[true],none,0,0,fun _ _=>true,none,[],[],[]⟩
theorem xZdQ:xZdo.Ok prog:=⟨Is.of (by kernel_rfl) (by kernel_rfl),by kernel_rfl,xZ6 sb_ok bo_ok,trivial,trivial,fun _=>by kernel_rfl⟩
theorem xZdu (N:Nat):xZ7I.Ok prog N:=xZdQ.give tb_ok hm N N (fun _=>⟨xZ8R N,trivial⟩) fun a r s h=>by
 exact s.main [] trivial (.trans (by kernel_rfl) h)
noncomputable def xZhK:Fn xZaU:=⟨f155,[],⟨[],[],sbf,bof⟩,fun _=>[],[true],none,0,0,fun _ _=>true,none,[],[],[]⟩
theorem xZi8:xZhK.Ok prog:=⟨Is.of (by kernel_rfl) (by kernel_rfl),by kernel_rfl,xZ6 sb_ok bo_ok,trivial,trivial,fun _=>by kernel_rfl⟩
theorem xZhV (N:Nat):xZaU.Ok prog N:=xZi8.give tb_ok hm N N (fun _=>trivial) fun a r s h=>by
 exact s.main [] trivial (.trans (by kernel_rfl) h)
noncomputable def xZcV:Fn xZ6P:=⟨f156,[],⟨[],[],sbf,bof⟩,fun _=>[],[true],none,0,0,fun _ _=>true,none,[],[],[]⟩
theorem xZd1:xZcV.Ok prog:=⟨Is.of (by kernel_rfl) (by kernel_rfl),by kernel_rfl,xZ6 sb_ok bo_ok,trivial,trivial,fun _=>by kernel_rfl⟩
theorem xZcX (N:Nat):xZ6P.Ok prog N:=xZd1.give tb_ok hm N N (fun _=>trivial) fun a r s h=>by
 exact s.main [] trivial (.trans (by kernel_rfl) h)
noncomputable def xZ7P:Fn xZ10:=⟨f145,[],⟨[],[],sbf,bof⟩,fun _=>[xZ4G,xZ7J,xZ7I,xZaU,xZ6P,xZ10],[true],none,1,0,fun _ _=>true,none,[],[],[]⟩
theorem xZ4o:xZ7P.Ok prog:=⟨Is.of (by kernel_rfl) (by kernel_rfl),by kernel_rfl,xZ6 sb_ok bo_ok,trivial,trivial,fun _=>by kernel_rfl⟩
theorem xZ3Y:∀ N,xZ10.Ok prog N
 | 0=>⟨xZ4o.is.enters,fun a r h=>by (have h:none=some r:=h;cases h)⟩
 | N+1=>by
   obtain h_pred_checker_tree_v739:=xZ3Y N
   ·exact xZ4o.give tb_ok hm N (N+1) (fun _=>⟨xZb5 N,xZdv N,xZdu N,xZhV N,xZcX N,h_pred_checker_tree_v739,trivial⟩) fun a r s h=>by
     have l0:=s.loop 0 xZ1o (xZ3u N) N fun next0 h0=>by
      exact fun c v=>s.seg 0 xZ1o [(0,.of xZ1o next0)] ⟨h0,trivial⟩ (by kernel_rfl) (by kernel_rfl)
     exact s.main [(0,.of xZ1o (xZ7j N))] ⟨l0,trivial⟩ (.trans (by kernel_rfl) h)
theorem xZ7Y (N:Nat):xZ10.Ok prog N:=(xZ3Y N)
noncomputable def xZfw:Fn xZ9F:=⟨f129,[],⟨[],[],sbf,bof⟩,fun _=>[xZ10],[true],none,0,0,fun _ _=>true,none,[],[],[]⟩
theorem xZgv:xZfw.Ok prog:=⟨Is.of (by kernel_rfl) (by kernel_rfl),by kernel_rfl,xZ6 sb_ok bo_ok,trivial,trivial,fun _=>by kernel_rfl⟩
theorem xZcq (N:Nat):xZ9F.Ok prog N:=xZgv.give tb_ok hm N N (fun _=>⟨xZ7Y N,trivial⟩) fun a r s h=>by
 exact s.main [] trivial (.trans (by kernel_rfl) h)
end
end
end Go.Proofs.YtmllclbhdmajmaaGreat.K
