/- The code, and what each function of it is walked to. No premise beyond what each theorem says. -/
import Derived.Test.YtmllclbhdmajmaaGreatAG3
set_option linter.all false
set_option linter.unusedSimpArgs false
set_option linter.unusedVariables false
namespace Go.Proofs.YtmllclbhdmajmaaGreat.A
open Go
section
open Go.Proofs.Tryz
set_option maxRecDepth 1000000
noncomputable section
noncomputable def xZae:Fn xZ3p:=⟨f164,[],⟨[],[],sbf,bof⟩,fun _=>[],[true],none,0,0,fun _ _=>true,none,[],[],[]⟩
theorem xZaH:xZae.Ok prog:=⟨Is.of (by kernel_rfl) (by kernel_rfl),by kernel_rfl,xZ4 sb_ok bo_ok,trivial,trivial,fun _=>by kernel_rfl⟩
theorem xZ7s (N:Nat):xZ3p.Ok prog N:=xZaH.give tb_ok hm N N (fun _=>trivial) fun a r s h=>by
 exact s.main [] trivial (.trans (by kernel_rfl) h)
noncomputable def xZbV:Fn xZ73:=⟨f184,[],⟨[],[],sbf,bof⟩,fun _=>[xZ3p],[true],none,0,0,fun _ _=>true,none,[],[],[]⟩
theorem xZcz:xZbV.Ok prog:=⟨Is.of (by kernel_rfl) (by kernel_rfl),by kernel_rfl,xZ4 sb_ok bo_ok,trivial,trivial,fun _=>by kernel_rfl⟩
theorem xZcd (N:Nat):xZ73.Ok prog N:=xZcz.give tb_ok hm N N (fun _=>⟨xZ7s N,trivial⟩) fun a r s h=>by
 have l0:=s.loop 0 xZ3z (xZ7B N) N fun next0 h0=>by
  exact fun c v=>s.seg 0 xZ3z [(0,.of xZ3z next0)] ⟨h0,trivial⟩ (by kernel_rfl) (by kernel_rfl)
 exact s.main [(0,.of xZ3z (xZaP N))] ⟨l0,trivial⟩ (.trans (by kernel_rfl) h)
noncomputable def xZ5f:Fn xZ13:=⟨f169,[],⟨[(16,6)],[],sbf,bof⟩,fun _=>[xZ1q,xZh,xZ1v],[true],none,1,0,fun _ _=>true,none,[],[],[]⟩
theorem xZ2w:xZ5f.Ok prog:=⟨Is.of (by kernel_rfl) (by kernel_rfl),by kernel_rfl,xZ4 sb_ok bo_ok,trivial,trivial,fun _=>by kernel_rfl⟩
noncomputable def xZ4H:Fn xZ1q:=⟨f172,[],⟨[(16,6)],[],sbf,bof⟩,fun _=>[xZK,xZh,xZ1v],[true],none,1,0,fun _ _=>true,none,[],[],[]⟩
theorem xZ2g:xZ4H.Ok prog:=⟨Is.of (by kernel_rfl) (by kernel_rfl),by kernel_rfl,xZ4 sb_ok bo_ok,trivial,trivial,fun _=>by kernel_rfl⟩
noncomputable def xZ48:Fn xZK:=⟨f176,[],⟨[(18,6),(49,6)],[],sbf,bof⟩,fun _=>[xZ1b,xZh,xZK,xZ1v,xZ13,xZk,xZ1r,xZe,xZ73,xZL],[true],none,1,0,fun _ _=>true,none,[],[],[]⟩
theorem xZ25:xZ48.Ok prog:=⟨Is.of (by kernel_rfl) (by kernel_rfl),by kernel_rfl,xZ4 sb_ok bo_ok,trivial,trivial,fun _=>by kernel_rfl⟩
theorem xZ2b:∀ N,xZ13.Ok prog N∧xZ1q.Ok prog N∧xZK.Ok prog N
 | 0=>⟨⟨xZ2w.is.enters,fun a r h=>by (have h:none=some r:=h;cases h)⟩,⟨xZ2g.is.enters,fun a r h=>by (have h:none=some r:=h;cases h)⟩,⟨xZ25.is.enters,fun a r h=>by (have h:none=some r:=h;cases h)⟩⟩
 | N+1=>by
   obtain ⟨h_predtext_parser_or_v927,h_predtext_parser_and_v927,h_predtext_parser_part_v927⟩:=xZ2b N
   refine ⟨?_,?_,?_⟩
   ·exact xZ2w.give tb_ok hm N (N+1) (fun _=>⟨h_predtext_parser_and_v927,xZz N,xZ2I N,trivial⟩) fun a r s h=>by
     have l0:=s.loop 0 xZN (xZ22 N) N fun next0 h0=>by
      exact fun c v=>s.seg 0 xZN [(0,.of xZN next0)] ⟨h0,trivial⟩ (by kernel_rfl) (by kernel_rfl)
     exact s.main [(0,.of xZN (xZ4i N))] ⟨l0,trivial⟩ (.trans (by kernel_rfl) h)
   ·exact xZ2g.give tb_ok hm N (N+1) (fun _=>⟨h_predtext_parser_part_v927,xZz N,xZ2I N,trivial⟩) fun a r s h=>by
     have l0:=s.loop 0 xZG (xZ1S N) N fun next0 h0=>by
      exact fun c v=>s.seg 0 xZG [(0,.of xZG next0)] ⟨h0,trivial⟩ (by kernel_rfl) (by kernel_rfl)
     exact s.main [(0,.of xZG (xZ3W N))] ⟨l0,trivial⟩ (.trans (by kernel_rfl) h)
   ·exact xZ25.give tb_ok hm N (N+1) (fun _=>⟨xZ3u N,xZz N,h_predtext_parser_part_v927,xZ2I N,h_predtext_parser_or_v927,xZM N,xZ4M N,xZu N,xZcd N,xZ20 N,trivial⟩) fun a r s h=>by
     exact s.main [] trivial (.trans (by kernel_rfl) h)
theorem xZ5k (N:Nat):xZ13.Ok prog N:=(xZ2b N).1
noncomputable def xZ8a:Fn xZ32:=⟨f151,[],⟨[],[],sbf,bof⟩,fun _=>[],[true],none,0,0,fun _ _=>true,none,[],[],[]⟩
theorem xZ8n:xZ8a.Ok prog:=⟨Is.of (by kernel_rfl) (by kernel_rfl),by kernel_rfl,xZ4 sb_ok bo_ok,trivial,trivial,fun _=>by kernel_rfl⟩
theorem xZ8g (N:Nat):xZ32.Ok prog N:=xZ8n.give tb_ok hm N N (fun _=>trivial) fun a r s h=>by
 exact s.main [] trivial (.trans (by kernel_rfl) h)
noncomputable def xZ9J:Fn xZ3b:=⟨f100,[],⟨[],[],sbf,bof⟩,fun _=>[],[true],none,0,0,fun _ _=>true,none,[],[],[]⟩
theorem xZ9S:xZ9J.Ok prog:=⟨Is.of (by kernel_rfl) (by kernel_rfl),by kernel_rfl,xZ4 sb_ok bo_ok,trivial,trivial,fun _=>by kernel_rfl⟩
theorem xZ6V (N:Nat):xZ3b.Ok prog N:=xZ9S.give tb_ok hm N N (fun _=>trivial) fun a r s h=>by
 exact s.main [] trivial (.trans (by kernel_rfl) h)
noncomputable def xZ8K:Fn xZ3m:=⟨f101,[],⟨[],[],sbf,bof⟩,fun _=>[],[true],none,0,0,fun _ _=>true,none,[],[],[]⟩
theorem xZ8R:xZ8K.Ok prog:=⟨Is.of (by kernel_rfl) (by kernel_rfl),by kernel_rfl,xZ4 sb_ok bo_ok,trivial,trivial,fun _=>by kernel_rfl⟩
theorem xZ8N (N:Nat):xZ3m.Ok prog N:=xZ8R.give tb_ok hm N N (fun _=>trivial) fun a r s h=>by
 exact s.main [] trivial (.trans (by kernel_rfl) h)
noncomputable def xZbd:Fn xZ6u:=⟨f102,[],⟨[],[],sbf,bof⟩,fun _=>[xZ3b],[true],none,0,0,fun _ _=>true,none,[],[],[]⟩
theorem xZby:xZbd.Ok prog:=⟨Is.of (by kernel_rfl) (by kernel_rfl),by kernel_rfl,xZ4 sb_ok bo_ok,trivial,trivial,fun _=>by kernel_rfl⟩
theorem xZbm (N:Nat):xZ6u.Ok prog N:=xZby.give tb_ok hm N N (fun _=>⟨xZ6V N,trivial⟩) fun a r s h=>by
 exact s.main [] trivial (.trans (by kernel_rfl) h)
noncomputable def xZbc:Fn xZ6t:=⟨f61,[],⟨[],[],sbf,bof⟩,fun _=>[xZ3b,xZ3m,xZ6u],[true],none,0,0,fun _ _=>true,none,[],[],[]⟩
theorem xZbx:xZbc.Ok prog:=⟨Is.of (by kernel_rfl) (by kernel_rfl),by kernel_rfl,xZ4 sb_ok bo_ok,trivial,trivial,fun _=>by kernel_rfl⟩
theorem xZbl (N:Nat):xZ6t.Ok prog N:=xZbx.give tb_ok hm N N (fun _=>⟨xZ6V N,xZ8N N,xZbm N,trivial⟩) fun a r s h=>by
 have l0:=s.loop 0 xZ3f (xZ6Z N) N fun next0 h0=>by
  exact fun c v=>s.seg 0 xZ3f [(0,.of xZ3f next0)] ⟨h0,trivial⟩ (by kernel_rfl) (by kernel_rfl)
 exact s.main [(0,.of xZ3f (xZ9V N))] ⟨l0,trivial⟩ (.trans (by kernel_rfl) h)
noncomputable def xZc7:Fn xZ7b:=⟨f170,[],⟨[],[],sbf,bof⟩,fun _=>[],[false],none,0,0,fun _ _=>true,none,[],[],[]⟩
theorem xZcL:xZc7.Ok prog:=⟨Is.of (by kernel_rfl) (by kernel_rfl),by kernel_rfl,xZ4 sb_ok bo_ok,trivial,trivial,fun _=>by kernel_rfl⟩
theorem xZcm (N:Nat):xZ7b.Ok prog N:=xZcL.give tb_ok hm N N (fun _=>trivial) fun a r s h=>by
 exact s.main [] trivial (.trans (by kernel_rfl) h)
noncomputable def xZ7d:Fn xZ2m:=⟨f205,[],⟨[],[],sbf,bof⟩,fun _=>[],[true],none,0,0,fun _ _=>true,none,[],[],[]⟩
theorem xZ7n:xZ7d.Ok prog:=⟨Is.of (by kernel_rfl) (by kernel_rfl),by kernel_rfl,xZ4 sb_ok bo_ok,trivial,trivial,fun _=>by kernel_rfl⟩
theorem xZ7i (N:Nat):xZ2m.Ok prog N:=xZ7n.give tb_ok hm N N (fun _=>trivial) fun a r s h=>by
 exact s.main [] trivial (.trans (by kernel_rfl) h)
noncomputable def xZ8b:Fn xZ34:=⟨f206,[],⟨[],[],sbf,bof⟩,fun _=>[],[true],none,0,0,fun _ _=>true,none,[],[],[]⟩
theorem xZ8o:xZ8b.Ok prog:=⟨Is.of (by kernel_rfl) (by kernel_rfl),by kernel_rfl,xZ4 sb_ok bo_ok,trivial,trivial,fun _=>by kernel_rfl⟩
theorem xZ8h (N:Nat):xZ34.Ok prog N:=xZ8o.give tb_ok hm N N (fun _=>trivial) fun a r s h=>by
 exact s.main [] trivial (.trans (by kernel_rfl) h)
noncomputable def xZfI:Fn xZad:=⟨f148,[(161,.fb)],⟨[],[],sbf,bof⟩,fun _=>[],[true],none,0,0,fun _ _=>true,none,[],[],[]⟩
theorem xZgl:xZfI.Ok prog:=⟨Is.of (by kernel_rfl) (by kernel_rfl),by kernel_rfl,xZ4 sb_ok bo_ok,trivial,⟨ExtIs.mk' f161 (by kernel_rfl) (by kernel_rfl) (by kernel_rfl) (by kernel_rfl) (by kernel_rfl),trivial⟩,fun _=>by kernel_rfl⟩
theorem xZfR (N:Nat):xZad.Ok prog N:=xZgl.give tb_ok hm N N (fun _=>trivial) fun a r s h=>by
 exact s.main [] trivial (.trans (by kernel_rfl) h)
noncomputable def xZc0:Fn xZ77:=⟨f139,[],⟨[],[],sbf,bof⟩,fun _=>[xZad],[true],none,0,0,fun _ _=>true,none,[],[],[]⟩
theorem xZcE:xZc0.Ok prog:=⟨Is.of (by kernel_rfl) (by kernel_rfl),by kernel_rfl,xZ4 sb_ok bo_ok,trivial,trivial,fun _=>by kernel_rfl⟩
theorem xZci (N:Nat):xZ77.Ok prog N:=xZcE.give tb_ok hm N N (fun _=>⟨xZfR N,trivial⟩) fun a r s h=>by
 exact s.main [] trivial (.trans (by kernel_rfl) h)
noncomputable def xZ7c:Fn xZ2l:=⟨f207,[],⟨[],[],sbf,bof⟩,fun _=>[],[true],none,0,0,fun _ _=>true,none,[],[],[]⟩
theorem xZ7m:xZ7c.Ok prog:=⟨Is.of (by kernel_rfl) (by kernel_rfl),by kernel_rfl,xZ4 sb_ok bo_ok,trivial,trivial,fun _=>by kernel_rfl⟩
theorem xZ7h (N:Nat):xZ2l.Ok prog N:=xZ7m.give tb_ok hm N N (fun _=>trivial) fun a r s h=>by
 exact s.main [] trivial (.trans (by kernel_rfl) h)
end
end
section
open Go.Proofs.Tryz
set_option maxRecDepth 1000000
noncomputable section
noncomputable def xZ7r:Fn xZ2E:=⟨f208,[],⟨[],[],sbf,bof⟩,fun _=>[],[true],none,0,0,fun _ _=>true,none,[],[],[]⟩
theorem xZ7T:xZ7r.Ok prog:=⟨Is.of (by kernel_rfl) (by kernel_rfl),by kernel_rfl,xZ4 sb_ok bo_ok,trivial,trivial,fun _=>by kernel_rfl⟩
theorem xZ7v (N:Nat):xZ2E.Ok prog N:=xZ7T.give tb_ok hm N N (fun _=>trivial) fun a r s h=>by
 exact s.main [] trivial (.trans (by kernel_rfl) h)
noncomputable def xZbe:Fn xZ6v:=⟨f165,[],⟨[],[],sbf,bof⟩,fun _=>[xZ7b,xZ2m,xZ34,xZ77,xZ2l,xZ2E],[true],none,0,0,fun _ _=>true,none,[],[],[]⟩
theorem xZbz:xZbe.Ok prog:=⟨Is.of (by kernel_rfl) (by kernel_rfl),by kernel_rfl,xZ4 sb_ok bo_ok,trivial,trivial,fun _=>by kernel_rfl⟩
theorem xZbn (N:Nat):xZ6v.Ok prog N:=xZbz.give tb_ok hm N N (fun _=>⟨xZcm N,xZ7i N,xZ8h N,xZci N,xZ7h N,xZ7v N,trivial⟩) fun a r s h=>by
 exact s.main [] trivial (.trans (by kernel_rfl) h)
noncomputable def xZ8J:Fn xZ3l:=⟨f153,[],⟨[],[],sbf,bof⟩,fun _=>[xZ3p,xZ6t,xZ6v],[true],none,0,0,fun _ _=>true,none,[],[],[]⟩
theorem xZ8Q:xZ8J.Ok prog:=⟨Is.of (by kernel_rfl) (by kernel_rfl),by kernel_rfl,xZ4 sb_ok bo_ok,trivial,trivial,fun _=>by kernel_rfl⟩
theorem xZ8M (N:Nat):xZ3l.Ok prog N:=xZ8Q.give tb_ok hm N N (fun _=>⟨xZ7s N,xZbl N,xZbn N,trivial⟩) fun a r s h=>by
 exact s.main [] trivial (.trans (by kernel_rfl) h)
noncomputable def xZah:Fn xZ5w:=⟨f152,[],⟨[],[],sbf,bof⟩,fun _=>[xZ3l],[true],none,0,0,fun _ _=>true,none,[],[],[]⟩
theorem xZaK:xZah.Ok prog:=⟨Is.of (by kernel_rfl) (by kernel_rfl),by kernel_rfl,xZ4 sb_ok bo_ok,trivial,trivial,fun _=>by kernel_rfl⟩
theorem xZap (N:Nat):xZ5w.Ok prog N:=xZaK.give tb_ok hm N N (fun _=>⟨xZ8M N,trivial⟩) fun a r s h=>by
 exact s.main [] trivial (.trans (by kernel_rfl) h)
noncomputable def xZag:Fn xZ5v:=⟨f152,[],⟨[],[],sbf,bof⟩,fun _=>[xZ3S],[true],none,0,0,fun _ _=>true,none,[],[],[]⟩
theorem xZaJ:xZag.Ok prog:=⟨Is.of (by kernel_rfl) (by kernel_rfl),by kernel_rfl,xZ4 sb_ok bo_ok,trivial,trivial,fun _=>by kernel_rfl⟩
theorem xZao (N:Nat):xZ5v.Ok prog N:=xZaJ.give tb_ok hm N N (fun _=>⟨xZ6y N,trivial⟩) fun a r s h=>by
 exact s.main [] trivial (.trans (by kernel_rfl) h)
noncomputable def xZdE:Fn xZ88:=⟨f155,[],⟨[],[],sbf,bof⟩,fun _=>[],[true],none,0,0,fun _ _=>true,none,[],[],[]⟩
theorem xZe2:xZdE.Ok prog:=⟨Is.of (by kernel_rfl) (by kernel_rfl),by kernel_rfl,xZ4 sb_ok bo_ok,trivial,trivial,fun _=>by kernel_rfl⟩
theorem xZdP (N:Nat):xZ88.Ok prog N:=xZe2.give tb_ok hm N N (fun _=>trivial) fun a r s h=>by
 exact s.main [] trivial (.trans (by kernel_rfl) h)
noncomputable def xZ9H:Fn xZ4F:=⟨f156,[],⟨[],[],sbf,bof⟩,fun _=>[],[true],none,0,0,fun _ _=>true,none,[],[],[]⟩
theorem xZ9Q:xZ9H.Ok prog:=⟨Is.of (by kernel_rfl) (by kernel_rfl),by kernel_rfl,xZ4 sb_ok bo_ok,trivial,trivial,fun _=>by kernel_rfl⟩
theorem xZ9K (N:Nat):xZ4F.Ok prog N:=xZ9Q.give tb_ok hm N N (fun _=>trivial) fun a r s h=>by
 exact s.main [] trivial (.trans (by kernel_rfl) h)
noncomputable def xZ5A:Fn xZD:=⟨f145,[],⟨[],[],sbf,bof⟩,fun _=>[xZ32,xZ5w,xZ5v,xZ88,xZ4F,xZD],[true],none,1,0,fun _ _=>true,none,[],[],[]⟩
theorem xZ2O:xZ5A.Ok prog:=⟨Is.of (by kernel_rfl) (by kernel_rfl),by kernel_rfl,xZ4 sb_ok bo_ok,trivial,trivial,fun _=>by kernel_rfl⟩
theorem xZ2t:∀ N,xZD.Ok prog N
 | 0=>⟨xZ2O.is.enters,fun a r h=>by (have h:none=some r:=h;cases h)⟩
 | N+1=>by
   obtain h_pred_checker_tree_v739:=xZ2t N
   ·exact xZ2O.give tb_ok hm N (N+1) (fun _=>⟨xZ8g N,xZap N,xZao N,xZdP N,xZ9K N,h_pred_checker_tree_v739,trivial⟩) fun a r s h=>by
     have l0:=s.loop 0 xZW (xZ2c N) N fun next0 h0=>by
      exact fun c v=>s.seg 0 xZW [(0,.of xZW next0)] ⟨h0,trivial⟩ (by kernel_rfl) (by kernel_rfl)
     exact s.main [(0,.of xZW (xZ55 N))] ⟨l0,trivial⟩ (.trans (by kernel_rfl) h)
theorem xZ5I (N:Nat):xZD.Ok prog N:=(xZ2t N)
noncomputable def xZbZ:Fn xZ91:=⟨f129,[],⟨[],[],sbf,bof⟩,fun _=>[xZD],[true],none,0,0,fun _ _=>true,none,[],[],[]⟩
theorem xZcD:xZbZ.Ok prog:=⟨Is.of (by kernel_rfl) (by kernel_rfl),by kernel_rfl,xZ4 sb_ok bo_ok,trivial,trivial,fun _=>by kernel_rfl⟩
theorem xZch (N:Nat):xZ91.Ok prog N:=xZcD.give tb_ok hm N N (fun _=>⟨xZ5I N,trivial⟩) fun a r s h=>by
 exact s.main [] trivial (.trans (by kernel_rfl) h)
end
end
end Go.Proofs.YtmllclbhdmajmaaGreat.A
