/- The code, and what each function of it is walked to. No premise beyond what each theorem says. -/
import Derived.Test.YtmllclbhdmajmaaGreatBG3
set_option linter.all false
set_option linter.unusedSimpArgs false
set_option linter.unusedVariables false
namespace Go.Proofs.YtmllclbhdmajmaaGreat.B
open Go
section
open Go.Proofs.Tryz
set_option maxRecDepth 1000000
noncomputable section
noncomputable def xZ7y:Fn xZ1r:=⟨f169,[],⟨[(16,6)],[],sbf,bof⟩,fun _=>[xZ1V,xZp,xZ22],[true],none,1,0,fun _ _=>true,none,[],[],[]⟩
theorem xZ3T:xZ7y.Ok prog:=⟨Is.of (by kernel_rfl) (by kernel_rfl),by kernel_rfl,xZ5 sb_ok bo_ok,trivial,trivial,fun _=>by kernel_rfl⟩
noncomputable def xZ73:Fn xZ1V:=⟨f172,[],⟨[(16,6)],[],sbf,bof⟩,fun _=>[xZ14,xZp,xZ22],[true],none,1,0,fun _ _=>true,none,[],[],[]⟩
theorem xZ3p:xZ73.Ok prog:=⟨Is.of (by kernel_rfl) (by kernel_rfl),by kernel_rfl,xZ5 sb_ok bo_ok,trivial,trivial,fun _=>by kernel_rfl⟩
noncomputable def xZ6i:Fn xZ14:=⟨f176,[],⟨[(18,6),(49,6)],[],sbf,bof⟩,fun _=>[xZ1B,xZp,xZ14,xZ22,xZ1r,xZt,xZ1W,xZl,xZ9Z,xZ15],[true],none,1,0,fun _ _=>true,none,[],[],[]⟩
theorem xZ3d:xZ6i.Ok prog:=⟨Is.of (by kernel_rfl) (by kernel_rfl),by kernel_rfl,xZ5 sb_ok bo_ok,trivial,trivial,fun _=>by kernel_rfl⟩
theorem xZ3k:∀ N,xZ1r.Ok prog N∧xZ1V.Ok prog N∧xZ14.Ok prog N
 | 0=>⟨⟨xZ3T.is.enters,fun a r h=>by (have h:none=some r:=h;cases h)⟩,⟨xZ3p.is.enters,fun a r h=>by (have h:none=some r:=h;cases h)⟩,⟨xZ3d.is.enters,fun a r h=>by (have h:none=some r:=h;cases h)⟩⟩
 | N+1=>by
   obtain ⟨h_predtext_parser_or_v927,h_predtext_parser_and_v927,h_predtext_parser_part_v927⟩:=xZ3k N
   refine ⟨?_,?_,?_⟩
   ·exact xZ3T.give tb_ok hm N (N+1) (fun _=>⟨h_predtext_parser_and_v927,xZN N,xZ46 N,trivial⟩) fun a r s h=>by
     have l0:=s.loop 0 xZ17 (xZ39 N) N fun next0 h0=>by
      exact fun c v=>s.seg 0 xZ17 [(0,.of xZ17 next0)] ⟨h0,trivial⟩ (by kernel_rfl) (by kernel_rfl)
     exact s.main [(0,.of xZ17 (xZ6s N))] ⟨l0,trivial⟩ (.trans (by kernel_rfl) h)
   ·exact xZ3p.give tb_ok hm N (N+1) (fun _=>⟨h_predtext_parser_part_v927,xZN N,xZ46 N,trivial⟩) fun a r s h=>by
     have l0:=s.loop 0 xZW (xZ2K N) N fun next0 h0=>by
      exact fun c v=>s.seg 0 xZW [(0,.of xZW next0)] ⟨h0,trivial⟩ (by kernel_rfl) (by kernel_rfl)
     exact s.main [(0,.of xZW (xZ60 N))] ⟨l0,trivial⟩ (.trans (by kernel_rfl) h)
   ·exact xZ3d.give tb_ok hm N (N+1) (fun _=>⟨xZ5c N,xZN N,h_predtext_parser_part_v927,xZ46 N,h_predtext_parser_or_v927,xZ16 N,xZ77 N,xZH N,xZh6 N,xZ37 N,trivial⟩) fun a r s h=>by
     exact s.main [] trivial (.trans (by kernel_rfl) h)
theorem xZ7D (N:Nat):xZ1r.Ok prog N:=(xZ3k N).1
noncomputable def xZbG:Fn xZ4w:=⟨f151,[],⟨[],[],sbf,bof⟩,fun _=>[],[true],none,0,0,fun _ _=>true,none,[],[],[]⟩
theorem xZc0:xZbG.Ok prog:=⟨Is.of (by kernel_rfl) (by kernel_rfl),by kernel_rfl,xZ5 sb_ok bo_ok,trivial,trivial,fun _=>by kernel_rfl⟩
theorem xZbP (N:Nat):xZ4w.Ok prog N:=xZc0.give tb_ok hm N N (fun _=>trivial) fun a r s h=>by
 exact s.main [] trivial (.trans (by kernel_rfl) h)
noncomputable def xZdQ:Fn xZ4M:=⟨f100,[],⟨[],[],sbf,bof⟩,fun _=>[],[true],none,0,0,fun _ _=>true,none,[],[],[]⟩
theorem xZe0:xZdQ.Ok prog:=⟨Is.of (by kernel_rfl) (by kernel_rfl),by kernel_rfl,xZ5 sb_ok bo_ok,trivial,trivial,fun _=>by kernel_rfl⟩
theorem xZ9T (N:Nat):xZ4M.Ok prog N:=xZe0.give tb_ok hm N N (fun _=>trivial) fun a r s h=>by
 exact s.main [] trivial (.trans (by kernel_rfl) h)
noncomputable def xZcz:Fn xZ52:=⟨f101,[],⟨[],[],sbf,bof⟩,fun _=>[],[true],none,0,0,fun _ _=>true,none,[],[],[]⟩
theorem xZcO:xZcz.Ok prog:=⟨Is.of (by kernel_rfl) (by kernel_rfl),by kernel_rfl,xZ5 sb_ok bo_ok,trivial,trivial,fun _=>by kernel_rfl⟩
theorem xZcH (N:Nat):xZ52.Ok prog N:=xZcO.give tb_ok hm N N (fun _=>trivial) fun a r s h=>by
 exact s.main [] trivial (.trans (by kernel_rfl) h)
noncomputable def xZfz:Fn xZ95:=⟨f102,[],⟨[],[],sbf,bof⟩,fun _=>[xZ4M],[true],none,0,0,fun _ _=>true,none,[],[],[]⟩
theorem xZg9:xZfz.Ok prog:=⟨Is.of (by kernel_rfl) (by kernel_rfl),by kernel_rfl,xZ5 sb_ok bo_ok,trivial,trivial,fun _=>by kernel_rfl⟩
theorem xZfM (N:Nat):xZ95.Ok prog N:=xZg9.give tb_ok hm N N (fun _=>⟨xZ9T N,trivial⟩) fun a r s h=>by
 exact s.main [] trivial (.trans (by kernel_rfl) h)
noncomputable def xZfy:Fn xZ4T:=⟨f61,[],⟨[],[],sbf,bof⟩,fun _=>[xZ4M,xZ52,xZ95],[true],none,0,0,fun _ _=>true,none,[],[],[]⟩
theorem xZg8:xZfy.Ok prog:=⟨Is.of (by kernel_rfl) (by kernel_rfl),by kernel_rfl,xZ5 sb_ok bo_ok,trivial,trivial,fun _=>by kernel_rfl⟩
theorem xZ9d (N:Nat):xZ4T.Ok prog N:=xZg8.give tb_ok hm N N (fun _=>⟨xZ9T N,xZcH N,xZfM N,trivial⟩) fun a r s h=>by
 have l0:=s.loop 0 xZ4O (xZ9W N) N fun next0 h0=>by
  exact fun c v=>s.seg 0 xZ4O [(0,.of xZ4O next0)] ⟨h0,trivial⟩ (by kernel_rfl) (by kernel_rfl)
 exact s.main [(0,.of xZ4O (xZe2 N))] ⟨l0,trivial⟩ (.trans (by kernel_rfl) h)
noncomputable def xZh0:Fn xZai:=⟨f170,[],⟨[],[],sbf,bof⟩,fun _=>[],[false],none,0,0,fun _ _=>true,none,[],[],[]⟩
theorem xZi2:xZh0.Ok prog:=⟨Is.of (by kernel_rfl) (by kernel_rfl),by kernel_rfl,xZ5 sb_ok bo_ok,trivial,trivial,fun _=>by kernel_rfl⟩
theorem xZht (N:Nat):xZai.Ok prog N:=xZi2.give tb_ok hm N N (fun _=>trivial) fun a r s h=>by
 exact s.main [] trivial (.trans (by kernel_rfl) h)
noncomputable def xZak:Fn xZ3C:=⟨f205,[],⟨[],[],sbf,bof⟩,fun _=>[],[true],none,0,0,fun _ _=>true,none,[],[],[]⟩
theorem xZaA:xZak.Ok prog:=⟨Is.of (by kernel_rfl) (by kernel_rfl),by kernel_rfl,xZ5 sb_ok bo_ok,trivial,trivial,fun _=>by kernel_rfl⟩
theorem xZav (N:Nat):xZ3C.Ok prog N:=xZaA.give tb_ok hm N N (fun _=>trivial) fun a r s h=>by
 exact s.main [] trivial (.trans (by kernel_rfl) h)
noncomputable def xZbJ:Fn xZ4A:=⟨f206,[],⟨[],[],sbf,bof⟩,fun _=>[],[true],none,0,0,fun _ _=>true,none,[],[],[]⟩
theorem xZc3:xZbJ.Ok prog:=⟨Is.of (by kernel_rfl) (by kernel_rfl),by kernel_rfl,xZ5 sb_ok bo_ok,trivial,trivial,fun _=>by kernel_rfl⟩
theorem xZbS (N:Nat):xZ4A.Ok prog N:=xZc3.give tb_ok hm N N (fun _=>trivial) fun a r s h=>by
 exact s.main [] trivial (.trans (by kernel_rfl) h)
noncomputable def xZlx:Fn xZem:=⟨f148,[(161,.fb)],⟨[],[],sbf,bof⟩,fun _=>[],[true],none,0,0,fun _ _=>true,none,[],[],[]⟩
theorem xZmd:xZlx.Ok prog:=⟨Is.of (by kernel_rfl) (by kernel_rfl),by kernel_rfl,xZ5 sb_ok bo_ok,trivial,⟨ExtIs.mk' f161 (by kernel_rfl) (by kernel_rfl) (by kernel_rfl) (by kernel_rfl) (by kernel_rfl),trivial⟩,fun _=>by kernel_rfl⟩
theorem xZlH (N:Nat):xZem.Ok prog N:=xZmd.give tb_ok hm N N (fun _=>trivial) fun a r s h=>by
 exact s.main [] trivial (.trans (by kernel_rfl) h)
noncomputable def xZgE:Fn xZa6:=⟨f139,[],⟨[],[],sbf,bof⟩,fun _=>[xZem],[true],none,0,0,fun _ _=>true,none,[],[],[]⟩
theorem xZhL:xZgE.Ok prog:=⟨Is.of (by kernel_rfl) (by kernel_rfl),by kernel_rfl,xZ5 sb_ok bo_ok,trivial,trivial,fun _=>by kernel_rfl⟩
theorem xZhc (N:Nat):xZa6.Ok prog N:=xZhL.give tb_ok hm N N (fun _=>⟨xZlH N,trivial⟩) fun a r s h=>by
 exact s.main [] trivial (.trans (by kernel_rfl) h)
noncomputable def xZaj:Fn xZ3B:=⟨f207,[],⟨[],[],sbf,bof⟩,fun _=>[],[true],none,0,0,fun _ _=>true,none,[],[],[]⟩
theorem xZaz:xZaj.Ok prog:=⟨Is.of (by kernel_rfl) (by kernel_rfl),by kernel_rfl,xZ5 sb_ok bo_ok,trivial,trivial,fun _=>by kernel_rfl⟩
theorem xZau (N:Nat):xZ3B.Ok prog N:=xZaz.give tb_ok hm N N (fun _=>trivial) fun a r s h=>by
 exact s.main [] trivial (.trans (by kernel_rfl) h)
noncomputable def xZaI:Fn xZ43:=⟨f208,[],⟨[],[],sbf,bof⟩,fun _=>[],[true],none,0,0,fun _ _=>true,none,[],[],[]⟩
theorem xZbk:xZaI.Ok prog:=⟨Is.of (by kernel_rfl) (by kernel_rfl),by kernel_rfl,xZ5 sb_ok bo_ok,trivial,trivial,fun _=>by kernel_rfl⟩
theorem xZaN (N:Nat):xZ43.Ok prog N:=xZbk.give tb_ok hm N N (fun _=>trivial) fun a r s h=>by
 exact s.main [] trivial (.trans (by kernel_rfl) h)
noncomputable def xZfB:Fn xZ96:=⟨f165,[],⟨[],[],sbf,bof⟩,fun _=>[xZai,xZ3C,xZ4A,xZa6,xZ3B,xZ43],[true],none,0,0,fun _ _=>true,none,[],[],[]⟩
theorem xZgb:xZfB.Ok prog:=⟨Is.of (by kernel_rfl) (by kernel_rfl),by kernel_rfl,xZ5 sb_ok bo_ok,trivial,trivial,fun _=>by kernel_rfl⟩
theorem xZfN (N:Nat):xZ96.Ok prog N:=xZgb.give tb_ok hm N N (fun _=>⟨xZht N,xZav N,xZbS N,xZhc N,xZau N,xZaN N,trivial⟩) fun a r s h=>by
 exact s.main [] trivial (.trans (by kernel_rfl) h)
end
end
section
open Go.Proofs.Tryz
set_option maxRecDepth 1000000
noncomputable section
noncomputable def xZcx:Fn xZ50:=⟨f153,[],⟨[],[],sbf,bof⟩,fun _=>[xZ59,xZ4T,xZ96],[true],none,0,0,fun _ _=>true,none,[],[],[]⟩
theorem xZcM:xZcx.Ok prog:=⟨Is.of (by kernel_rfl) (by kernel_rfl),by kernel_rfl,xZ5 sb_ok bo_ok,trivial,trivial,fun _=>by kernel_rfl⟩
theorem xZcF (N:Nat):xZ50.Ok prog N:=xZcM.give tb_ok hm N N (fun _=>⟨xZaJ N,xZ9d N,xZfN N,trivial⟩) fun a r s h=>by
 exact s.main [] trivial (.trans (by kernel_rfl) h)
noncomputable def xZer:Fn xZ7T:=⟨f152,[],⟨[],[],sbf,bof⟩,fun _=>[xZ50],[true],none,0,0,fun _ _=>true,none,[],[],[]⟩
theorem xZeS:xZer.Ok prog:=⟨Is.of (by kernel_rfl) (by kernel_rfl),by kernel_rfl,xZ5 sb_ok bo_ok,trivial,trivial,fun _=>by kernel_rfl⟩
theorem xZez (N:Nat):xZ7T.Ok prog N:=xZeS.give tb_ok hm N N (fun _=>⟨xZcF N,trivial⟩) fun a r s h=>by
 exact s.main [] trivial (.trans (by kernel_rfl) h)
noncomputable def xZeq:Fn xZ7S:=⟨f152,[],⟨[],[],sbf,bof⟩,fun _=>[xZ5M],[true],none,0,0,fun _ _=>true,none,[],[],[]⟩
theorem xZeR:xZeq.Ok prog:=⟨Is.of (by kernel_rfl) (by kernel_rfl),by kernel_rfl,xZ5 sb_ok bo_ok,trivial,trivial,fun _=>by kernel_rfl⟩
theorem xZey (N:Nat):xZ7S.Ok prog N:=xZeR.give tb_ok hm N N (fun _=>⟨xZ9c N,trivial⟩) fun a r s h=>by
 exact s.main [] trivial (.trans (by kernel_rfl) h)
noncomputable def xZj7:Fn xZbA:=⟨f155,[],⟨[],[],sbf,bof⟩,fun _=>[],[true],none,0,0,fun _ _=>true,none,[],[],[]⟩
theorem xZjG:xZj7.Ok prog:=⟨Is.of (by kernel_rfl) (by kernel_rfl),by kernel_rfl,xZ5 sb_ok bo_ok,trivial,trivial,fun _=>by kernel_rfl⟩
theorem xZjm (N:Nat):xZbA.Ok prog N:=xZjG.give tb_ok hm N N (fun _=>trivial) fun a r s h=>by
 exact s.main [] trivial (.trans (by kernel_rfl) h)
noncomputable def xZdN:Fn xZ71:=⟨f156,[],⟨[],[],sbf,bof⟩,fun _=>[],[true],none,0,0,fun _ _=>true,none,[],[],[]⟩
theorem xZdY:xZdN.Ok prog:=⟨Is.of (by kernel_rfl) (by kernel_rfl),by kernel_rfl,xZ5 sb_ok bo_ok,trivial,trivial,fun _=>by kernel_rfl⟩
theorem xZdR (N:Nat):xZ71.Ok prog N:=xZdY.give tb_ok hm N N (fun _=>trivial) fun a r s h=>by
 exact s.main [] trivial (.trans (by kernel_rfl) h)
noncomputable def xZ7Z:Fn xZT:=⟨f145,[],⟨[],[],sbf,bof⟩,fun _=>[xZ4w,xZ7T,xZ7S,xZbA,xZ71,xZT],[true],none,1,0,fun _ _=>true,none,[],[],[]⟩
theorem xZ4e:xZ7Z.Ok prog:=⟨Is.of (by kernel_rfl) (by kernel_rfl),by kernel_rfl,xZ5 sb_ok bo_ok,trivial,trivial,fun _=>by kernel_rfl⟩
theorem xZ3P:∀ N,xZT.Ok prog N
 | 0=>⟨xZ4e.is.enters,fun a r h=>by (have h:none=some r:=h;cases h)⟩
 | N+1=>by
   obtain h_pred_checker_tree_v739:=xZ3P N
   ·exact xZ4e.give tb_ok hm N (N+1) (fun _=>⟨xZbP N,xZez N,xZey N,xZjm N,xZdR N,h_pred_checker_tree_v739,trivial⟩) fun a r s h=>by
     have l0:=s.loop 0 xZ1g (xZ3m N) N fun next0 h0=>by
      exact fun c v=>s.seg 0 xZ1g [(0,.of xZ1g next0)] ⟨h0,trivial⟩ (by kernel_rfl) (by kernel_rfl)
     exact s.main [(0,.of xZ1g (xZ7q N))] ⟨l0,trivial⟩ (.trans (by kernel_rfl) h)
theorem xZ86 (N:Nat):xZT.Ok prog N:=(xZ3P N)
noncomputable def xZgD:Fn xZa5:=⟨f129,[],⟨[],[],sbf,bof⟩,fun _=>[xZT],[true],none,0,0,fun _ _=>true,none,[],[],[]⟩
theorem xZhK:xZgD.Ok prog:=⟨Is.of (by kernel_rfl) (by kernel_rfl),by kernel_rfl,xZ5 sb_ok bo_ok,trivial,trivial,fun _=>by kernel_rfl⟩
theorem xZdg (N:Nat):xZa5.Ok prog N:=xZhK.give tb_ok hm N N (fun _=>⟨xZ86 N,trivial⟩) fun a r s h=>by
 exact s.main [] trivial (.trans (by kernel_rfl) h)
end
end
end Go.Proofs.YtmllclbhdmajmaaGreat.B
