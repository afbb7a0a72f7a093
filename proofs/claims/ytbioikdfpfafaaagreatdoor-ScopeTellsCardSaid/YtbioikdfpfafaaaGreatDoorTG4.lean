/- The code, and what each function of it is walked to. No premise beyond what each theorem says. -/
import Derived.Test.YtbioikdfpfafaaaGreatDoorTG3
set_option linter.all false
set_option linter.unusedSimpArgs false
set_option linter.unusedVariables false
namespace Go.Proofs.YtbioikdfpfafaaaGreatDoor.T
open Go
section
open Go.Proofs.Tryz
set_option maxRecDepth 1000000
noncomputable section
noncomputable def xZ8H:Fn xZ1p:=⟨f203,[],⟨[(16,7)],[],sbf,bof⟩,fun _=>[xZ27,xZk,xZ2f],[true],none,1,0,fun _ _=>true,none,[],[]⟩
theorem xZ45:xZ8H.Ok prog:=⟨Is.of (by kernel_rfl) (by kernel_rfl),by kernel_rfl,xZ4 sb_ok bo_ok,trivial,trivial,fun _=>by kernel_rfl⟩
noncomputable def xZ7M:Fn xZ27:=⟨f206,[],⟨[(16,7)],[],sbf,bof⟩,fun _=>[xZ18,xZk,xZ2f],[true],none,1,0,fun _ _=>true,none,[],[]⟩
theorem xZ3t:xZ7M.Ok prog:=⟨Is.of (by kernel_rfl) (by kernel_rfl),by kernel_rfl,xZ4 sb_ok bo_ok,trivial,trivial,fun _=>by kernel_rfl⟩
noncomputable def xZ6S:Fn xZ18:=⟨f210,[],⟨[(18,7),(49,7)],[],sbf,bof⟩,fun _=>[xZ1C,xZk,xZ18,xZ2f,xZ1p,xZo,xZ23,xZi,xZbv,xZ14],[true],none,1,0,fun _ _=>true,none,[],[]⟩
theorem xZ3e:xZ6S.Ok prog:=⟨Is.of (by kernel_rfl) (by kernel_rfl),by kernel_rfl,xZ4 sb_ok bo_ok,trivial,trivial,fun _=>by kernel_rfl⟩
theorem xZ3y:∀ N,xZ1p.Ok prog N∧xZ27.Ok prog N∧xZ18.Ok prog N
 | 0=>⟨⟨xZ45.is.enters,fun a r h=>by (have h:none=some r:=h;cases h)⟩,⟨xZ3t.is.enters,fun a r h=>by (have h:none=some r:=h;cases h)⟩,⟨xZ3e.is.enters,fun a r h=>by (have h:none=some r:=h;cases h)⟩⟩
 | N+1=>by
   obtain ⟨h_predtext_parser_or_v927,h_predtext_parser_and_v927,h_predtext_parser_part_v927⟩:=xZ3y N
   refine ⟨?_,?_,?_⟩
   ·exact xZ45.give tb_ok hm N (N+1) (fun _=>⟨h_predtext_parser_and_v927,xZH N,xZ4c N,trivial⟩) fun a r s h=>by
     have l0:=s.loop 0 xZ1d (xZ3o N) N fun next0 h0=>by
      exact fun c v=>s.seg 0 xZ1d [(0,.of xZ1d next0)] ⟨h0,trivial⟩ (by kernel_rfl) (by kernel_rfl)
     exact s.main [(0,.of xZ1d (xZ75 N))] ⟨l0,trivial⟩ (.trans (by kernel_rfl) h)
   ·exact xZ3t.give tb_ok hm N (N+1) (fun _=>⟨h_predtext_parser_part_v927,xZH N,xZ4c N,trivial⟩) fun a r s h=>by
     have l0:=s.loop 0 xZS (xZ2J N) N fun next0 h0=>by
      exact fun c v=>s.seg 0 xZS [(0,.of xZS next0)] ⟨h0,trivial⟩ (by kernel_rfl) (by kernel_rfl)
     exact s.main [(0,.of xZS (xZ6A N))] ⟨l0,trivial⟩ (.trans (by kernel_rfl) h)
   ·exact xZ3e.give tb_ok hm N (N+1) (fun _=>⟨xZ67 N,xZH N,h_predtext_parser_part_v927,xZ4c N,h_predtext_parser_or_v927,xZ15 N,xZ7L N,xZD N,xZje N,xZ3l N,trivial⟩) fun a r s h=>by
     exact s.main [] trivial (.trans (by kernel_rfl) h)
theorem xZ8t (N:Nat):xZ1p.Ok prog N:=(xZ3y N).1
noncomputable def xZcV:Fn xZ4X:=⟨f183,[],⟨[],[],sbf,bof⟩,fun _=>[],[true],none,0,0,fun _ _=>true,none,[],[]⟩
theorem xZcL:xZcV.Ok prog:=⟨Is.of (by kernel_rfl) (by kernel_rfl),by kernel_rfl,xZ4 sb_ok bo_ok,trivial,trivial,fun _=>by kernel_rfl⟩
theorem xZd3 (N:Nat):xZ4X.Ok prog N:=xZcL.give tb_ok hm N N (fun _=>trivial) fun a r s h=>by
 exact s.main [] trivial (.trans (by kernel_rfl) h)
noncomputable def xZfe:Fn xZ5i:=⟨f96,[],⟨[],[],sbf,bof⟩,fun _=>[],[true],none,0,0,fun _ _=>true,none,[],[]⟩
theorem xZfu:xZfe.Ok prog:=⟨Is.of (by kernel_rfl) (by kernel_rfl),by kernel_rfl,xZ4 sb_ok bo_ok,trivial,trivial,fun _=>by kernel_rfl⟩
theorem xZaU (N:Nat):xZ5i.Ok prog N:=xZfu.give tb_ok hm N N (fun _=>trivial) fun a r s h=>by
 exact s.main [] trivial (.trans (by kernel_rfl) h)
noncomputable def xZe7:Fn xZ5v:=⟨f97,[],⟨[],[],sbf,bof⟩,fun _=>[],[true],none,0,0,fun _ _=>true,none,[],[]⟩
theorem xZdV:xZe7.Ok prog:=⟨Is.of (by kernel_rfl) (by kernel_rfl),by kernel_rfl,xZ4 sb_ok bo_ok,trivial,trivial,fun _=>by kernel_rfl⟩
theorem xZe4 (N:Nat):xZ5v.Ok prog N:=xZdV.give tb_ok hm N N (fun _=>trivial) fun a r s h=>by
 exact s.main [] trivial (.trans (by kernel_rfl) h)
noncomputable def xZhl:Fn xZ9W:=⟨f98,[],⟨[],[],sbf,bof⟩,fun _=>[xZ5i],[true],none,0,0,fun _ _=>true,none,[],[]⟩
theorem xZhz:xZhl.Ok prog:=⟨Is.of (by kernel_rfl) (by kernel_rfl),by kernel_rfl,xZ4 sb_ok bo_ok,trivial,trivial,fun _=>by kernel_rfl⟩
theorem xZib (N:Nat):xZ9W.Ok prog N:=xZhz.give tb_ok hm N N (fun _=>⟨xZaU N,trivial⟩) fun a r s h=>by
 exact s.main [] trivial (.trans (by kernel_rfl) h)
noncomputable def xZhq:Fn xZ44:=⟨f49,[],⟨[],[],sbf,bof⟩,fun _=>[xZ5i,xZ5v,xZ9W],[true],none,0,0,fun _ _=>true,none,[],[]⟩
theorem xZiu:xZhq.Ok prog:=⟨Is.of (by kernel_rfl) (by kernel_rfl),by kernel_rfl,xZ4 sb_ok bo_ok,trivial,trivial,fun _=>by kernel_rfl⟩
theorem xZ7i (N:Nat):xZ44.Ok prog N:=xZiu.give tb_ok hm N N (fun _=>⟨xZaU N,xZe4 N,xZib N,trivial⟩) fun a r s h=>by
 have l0:=s.loop 0 xZ5c (xZaQ N) N fun next0 h0=>by
  exact fun c v=>s.seg 0 xZ5c [(0,.of xZ5c next0)] ⟨h0,trivial⟩ (by kernel_rfl) (by kernel_rfl)
 exact s.main [(0,.of xZ5c (xZfp N))] ⟨l0,trivial⟩ (.trans (by kernel_rfl) h)
noncomputable def xZki:Fn xZbF:=⟨f204,[],⟨[],[],sbf,bof⟩,fun _=>[],[false],none,0,0,fun _ _=>true,none,[],[]⟩
theorem xZiL:xZki.Ok prog:=⟨Is.of (by kernel_rfl) (by kernel_rfl),by kernel_rfl,xZ4 sb_ok bo_ok,trivial,trivial,fun _=>by kernel_rfl⟩
theorem xZjw (N:Nat):xZbF.Ok prog N:=xZiL.give tb_ok hm N N (fun _=>trivial) fun a r s h=>by
 exact s.main [] trivial (.trans (by kernel_rfl) h)
noncomputable def xZb1:Fn xZ3L:=⟨f239,[],⟨[],[],sbf,bof⟩,fun _=>[],[true],none,0,0,fun _ _=>true,none,[],[]⟩
theorem xZbh:xZb1.Ok prog:=⟨Is.of (by kernel_rfl) (by kernel_rfl),by kernel_rfl,xZ4 sb_ok bo_ok,trivial,trivial,fun _=>by kernel_rfl⟩
theorem xZb8 (N:Nat):xZ3L.Ok prog N:=xZbh.give tb_ok hm N N (fun _=>trivial) fun a r s h=>by
 exact s.main [] trivial (.trans (by kernel_rfl) h)
noncomputable def xZcy:Fn xZ4P:=⟨f240,[],⟨[],[],sbf,bof⟩,fun _=>[],[true],none,0,0,fun _ _=>true,none,[],[]⟩
theorem xZd8:xZcy.Ok prog:=⟨Is.of (by kernel_rfl) (by kernel_rfl),by kernel_rfl,xZ4 sb_ok bo_ok,trivial,trivial,fun _=>by kernel_rfl⟩
theorem xZcP (N:Nat):xZ4P.Ok prog N:=xZd8.give tb_ok hm N N (fun _=>trivial) fun a r s h=>by
 exact s.main [] trivial (.trans (by kernel_rfl) h)
noncomputable def xZo7:Fn xZgU:=⟨f180,[(195,.fb)],⟨[],[],sbf,bof⟩,fun _=>[],[true],none,0,0,fun _ _=>true,none,[],[]⟩
theorem xZoM:xZo7.Ok prog:=⟨Is.of (by kernel_rfl) (by kernel_rfl),by kernel_rfl,xZ4 sb_ok bo_ok,trivial,⟨ExtIs.mk' f195 (by kernel_rfl) (by kernel_rfl) (by kernel_rfl) (by kernel_rfl) (by kernel_rfl),trivial⟩,fun _=>by kernel_rfl⟩
theorem xZox (N:Nat):xZgU.Ok prog N:=xZoM.give tb_ok hm N N (fun _=>trivial) fun a r s h=>by
 exact s.main [] trivial (.trans (by kernel_rfl) h)
noncomputable def xZk6:Fn xZbD:=⟨f163,[],⟨[],[],sbf,bof⟩,fun _=>[xZgU],[true],none,0,0,fun _ _=>true,none,[],[]⟩
theorem xZjY:xZk6.Ok prog:=⟨Is.of (by kernel_rfl) (by kernel_rfl),by kernel_rfl,xZ4 sb_ok bo_ok,trivial,trivial,fun _=>by kernel_rfl⟩
theorem xZkt (N:Nat):xZbD.Ok prog N:=xZjY.give tb_ok hm N N (fun _=>⟨xZox N,trivial⟩) fun a r s h=>by
 exact s.main [] trivial (.trans (by kernel_rfl) h)
noncomputable def xZb6:Fn xZ3R:=⟨f241,[],⟨[],[],sbf,bof⟩,fun _=>[],[true],none,0,0,fun _ _=>true,none,[],[]⟩
theorem xZbi:xZb6.Ok prog:=⟨Is.of (by kernel_rfl) (by kernel_rfl),by kernel_rfl,xZ4 sb_ok bo_ok,trivial,trivial,fun _=>by kernel_rfl⟩
theorem xZbB (N:Nat):xZ3R.Ok prog N:=xZbi.give tb_ok hm N N (fun _=>trivial) fun a r s h=>by
 exact s.main [] trivial (.trans (by kernel_rfl) h)
noncomputable def xZcr:Fn xZ4k:=⟨f242,[],⟨[],[],sbf,bof⟩,fun _=>[],[true],none,0,0,fun _ _=>true,none,[],[]⟩
theorem xZcm:xZcr.Ok prog:=⟨Is.of (by kernel_rfl) (by kernel_rfl),by kernel_rfl,xZ4 sb_ok bo_ok,trivial,trivial,fun _=>by kernel_rfl⟩
theorem xZc6 (N:Nat):xZ4k.Ok prog N:=xZcm.give tb_ok hm N N (fun _=>trivial) fun a r s h=>by
 exact s.main [] trivial (.trans (by kernel_rfl) h)
noncomputable def xZhp:Fn xZam:=⟨f199,[],⟨[],[],sbf,bof⟩,fun _=>[xZbF,xZ3L,xZ4P,xZbD,xZ3R,xZ4k],[true],none,0,0,fun _ _=>true,none,[],[]⟩
theorem xZi1:xZhp.Ok prog:=⟨Is.of (by kernel_rfl) (by kernel_rfl),by kernel_rfl,xZ4 sb_ok bo_ok,trivial,trivial,fun _=>by kernel_rfl⟩
theorem xZh9 (N:Nat):xZam.Ok prog N:=xZi1.give tb_ok hm N N (fun _=>⟨xZjw N,xZb8 N,xZcP N,xZkt N,xZbB N,xZc6 N,trivial⟩) fun a r s h=>by
 exact s.main [] trivial (.trans (by kernel_rfl) h)
end
end
section
open Go.Proofs.Tryz
set_option maxRecDepth 1000000
noncomputable section
noncomputable def xZdX:Fn xZ5C:=⟨f185,[],⟨[],[],sbf,bof⟩,fun _=>[xZ5R,xZ44,xZam],[true],none,0,0,fun _ _=>true,none,[],[]⟩
theorem xZe0:xZdX.Ok prog:=⟨Is.of (by kernel_rfl) (by kernel_rfl),by kernel_rfl,xZ4 sb_ok bo_ok,trivial,trivial,fun _=>by kernel_rfl⟩
theorem xZee (N:Nat):xZ5C.Ok prog N:=xZe0.give tb_ok hm N N (fun _=>⟨xZcn N,xZ7i N,xZh9 N,trivial⟩) fun a r s h=>by
 exact s.main [] trivial (.trans (by kernel_rfl) h)
noncomputable def xZgh:Fn xZ91:=⟨f184,[],⟨[],[],sbf,bof⟩,fun _=>[xZ5C],[true],none,0,0,fun _ _=>true,none,[],[]⟩
theorem xZgn:xZgh.Ok prog:=⟨Is.of (by kernel_rfl) (by kernel_rfl),by kernel_rfl,xZ4 sb_ok bo_ok,trivial,trivial,fun _=>by kernel_rfl⟩
theorem xZgL (N:Nat):xZ91.Ok prog N:=xZgn.give tb_ok hm N N (fun _=>⟨xZee N,trivial⟩) fun a r s h=>by
 exact s.main [] trivial (.trans (by kernel_rfl) h)
noncomputable def xZgR:Fn xZ92:=⟨f184,[],⟨[],[],sbf,bof⟩,fun _=>[xZ6z],[true],none,0,0,fun _ _=>true,none,[],[]⟩
theorem xZgj:xZgR.Ok prog:=⟨Is.of (by kernel_rfl) (by kernel_rfl),by kernel_rfl,xZ4 sb_ok bo_ok,trivial,trivial,fun _=>by kernel_rfl⟩
theorem xZgA (N:Nat):xZ92.Ok prog N:=xZgj.give tb_ok hm N N (fun _=>⟨xZa1 N,trivial⟩) fun a r s h=>by
 exact s.main [] trivial (.trans (by kernel_rfl) h)
noncomputable def xZll:Fn xZde:=⟨f187,[],⟨[],[],sbf,bof⟩,fun _=>[],[true],none,0,0,fun _ _=>true,none,[],[]⟩
theorem xZlO:xZll.Ok prog:=⟨Is.of (by kernel_rfl) (by kernel_rfl),by kernel_rfl,xZ4 sb_ok bo_ok,trivial,trivial,fun _=>by kernel_rfl⟩
theorem xZlN (N:Nat):xZde.Ok prog N:=xZlO.give tb_ok hm N N (fun _=>trivial) fun a r s h=>by
 exact s.main [] trivial (.trans (by kernel_rfl) h)
noncomputable def xZfk:Fn xZ8m:=⟨f188,[],⟨[],[],sbf,bof⟩,fun _=>[],[true],none,0,0,fun _ _=>true,none,[],[]⟩
theorem xZfE:xZfk.Ok prog:=⟨Is.of (by kernel_rfl) (by kernel_rfl),by kernel_rfl,xZ4 sb_ok bo_ok,trivial,trivial,fun _=>by kernel_rfl⟩
theorem xZfh (N:Nat):xZ8m.Ok prog N:=xZfE.give tb_ok hm N N (fun _=>trivial) fun a r s h=>by
 exact s.main [] trivial (.trans (by kernel_rfl) h)
noncomputable def xZ9c:Fn xZX:=⟨f169,[],⟨[],[],sbf,bof⟩,fun _=>[xZ4X,xZ91,xZ92,xZde,xZ8m,xZX],[true],none,1,0,fun _ _=>true,none,[],[]⟩
theorem xZ4C:xZ9c.Ok prog:=⟨Is.of (by kernel_rfl) (by kernel_rfl),by kernel_rfl,xZ4 sb_ok bo_ok,trivial,trivial,fun _=>by kernel_rfl⟩
theorem xZ3U:∀ N,xZX.Ok prog N
 | 0=>⟨xZ4C.is.enters,fun a r h=>by (have h:none=some r:=h;cases h)⟩
 | N+1=>by
   obtain h_pred_checker_tree_v739:=xZ3U N
   ·exact xZ4C.give tb_ok hm N (N+1) (fun _=>⟨xZd3 N,xZgL N,xZgA N,xZlN N,xZfh N,h_pred_checker_tree_v739,trivial⟩) fun a r s h=>by
     have l0:=s.loop 0 xZ1l (xZ3r N) N fun next0 h0=>by
      exact fun c v=>s.seg 0 xZ1l [(0,.of xZ1l next0)] ⟨h0,trivial⟩ (by kernel_rfl) (by kernel_rfl)
     exact s.main [(0,.of xZ1l (xZ7Y N))] ⟨l0,trivial⟩ (.trans (by kernel_rfl) h)
theorem xZ9k (N:Nat):xZX.Ok prog N:=(xZ3U N)
noncomputable def xZjK:Fn xZbg:=⟨f141,[],⟨[],[],sbf,bof⟩,fun _=>[xZX],[true],none,0,0,fun _ _=>true,none,[],[]⟩
theorem xZjl:xZjK.Ok prog:=⟨Is.of (by kernel_rfl) (by kernel_rfl),by kernel_rfl,xZ4 sb_ok bo_ok,trivial,trivial,fun _=>by kernel_rfl⟩
theorem xZf9 (N:Nat):xZbg.Ok prog N:=xZjl.give tb_ok hm N N (fun _=>⟨xZ9k N,trivial⟩) fun a r s h=>by
 exact s.main [] trivial (.trans (by kernel_rfl) h)
end
end
end Go.Proofs.YtbioikdfpfafaaaGreatDoor.T
