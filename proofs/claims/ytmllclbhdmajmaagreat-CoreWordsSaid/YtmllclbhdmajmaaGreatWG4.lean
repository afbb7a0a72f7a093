/- The code, and what each function of it is walked to. No premise beyond what each theorem says. -/
import Derived.Test.YtmllclbhdmajmaaGreatWG3
set_option linter.all false
set_option linter.unusedSimpArgs false
set_option linter.unusedVariables false
namespace Go.Proofs.YtmllclbhdmajmaaGreat.W
open Go
section
open Go.Proofs.Tryz
set_option maxRecDepth 1000000
noncomputable section
noncomputable def xZ7h:Fn xZ1j:=⟨f169,[],⟨[(16,6)],[],sbf,bof⟩,fun _=>[xZ1M,xZo,xZ1U],[true],none,1,0,fun _ _=>true,none,[],[],[]⟩
theorem xZ3I:xZ7h.Ok prog:=⟨Is.of (by kernel_rfl) (by kernel_rfl),by kernel_rfl,xZ6 sb_ok bo_ok,trivial,trivial,fun _=>by kernel_rfl⟩
noncomputable def xZ6N:Fn xZ1M:=⟨f172,[],⟨[(16,6)],[],sbf,bof⟩,fun _=>[xZ11,xZo,xZ1U],[true],none,1,0,fun _ _=>true,none,[],[],[]⟩
theorem xZ37:xZ6N.Ok prog:=⟨Is.of (by kernel_rfl) (by kernel_rfl),by kernel_rfl,xZ6 sb_ok bo_ok,trivial,trivial,fun _=>by kernel_rfl⟩
noncomputable def xZ68:Fn xZ11:=⟨f176,[],⟨[(18,6),(49,6)],[],sbf,bof⟩,fun _=>[xZ1r,xZo,xZ11,xZ1U,xZ1j,xZu,xZ1N,xZk,xZ9L,xZ12],[true],none,1,0,fun _ _=>true,none,[],[],[]⟩
theorem xZ2W:xZ68.Ok prog:=⟨Is.of (by kernel_rfl) (by kernel_rfl),by kernel_rfl,xZ6 sb_ok bo_ok,trivial,trivial,fun _=>by kernel_rfl⟩
theorem xZ34:∀ N,xZ1j.Ok prog N∧xZ1M.Ok prog N∧xZ11.Ok prog N
 | 0=>⟨⟨xZ3I.is.enters,fun a r h=>by (have h:none=some r:=h;cases h)⟩,⟨xZ37.is.enters,fun a r h=>by (have h:none=some r:=h;cases h)⟩,⟨xZ2W.is.enters,fun a r h=>by (have h:none=some r:=h;cases h)⟩⟩
 | N+1=>by
   obtain ⟨h_predtext_parser_or_v927,h_predtext_parser_and_v927,h_predtext_parser_part_v927⟩:=xZ34 N
   refine ⟨?_,?_,?_⟩
   ·exact xZ3I.give tb_ok hm N (N+1) (fun _=>⟨h_predtext_parser_and_v927,xZM N,xZ3V N,trivial⟩) fun a r s h=>by
     have l0:=s.loop 0 xZ14 (xZ2S N) N fun next0 h0=>by
      exact fun c v=>s.seg 0 xZ14 [(0,.of xZ14 next0)] ⟨h0,trivial⟩ (by kernel_rfl) (by kernel_rfl)
     exact s.main [(0,.of xZ14 (xZ6j N))] ⟨l0,trivial⟩ (.trans (by kernel_rfl) h)
   ·exact xZ37.give tb_ok hm N (N+1) (fun _=>⟨h_predtext_parser_part_v927,xZM N,xZ3V N,trivial⟩) fun a r s h=>by
     have l0:=s.loop 0 xZW (xZ2v N) N fun next0 h0=>by
      exact fun c v=>s.seg 0 xZW [(0,.of xZW next0)] ⟨h0,trivial⟩ (by kernel_rfl) (by kernel_rfl)
     exact s.main [(0,.of xZW (xZ5S N))] ⟨l0,trivial⟩ (.trans (by kernel_rfl) h)
   ·exact xZ2W.give tb_ok hm N (N+1) (fun _=>⟨xZ55 N,xZM N,h_predtext_parser_part_v927,xZ3V N,h_predtext_parser_or_v927,xZ13 N,xZ6R N,xZE N,xZgT N,xZ2Q N,trivial⟩) fun a r s h=>by
     exact s.main [] trivial (.trans (by kernel_rfl) h)
theorem xZ7l (N:Nat):xZ1j.Ok prog N:=(xZ34 N).1
noncomputable def xZbh:Fn xZ4g:=⟨f151,[],⟨[],[],sbf,bof⟩,fun _=>[],[true],none,0,0,fun _ _=>true,none,[],[],[]⟩
theorem xZby:xZbh.Ok prog:=⟨Is.of (by kernel_rfl) (by kernel_rfl),by kernel_rfl,xZ6 sb_ok bo_ok,trivial,trivial,fun _=>by kernel_rfl⟩
theorem xZbn (N:Nat):xZ4g.Ok prog N:=xZby.give tb_ok hm N N (fun _=>trivial) fun a r s h=>by
 exact s.main [] trivial (.trans (by kernel_rfl) h)
noncomputable def xZdp:Fn xZ4z:=⟨f100,[],⟨[],[],sbf,bof⟩,fun _=>[],[true],none,0,0,fun _ _=>true,none,[],[],[]⟩
theorem xZdw:xZdp.Ok prog:=⟨Is.of (by kernel_rfl) (by kernel_rfl),by kernel_rfl,xZ6 sb_ok bo_ok,trivial,trivial,fun _=>by kernel_rfl⟩
theorem xZ9C (N:Nat):xZ4z.Ok prog N:=xZdw.give tb_ok hm N N (fun _=>trivial) fun a r s h=>by
 exact s.main [] trivial (.trans (by kernel_rfl) h)
noncomputable def xZc4:Fn xZ4Q:=⟨f101,[],⟨[],[],sbf,bof⟩,fun _=>[],[true],none,0,0,fun _ _=>true,none,[],[],[]⟩
theorem xZcj:xZc4.Ok prog:=⟨Is.of (by kernel_rfl) (by kernel_rfl),by kernel_rfl,xZ6 sb_ok bo_ok,trivial,trivial,fun _=>by kernel_rfl⟩
theorem xZcc (N:Nat):xZ4Q.Ok prog N:=xZcj.give tb_ok hm N N (fun _=>trivial) fun a r s h=>by
 exact s.main [] trivial (.trans (by kernel_rfl) h)
noncomputable def xZfd:Fn xZ8J:=⟨f102,[],⟨[],[],sbf,bof⟩,fun _=>[xZ4z],[true],none,0,0,fun _ _=>true,none,[],[],[]⟩
theorem xZfW:xZfd.Ok prog:=⟨Is.of (by kernel_rfl) (by kernel_rfl),by kernel_rfl,xZ6 sb_ok bo_ok,trivial,trivial,fun _=>by kernel_rfl⟩
theorem xZfu (N:Nat):xZ8J.Ok prog N:=xZfW.give tb_ok hm N N (fun _=>⟨xZ9C N,trivial⟩) fun a r s h=>by
 exact s.main [] trivial (.trans (by kernel_rfl) h)
noncomputable def xZfc:Fn xZ4J:=⟨f61,[],⟨[],[],sbf,bof⟩,fun _=>[xZ4z,xZ4Q,xZ8J],[true],none,0,0,fun _ _=>true,none,[],[],[]⟩
theorem xZfV:xZfc.Ok prog:=⟨Is.of (by kernel_rfl) (by kernel_rfl),by kernel_rfl,xZ6 sb_ok bo_ok,trivial,trivial,fun _=>by kernel_rfl⟩
theorem xZ8U (N:Nat):xZ4J.Ok prog N:=xZfV.give tb_ok hm N N (fun _=>⟨xZ9C N,xZcc N,xZfu N,trivial⟩) fun a r s h=>by
 have l0:=s.loop 0 xZ4D (xZ9H N) N fun next0 h0=>by
  exact fun c v=>s.seg 0 xZ4D [(0,.of xZ4D next0)] ⟨h0,trivial⟩ (by kernel_rfl) (by kernel_rfl)
 exact s.main [(0,.of xZ4D (xZdA N))] ⟨l0,trivial⟩ (.trans (by kernel_rfl) h)
noncomputable def xZgN:Fn xZa1:=⟨f170,[],⟨[],[],sbf,bof⟩,fun _=>[],[false],none,0,0,fun _ _=>true,none,[],[],[]⟩
theorem xZhN:xZgN.Ok prog:=⟨Is.of (by kernel_rfl) (by kernel_rfl),by kernel_rfl,xZ6 sb_ok bo_ok,trivial,trivial,fun _=>by kernel_rfl⟩
theorem xZhd (N:Nat):xZa1.Ok prog N:=xZhN.give tb_ok hm N N (fun _=>trivial) fun a r s h=>by
 exact s.main [] trivial (.trans (by kernel_rfl) h)
noncomputable def xZa3:Fn xZ3s:=⟨f205,[],⟨[],[],sbf,bof⟩,fun _=>[],[true],none,0,0,fun _ _=>true,none,[],[],[]⟩
theorem xZak:xZa3.Ok prog:=⟨Is.of (by kernel_rfl) (by kernel_rfl),by kernel_rfl,xZ6 sb_ok bo_ok,trivial,trivial,fun _=>by kernel_rfl⟩
theorem xZaf (N:Nat):xZ3s.Ok prog N:=xZak.give tb_ok hm N N (fun _=>trivial) fun a r s h=>by
 exact s.main [] trivial (.trans (by kernel_rfl) h)
noncomputable def xZbk:Fn xZ4k:=⟨f206,[],⟨[],[],sbf,bof⟩,fun _=>[],[true],none,0,0,fun _ _=>true,none,[],[],[]⟩
theorem xZbB:xZbk.Ok prog:=⟨Is.of (by kernel_rfl) (by kernel_rfl),by kernel_rfl,xZ6 sb_ok bo_ok,trivial,trivial,fun _=>by kernel_rfl⟩
theorem xZbq (N:Nat):xZ4k.Ok prog N:=xZbB.give tb_ok hm N N (fun _=>trivial) fun a r s h=>by
 exact s.main [] trivial (.trans (by kernel_rfl) h)
noncomputable def xZla:Fn xZdW:=⟨f148,[(161,.fb)],⟨[],[],sbf,bof⟩,fun _=>[],[true],none,0,0,fun _ _=>true,none,[],[],[]⟩
theorem xZlQ:xZla.Ok prog:=⟨Is.of (by kernel_rfl) (by kernel_rfl),by kernel_rfl,xZ6 sb_ok bo_ok,trivial,⟨ExtIs.mk' f161 (by kernel_rfl) (by kernel_rfl) (by kernel_rfl) (by kernel_rfl) (by kernel_rfl),trivial⟩,fun _=>by kernel_rfl⟩
theorem xZlj (N:Nat):xZdW.Ok prog N:=xZlQ.give tb_ok hm N N (fun _=>trivial) fun a r s h=>by
 exact s.main [] trivial (.trans (by kernel_rfl) h)
noncomputable def xZgr:Fn xZ9R:=⟨f139,[],⟨[],[],sbf,bof⟩,fun _=>[xZdW],[true],none,0,0,fun _ _=>true,none,[],[],[]⟩
theorem xZhw:xZgr.Ok prog:=⟨Is.of (by kernel_rfl) (by kernel_rfl),by kernel_rfl,xZ6 sb_ok bo_ok,trivial,trivial,fun _=>by kernel_rfl⟩
theorem xZgY (N:Nat):xZ9R.Ok prog N:=xZhw.give tb_ok hm N N (fun _=>⟨xZlj N,trivial⟩) fun a r s h=>by
 exact s.main [] trivial (.trans (by kernel_rfl) h)
noncomputable def xZa2:Fn xZ3r:=⟨f207,[],⟨[],[],sbf,bof⟩,fun _=>[],[true],none,0,0,fun _ _=>true,none,[],[],[]⟩
theorem xZaj:xZa2.Ok prog:=⟨Is.of (by kernel_rfl) (by kernel_rfl),by kernel_rfl,xZ6 sb_ok bo_ok,trivial,trivial,fun _=>by kernel_rfl⟩
theorem xZae (N:Nat):xZ3r.Ok prog N:=xZaj.give tb_ok hm N N (fun _=>trivial) fun a r s h=>by
 exact s.main [] trivial (.trans (by kernel_rfl) h)
noncomputable def xZat:Fn xZ3T:=⟨f208,[],⟨[],[],sbf,bof⟩,fun _=>[],[true],none,0,0,fun _ _=>true,none,[],[],[]⟩
theorem xZb3:xZat.Ok prog:=⟨Is.of (by kernel_rfl) (by kernel_rfl),by kernel_rfl,xZ6 sb_ok bo_ok,trivial,trivial,fun _=>by kernel_rfl⟩
theorem xZay (N:Nat):xZ3T.Ok prog N:=xZb3.give tb_ok hm N N (fun _=>trivial) fun a r s h=>by
 exact s.main [] trivial (.trans (by kernel_rfl) h)
noncomputable def xZff:Fn xZ8L:=⟨f165,[],⟨[],[],sbf,bof⟩,fun _=>[xZa1,xZ3s,xZ4k,xZ9R,xZ3r,xZ3T],[true],none,0,0,fun _ _=>true,none,[],[],[]⟩
theorem xZfY:xZff.Ok prog:=⟨Is.of (by kernel_rfl) (by kernel_rfl),by kernel_rfl,xZ6 sb_ok bo_ok,trivial,trivial,fun _=>by kernel_rfl⟩
theorem xZfw (N:Nat):xZ8L.Ok prog N:=xZfY.give tb_ok hm N N (fun _=>⟨xZhd N,xZaf N,xZbq N,xZgY N,xZae N,xZay N,trivial⟩) fun a r s h=>by
 exact s.main [] trivial (.trans (by kernel_rfl) h)
end
end
section
open Go.Proofs.Tryz
set_option maxRecDepth 1000000
noncomputable section
noncomputable def xZc3:Fn xZ4P:=⟨f153,[],⟨[],[],sbf,bof⟩,fun _=>[xZ4Z,xZ4J,xZ8L],[true],none,0,0,fun _ _=>true,none,[],[],[]⟩
theorem xZci:xZc3.Ok prog:=⟨Is.of (by kernel_rfl) (by kernel_rfl),by kernel_rfl,xZ6 sb_ok bo_ok,trivial,trivial,fun _=>by kernel_rfl⟩
theorem xZcb (N:Nat):xZ4P.Ok prog N:=xZci.give tb_ok hm N N (fun _=>⟨xZav N,xZ8U N,xZfw N,trivial⟩) fun a r s h=>by
 exact s.main [] trivial (.trans (by kernel_rfl) h)
noncomputable def xZe0:Fn xZ7y:=⟨f152,[],⟨[],[],sbf,bof⟩,fun _=>[xZ4P],[true],none,0,0,fun _ _=>true,none,[],[],[]⟩
theorem xZeu:xZe0.Ok prog:=⟨Is.of (by kernel_rfl) (by kernel_rfl),by kernel_rfl,xZ6 sb_ok bo_ok,trivial,trivial,fun _=>by kernel_rfl⟩
theorem xZe8 (N:Nat):xZ7y.Ok prog N:=xZeu.give tb_ok hm N N (fun _=>⟨xZcb N,trivial⟩) fun a r s h=>by
 exact s.main [] trivial (.trans (by kernel_rfl) h)
noncomputable def xZdZ:Fn xZ7x:=⟨f152,[],⟨[],[],sbf,bof⟩,fun _=>[xZ5E],[true],none,0,0,fun _ _=>true,none,[],[],[]⟩
theorem xZet:xZdZ.Ok prog:=⟨Is.of (by kernel_rfl) (by kernel_rfl),by kernel_rfl,xZ6 sb_ok bo_ok,trivial,trivial,fun _=>by kernel_rfl⟩
theorem xZe7 (N:Nat):xZ7x.Ok prog N:=xZet.give tb_ok hm N N (fun _=>⟨xZ8T N,trivial⟩) fun a r s h=>by
 exact s.main [] trivial (.trans (by kernel_rfl) h)
noncomputable def xZiR:Fn xZbd:=⟨f155,[],⟨[],[],sbf,bof⟩,fun _=>[],[true],none,0,0,fun _ _=>true,none,[],[],[]⟩
theorem xZjh:xZiR.Ok prog:=⟨Is.of (by kernel_rfl) (by kernel_rfl),by kernel_rfl,xZ6 sb_ok bo_ok,trivial,trivial,fun _=>by kernel_rfl⟩
theorem xZj2 (N:Nat):xZbd.Ok prog N:=xZjh.give tb_ok hm N N (fun _=>trivial) fun a r s h=>by
 exact s.main [] trivial (.trans (by kernel_rfl) h)
noncomputable def xZdm:Fn xZ6M:=⟨f156,[],⟨[],[],sbf,bof⟩,fun _=>[],[true],none,0,0,fun _ _=>true,none,[],[],[]⟩
theorem xZdv:xZdm.Ok prog:=⟨Is.of (by kernel_rfl) (by kernel_rfl),by kernel_rfl,xZ6 sb_ok bo_ok,trivial,trivial,fun _=>by kernel_rfl⟩
theorem xZdq (N:Nat):xZ6M.Ok prog N:=xZdv.give tb_ok hm N N (fun _=>trivial) fun a r s h=>by
 exact s.main [] trivial (.trans (by kernel_rfl) h)
noncomputable def xZ7G:Fn xZU:=⟨f145,[],⟨[],[],sbf,bof⟩,fun _=>[xZ4g,xZ7y,xZ7x,xZbd,xZ6M,xZU],[true],none,1,0,fun _ _=>true,none,[],[],[]⟩
theorem xZ42:xZ7G.Ok prog:=⟨Is.of (by kernel_rfl) (by kernel_rfl),by kernel_rfl,xZ6 sb_ok bo_ok,trivial,trivial,fun _=>by kernel_rfl⟩
theorem xZ3E:∀ N,xZU.Ok prog N
 | 0=>⟨xZ42.is.enters,fun a r h=>by (have h:none=some r:=h;cases h)⟩
 | N+1=>by
   obtain h_pred_checker_tree_v739:=xZ3E N
   ·exact xZ42.give tb_ok hm N (N+1) (fun _=>⟨xZbn N,xZe8 N,xZe7 N,xZj2 N,xZdq N,h_pred_checker_tree_v739,trivial⟩) fun a r s h=>by
     have l0:=s.loop 0 xZ1e (xZ36 N) N fun next0 h0=>by
      exact fun c v=>s.seg 0 xZ1e [(0,.of xZ1e next0)] ⟨h0,trivial⟩ (by kernel_rfl) (by kernel_rfl)
     exact s.main [(0,.of xZ1e (xZ7c N))] ⟨l0,trivial⟩ (.trans (by kernel_rfl) h)
theorem xZ7M (N:Nat):xZU.Ok prog N:=(xZ3E N)
noncomputable def xZgq:Fn xZ9Q:=⟨f129,[],⟨[],[],sbf,bof⟩,fun _=>[xZU],[true],none,0,0,fun _ _=>true,none,[],[],[]⟩
theorem xZhv:xZgq.Ok prog:=⟨Is.of (by kernel_rfl) (by kernel_rfl),by kernel_rfl,xZ6 sb_ok bo_ok,trivial,trivial,fun _=>by kernel_rfl⟩
theorem xZcN (N:Nat):xZ9Q.Ok prog N:=xZhv.give tb_ok hm N N (fun _=>⟨xZ7M N,trivial⟩) fun a r s h=>by
 exact s.main [] trivial (.trans (by kernel_rfl) h)
end
end
end Go.Proofs.YtmllclbhdmajmaaGreat.W
