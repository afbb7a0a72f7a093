/- The code, and what each function of it is walked to. No premise beyond what each theorem says. -/
import Derived.Test.YtbanfalnbhcknaaGreatDoorHG5
set_option linter.all false
set_option linter.unusedSimpArgs false
set_option linter.unusedVariables false
namespace Go.Proofs.YtbanfalnbhcknaaGreatDoor.H
open Go
section
open Go.Proofs.Tryz
set_option maxRecDepth 1000000
noncomputable section
noncomputable def xZd9:Fn xZ5C:=⟨f40,[],⟨[],[],sbf,bof⟩,fun _=>[xZ5M,xZ9d,xZ5g],[true],none,0,0,fun _ _=>true,none,[],[],[]⟩
theorem xZdk:xZd9.Ok prog:=⟨Is.of (by kernel_rfl) (by kernel_rfl),by kernel_rfl,xZ5 sb_ok bo_ok,trivial,trivial,fun _=>by kernel_rfl⟩
theorem xZde (N:Nat):xZ5C.Ok prog N:=xZdk.give tb_ok hm N N (fun _=>⟨xZbl N,xZhf N,xZ9v N,trivial⟩) fun a r s h=>by
 exact s.main [] trivial (.trans (by kernel_rfl) h)
noncomputable def xZfq:Fn xZ8h:=⟨f39,[],⟨[],[],sbf,bof⟩,fun _=>[xZ5C],[true],none,0,0,fun _ _=>true,none,[],[],[]⟩
theorem xZg3:xZfq.Ok prog:=⟨Is.of (by kernel_rfl) (by kernel_rfl),by kernel_rfl,xZ5 sb_ok bo_ok,trivial,trivial,fun _=>by kernel_rfl⟩
theorem xZfG (N:Nat):xZ8h.Ok prog N:=xZg3.give tb_ok hm N N (fun _=>⟨xZde N,trivial⟩) fun a r s h=>by
 exact s.main [] trivial (.trans (by kernel_rfl) h)
noncomputable def xZfp:Fn xZ8g:=⟨f39,[],⟨[],[],sbf,bof⟩,fun _=>[xZ6l],[true],none,0,0,fun _ _=>true,none,[],[],[]⟩
theorem xZg2:xZfp.Ok prog:=⟨Is.of (by kernel_rfl) (by kernel_rfl),by kernel_rfl,xZ5 sb_ok bo_ok,trivial,trivial,fun _=>by kernel_rfl⟩
theorem xZfF (N:Nat):xZ8g.Ok prog N:=xZg2.give tb_ok hm N N (fun _=>⟨xZ9s N,trivial⟩) fun a r s h=>by
 exact s.main [] trivial (.trans (by kernel_rfl) h)
noncomputable def xZkE:Fn xZc2:=⟨f42,[],⟨[],[],sbf,bof⟩,fun _=>[],[true],none,0,0,fun _ _=>true,none,[],[],[]⟩
theorem xZl5:xZkE.Ok prog:=⟨Is.of (by kernel_rfl) (by kernel_rfl),by kernel_rfl,xZ5 sb_ok bo_ok,trivial,trivial,fun _=>by kernel_rfl⟩
theorem xZkQ (N:Nat):xZc2.Ok prog N:=xZl5.give tb_ok hm N N (fun _=>trivial) fun a r s h=>by
 exact s.main [] trivial (.trans (by kernel_rfl) h)
noncomputable def xZeA:Fn xZ7t:=⟨f43,[],⟨[],[],sbf,bof⟩,fun _=>[],[true],none,0,0,fun _ _=>true,none,[],[],[]⟩
theorem xZeT:xZeA.Ok prog:=⟨Is.of (by kernel_rfl) (by kernel_rfl),by kernel_rfl,xZ5 sb_ok bo_ok,trivial,trivial,fun _=>by kernel_rfl⟩
theorem xZeH (N:Nat):xZ7t.Ok prog N:=xZeT.give tb_ok hm N N (fun _=>trivial) fun a r s h=>by
 exact s.main [] trivial (.trans (by kernel_rfl) h)
noncomputable def xZ8q:Fn xZ17:=⟨f27,[],⟨[],[],sbf,bof⟩,fun _=>[xZ4M,xZ8h,xZ8g,xZc2,xZ7t,xZ17],[true],none,1,0,fun _ _=>true,none,[],[],[]⟩
theorem xZ4z:xZ8q.Ok prog:=⟨Is.of (by kernel_rfl) (by kernel_rfl),by kernel_rfl,xZ5 sb_ok bo_ok,trivial,trivial,fun _=>by kernel_rfl⟩
theorem xZ4e:∀ N,xZ17.Ok prog N
 | 0=>⟨xZ4z.is.enters,fun a r h=>by (have h:none=some r:=h;cases h)⟩
 | N+1=>by
   obtain h_pred_checker_tree_v739:=xZ4e N
   ·exact xZ4z.give tb_ok hm N (N+1) (fun _=>⟨xZcj N,xZfG N,xZfF N,xZkQ N,xZeH N,h_pred_checker_tree_v739,trivial⟩) fun a r s h=>by
     have l0:=s.loop 0 xZ1u (xZ3F N) N fun next0 h0=>by
      exact fun c v=>s.seg 0 xZ1u [(0,.of xZ1u next0)] ⟨h0,trivial⟩ (by kernel_rfl) (by kernel_rfl)
     exact s.main [(0,.of xZ1u (xZ7S N))] ⟨l0,trivial⟩ (.trans (by kernel_rfl) h)
theorem xZ8v (N:Nat):xZ17.Ok prog N:=(xZ4e N)
noncomputable def xZil:Fn xZ8f:=⟨f13,[],⟨[],[],sbf,bof⟩,fun _=>[xZ17],[true],none,0,0,fun _ _=>true,none,[],[],[]⟩
theorem xZjk:xZil.Ok prog:=⟨Is.of (by kernel_rfl) (by kernel_rfl),by kernel_rfl,xZ5 sb_ok bo_ok,trivial,trivial,fun _=>by kernel_rfl⟩
theorem xZaV (N:Nat):xZ8f.Ok prog N:=xZjk.give tb_ok hm N N (fun _=>⟨xZ8v N,trivial⟩) fun a r s h=>by
 exact s.main [] trivial (.trans (by kernel_rfl) h)
end
end
end Go.Proofs.YtbanfalnbhcknaaGreatDoor.H
