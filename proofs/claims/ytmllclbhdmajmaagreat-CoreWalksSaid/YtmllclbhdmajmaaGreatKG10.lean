/- The code, and what each function of it is walked to. No premise beyond what each theorem says. -/
import Derived.Test.YtmllclbhdmajmaaGreatKG9
set_option linter.all false
set_option linter.unusedSimpArgs false
set_option linter.unusedVariables false
namespace Go.Proofs.YtmllclbhdmajmaaGreat.K
open Go
section
open Go.Proofs.Tryz
set_option maxRecDepth 1000000
noncomputable section
noncomputable def xZep:Fn xZ8N:=⟨f26,[],⟨[],[],sbf,bof⟩,fun _=>[xZ8L,xZ5K],[true],none,0,0,fun _ _=>true,none,[],[],[]⟩
theorem xZf3:xZep.Ok prog:=⟨Is.of (by kernel_rfl) (by kernel_rfl),by kernel_rfl,xZ6 sb_ok bo_ok,trivial,trivial,fun _=>by kernel_rfl⟩
theorem xZeG (N:Nat):xZ8N.Ok prog N:=xZf3.give tb_ok hm N N (fun _=>⟨xZeE N,xZg9 N,trivial⟩) fun a r s h=>by
 exact s.main [] trivial (.trans (by kernel_rfl) h)
noncomputable def xZfL:Fn xZ7L:=⟨f84,[],⟨[],[],sbf,bof⟩,fun _=>[],[true],none,0,0,fun _ _=>true,none,[],[],[]⟩
theorem xZgH:xZfL.Ok prog:=⟨Is.of (by kernel_rfl) (by kernel_rfl),by kernel_rfl,xZ6 sb_ok bo_ok,trivial,trivial,fun _=>by kernel_rfl⟩
theorem xZct (N:Nat):xZ7L.Ok prog N:=xZgH.give tb_ok hm N N (fun _=>trivial) fun a r s h=>by
 exact s.main [] trivial (.trans (by kernel_rfl) h)
noncomputable def xZ6T:Fn xZ22:=⟨f85,[],⟨[],[],sbf,bof⟩,fun _=>[],[true],none,1,0,fun _ _=>true,none,[],[],[]⟩
theorem xZ72:xZ6T.Ok prog:=⟨Is.of (by kernel_rfl) (by kernel_rfl),by kernel_rfl,xZ6 sb_ok bo_ok,trivial,trivial,fun _=>by kernel_rfl⟩
theorem xZ6X (N:Nat):xZ22.Ok prog N:=xZ72.give tb_ok hm N N (fun _=>trivial) fun a r s h=>by
 exact s.main [] trivial (.trans (by kernel_rfl) h)
noncomputable def xZ6U:Fn xZ23:=⟨f85,[],⟨[],[],sbf,bof⟩,fun _=>[],[true],none,1,1,fun _ _=>true,none,[],[],[]⟩
theorem xZ73:xZ6U.Ok prog:=⟨Is.of (by kernel_rfl) (by kernel_rfl),by kernel_rfl,xZ6 sb_ok bo_ok,trivial,trivial,fun _=>by kernel_rfl⟩
theorem xZ6Y (N:Nat):xZ23.Ok prog N:=xZ73.give tb_ok hm N N (fun _=>trivial) fun a r s h=>by
 exact s.main [] trivial (.trans (by kernel_rfl) h)
noncomputable def xZ7R:Fn xZ12:=⟨f55,[],⟨[(57,13)],[],sbf,bof⟩,fun _=>[xZ7L,xZ23,xZ5L,xZ12],[],none,1,1,fun _ _=>true,some EqR.cls,[],[],[]⟩
theorem xZ4q:xZ7R.Ok prog:=⟨Is.of (by kernel_rfl) (by kernel_rfl),by kernel_rfl,xZ6 sb_ok bo_ok,trivial,trivial,fun _=>by kernel_rfl⟩
theorem xZ40:∀ N,xZ12.Ok prog N
 | 0=>⟨xZ4q.is.enters,fun a r h=>by (have h:none=some r:=h;cases h)⟩
 | N+1=>by
   obtain h_scope_walker_tree_v950:=xZ40 N
   ·exact xZ4q.give tb_ok hm N (N+1) (fun _=>⟨xZct N,xZ6Y N,xZa0 N,h_scope_walker_tree_v950,trivial⟩) fun a r s h=>by
     have l3:=s.loop 3 xZ1t (xZ3z N) N fun next3 h3=>by
      exact fun c v=>s.seg 3 xZ1t [(3,.of xZ1t next3)] ⟨h3,trivial⟩ (by kernel_rfl) (by kernel_rfl)
     have l5:=s.loop 5 xZ1u (xZ3A N) N fun next5 h5=>by
      exact fun c v=>s.seg 5 xZ1u [(5,.of xZ1u next5)] ⟨h5,trivial⟩ (by kernel_rfl) (by kernel_rfl)
     have l1:=s.loop 1 xZ1s (xZ3y N) N fun next1 h1=>by
      exact fun c v=>s.seg 1 xZ1s [(1,.of xZ1s next1)] ⟨h1,trivial⟩ (by kernel_rfl) (by kernel_rfl)
     exact s.main [(3,.of xZ1t (xZ7o N)),(5,.of xZ1u (xZ7p N)),(1,.of xZ1s (xZ7n N))] ⟨l3,l5,l1,trivial⟩ (.trans (by kernel_rfl) h)
theorem xZ80 (N:Nat):xZ12.Ok prog N:=(xZ40 N)
noncomputable def xZ7Q:Fn xZ11:=⟨f55,[],⟨[(57,13)],[],sbf,bof⟩,fun _=>[xZ7L,xZ22,xZ5L,xZ11,xZ12],[],none,1,0,fun _ _=>true,some EqR.cls,[],[],[]⟩
theorem xZ4p:xZ7Q.Ok prog:=⟨Is.of (by kernel_rfl) (by kernel_rfl),by kernel_rfl,xZ6 sb_ok bo_ok,trivial,trivial,fun _=>by kernel_rfl⟩
theorem xZ3Z:∀ N,xZ11.Ok prog N
 | 0=>⟨xZ4p.is.enters,fun a r h=>by (have h:none=some r:=h;cases h)⟩
 | N+1=>by
   obtain h_scope_walker_tree_v577:=xZ3Z N
   ·exact xZ4p.give tb_ok hm N (N+1) (fun _=>⟨xZct N,xZ6X N,xZa0 N,h_scope_walker_tree_v577,xZ80 N,trivial⟩) fun a r s h=>by
     have l3:=s.loop 3 xZ1q (xZ3w N) N fun next3 h3=>by
      exact fun c v=>s.seg 3 xZ1q [(3,.of xZ1q next3)] ⟨h3,trivial⟩ (by kernel_rfl) (by kernel_rfl)
     have l5:=s.loop 5 xZ1r (xZ3x N) N fun next5 h5=>by
      exact fun c v=>s.seg 5 xZ1r [(5,.of xZ1r next5)] ⟨h5,trivial⟩ (by kernel_rfl) (by kernel_rfl)
     have l1:=s.loop 1 xZ1p (xZ3v N) N fun next1 h1=>by
      exact fun c v=>s.seg 1 xZ1p [(1,.of xZ1p next1)] ⟨h1,trivial⟩ (by kernel_rfl) (by kernel_rfl)
     exact s.main [(3,.of xZ1q (xZ7l N)),(5,.of xZ1r (xZ7m N)),(1,.of xZ1p (xZ7k N))] ⟨l3,l5,l1,trivial⟩ (.trans (by kernel_rfl) h)
theorem xZ7Z (N:Nat):xZ11.Ok prog N:=(xZ3Z N)
noncomputable def xZfK:Fn xZ9O:=⟨f27,[],⟨[],[],sbf,bof⟩,fun _=>[xZ6m,xZ11],[true],none,0,0,fun _ _=>true,none,[],[],[]⟩
theorem xZgG:xZfK.Ok prog:=⟨Is.of (by kernel_rfl) (by kernel_rfl),by kernel_rfl,xZ6 sb_ok bo_ok,trivial,trivial,fun _=>by kernel_rfl⟩
theorem xZga (N:Nat):xZ9O.Ok prog N:=xZgG.give tb_ok hm N N (fun _=>⟨xZbq N,xZ7Z N,trivial⟩) fun a r s h=>by
 exact s.main [] trivial (.trans (by kernel_rfl) h)
noncomputable def xZbJ:Fn xZ8m:=⟨f6,[],⟨[(153,0)],[],sbf,bof⟩,fun _=>[xZ9E,xZbp,xZaT,xZ9C,xZ8N,xZ9O,xZ5e],[true],none,0,0,fun _ _=>true,none,[],[],[]⟩
theorem xZbZ:xZbJ.Ok prog:=⟨Is.of (by kernel_rfl) (by kernel_rfl),by kernel_rfl,xZ6 sb_ok bo_ok,trivial,trivial,fun _=>by kernel_rfl⟩
theorem xZbR (N:Nat):xZ8m.Ok prog N:=xZbZ.give tb_ok hm N N (fun _=>⟨xZfY N,xZez N,xZhU N,xZfW N,xZeG N,xZga N,xZ7V N,trivial⟩) fun a r s h=>by
 have l4:=s.loop 4 xZ2J (xZ6u N) N fun next4 h4=>by
  exact fun c v=>s.seg 4 xZ2J [(4,.of xZ2J next4)] ⟨h4,trivial⟩ (by kernel_rfl) (by kernel_rfl)
 have l0:=s.loop 0 xZ1Y (xZ6s N) N fun next0 h0=>by
  have l2:=s.loop 2 xZ2I (xZ6t N next0) N fun next2 h2=>by
   exact fun c v=>s.seg 2 xZ2I [(0,.of xZ1Y next0),(2,.of xZ2I next2)] ⟨h0,h2,trivial⟩ (by kernel_rfl) (by kernel_rfl)
  exact fun c v=>s.seg 0 xZ1Y [(0,.of xZ1Y next0),(2,.of xZ2I (xZaM N next0)),(4,.of xZ2J (xZaN N))] ⟨h0,l2,l4,trivial⟩ (by kernel_rfl) (by kernel_rfl)
 exact s.main [(0,.of xZ1Y (xZaL N))] ⟨l0,trivial⟩ (.trans (by kernel_rfl) h)
end
end
end Go.Proofs.YtmllclbhdmajmaaGreat.K
