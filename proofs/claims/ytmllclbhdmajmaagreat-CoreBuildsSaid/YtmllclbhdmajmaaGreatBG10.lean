/- The code, and what each function of it is walked to. No premise beyond what each theorem says. -/
import Derived.Test.YtmllclbhdmajmaaGreatBG9
set_option linter.all false
set_option linter.unusedSimpArgs false
set_option linter.unusedVariables false
namespace Go.Proofs.YtmllclbhdmajmaaGreat.B
open Go
section
open Go.Proofs.Tryz
set_option maxRecDepth 1000000
noncomputable section
noncomputable def xZgW:Fn xZ5U:=⟨f71,[],⟨[],[],sbf,bof⟩,fun _=>[xZ5U,xZ5T],[true],none,0,0,fun _ _=>true,none,[],[],[]⟩
theorem xZdy:xZgW.Ok prog:=⟨Is.of (by kernel_rfl) (by kernel_rfl),by kernel_rfl,xZ5 sb_ok bo_ok,trivial,trivial,fun _=>by kernel_rfl⟩
theorem xZci:∀ N,xZ5U.Ok prog N
 | 0=>⟨xZdy.is.enters,fun a r h=>by (have h:none=some r:=h;cases h)⟩
 | N+1=>by
   obtain h_ref16_tied:=xZci N
   ·exact xZdy.give tb_ok hm N (N+1) (fun _=>⟨h_ref16_tied,xZat N,trivial⟩) fun a r s h=>by
     exact s.main [] trivial (.trans (by kernel_rfl) h)
theorem xZhp (N:Nat):xZ5U.Ok prog N:=(xZci N)
noncomputable def xZgT:Fn xZ4x:=⟨f35,[],⟨[(21,2),(27,3),(39,2),(65,14),(101,3),(106,14),(128,14),(148,3),(152,3),(154,14)],[],sbf,bof⟩,fun _=>[xZ5S,xZ7U,xZ4x,xZ5U,xZ4L,xZ5T],[true,true],none,0,0,fun _ _=>true,none,[],[],[]⟩
theorem xZdx:xZgT.Ok prog:=⟨Is.of (by kernel_rfl) (by kernel_rfl),by kernel_rfl,xZ5 sb_ok bo_ok,trivial,trivial,fun _=>by kernel_rfl⟩
noncomputable def xZdP:Fn xZ4L:=⟨f72,[],⟨[(37,3)],[],sbf,bof⟩,fun _=>[xZ4x,xZ4L,xZ5T],[true,true],none,0,0,fun _ _=>true,none,[],[],[]⟩
theorem xZ9Y:xZdP.Ok prog:=⟨Is.of (by kernel_rfl) (by kernel_rfl),by kernel_rfl,xZ5 sb_ok bo_ok,trivial,trivial,fun _=>by kernel_rfl⟩
theorem xZch:∀ N,xZ4x.Ok prog N∧xZ4L.Ok prog N
 | 0=>⟨⟨xZdx.is.enters,fun a r h=>by (have h:none=some r:=h;cases h)⟩,⟨xZ9Y.is.enters,fun a r h=>by (have h:none=some r:=h;cases h)⟩⟩
 | N+1=>by
   obtain ⟨h_ref16_come,h_ref16_perhaps⟩:=xZch N
   refine ⟨?_,?_⟩
   ·exact xZdx.give tb_ok hm N (N+1) (fun _=>⟨xZas N,xZdj N,h_ref16_come,xZhp N,h_ref16_perhaps,xZat N,trivial⟩) fun a r s h=>by
     have l0:=s.loop 0 xZ5v (xZb5 N) N fun next0 h0=>by
      exact fun c v=>s.seg 0 xZ5v [(0,.of xZ5v next0)] ⟨h0,trivial⟩ (by kernel_rfl) (by kernel_rfl)
     have l2:=s.loop 2 xZ5w (xZb6 N) N fun next2 h2=>by
      exact fun c v=>s.seg 2 xZ5w [(2,.of xZ5w next2)] ⟨h2,trivial⟩ (by kernel_rfl) (by kernel_rfl)
     exact s.main [(0,.of xZ5v (xZfb N)),(2,.of xZ5w (xZfc N))] ⟨l0,l2,trivial⟩ (.trans (by kernel_rfl) h)
   ·exact xZ9Y.give tb_ok hm N (N+1) (fun _=>⟨h_ref16_come,h_ref16_perhaps,xZat N,trivial⟩) fun a r s h=>by
     exact s.main [] trivial (.trans (by kernel_rfl) h)
theorem xZho (N:Nat):xZ4x.Ok prog N:=(xZch N).1
noncomputable def xZfw:Fn xZ94:=⟨f11,[],⟨[],[],sbf,bof⟩,fun _=>[xZ6y,xZ4S,xZ4x],[true,true],none,0,0,fun _ _=>true,none,[],[],[]⟩
theorem xZg7:xZfw.Ok prog:=⟨Is.of (by kernel_rfl) (by kernel_rfl),by kernel_rfl,xZ5 sb_ok bo_ok,trivial,trivial,fun _=>by kernel_rfl⟩
theorem xZfK (N:Nat):xZ94.Ok prog N:=xZg7.give tb_ok hm N N (fun _=>⟨xZcc N,xZfL N,xZho N,trivial⟩) fun a r s h=>by
 exact s.main [] trivial (.trans (by kernel_rfl) h)
noncomputable def xZgz:Fn xZa1:=⟨f37,[],⟨[(28,1)],[],sbf,bof⟩,fun _=>[],[true],none,0,0,fun _ _=>true,none,[],[],[]⟩
theorem xZhG:xZgz.Ok prog:=⟨Is.of (by kernel_rfl) (by kernel_rfl),by kernel_rfl,xZ5 sb_ok bo_ok,trivial,trivial,fun _=>by kernel_rfl⟩
theorem xZh8 (N:Nat):xZa1.Ok prog N:=xZhG.give tb_ok hm N N (fun _=>trivial) fun a r s h=>by
 have l0:=s.loop 0 xZ5i (xZaS N) N fun next0 h0=>by
  exact fun c v=>s.seg 0 xZ5i [(0,.of xZ5i next0)] ⟨h0,trivial⟩ (by kernel_rfl) (by kernel_rfl)
 exact s.main [(0,.of xZ5i (xZeY N))] ⟨l0,trivial⟩ (.trans (by kernel_rfl) h)
noncomputable def xZgC:Fn xZa4:=⟨f13,[],⟨[(28,3),(55,2)],[],sbf,bof⟩,fun _=>[xZa1],[true],none,0,0,fun _ _=>true,none,[],[],[]⟩
theorem xZhJ:xZgC.Ok prog:=⟨Is.of (by kernel_rfl) (by kernel_rfl),by kernel_rfl,xZ5 sb_ok bo_ok,trivial,trivial,fun _=>by kernel_rfl⟩
theorem xZhb (N:Nat):xZa4.Ok prog N:=xZhJ.give tb_ok hm N N (fun _=>⟨xZh8 N,trivial⟩) fun a r s h=>by
 have l2:=s.loop 2 xZ5m (xZaW N) N fun next2 h2=>by
  exact fun c v=>s.seg 2 xZ5m [(2,.of xZ5m next2)] ⟨h2,trivial⟩ (by kernel_rfl) (by kernel_rfl)
 have l0:=s.loop 0 xZ5l (xZaV N) N fun next0 h0=>by
  exact fun c v=>s.seg 0 xZ5l [(0,.of xZ5l next0),(2,.of xZ5m (xZf2 N))] ⟨h0,l2,trivial⟩ (by kernel_rfl) (by kernel_rfl)
 exact s.main [(0,.of xZ5l (xZf1 N))] ⟨l0,trivial⟩ (.trans (by kernel_rfl) h)
noncomputable def xZgJ:Fn xZaa:=⟨f36,[],⟨[],[],sbf,bof⟩,fun _=>[],[true],none,0,0,fun _ _=>true,none,[],[],[]⟩
theorem xZhQ:xZgJ.Ok prog:=⟨Is.of (by kernel_rfl) (by kernel_rfl),by kernel_rfl,xZ5 sb_ok bo_ok,trivial,trivial,fun _=>by kernel_rfl⟩
theorem xZhg (N:Nat):xZaa.Ok prog N:=xZhQ.give tb_ok hm N N (fun _=>trivial) fun a r s h=>by
 have l0:=s.loop 0 xZ5o (xZaY N) N fun next0 h0=>by
  exact fun c v=>s.seg 0 xZ5o [(0,.of xZ5o next0)] ⟨h0,trivial⟩ (by kernel_rfl) (by kernel_rfl)
 exact s.main [(0,.of xZ5o (xZf4 N))] ⟨l0,trivial⟩ (.trans (by kernel_rfl) h)
noncomputable def xZgR:Fn xZae:=⟨f12,[],⟨[],[],sbf,bof⟩,fun _=>[xZaa],[true],none,0,0,fun _ _=>true,none,[],[],[]⟩
theorem xZhW:xZgR.Ok prog:=⟨Is.of (by kernel_rfl) (by kernel_rfl),by kernel_rfl,xZ5 sb_ok bo_ok,trivial,trivial,fun _=>by kernel_rfl⟩
theorem xZhm (N:Nat):xZae.Ok prog N:=xZhW.give tb_ok hm N N (fun _=>⟨xZhg N,trivial⟩) fun a r s h=>by
 have l2:=s.loop 2 xZ5t (xZb3 N) N fun next2 h2=>by
  exact fun c v=>s.seg 2 xZ5t [(2,.of xZ5t next2)] ⟨h2,trivial⟩ (by kernel_rfl) (by kernel_rfl)
 have l0:=s.loop 0 xZ5s (xZb2 N) N fun next0 h0=>by
  exact fun c v=>s.seg 0 xZ5s [(0,.of xZ5s next0),(2,.of xZ5t (xZf9 N))] ⟨h0,l2,trivial⟩ (by kernel_rfl) (by kernel_rfl)
 exact s.main [(0,.of xZ5s (xZf8 N))] ⟨l0,trivial⟩ (.trans (by kernel_rfl) h)
noncomputable def xZj6:Fn xZbz:=⟨f15,[],⟨[(28,3),(55,2)],[],sbf,bof⟩,fun _=>[xZ9D],[true],none,0,0,fun _ _=>true,none,[],[],[]⟩
theorem xZjF:xZj6.Ok prog:=⟨Is.of (by kernel_rfl) (by kernel_rfl),by kernel_rfl,xZ5 sb_ok bo_ok,trivial,trivial,fun _=>by kernel_rfl⟩
theorem xZjl (N:Nat):xZbz.Ok prog N:=xZjF.give tb_ok hm N N (fun _=>⟨xZe9 N,trivial⟩) fun a r s h=>by
 have l2:=s.loop 2 xZ6O (xZco N) N fun next2 h2=>by
  exact fun c v=>s.seg 2 xZ6O [(2,.of xZ6O next2)] ⟨h2,trivial⟩ (by kernel_rfl) (by kernel_rfl)
 have l0:=s.loop 0 xZ6N (xZcn N) N fun next0 h0=>by
  exact fun c v=>s.seg 0 xZ6N [(0,.of xZ6N next0),(2,.of xZ6O (xZgm N))] ⟨h0,l2,trivial⟩ (by kernel_rfl) (by kernel_rfl)
 exact s.main [(0,.of xZ6N (xZgl N))] ⟨l0,trivial⟩ (.trans (by kernel_rfl) h)
noncomputable def xZ80:Fn xZ2a:=⟨f38,[],⟨[],[],sbf,bof⟩,fun _=>[],[true],none,0,0,fun _ _=>true,none,[],[],[]⟩
theorem xZ8d:xZ80.Ok prog:=⟨Is.of (by kernel_rfl) (by kernel_rfl),by kernel_rfl,xZ5 sb_ok bo_ok,trivial,trivial,fun _=>by kernel_rfl⟩
theorem xZ88 (N:Nat):xZ2a.Ok prog N:=xZ8d.give tb_ok hm N N (fun _=>trivial) fun a r s h=>by
 have l0:=s.loop 0 xZ1h (xZ3n N) N fun next0 h0=>by
  exact fun c v=>s.seg 0 xZ1h [(0,.of xZ1h next0)] ⟨h0,trivial⟩ (by kernel_rfl) (by kernel_rfl)
 exact s.main [(0,.of xZ1h (xZ7r N))] ⟨l0,trivial⟩ (.trans (by kernel_rfl) h)
noncomputable def xZ81:Fn xZ2b:=⟨f111,[],⟨[],[],sbf,bof⟩,fun _=>[],[true],none,0,0,fun _ _=>true,none,[],[],[]⟩
theorem xZ8e:xZ81.Ok prog:=⟨Is.of (by kernel_rfl) (by kernel_rfl),by kernel_rfl,xZ5 sb_ok bo_ok,trivial,trivial,fun _=>by kernel_rfl⟩
theorem xZ89 (N:Nat):xZ2b.Ok prog N:=xZ8e.give tb_ok hm N N (fun _=>trivial) fun a r s h=>by
 have l0:=s.loop 0 xZ1i (xZ3o N) N fun next0 h0=>by
  exact fun c v=>s.seg 0 xZ1i [(0,.of xZ1i next0)] ⟨h0,trivial⟩ (by kernel_rfl) (by kernel_rfl)
 exact s.main [(0,.of xZ1i (xZ7s N))] ⟨l0,trivial⟩ (.trans (by kernel_rfl) h)
noncomputable def xZj8:Fn xZbB:=⟨f74,[],⟨[],[],sbf,bof⟩,fun _=>[xZ2b],[true],none,0,0,fun _ _=>true,none,[],[],[]⟩
theorem xZjH:xZj8.Ok prog:=⟨Is.of (by kernel_rfl) (by kernel_rfl),by kernel_rfl,xZ5 sb_ok bo_ok,trivial,trivial,fun _=>by kernel_rfl⟩
theorem xZjn (N:Nat):xZbB.Ok prog N:=xZjH.give tb_ok hm N N (fun _=>⟨xZ89 N,trivial⟩) fun a r s h=>by
 exact s.main [] trivial (.trans (by kernel_rfl) h)
noncomputable def xZj3:Fn xZbx:=⟨f40,[],⟨[],[],sbf,bof⟩,fun _=>[xZbB],[true],none,0,0,fun _ _=>true,none,[],[],[]⟩
theorem xZjC:xZj3.Ok prog:=⟨Is.of (by kernel_rfl) (by kernel_rfl),by kernel_rfl,xZ5 sb_ok bo_ok,trivial,trivial,fun _=>by kernel_rfl⟩
theorem xZjj (N:Nat):xZbx.Ok prog N:=xZjC.give tb_ok hm N N (fun _=>⟨xZjn N,trivial⟩) fun a r s h=>by
 exact s.main [] trivial (.trans (by kernel_rfl) h)
end
end
section
open Go.Proofs.Tryz
set_option maxRecDepth 1000000
noncomputable section
noncomputable def xZ44:Fn xZU:=⟨f39,[],⟨[],[],sbf,bof⟩,fun _=>[xZbx],[true],none,0,0,fun _ _=>true,none,[],[],[]⟩
theorem xZ4f:xZ44.Ok prog:=⟨Is.of (by kernel_rfl) (by kernel_rfl),by kernel_rfl,xZ5 sb_ok bo_ok,trivial,trivial,fun _=>by kernel_rfl⟩
theorem xZ47 (N:Nat):xZU.Ok prog N:=xZ4f.give tb_ok hm N N (fun _=>⟨xZjj N,trivial⟩) fun a r s h=>by
 have l0:=s.loop 0 xZv (xZ1G N) N fun next0 h0=>by
  exact fun c v=>s.seg 0 xZv [(0,.of xZv next0)] ⟨h0,trivial⟩ (by kernel_rfl) (by kernel_rfl)
 exact s.main [(0,.of xZv (xZ3I N))] ⟨l0,trivial⟩ (.trans (by kernel_rfl) h)
noncomputable def xZiY:Fn xZbt:=⟨f14,[],⟨[],[],sbf,bof⟩,fun _=>[xZ2a,xZU],[true],none,0,0,fun _ _=>true,none,[],[],[]⟩
theorem xZjx:xZiY.Ok prog:=⟨Is.of (by kernel_rfl) (by kernel_rfl),by kernel_rfl,xZ5 sb_ok bo_ok,trivial,trivial,fun _=>by kernel_rfl⟩
theorem xZjf (N:Nat):xZbt.Ok prog N:=xZjx.give tb_ok hm N N (fun _=>⟨xZ88 N,xZ47 N,trivial⟩) fun a r s h=>by
 exact s.main [] trivial (.trans (by kernel_rfl) h)
noncomputable def xZgQ:Fn xZad:=⟨f42,[],⟨[],[],sbf,bof⟩,fun _=>[],[true],none,0,0,fun _ _=>true,none,[],[],[]⟩
theorem xZhV:xZgQ.Ok prog:=⟨Is.of (by kernel_rfl) (by kernel_rfl),by kernel_rfl,xZ5 sb_ok bo_ok,trivial,trivial,fun _=>by kernel_rfl⟩
theorem xZhl (N:Nat):xZad.Ok prog N:=xZhV.give tb_ok hm N N (fun _=>trivial) fun a r s h=>by
 exact s.main [] trivial (.trans (by kernel_rfl) h)
noncomputable def xZgS:Fn xZaf:=⟨f17,[],⟨[],[],sbf,bof⟩,fun _=>[xZad],[true],none,0,0,fun _ _=>true,none,[],[],[]⟩
theorem xZhX:xZgS.Ok prog:=⟨Is.of (by kernel_rfl) (by kernel_rfl),by kernel_rfl,xZ5 sb_ok bo_ok,trivial,trivial,fun _=>by kernel_rfl⟩
theorem xZhn (N:Nat):xZaf.Ok prog N:=xZhX.give tb_ok hm N N (fun _=>⟨xZhl N,trivial⟩) fun a r s h=>by
 have l0:=s.loop 0 xZ5u (xZb4 N) N fun next0 h0=>by
  exact fun c v=>s.seg 0 xZ5u [(0,.of xZ5u next0)] ⟨h0,trivial⟩ (by kernel_rfl) (by kernel_rfl)
 exact s.main [(0,.of xZ5u (xZfa N))] ⟨l0,trivial⟩ (.trans (by kernel_rfl) h)
noncomputable def xZj2:Fn xZbw:=⟨f43,[],⟨[],[],sbf,bof⟩,fun _=>[],[true],none,0,0,fun _ _=>true,none,[],[],[]⟩
theorem xZjB:xZj2.Ok prog:=⟨Is.of (by kernel_rfl) (by kernel_rfl),by kernel_rfl,xZ5 sb_ok bo_ok,trivial,trivial,fun _=>by kernel_rfl⟩
theorem xZji (N:Nat):xZbw.Ok prog N:=xZjB.give tb_ok hm N N (fun _=>trivial) fun a r s h=>by
 exact s.main [] trivial (.trans (by kernel_rfl) h)
noncomputable def xZep:Fn xZ7R:=⟨f19,[],⟨[(25,0)],[],sbf,bof⟩,fun _=>[xZ6z,xZbw,xZ6x],[true],none,0,0,fun _ _=>true,none,[],[],[]⟩
theorem xZeQ:xZep.Ok prog:=⟨Is.of (by kernel_rfl) (by kernel_rfl),by kernel_rfl,xZ5 sb_ok bo_ok,trivial,trivial,fun _=>by kernel_rfl⟩
theorem xZex (N:Nat):xZ7R.Ok prog N:=xZeQ.give tb_ok hm N N (fun _=>⟨xZcd N,xZji N,xZcb N,trivial⟩) fun a r s h=>by
 have l0:=s.loop 0 xZ4h (xZ9k N) N fun next0 h0=>by
  exact fun c v=>s.seg 0 xZ4h [(0,.of xZ4h next0)] ⟨h0,trivial⟩ (by kernel_rfl) (by kernel_rfl)
 exact s.main [(0,.of xZ4h (xZdD N))] ⟨l0,trivial⟩ (.trans (by kernel_rfl) h)
noncomputable def xZes:Fn xZ7V:=⟨f46,[],⟨[],[],sbf,bof⟩,fun _=>[],[true],none,0,0,fun _ _=>true,none,[],[],[]⟩
theorem xZeT:xZes.Ok prog:=⟨Is.of (by kernel_rfl) (by kernel_rfl),by kernel_rfl,xZ5 sb_ok bo_ok,trivial,trivial,fun _=>by kernel_rfl⟩
theorem xZeA (N:Nat):xZ7V.Ok prog N:=xZeT.give tb_ok hm N N (fun _=>trivial) fun a r s h=>by
 exact s.main [] trivial (.trans (by kernel_rfl) h)
noncomputable def xZdO:Fn xZ72:=⟨f20,[],⟨[(36,0)],[],sbf,bof⟩,fun _=>[xZ6y,xZ5S,xZ7V],[true],none,0,0,fun _ _=>true,none,[],[],[]⟩
theorem xZdZ:xZdO.Ok prog:=⟨Is.of (by kernel_rfl) (by kernel_rfl),by kernel_rfl,xZ5 sb_ok bo_ok,trivial,trivial,fun _=>by kernel_rfl⟩
theorem xZdS (N:Nat):xZ72.Ok prog N:=xZdZ.give tb_ok hm N N (fun _=>⟨xZcc N,xZas N,xZeA N,trivial⟩) fun a r s h=>by
 have l0:=s.loop 0 xZ3u (xZ8D N) N fun next0 h0=>by
  exact fun c v=>s.seg 0 xZ3u [(0,.of xZ3u next0)] ⟨h0,trivial⟩ (by kernel_rfl) (by kernel_rfl)
 exact s.main [(0,.of xZ3u (xZcT N))] ⟨l0,trivial⟩ (.trans (by kernel_rfl) h)
noncomputable def xZcy:Fn xZ51:=⟨f18,[],⟨[],[],sbf,bof⟩,fun _=>[],[true],none,0,0,fun _ _=>true,none,[],[],[]⟩
theorem xZcN:xZcy.Ok prog:=⟨Is.of (by kernel_rfl) (by kernel_rfl),by kernel_rfl,xZ5 sb_ok bo_ok,trivial,trivial,fun _=>by kernel_rfl⟩
theorem xZcG (N:Nat):xZ51.Ok prog N:=xZcN.give tb_ok hm N N (fun _=>trivial) fun a r s h=>by
 have l0:=s.loop 0 xZ2z (xZ6F N) N fun next0 h0=>by
  exact fun c v=>s.seg 0 xZ2z [(0,.of xZ2z next0)] ⟨h0,trivial⟩ (by kernel_rfl) (by kernel_rfl)
 exact s.main [(0,.of xZ2z (xZbp N))] ⟨l0,trivial⟩ (.trans (by kernel_rfl) h)
noncomputable def xZbF:Fn xZ7x:=⟨f3,[],⟨[],[],sbf,bof⟩,fun _=>[xZa3,xZca,xZby,xZa0,xZ94,xZa4,xZae,xZbz,xZbt,xZ7w,xZaf,xZ7R,xZ72,xZ51],[true],none,0,0,fun _ _=>true,none,[],[],[]⟩
theorem xZbZ:xZbF.Ok prog:=⟨Is.of (by kernel_rfl) (by kernel_rfl),by kernel_rfl,xZ5 sb_ok bo_ok,trivial,trivial,fun _=>by kernel_rfl⟩
theorem xZbO (N:Nat):xZ7x.Ok prog N:=xZbZ.give tb_ok hm N N (fun _=>⟨xZha N,xZfE N,xZjk N,xZh7 N,xZfK N,xZhb N,xZhm N,xZjl N,xZjf N,xZbN N,xZhn N,xZex N,xZdS N,xZcG N,trivial⟩) fun a r s h=>by
 exact s.main [] trivial (.trans (by kernel_rfl) h)
end
end
end Go.Proofs.YtmllclbhdmajmaaGreat.B
