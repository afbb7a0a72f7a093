/- The code, and what each function of it is walked to. No premise beyond what each theorem says. -/
import Derived.Test.YtmllclbhdmajmaaGreatWG9
set_option linter.all false
set_option linter.unusedSimpArgs false
set_option linter.unusedVariables false
namespace Go.Proofs.YtmllclbhdmajmaaGreat.W
open Go
section
open Go.Proofs.Tryz
set_option maxRecDepth 1000000
noncomputable section
noncomputable def xZgJ:Fn xZ5N:=⟨f71,[],⟨[],[],sbf,bof⟩,fun _=>[xZ5N,xZ5L],[true],none,0,0,fun _ _=>true,none,[],[],[]⟩
theorem xZd8:xZgJ.Ok prog:=⟨Is.of (by kernel_rfl) (by kernel_rfl),by kernel_rfl,xZ6 sb_ok bo_ok,trivial,trivial,fun _=>by kernel_rfl⟩
theorem xZbN:∀ N,xZ5N.Ok prog N
 | 0=>⟨xZd8.is.enters,fun a r h=>by (have h:none=some r:=h;cases h)⟩
 | N+1=>by
   obtain h_ref16_tied:=xZbN N
   ·exact xZd8.give tb_ok hm N (N+1) (fun _=>⟨h_ref16_tied,xZac N,trivial⟩) fun a r s h=>by
     exact s.main [] trivial (.trans (by kernel_rfl) h)
theorem xZh9 (N:Nat):xZ5N.Ok prog N:=(xZbN N)
noncomputable def xZgF:Fn xZ4h:=⟨f35,[],⟨[(21,2),(27,3),(39,2),(65,14),(101,3),(106,14),(128,14),(148,3),(152,3),(154,14)],[],sbf,bof⟩,fun _=>[xZ5K,xZ5M,xZ4h,xZ5N,xZ4y,xZ5L],[true,true],none,0,0,fun _ _=>true,none,[],[],[]⟩
theorem xZd7:xZgF.Ok prog:=⟨Is.of (by kernel_rfl) (by kernel_rfl),by kernel_rfl,xZ6 sb_ok bo_ok,trivial,trivial,fun _=>by kernel_rfl⟩
noncomputable def xZdn:Fn xZ4y:=⟨f72,[],⟨[(37,3)],[],sbf,bof⟩,fun _=>[xZ4h,xZ4y,xZ5L],[true,true],none,0,0,fun _ _=>true,none,[],[],[]⟩
theorem xZ9J:xZdn.Ok prog:=⟨Is.of (by kernel_rfl) (by kernel_rfl),by kernel_rfl,xZ6 sb_ok bo_ok,trivial,trivial,fun _=>by kernel_rfl⟩
theorem xZbM:∀ N,xZ4h.Ok prog N∧xZ4y.Ok prog N
 | 0=>⟨⟨xZd7.is.enters,fun a r h=>by (have h:none=some r:=h;cases h)⟩,⟨xZ9J.is.enters,fun a r h=>by (have h:none=some r:=h;cases h)⟩⟩
 | N+1=>by
   obtain ⟨h_ref16_come,h_ref16_perhaps⟩:=xZbM N
   refine ⟨?_,?_⟩
   ·exact xZd7.give tb_ok hm N (N+1) (fun _=>⟨xZab N,xZad N,h_ref16_come,xZh9 N,h_ref16_perhaps,xZac N,trivial⟩) fun a r s h=>by
     have l0:=s.loop 0 xZ5l (xZaO N) N fun next0 h0=>by
      exact fun c v=>s.seg 0 xZ5l [(0,.of xZ5l next0)] ⟨h0,trivial⟩ (by kernel_rfl) (by kernel_rfl)
     have l2:=s.loop 2 xZ5m (xZaP N) N fun next2 h2=>by
      exact fun c v=>s.seg 2 xZ5m [(2,.of xZ5m next2)] ⟨h2,trivial⟩ (by kernel_rfl) (by kernel_rfl)
     exact s.main [(0,.of xZ5l (xZeL N)),(2,.of xZ5m (xZeM N))] ⟨l0,l2,trivial⟩ (.trans (by kernel_rfl) h)
   ·exact xZ9J.give tb_ok hm N (N+1) (fun _=>⟨h_ref16_come,h_ref16_perhaps,xZac N,trivial⟩) fun a r s h=>by
     exact s.main [] trivial (.trans (by kernel_rfl) h)
theorem xZh7 (N:Nat):xZ4h.Ok prog N:=(xZbM N).1
noncomputable def xZf8:Fn xZ8H:=⟨f11,[],⟨[],[],sbf,bof⟩,fun _=>[xZ8F,xZ4I,xZ4h],[true,true],none,0,0,fun _ _=>true,none,[],[],[]⟩
theorem xZfT:xZf8.Ok prog:=⟨Is.of (by kernel_rfl) (by kernel_rfl),by kernel_rfl,xZ6 sb_ok bo_ok,trivial,trivial,fun _=>by kernel_rfl⟩
theorem xZfq (N:Nat):xZ8H.Ok prog N:=xZfT.give tb_ok hm N N (fun _=>⟨xZfo N,xZfs N,xZh7 N,trivial⟩) fun a r s h=>by
 exact s.main [] trivial (.trans (by kernel_rfl) h)
noncomputable def xZgD:Fn xZ7z:=⟨f42,[],⟨[],[],sbf,bof⟩,fun _=>[],[true],none,0,0,fun _ _=>true,none,[],[],[]⟩
theorem xZhG:xZgD.Ok prog:=⟨Is.of (by kernel_rfl) (by kernel_rfl),by kernel_rfl,xZ6 sb_ok bo_ok,trivial,trivial,fun _=>by kernel_rfl⟩
theorem xZcQ (N:Nat):xZ7z.Ok prog N:=xZhG.give tb_ok hm N N (fun _=>trivial) fun a r s h=>by
 exact s.main [] trivial (.trans (by kernel_rfl) h)
noncomputable def xZgE:Fn xZ7B:=⟨f17,[],⟨[],[],sbf,bof⟩,fun _=>[xZ7z],[true],none,0,0,fun _ _=>true,none,[],[],[]⟩
theorem xZhH:xZgE.Ok prog:=⟨Is.of (by kernel_rfl) (by kernel_rfl),by kernel_rfl,xZ6 sb_ok bo_ok,trivial,trivial,fun _=>by kernel_rfl⟩
theorem xZcR (N:Nat):xZ7B.Ok prog N:=xZhH.give tb_ok hm N N (fun _=>⟨xZcQ N,trivial⟩) fun a r s h=>by
 have l0:=s.loop 0 xZ5k (xZaN N) N fun next0 h0=>by
  exact fun c v=>s.seg 0 xZ5k [(0,.of xZ5k next0)] ⟨h0,trivial⟩ (by kernel_rfl) (by kernel_rfl)
 exact s.main [(0,.of xZ5k (xZeK N))] ⟨l0,trivial⟩ (.trans (by kernel_rfl) h)
noncomputable def xZgC:Fn xZ9X:=⟨f47,[],⟨[],[],sbf,bof⟩,fun _=>[xZ7B],[true],none,0,0,fun _ _=>true,none,[],[],[]⟩
theorem xZhF:xZgC.Ok prog:=⟨Is.of (by kernel_rfl) (by kernel_rfl),by kernel_rfl,xZ6 sb_ok bo_ok,trivial,trivial,fun _=>by kernel_rfl⟩
theorem xZh6 (N:Nat):xZ9X.Ok prog N:=xZhF.give tb_ok hm N N (fun _=>⟨xZcR N,trivial⟩) fun a r s h=>by
 have l0:=s.loop 0 xZ5j (xZaM N) N fun next0 h0=>by
  exact fun c v=>s.seg 0 xZ5j [(0,.of xZ5j next0)] ⟨h0,trivial⟩ (by kernel_rfl) (by kernel_rfl)
 exact s.main [(0,.of xZ5j (xZeJ N))] ⟨l0,trivial⟩ (.trans (by kernel_rfl) h)
noncomputable def xZf9:Fn xZ4H:=⟨f48,[],⟨[],[],sbf,bof⟩,fun _=>[xZ7z,xZ4H,xZ7B],[true],none,0,0,fun _ _=>true,none,[],[],[]⟩
theorem xZbT:xZf9.Ok prog:=⟨Is.of (by kernel_rfl) (by kernel_rfl),by kernel_rfl,xZ6 sb_ok bo_ok,trivial,trivial,fun _=>by kernel_rfl⟩
theorem xZaA:∀ N,xZ4H.Ok prog N
 | 0=>⟨xZbT.is.enters,fun a r h=>by (have h:none=some r:=h;cases h)⟩
 | N+1=>by
   obtain h_ref16_Loops:=xZaA N
   ·exact xZbT.give tb_ok hm N (N+1) (fun _=>⟨xZcQ N,h_ref16_Loops,xZcR N,trivial⟩) fun a r s h=>by
     have l0:=s.loop 0 xZ4A (xZ9E N) N fun next0 h0=>by
      exact fun c v=>s.seg 0 xZ4A [(0,.of xZ4A next0)] ⟨h0,trivial⟩ (by kernel_rfl) (by kernel_rfl)
     exact s.main [(0,.of xZ4A (xZdx N))] ⟨l0,trivial⟩ (.trans (by kernel_rfl) h)
theorem xZfr (N:Nat):xZ4H.Ok prog N:=(xZaA N)
noncomputable def xZgp:Fn xZ9P:=⟨f21,[],⟨[],[],sbf,bof⟩,fun _=>[xZ7w,xZ9X,xZ4H],[true],none,0,0,fun _ _=>true,none,[],[],[]⟩
theorem xZhu:xZgp.Ok prog:=⟨Is.of (by kernel_rfl) (by kernel_rfl),by kernel_rfl,xZ6 sb_ok bo_ok,trivial,trivial,fun _=>by kernel_rfl⟩
theorem xZgX (N:Nat):xZ9P.Ok prog N:=xZhu.give tb_ok hm N N (fun _=>⟨xZcM N,xZh6 N,xZfr N,trivial⟩) fun a r s h=>by
 have l0:=s.loop 0 xZ5e (xZaH N) N fun next0 h0=>by
  exact fun c v=>s.seg 0 xZ5e [(0,.of xZ5e next0)] ⟨h0,trivial⟩ (by kernel_rfl) (by kernel_rfl)
 exact s.main [(0,.of xZ5e (xZeE N))] ⟨l0,trivial⟩ (.trans (by kernel_rfl) h)
noncomputable def xZe2:Fn xZ7C:=⟨f46,[],⟨[],[],sbf,bof⟩,fun _=>[],[true],none,0,0,fun _ _=>true,none,[],[],[]⟩
theorem xZew:xZe2.Ok prog:=⟨Is.of (by kernel_rfl) (by kernel_rfl),by kernel_rfl,xZ6 sb_ok bo_ok,trivial,trivial,fun _=>by kernel_rfl⟩
theorem xZea (N:Nat):xZ7C.Ok prog N:=xZew.give tb_ok hm N N (fun _=>trivial) fun a r s h=>by
 exact s.main [] trivial (.trans (by kernel_rfl) h)
noncomputable def xZgI:Fn xZ9Y:=⟨f80,[],⟨[(2000018,16),(2000028,16)],[],sbf,bof⟩,fun _=>[],[true],none,0,0,fun _ _=>true,none,[],[],[]⟩
theorem xZhK:xZgI.Ok prog:=⟨Is.of (by kernel_rfl) (by kernel_rfl),by kernel_rfl,xZ6 sb_ok bo_ok,trivial,trivial,fun _=>by kernel_rfl⟩
theorem xZh8 (N:Nat):xZ9Y.Ok prog N:=xZhK.give tb_ok hm N N (fun _=>trivial) fun a r s h=>by
 have l0:=s.loop 0 xZ5o (xZaR N) N fun next0 h0=>by
  exact fun c v=>s.seg 0 xZ5o [(0,.of xZ5o next0)] ⟨h0,trivial⟩ (by kernel_rfl) (by kernel_rfl)
 exact s.main [(0,.of xZ5o (xZeO N))] ⟨l0,trivial⟩ (.trans (by kernel_rfl) h)
noncomputable def xZfb:Fn xZ8I:=⟨f81,[],⟨[(2000012,16),(2000016,16),(2000019,16)],[],sbf,bof⟩,fun _=>[],[true],none,0,0,fun _ _=>true,none,[],[],[]⟩
theorem xZfU:xZfb.Ok prog:=⟨Is.of (by kernel_rfl) (by kernel_rfl),by kernel_rfl,xZ6 sb_ok bo_ok,trivial,trivial,fun _=>by kernel_rfl⟩
theorem xZft (N:Nat):xZ8I.Ok prog N:=xZfU.give tb_ok hm N N (fun _=>trivial) fun a r s h=>by
 have l0:=s.loop 0 xZ4C (xZ9G N) N fun next0 h0=>by
  exact fun c v=>s.seg 0 xZ4C [(0,.of xZ4C next0)] ⟨h0,trivial⟩ (by kernel_rfl) (by kernel_rfl)
 exact s.main [(0,.of xZ4C (xZdz N))] ⟨l0,trivial⟩ (.trans (by kernel_rfl) h)
noncomputable def xZdo:Fn xZ31:=⟨f53,[],⟨[],[],sbf,bof⟩,fun _=>[xZ5K,xZ7C,xZ9Y,xZ5M,xZ31,xZ8I],[true],none,0,0,fun _ _=>true,none,[],[],[]⟩
theorem xZ9K:xZdo.Ok prog:=⟨Is.of (by kernel_rfl) (by kernel_rfl),by kernel_rfl,xZ6 sb_ok bo_ok,trivial,trivial,fun _=>by kernel_rfl⟩
theorem xZ8V:∀ N,xZ31.Ok prog N
 | 0=>⟨xZ9K.is.enters,fun a r h=>by (have h:none=some r:=h;cases h)⟩
 | N+1=>by
   obtain h_ref16_through:=xZ8V N
   ·exact xZ9K.give tb_ok hm N (N+1) (fun _=>⟨xZab N,xZea N,xZh8 N,xZad N,h_ref16_through,xZft N,trivial⟩) fun a r s h=>by
     have l0:=s.loop 0 xZ3e (xZ8d N) N fun next0 h0=>by
      exact fun c v=>s.seg 0 xZ3e [(0,.of xZ3e next0)] ⟨h0,trivial⟩ (by kernel_rfl) (by kernel_rfl)
     have l6:=s.loop 6 xZ3h (xZ8g N) N fun next6 h6=>by
      exact fun c v=>s.seg 6 xZ3h [(6,.of xZ3h next6)] ⟨h6,trivial⟩ (by kernel_rfl) (by kernel_rfl)
     have l4:=s.loop 4 xZ3g (xZ8f N) N fun next4 h4=>by
      exact fun c v=>s.seg 4 xZ3g [(4,.of xZ3g next4),(6,.of xZ3h (xZcr N))] ⟨h4,l6,trivial⟩ (by kernel_rfl) (by kernel_rfl)
     have l2:=s.loop 2 xZ3f (xZ8e N) N fun next2 h2=>by
      exact fun c v=>s.seg 2 xZ3f [(2,.of xZ3f next2),(4,.of xZ3g (xZcq N))] ⟨h2,l4,trivial⟩ (by kernel_rfl) (by kernel_rfl)
     exact s.main [(0,.of xZ3e (xZco N)),(2,.of xZ3f (xZcp N))] ⟨l0,l2,trivial⟩ (.trans (by kernel_rfl) h)
theorem xZdr (N:Nat):xZ31.Ok prog N:=(xZ8V N)
end
end
section
open Go.Proofs.Tryz
set_option maxRecDepth 1000000
noncomputable section
noncomputable def xZe1:Fn xZ7A:=⟨f25,[],⟨[(2000014,16)],[],sbf,bof⟩,fun _=>[xZ31],[true],none,0,0,fun _ _=>true,none,[],[],[]⟩
theorem xZev:xZe1.Ok prog:=⟨Is.of (by kernel_rfl) (by kernel_rfl),by kernel_rfl,xZ6 sb_ok bo_ok,trivial,trivial,fun _=>by kernel_rfl⟩
theorem xZe9 (N:Nat):xZ7A.Ok prog N:=xZev.give tb_ok hm N N (fun _=>⟨xZdr N,trivial⟩) fun a r s h=>by
 exact s.main [] trivial (.trans (by kernel_rfl) h)
noncomputable def xZc2:Fn xZ8b:=⟨f5,[],⟨[],[],sbf,bof⟩,fun _=>[xZ9N,xZbI,xZ9O,xZbc,xZ9M,xZ8H,xZ9P,xZ50,xZ7A],[true],none,0,0,fun _ _=>true,none,[],[],[]⟩
theorem xZch:xZc2.Ok prog:=⟨Is.of (by kernel_rfl) (by kernel_rfl),by kernel_rfl,xZ6 sb_ok bo_ok,trivial,trivial,fun _=>by kernel_rfl⟩
theorem xZca (N:Nat):xZ8b.Ok prog N:=xZch.give tb_ok hm N N (fun _=>⟨xZgV N,xZfj N,xZgW N,xZj1 N,xZgU N,xZfq N,xZgX N,xZ7J N,xZe9 N,trivial⟩) fun a r s h=>by
 exact s.main [] trivial (.trans (by kernel_rfl) h)
end
end
end Go.Proofs.YtmllclbhdmajmaaGreat.W
