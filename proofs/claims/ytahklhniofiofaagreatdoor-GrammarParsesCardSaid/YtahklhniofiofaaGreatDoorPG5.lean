/- The code, and what each function of it is walked to. No premise beyond what each theorem says. -/
import Derived.Test.YtahklhniofiofaaGreatDoorPG4
set_option linter.all false
set_option linter.unusedSimpArgs false
set_option linter.unusedVariables false
namespace Go.Proofs.YtahklhniofiofaaGreatDoor.P
open Go
section
open Go.Proofs.Tryz
set_option maxRecDepth 1000000
noncomputable section
noncomputable def xZnQ:Fn xZeD:=⟨f103,[],⟨[],[],sbf,bof⟩,fun _=>[],[true],none,0,0,fun _ _=>true,none,[],[]⟩
theorem xZnS:xZnQ.Ok prog:=⟨Is.of (by kernel_rfl) (by kernel_rfl),by kernel_rfl,xZ9 sb_ok bo_ok,trivial,trivial,fun _=>by kernel_rfl⟩
theorem xZni (N:Nat):xZeD.Ok prog N:=xZnS.give tb_ok hm N N (fun _=>trivial) fun a r s h=>by
 exact s.main [] trivial (.trans (by kernel_rfl) h)
noncomputable def xZiS:Fn xZbO:=⟨f134,[],⟨[],[],sbf,bof⟩,fun _=>[],[true],none,0,0,fun _ _=>true,none,[],[]⟩
theorem xZki:xZiS.Ok prog:=⟨Is.of (by kernel_rfl) (by kernel_rfl),by kernel_rfl,xZ9 sb_ok bo_ok,trivial,trivial,fun _=>by kernel_rfl⟩
theorem xZk2 (N:Nat):xZbO.Ok prog N:=xZki.give tb_ok hm N N (fun _=>trivial) fun a r s h=>by
 exact s.main [] trivial (.trans (by kernel_rfl) h)
noncomputable def xZht:Fn xZ9z:=⟨f101,[],⟨[],[],sbf,bof⟩,fun _=>[xZ6G,xZbO],[true,true,true],none,0,0,fun _ _=>true,none,[],[]⟩
theorem xZib:xZht.Ok prog:=⟨Is.of (by kernel_rfl) (by kernel_rfl),by kernel_rfl,xZ9 sb_ok bo_ok,trivial,trivial,fun _=>by kernel_rfl⟩
theorem xZhR (N:Nat):xZ9z.Ok prog N:=xZib.give tb_ok hm N N (fun _=>⟨xZcf N,xZk2 N,trivial⟩) fun a r s h=>by
 have l0:=s.loop 0 xZ4U (xZbo N) N fun next0 h0=>by
  exact fun c v=>s.seg 0 xZ4U [(0,.of xZ4U next0)] ⟨h0,trivial⟩ (by kernel_rfl) (by kernel_rfl)
 exact s.main [(0,.of xZ4U (xZg8 N))] ⟨l0,trivial⟩ (.trans (by kernel_rfl) h)
noncomputable def xZno:Fn xZem:=⟨f166,[],⟨[],[],sbf,bof⟩,fun _=>[],[true],none,0,0,fun _ _=>true,none,[],[]⟩
theorem xZny:xZno.Ok prog:=⟨Is.of (by kernel_rfl) (by kernel_rfl),by kernel_rfl,xZ9 sb_ok bo_ok,trivial,trivial,fun _=>by kernel_rfl⟩
theorem xZnF (N:Nat):xZem.Ok prog N:=xZny.give tb_ok hm N N (fun _=>trivial) fun a r s h=>by
 exact s.main [] trivial (.trans (by kernel_rfl) h)
noncomputable def xZkJ:Fn xZdp:=⟨f167,[],⟨[],[],sbf,bof⟩,fun _=>[],[true],none,0,0,fun _ _=>true,none,[],[]⟩
theorem xZmd:xZkJ.Ok prog:=⟨Is.of (by kernel_rfl) (by kernel_rfl),by kernel_rfl,xZ9 sb_ok bo_ok,trivial,trivial,fun _=>by kernel_rfl⟩
theorem xZmo (N:Nat):xZdp.Ok prog N:=xZmd.give tb_ok hm N N (fun _=>trivial) fun a r s h=>by
 exact s.main [] trivial (.trans (by kernel_rfl) h)
noncomputable def xZku:Fn xZda:=⟨f152,[],⟨[],[],sbf,bof⟩,fun _=>[xZem,xZdp],[true],none,0,0,fun _ _=>true,none,[],[]⟩
theorem xZks:xZku.Ok prog:=⟨Is.of (by kernel_rfl) (by kernel_rfl),by kernel_rfl,xZ9 sb_ok bo_ok,trivial,trivial,fun _=>by kernel_rfl⟩
theorem xZlC (N:Nat):xZda.Ok prog N:=xZks.give tb_ok hm N N (fun _=>⟨xZnF N,xZmo N,trivial⟩) fun a r s h=>by
 exact s.main [] trivial (.trans (by kernel_rfl) h)
noncomputable def xZjV:Fn xZ5N:=⟨f135,[],⟨[],[],sbf,bof⟩,fun _=>[xZda],[true],none,0,0,fun _ _=>true,none,[],[]⟩
theorem xZjf:xZjV.Ok prog:=⟨Is.of (by kernel_rfl) (by kernel_rfl),by kernel_rfl,xZ9 sb_ok bo_ok,trivial,trivial,fun _=>by kernel_rfl⟩
theorem xZbi (N:Nat):xZ5N.Ok prog N:=xZjf.give tb_ok hm N N (fun _=>⟨xZlC N,trivial⟩) fun a r s h=>by
 exact s.main [] trivial (.trans (by kernel_rfl) h)
noncomputable def xZhZ:Fn xZ9A:=⟨f136,[],⟨[],[],sbf,bof⟩,fun _=>[xZ5N],[true],none,0,0,fun _ _=>true,none,[],[]⟩
theorem xZiI:xZhZ.Ok prog:=⟨Is.of (by kernel_rfl) (by kernel_rfl),by kernel_rfl,xZ9 sb_ok bo_ok,trivial,trivial,fun _=>by kernel_rfl⟩
theorem xZiP (N:Nat):xZ9A.Ok prog N:=xZiI.give tb_ok hm N N (fun _=>⟨xZbi N,trivial⟩) fun a r s h=>by
 exact s.main [] trivial (.trans (by kernel_rfl) h)
noncomputable def xZil:Fn xZ9Z:=⟨f102,[],⟨[],[],sbf,bof⟩,fun _=>[xZ6G,xZ8h,xZ5N,xZ9A],[true,true,true],none,0,0,fun _ _=>true,none,[],[]⟩
theorem xZhA:xZil.Ok prog:=⟨Is.of (by kernel_rfl) (by kernel_rfl),by kernel_rfl,xZ9 sb_ok bo_ok,trivial,trivial,fun _=>by kernel_rfl⟩
theorem xZiw (N:Nat):xZ9Z.Ok prog N:=xZhA.give tb_ok hm N N (fun _=>⟨xZcf N,xZf8 N,xZbi N,xZiP N,trivial⟩) fun a r s h=>by
 have l0:=s.loop 0 xZ5f (xZc8 N) N fun next0 h0=>by
  exact fun c v=>s.seg 0 xZ5f [(0,.of xZ5f next0)] ⟨h0,trivial⟩ (by kernel_rfl) (by kernel_rfl)
 exact s.main [(0,.of xZ5f (xZgg N))] ⟨l0,trivial⟩ (.trans (by kernel_rfl) h)
noncomputable def xZnD:Fn xZek:=⟨f61,[],⟨[],[],sbf,bof⟩,fun _=>[xZau,xZbW,xZcU,xZeD,xZ9z,xZ9Z],[true,true,true],none,0,0,fun _ _=>true,none,[],[]⟩
theorem xZnA:xZnD.Ok prog:=⟨Is.of (by kernel_rfl) (by kernel_rfl),by kernel_rfl,xZ9 sb_ok bo_ok,trivial,trivial,fun _=>by kernel_rfl⟩
theorem xZnn (N:Nat):xZek.Ok prog N:=xZnA.give tb_ok hm N N (fun _=>⟨xZhV N,xZfD N,xZlS N,xZni N,xZhR N,xZiw N,trivial⟩) fun a r s h=>by
 exact s.main [] trivial (.trans (by kernel_rfl) h)
noncomputable def xZkZ:Fn xZde:=⟨f24,[],⟨[(57,0)],[],sbf,bof⟩,fun _=>[xZbW,xZek],[true,true],none,0,0,fun _ _=>true,none,[],[]⟩
theorem xZlu:xZkZ.Ok prog:=⟨Is.of (by kernel_rfl) (by kernel_rfl),by kernel_rfl,xZ9 sb_ok bo_ok,trivial,trivial,fun _=>by kernel_rfl⟩
theorem xZl4 (N:Nat):xZde.Ok prog N:=xZlu.give tb_ok hm N N (fun _=>⟨xZfD N,xZnn N,trivial⟩) fun a r s h=>by
 have l0:=s.loop 0 xZ6w (xZdB N) N fun next0 h0=>by
  exact fun c v=>s.seg 0 xZ6w [(0,.of xZ6w next0)] ⟨h0,trivial⟩ (by kernel_rfl) (by kernel_rfl)
 exact s.main [(0,.of xZ6w (xZhI N))] ⟨l0,trivial⟩ (.trans (by kernel_rfl) h)
noncomputable def xZoe:Fn xZ9f:=⟨f28,[],⟨[],[],sbf,bof⟩,fun _=>[],[true],none,0,0,fun _ _=>true,none,[],[]⟩
theorem xZo5:xZoe.Ok prog:=⟨Is.of (by kernel_rfl) (by kernel_rfl),by kernel_rfl,xZ9 sb_ok bo_ok,trivial,trivial,fun _=>by kernel_rfl⟩
theorem xZdv (N:Nat):xZ9f.Ok prog N:=xZo5.give tb_ok hm N N (fun _=>trivial) fun a r s h=>by
 exact s.main [] trivial (.trans (by kernel_rfl) h)
noncomputable def xZkx:Fn xZ4H:=⟨f63,[],⟨[],[],sbf,bof⟩,fun _=>[xZ9f],[true],none,0,0,fun _ _=>true,none,[],[]⟩
theorem xZkS:xZkx.Ok prog:=⟨Is.of (by kernel_rfl) (by kernel_rfl),by kernel_rfl,xZ9 sb_ok bo_ok,trivial,trivial,fun _=>by kernel_rfl⟩
theorem xZ73 (N:Nat):xZ4H.Ok prog N:=xZkS.give tb_ok hm N N (fun _=>⟨xZdv N,trivial⟩) fun a r s h=>by
 exact s.main [] trivial (.trans (by kernel_rfl) h)
noncomputable def xZlw:Fn xZ4C:=⟨f31,[],⟨[],[],sbf,bof⟩,fun _=>[],[true],none,0,0,fun _ _=>true,none,[],[]⟩
theorem xZml:xZlw.Ok prog:=⟨Is.of (by kernel_rfl) (by kernel_rfl),by kernel_rfl,xZ9 sb_ok bo_ok,trivial,trivial,fun _=>by kernel_rfl⟩
theorem xZ6S (N:Nat):xZ4C.Ok prog N:=xZml.give tb_ok hm N N (fun _=>trivial) fun a r s h=>by
 exact s.main [] trivial (.trans (by kernel_rfl) h)
noncomputable def xZm8:Fn xZ3V:=⟨f26,[],⟨[],[],sbf,bof⟩,fun _=>[xZ9f,xZ4C],[true],none,0,0,fun _ _=>true,none,[],[]⟩
theorem xZkz:xZm8.Ok prog:=⟨Is.of (by kernel_rfl) (by kernel_rfl),by kernel_rfl,xZ9 sb_ok bo_ok,trivial,trivial,fun _=>by kernel_rfl⟩
theorem xZ5p (N:Nat):xZ3V.Ok prog N:=xZkz.give tb_ok hm N N (fun _=>⟨xZdv N,xZ6S N,trivial⟩) fun a r s h=>by
 exact s.main [] trivial (.trans (by kernel_rfl) h)
noncomputable def xZme:Fn xZap:=⟨f29,[],⟨[],[],sbf,bof⟩,fun _=>[xZ4C],[true,true],none,0,0,fun _ _=>true,none,[],[]⟩
theorem xZkH:xZme.Ok prog:=⟨Is.of (by kernel_rfl) (by kernel_rfl),by kernel_rfl,xZ9 sb_ok bo_ok,trivial,trivial,fun _=>by kernel_rfl⟩
theorem xZg5 (N:Nat):xZap.Ok prog N:=xZkH.give tb_ok hm N N (fun _=>⟨xZ6S N,trivial⟩) fun a r s h=>by
 exact s.main [] trivial (.trans (by kernel_rfl) h)
noncomputable def xZpf:Fn xZ6P:=⟨f179,[],⟨[],[],sbf,bof⟩,fun _=>[],[true],none,0,0,fun _ _=>true,none,[],[]⟩
theorem xZoQ:xZpf.Ok prog:=⟨Is.of (by kernel_rfl) (by kernel_rfl),by kernel_rfl,xZ9 sb_ok bo_ok,trivial,trivial,fun _=>by kernel_rfl⟩
theorem xZc3 (N:Nat):xZ6P.Ok prog N:=xZoQ.give tb_ok hm N N (fun _=>trivial) fun a r s h=>by
 exact s.main [] trivial (.trans (by kernel_rfl) h)
noncomputable def xZjO:Fn xZ89:=⟨f169,[],⟨[],[],sbf,bof⟩,fun _=>[],[true],none,0,0,fun _ _=>true,none,[],[]⟩
theorem xZjc:xZjO.Ok prog:=⟨Is.of (by kernel_rfl) (by kernel_rfl),by kernel_rfl,xZ9 sb_ok bo_ok,trivial,trivial,fun _=>by kernel_rfl⟩
theorem xZeY (N:Nat):xZ89.Ok prog N:=xZjc.give tb_ok hm N N (fun _=>trivial) fun a r s h=>by
 exact s.main [] trivial (.trans (by kernel_rfl) h)
noncomputable def xZkr:Fn xZ9O:=⟨f190,[],⟨[],[],sbf,bof⟩,fun _=>[xZ89],[true],none,0,0,fun _ _=>true,none,[],[]⟩
theorem xZmi:xZkr.Ok prog:=⟨Is.of (by kernel_rfl) (by kernel_rfl),by kernel_rfl,xZ9 sb_ok bo_ok,trivial,trivial,fun _=>by kernel_rfl⟩
theorem xZgf (N:Nat):xZ9O.Ok prog N:=xZmi.give tb_ok hm N N (fun _=>⟨xZeY N,trivial⟩) fun a r s h=>by
 exact s.main [] trivial (.trans (by kernel_rfl) h)
noncomputable def xZle:Fn xZ4B:=⟨f180,[],⟨[],[],sbf,bof⟩,fun _=>[],[true],none,0,0,fun _ _=>true,none,[],[]⟩
theorem xZlY:xZle.Ok prog:=⟨Is.of (by kernel_rfl) (by kernel_rfl),by kernel_rfl,xZ9 sb_ok bo_ok,trivial,trivial,fun _=>by kernel_rfl⟩
theorem xZ71 (N:Nat):xZ4B.Ok prog N:=xZlY.give tb_ok hm N N (fun _=>trivial) fun a r s h=>by
 exact s.main [] trivial (.trans (by kernel_rfl) h)
noncomputable def xZmc:Fn xZ5o:=⟨f181,[],⟨[(9,3)],[],sbf,bof⟩,fun _=>[],[true],none,0,0,fun _ _=>true,none,[],[]⟩
theorem xZm0:xZmc.Ok prog:=⟨Is.of (by kernel_rfl) (by kernel_rfl),by kernel_rfl,xZ9 sb_ok bo_ok,trivial,trivial,fun _=>by kernel_rfl⟩
theorem xZa7 (N:Nat):xZ5o.Ok prog N:=xZm0.give tb_ok hm N N (fun _=>trivial) fun a r s h=>by
 exact s.main [] trivial (.trans (by kernel_rfl) h)
end
end
section
open Go.Proofs.Tryz
set_option maxRecDepth 1000000
noncomputable section
noncomputable def xZlF:Fn xZ9G:=⟨f192,[],⟨[],[],sbf,bof⟩,fun _=>[],[true],none,0,0,fun _ _=>true,none,[],[]⟩
theorem xZkD:xZlF.Ok prog:=⟨Is.of (by kernel_rfl) (by kernel_rfl),by kernel_rfl,xZ9 sb_ok bo_ok,trivial,trivial,fun _=>by kernel_rfl⟩
theorem xZfT (N:Nat):xZ9G.Ok prog N:=xZkD.give tb_ok hm N N (fun _=>trivial) fun a r s h=>by
 exact s.main [] trivial (.trans (by kernel_rfl) h)
noncomputable def xZkC:Fn xZdn:=⟨f200,[],⟨[(16,3),(52,3),(74,3),(92,3)],[],sbf,bof⟩,fun _=>[xZ9G,xZ4B,xZ6P,xZ9O],[true,true],none,0,0,fun _ _=>true,none,[],[]⟩
theorem xZkW:xZkC.Ok prog:=⟨Is.of (by kernel_rfl) (by kernel_rfl),by kernel_rfl,xZ9 sb_ok bo_ok,trivial,trivial,fun _=>by kernel_rfl⟩
theorem xZlE (N:Nat):xZdn.Ok prog N:=xZkW.give tb_ok hm N N (fun _=>⟨xZfT N,xZ71 N,xZc3 N,xZgf N,trivial⟩) fun a r s h=>by
 exact s.main [] trivial (.trans (by kernel_rfl) h)
noncomputable def xZnu:Fn xZeL:=⟨f191,[],⟨[],[],sbf,bof⟩,fun _=>[xZdn,xZ6P,xZ4B,xZ5o],[true,true],none,0,0,fun _ _=>true,none,[],[]⟩
theorem xZnL:xZnu.Ok prog:=⟨Is.of (by kernel_rfl) (by kernel_rfl),by kernel_rfl,xZ9 sb_ok bo_ok,trivial,trivial,fun _=>by kernel_rfl⟩
theorem xZnB (N:Nat):xZeL.Ok prog N:=xZnL.give tb_ok hm N N (fun _=>⟨xZlE N,xZc3 N,xZ71 N,xZa7 N,trivial⟩) fun a r s h=>by
 have l0:=s.loop 0 xZ87 (xZf3 N) N fun next0 h0=>by
  exact fun c v=>s.seg 0 xZ87 [(0,.of xZ87 next0)] ⟨h0,trivial⟩ (by kernel_rfl) (by kernel_rfl)
 exact s.main [(0,.of xZ87 (xZk9 N))] ⟨l0,trivial⟩ (.trans (by kernel_rfl) h)
noncomputable def xZmg:Fn xZcS:=⟨f201,[],⟨[(4,8)],[],sbf,bof⟩,fun _=>[],[true],none,0,0,fun _ _=>true,none,[],[]⟩
theorem xZlP:xZmg.Ok prog:=⟨Is.of (by kernel_rfl) (by kernel_rfl),by kernel_rfl,xZ9 sb_ok bo_ok,trivial,trivial,fun _=>by kernel_rfl⟩
theorem xZm6 (N:Nat):xZcS.Ok prog N:=xZlP.give tb_ok hm N N (fun _=>trivial) fun a r s h=>by
 exact s.main [] trivial (.trans (by kernel_rfl) h)
noncomputable def xZpM:Fn xZfQ:=⟨f193,[],⟨[],[],sbf,bof⟩,fun _=>[xZcS],[true],none,0,0,fun _ _=>true,none,[],[]⟩
theorem xZoB:xZpM.Ok prog:=⟨Is.of (by kernel_rfl) (by kernel_rfl),by kernel_rfl,xZ9 sb_ok bo_ok,trivial,trivial,fun _=>by kernel_rfl⟩
theorem xZoy (N:Nat):xZfQ.Ok prog N:=xZoB.give tb_ok hm N N (fun _=>⟨xZm6 N,trivial⟩) fun a r s h=>by
 have l0:=s.loop 0 xZa9 (xZgD N) N fun next0 h0=>by
  exact fun c v=>s.seg 0 xZa9 [(0,.of xZa9 next0)] ⟨h0,trivial⟩ (by kernel_rfl) (by kernel_rfl)
 exact s.main [(0,.of xZa9 (xZmf N))] ⟨l0,trivial⟩ (.trans (by kernel_rfl) h)
noncomputable def xZoz:Fn xZbe:=⟨f168,[],⟨[],[],sbf,bof⟩,fun _=>[xZeP,xZ6P,xZ4B,xZ5o],[true,true],none,0,0,fun _ _=>true,none,[],[]⟩
theorem xZjY:xZoz.Ok prog:=⟨Is.of (by kernel_rfl) (by kernel_rfl),by kernel_rfl,xZ9 sb_ok bo_ok,trivial,trivial,fun _=>by kernel_rfl⟩
noncomputable def xZnp:Fn xZeP:=⟨f178,[],⟨[],[],sbf,bof⟩,fun _=>[xZaa,xZ6P,xZ4B,xZ5o],[true,true],none,0,0,fun _ _=>true,none,[],[]⟩
theorem xZh4:xZnp.Ok prog:=⟨Is.of (by kernel_rfl) (by kernel_rfl),by kernel_rfl,xZ9 sb_ok bo_ok,trivial,trivial,fun _=>by kernel_rfl⟩
noncomputable def xZlW:Fn xZaa:=⟨f186,[],⟨[],[],sbf,bof⟩,fun _=>[xZ6P,xZ9O,xZ4B,xZaa,xZ5o,xZbe,xZeL,xZ9G,xZfQ],[true,true],none,0,0,fun _ _=>true,none,[],[]⟩
theorem xZgy:xZlW.Ok prog:=⟨Is.of (by kernel_rfl) (by kernel_rfl),by kernel_rfl,xZ9 sb_ok bo_ok,trivial,trivial,fun _=>by kernel_rfl⟩
theorem xZh6:∀ N,xZbe.Ok prog N∧xZeP.Ok prog N∧xZaa.Ok prog N
 | 0=>⟨⟨xZjY.is.enters,fun a r h=>by (have h:none=some r:=h;cases h)⟩,⟨xZh4.is.enters,fun a r h=>by (have h:none=some r:=h;cases h)⟩,⟨xZgy.is.enters,fun a r h=>by (have h:none=some r:=h;cases h)⟩⟩
 | N+1=>by
   obtain ⟨h_ref12_or,h_ref12_and,h_ref12_part⟩:=xZh6 N
   refine ⟨?_,?_,?_⟩
   ·exact xZjY.give tb_ok hm N (N+1) (fun _=>⟨h_ref12_and,xZc3 N,xZ71 N,xZa7 N,trivial⟩) fun a r s h=>by
     have l0:=s.loop 0 xZah (xZgo N) N fun next0 h0=>by
      exact fun c v=>s.seg 0 xZah [(0,.of xZah next0)] ⟨h0,trivial⟩ (by kernel_rfl) (by kernel_rfl)
     exact s.main [(0,.of xZah (xZlo N))] ⟨l0,trivial⟩ (.trans (by kernel_rfl) h)
   ·exact xZh4.give tb_ok hm N (N+1) (fun _=>⟨h_ref12_part,xZc3 N,xZ71 N,xZa7 N,trivial⟩) fun a r s h=>by
     have l0:=s.loop 0 xZ8d (xZfa N) N fun next0 h0=>by
      exact fun c v=>s.seg 0 xZ8d [(0,.of xZ8d next0)] ⟨h0,trivial⟩ (by kernel_rfl) (by kernel_rfl)
     exact s.main [(0,.of xZ8d (xZj0 N))] ⟨l0,trivial⟩ (.trans (by kernel_rfl) h)
   ·exact xZgy.give tb_ok hm N (N+1) (fun _=>⟨xZc3 N,xZgf N,xZ71 N,h_ref12_part,xZa7 N,h_ref12_or,xZnB N,xZfT N,xZoy N,trivial⟩) fun a r s h=>by
     exact s.main [] trivial (.trans (by kernel_rfl) h)
theorem xZpu (N:Nat):xZbe.Ok prog N:=(xZh6 N).1
noncomputable def xZnr:Fn xZey:=⟨f170,[],⟨[],[],sbf,bof⟩,fun _=>[],[true],none,0,0,fun _ _=>true,none,[],[]⟩
theorem xZnc:xZnr.Ok prog:=⟨Is.of (by kernel_rfl) (by kernel_rfl),by kernel_rfl,xZ9 sb_ok bo_ok,trivial,trivial,fun _=>by kernel_rfl⟩
theorem xZnz (N:Nat):xZey.Ok prog N:=xZnc.give tb_ok hm N N (fun _=>trivial) fun a r s h=>by
 exact s.main [] trivial (.trans (by kernel_rfl) h)
noncomputable def xZlQ:Fn xZ6X:=⟨f67,[],⟨[],[],sbf,bof⟩,fun _=>[xZ52],[true],none,0,0,fun _ _=>true,none,[],[]⟩
theorem xZkV:xZlQ.Ok prog:=⟨Is.of (by kernel_rfl) (by kernel_rfl),by kernel_rfl,xZ9 sb_ok bo_ok,trivial,trivial,fun _=>by kernel_rfl⟩
theorem xZdt (N:Nat):xZ6X.Ok prog N:=xZkV.give tb_ok hm N N (fun _=>⟨xZbw N,trivial⟩) fun a r s h=>by
 have l0:=s.loop 0 xZ6z (xZe6 N) N fun next0 h0=>by
  exact fun c v=>s.seg 0 xZ6z [(0,.of xZ6z next0)] ⟨h0,trivial⟩ (by kernel_rfl) (by kernel_rfl)
 exact s.main [(0,.of xZ6z (xZhs N))] ⟨l0,trivial⟩ (.trans (by kernel_rfl) h)
noncomputable def xZjb:Fn xZc6:=⟨f182,[],⟨[],[],sbf,bof⟩,fun _=>[xZ5N],[true],none,0,0,fun _ _=>true,none,[],[]⟩
theorem xZjq:xZjb.Ok prog:=⟨Is.of (by kernel_rfl) (by kernel_rfl),by kernel_rfl,xZ9 sb_ok bo_ok,trivial,trivial,fun _=>by kernel_rfl⟩
theorem xZkh (N:Nat):xZc6.Ok prog N:=xZjq.give tb_ok hm N N (fun _=>⟨xZbi N,trivial⟩) fun a r s h=>by
 exact s.main [] trivial (.trans (by kernel_rfl) h)
noncomputable def xZke:Fn xZbI:=⟨f171,[],⟨[],[],sbf,bof⟩,fun _=>[xZ6X,xZc6],[true],none,0,0,fun _ _=>true,none,[],[114]⟩
theorem xZjM:xZke.Ok prog:=⟨Is.of (by kernel_rfl) (by kernel_rfl),by kernel_rfl,xZ9 sb_ok bo_ok,trivial,trivial,fun _=>by kernel_rfl⟩
theorem xZjK (N:Nat):xZbI.Ok prog N:=xZjM.give tb_ok hm N N (fun _=>⟨xZdt N,xZkh N,trivial⟩) fun a r s h=>by
 have lj2:=s.jn 1000114 xZbR (xZbZ N) [] trivial (by kernel_rfl) (fun x=>by kernel_rfl)
 exact s.main [(1000114,.of xZbR (xZbZ N))] ⟨lj2,trivial⟩ (.trans (by kernel_rfl) h)
noncomputable def xZlM:Fn xZcQ:=⟨f172,[],⟨[],[],sbf,bof⟩,fun _=>[],[true],none,0,0,fun _ _=>true,none,[],[]⟩
theorem xZkp:xZlM.Ok prog:=⟨Is.of (by kernel_rfl) (by kernel_rfl),by kernel_rfl,xZ9 sb_ok bo_ok,trivial,trivial,fun _=>by kernel_rfl⟩
theorem xZlK (N:Nat):xZcQ.Ok prog N:=xZkp.give tb_ok hm N N (fun _=>trivial) fun a r s h=>by
 exact s.main [] trivial (.trans (by kernel_rfl) h)
noncomputable def xZnm:Fn xZew:=⟨f173,[],⟨[],[],sbf,bof⟩,fun _=>[],[true],none,0,0,fun _ _=>true,none,[],[]⟩
theorem xZo0:xZnm.Ok prog:=⟨Is.of (by kernel_rfl) (by kernel_rfl),by kernel_rfl,xZ9 sb_ok bo_ok,trivial,trivial,fun _=>by kernel_rfl⟩
theorem xZnN (N:Nat):xZew.Ok prog N:=xZo0.give tb_ok hm N N (fun _=>trivial) fun a r s h=>by
 exact s.main [] trivial (.trans (by kernel_rfl) h)
noncomputable def xZlZ:Fn xZ6J:=⟨f154,[],⟨[],[],sbf,bof⟩,fun _=>[xZey,xZbI,xZcQ,xZew,xZ6J],[true,true],none,0,0,fun _ _=>true,none,[],[]⟩
theorem xZg0:xZlZ.Ok prog:=⟨Is.of (by kernel_rfl) (by kernel_rfl),by kernel_rfl,xZ9 sb_ok bo_ok,trivial,trivial,fun _=>by kernel_rfl⟩
theorem xZf7:∀ N,xZ6J.Ok prog N
 | 0=>⟨xZg0.is.enters,fun a r h=>by (have h:none=some r:=h;cases h)⟩
 | N+1=>by
   obtain h_ref11_tree:=xZf7 N
   ·exact xZg0.give tb_ok hm N (N+1) (fun _=>⟨xZnz N,xZjK N,xZlK N,xZnN N,h_ref11_tree,trivial⟩) fun a r s h=>by
     have l0:=s.loop 0 xZ6p (xZdJ N) N fun next0 h0=>by
      exact fun c v=>s.seg 0 xZ6p [(0,.of xZ6p next0)] ⟨h0,trivial⟩ (by kernel_rfl) (by kernel_rfl)
     exact s.main [(0,.of xZ6p (xZiG N))] ⟨l0,trivial⟩ (.trans (by kernel_rfl) h)
theorem xZlO (N:Nat):xZ6J.Ok prog N:=(xZf7 N)
noncomputable def xZkg:Fn xZ8c:=⟨f139,[],⟨[],[],sbf,bof⟩,fun _=>[xZ6J],[true],none,0,0,fun _ _=>true,none,[],[]⟩
theorem xZjo:xZkg.Ok prog:=⟨Is.of (by kernel_rfl) (by kernel_rfl),by kernel_rfl,xZ9 sb_ok bo_ok,trivial,trivial,fun _=>by kernel_rfl⟩
theorem xZeZ (N:Nat):xZ8c.Ok prog N:=xZjo.give tb_ok hm N N (fun _=>⟨xZlO N,trivial⟩) fun a r s h=>by
 exact s.main [] trivial (.trans (by kernel_rfl) h)
end
end
section
open Go.Proofs.Tryz
set_option maxRecDepth 1000000
noncomputable section
noncomputable def xZiR:Fn xZbY:=⟨f153,[],⟨[],[],sbf,bof⟩,fun _=>[xZbe,xZ8c,xZ89],[true,true,true],none,0,0,fun _ _=>true,none,[],[]⟩
theorem xZk3:xZiR.Ok prog:=⟨Is.of (by kernel_rfl) (by kernel_rfl),by kernel_rfl,xZ9 sb_ok bo_ok,trivial,trivial,fun _=>by kernel_rfl⟩
theorem xZk1 (N:Nat):xZbY.Ok prog N:=xZk3.give tb_ok hm N N (fun _=>⟨xZpu N,xZeZ N,xZeY N,trivial⟩) fun a r s h=>by
 exact s.main [] trivial (.trans (by kernel_rfl) h)
noncomputable def xZkB:Fn xZcN:=⟨f137,[],⟨[(63,5)],[],sbf,bof⟩,fun _=>[xZap,xZ3V,xZ4H,xZbY],[true,true],none,0,0,fun _ _=>true,none,[],[]⟩
theorem xZkU:xZkB.Ok prog:=⟨Is.of (by kernel_rfl) (by kernel_rfl),by kernel_rfl,xZ9 sb_ok bo_ok,trivial,trivial,fun _=>by kernel_rfl⟩
theorem xZkI (N:Nat):xZcN.Ok prog N:=xZkU.give tb_ok hm N N (fun _=>⟨xZg5 N,xZ5p N,xZ73 N,xZk1 N,trivial⟩) fun a r s h=>by
 exact s.main [] trivial (.trans (by kernel_rfl) h)
noncomputable def xZi3:Fn xZ6k:=⟨f27,[],⟨[],[],sbf,bof⟩,fun _=>[xZ4C],[true,true],none,0,0,fun _ _=>true,none,[],[]⟩
theorem xZhC:xZi3.Ok prog:=⟨Is.of (by kernel_rfl) (by kernel_rfl),by kernel_rfl,xZ9 sb_ok bo_ok,trivial,trivial,fun _=>by kernel_rfl⟩
theorem xZdP (N:Nat):xZ6k.Ok prog N:=xZhC.give tb_ok hm N N (fun _=>⟨xZ6S N,trivial⟩) fun a r s h=>by
 exact s.main [] trivial (.trans (by kernel_rfl) h)
noncomputable def xZkb:Fn xZbH:=⟨f138,[],⟨[],[],sbf,bof⟩,fun _=>[xZ4H,xZ3V,xZ6k],[true,true,true,true],none,0,0,fun _ _=>true,none,[],[]⟩
theorem xZjs:xZkb.Ok prog:=⟨Is.of (by kernel_rfl) (by kernel_rfl),by kernel_rfl,xZ9 sb_ok bo_ok,trivial,trivial,fun _=>by kernel_rfl⟩
theorem xZjZ (N:Nat):xZbH.Ok prog N:=xZjs.give tb_ok hm N N (fun _=>⟨xZ73 N,xZ5p N,xZdP N,trivial⟩) fun a r s h=>by
 exact s.main [] trivial (.trans (by kernel_rfl) h)
noncomputable def xZhl:Fn xZ6l:=⟨f64,[],⟨[(15,5)],[],sbf,bof⟩,fun _=>[],[true],none,0,0,fun _ _=>true,none,[],[]⟩
theorem xZie:xZhl.Ok prog:=⟨Is.of (by kernel_rfl) (by kernel_rfl),by kernel_rfl,xZ9 sb_ok bo_ok,trivial,trivial,fun _=>by kernel_rfl⟩
theorem xZdF (N:Nat):xZ6l.Ok prog N:=xZie.give tb_ok hm N N (fun _=>trivial) fun a r s h=>by
 have l0:=s.loop 0 xZ4X (xZbh N) N fun next0 h0=>by
  exact fun c v=>s.seg 0 xZ4X [(0,.of xZ4X next0)] ⟨h0,trivial⟩ (by kernel_rfl) (by kernel_rfl)
 exact s.main [(0,.of xZ4X (xZgu N))] ⟨l0,trivial⟩ (.trans (by kernel_rfl) h)
noncomputable def xZlz:Fn xZ6U:=⟨f25,[],⟨[(17,11),(35,11)],[],sbf,bof⟩,fun _=>[xZ9I,xZ4H,xZ3V,xZ6l],[true,true],none,0,0,fun _ _=>true,some EqR.cls,[],[]⟩
theorem xZg6:xZlz.Ok prog:=⟨Is.of (by kernel_rfl) (by kernel_rfl),by kernel_rfl,xZ9 sb_ok bo_ok,trivial,trivial,fun _=>by kernel_rfl⟩
noncomputable def xZhF:Fn xZ9I:=⟨f62,[],⟨[(17,11),(35,11)],[],sbf,bof⟩,fun _=>[xZdf,xZ4H,xZ3V,xZ6l],[true,true],none,0,0,fun _ _=>true,some EqR.cls,[],[]⟩
theorem xZe4:xZhF.Ok prog:=⟨Is.of (by kernel_rfl) (by kernel_rfl),by kernel_rfl,xZ9 sb_ok bo_ok,trivial,trivial,fun _=>by kernel_rfl⟩
noncomputable def xZld:Fn xZdf:=⟨f104,[],⟨[(67,5)],[],sbf,bof⟩,fun _=>[xZ4H,xZ3V,xZcN,xZ4C,xZ6U,xZbH],[true,true],none,0,0,fun _ _=>true,some EqR.cls,[],[]⟩
theorem xZgc:xZld.Ok prog:=⟨Is.of (by kernel_rfl) (by kernel_rfl),by kernel_rfl,xZ9 sb_ok bo_ok,trivial,trivial,fun _=>by kernel_rfl⟩
theorem xZf2:∀ N,xZ6U.Ok prog N∧xZ9I.Ok prog N∧xZdf.Ok prog N
 | 0=>⟨⟨xZg6.is.enters,fun a r h=>by (have h:none=some r:=h;cases h)⟩,⟨xZe4.is.enters,fun a r h=>by (have h:none=some r:=h;cases h)⟩,⟨xZgc.is.enters,fun a r h=>by (have h:none=some r:=h;cases h)⟩⟩
 | N+1=>by
   obtain ⟨h_ref14_body,h_ref14_branch,h_ref14_item⟩:=xZf2 N
   refine ⟨?_,?_,?_⟩
   ·exact xZg6.give tb_ok hm N (N+1) (fun _=>⟨h_ref14_branch,xZ73 N,xZ5p N,xZdF N,trivial⟩) fun a r s h=>by
     have l0:=s.loop 0 xZ62 (xZdw N) N fun next0 h0=>by
      exact fun c v=>s.seg 0 xZ62 [(0,.of xZ62 next0)] ⟨h0,trivial⟩ (by kernel_rfl) (by kernel_rfl)
     exact s.main [(0,.of xZ62 (xZit N))] ⟨l0,trivial⟩ (.trans (by kernel_rfl) h)
   ·exact xZe4.give tb_ok hm N (N+1) (fun _=>⟨h_ref14_item,xZ73 N,xZ5p N,xZdF N,trivial⟩) fun a r s h=>by
     have l0:=s.loop 0 xZ4T (xZca N) N fun next0 h0=>by
      exact fun c v=>s.seg 0 xZ4T [(0,.of xZ4T next0)] ⟨h0,trivial⟩ (by kernel_rfl) (by kernel_rfl)
     exact s.main [(0,.of xZ4T (xZgG N))] ⟨l0,trivial⟩ (.trans (by kernel_rfl) h)
   ·exact xZgc.give tb_ok hm N (N+1) (fun _=>⟨xZ73 N,xZ5p N,xZkI N,xZ6S N,h_ref14_body,xZjZ N,trivial⟩) fun a r s h=>by
     exact s.main [] trivial (.trans (by kernel_rfl) h)
theorem xZkX (N:Nat):xZ6U.Ok prog N:=(xZf2 N).1
noncomputable def xZlD:Fn xZ9S:=⟨f65,[],⟨[],[],sbf,bof⟩,fun _=>[],[true],none,0,0,fun _ _=>true,none,[],[]⟩
theorem xZkN:xZlD.Ok prog:=⟨Is.of (by kernel_rfl) (by kernel_rfl),by kernel_rfl,xZ9 sb_ok bo_ok,trivial,trivial,fun _=>by kernel_rfl⟩
theorem xZg2 (N:Nat):xZ9S.Ok prog N:=xZkN.give tb_ok hm N N (fun _=>trivial) fun a r s h=>by
 exact s.main [] trivial (.trans (by kernel_rfl) h)
noncomputable def xZlg:Fn xZcW:=⟨f30,[],⟨[],[],sbf,bof⟩,fun _=>[xZ9S,xZ9f],[true],none,0,0,fun _ _=>true,none,[],[]⟩
theorem xZla:xZlg.Ok prog:=⟨Is.of (by kernel_rfl) (by kernel_rfl),by kernel_rfl,xZ9 sb_ok bo_ok,trivial,trivial,fun _=>by kernel_rfl⟩
theorem xZl1 (N:Nat):xZcW.Ok prog N:=xZla.give tb_ok hm N N (fun _=>⟨xZg2 N,xZdv N,trivial⟩) fun a r s h=>by
 have l0:=s.loop 0 xZ6e (xZdD N) N fun next0 h0=>by
  exact fun c v=>s.seg 0 xZ6e [(0,.of xZ6e next0)] ⟨h0,trivial⟩ (by kernel_rfl) (by kernel_rfl)
 exact s.main [(0,.of xZ6e (xZhH N))] ⟨l0,trivial⟩ (.trans (by kernel_rfl) h)
noncomputable def xZj3:Fn xZc5:=⟨f105,[],⟨[],[],sbf,bof⟩,fun _=>[xZ6X,xZ8c],[true],none,0,0,fun _ _=>true,none,[],[26,42,63,163,201]⟩
theorem xZj4:xZj3.Ok prog:=⟨Is.of (by kernel_rfl) (by kernel_rfl),by kernel_rfl,xZ9 sb_ok bo_ok,trivial,trivial,fun _=>by kernel_rfl⟩
theorem xZiT (N:Nat):xZc5.Ok prog N:=xZj4.give tb_ok hm N N (fun _=>⟨xZdt N,xZeZ N,trivial⟩) fun a r s h=>by
 have lj4:=s.jn 1000201 xZc4 (xZb7 N) [] trivial (by kernel_rfl) (fun x=>by kernel_rfl)
 have lj3:=s.jn 1000163 xZbE (xZbd N) [(1000201,.of xZc4 (xZb7 N))] ⟨lj4,trivial⟩ (by kernel_rfl) (fun x=>by kernel_rfl)
 have lj2:=s.jn 1000063 xZc9 (xZbN N) [(1000163,.of xZbE (xZbd N))] ⟨lj3,trivial⟩ (by kernel_rfl) (fun x=>by kernel_rfl)
 have lj1:=s.jn 1000042 xZbU (xZbb N) [(1000063,.of xZc9 (xZbN N))] ⟨lj2,trivial⟩ (by kernel_rfl) (fun x=>by kernel_rfl)
 have lj0:=s.jn 1000026 xZbx (xZbV N) [(1000042,.of xZbU (xZbb N))] ⟨lj1,trivial⟩ (by kernel_rfl) (fun x=>by kernel_rfl)
 exact s.main [(1000026,.of xZbx (xZbV N))] ⟨lj0,trivial⟩ (.trans (by kernel_rfl) h)
noncomputable def xZkw:Fn xZdd:=⟨f106,[],⟨[],[],sbf,bof⟩,fun _=>[],[true],none,0,0,fun _ _=>true,none,[],[]⟩
theorem xZlv:xZkw.Ok prog:=⟨Is.of (by kernel_rfl) (by kernel_rfl),by kernel_rfl,xZ9 sb_ok bo_ok,trivial,trivial,fun _=>by kernel_rfl⟩
theorem xZm4 (N:Nat):xZdd.Ok prog N:=xZlv.give tb_ok hm N N (fun _=>trivial) fun a r s h=>by
 exact s.main [] trivial (.trans (by kernel_rfl) h)
noncomputable def xZlV:Fn xZ6L:=⟨f66,[],⟨[],[],sbf,bof⟩,fun _=>[xZc5,xZdd,xZ6L],[true,true],none,0,0,fun _ _=>true,none,[],[]⟩
theorem xZgq:xZlV.Ok prog:=⟨Is.of (by kernel_rfl) (by kernel_rfl),by kernel_rfl,xZ9 sb_ok bo_ok,trivial,trivial,fun _=>by kernel_rfl⟩
theorem xZeT:∀ N,xZ6L.Ok prog N
 | 0=>⟨xZgq.is.enters,fun a r h=>by (have h:none=some r:=h;cases h)⟩
 | N+1=>by
   obtain h_ref13_tree:=xZeT N
   ·exact xZgq.give tb_ok hm N (N+1) (fun _=>⟨xZiT N,xZm4 N,h_ref13_tree,trivial⟩) fun a r s h=>by
     have l0:=s.loop 0 xZ6j (xZdy N) N fun next0 h0=>by
      exact fun c v=>s.seg 0 xZ6j [(0,.of xZ6j next0)] ⟨h0,trivial⟩ (by kernel_rfl) (by kernel_rfl)
     exact s.main [(0,.of xZ6j (xZhO N))] ⟨l0,trivial⟩ (.trans (by kernel_rfl) h)
theorem xZlI (N:Nat):xZ6L.Ok prog N:=(xZeT N)
noncomputable def xZjv:Fn xZbK:=⟨f32,[],⟨[],[],sbf,bof⟩,fun _=>[xZ6L,xZ6X,xZ9S],[true],none,0,0,fun _ _=>true,none,[],[]⟩
theorem xZjj:xZjv.Ok prog:=⟨Is.of (by kernel_rfl) (by kernel_rfl),by kernel_rfl,xZ9 sb_ok bo_ok,trivial,trivial,fun _=>by kernel_rfl⟩
theorem xZjJ (N:Nat):xZbK.Ok prog N:=xZjj.give tb_ok hm N N (fun _=>⟨xZlI N,xZdt N,xZg2 N,trivial⟩) fun a r s h=>by
 exact s.main [] trivial (.trans (by kernel_rfl) h)
end
end
section
open Go.Proofs.Tryz
set_option maxRecDepth 1000000
noncomputable section
noncomputable def xZkf:Fn xZb9:=⟨f10,[],⟨[],[],sbf,bof⟩,fun _=>[xZde,xZ6U,xZ3V,xZ6k,xZ9f,xZap,xZcW,xZ4C,xZbK],[true,true],none,0,0,fun _ _=>true,some EqR.cls,[],[78,103,118,141,146,175,180]⟩
theorem xZjB:xZkf.Ok prog:=⟨Is.of (by kernel_rfl) (by kernel_rfl),by kernel_rfl,xZ9 sb_ok bo_ok,trivial,trivial,fun _=>by kernel_rfl⟩
theorem xZjE (N:Nat):xZb9.Ok prog N:=xZjB.give tb_ok hm N N (fun _=>⟨xZl4 N,xZkX N,xZ5p N,xZdP N,xZdv N,xZg5 N,xZl1 N,xZ6S N,xZjJ N,trivial⟩) fun a r s h=>by
 have lj6:=s.jn 1000180 xZcb (xZbC N) [] trivial (by kernel_rfl) (fun x=>by kernel_rfl)
 have lj5:=s.jn 1000175 xZbg (xZbM N) [(1000180,.of xZcb (xZbC N))] ⟨lj6,trivial⟩ (by kernel_rfl) (fun x=>by kernel_rfl)
 have lj4:=s.jn 1000146 xZc7 (xZbT N) [(1000175,.of xZbg (xZbM N))] ⟨lj5,trivial⟩ (by kernel_rfl) (fun x=>by kernel_rfl)
 have lj3:=s.jn 1000141 xZbD (xZb8 N) [(1000146,.of xZc7 (xZbT N))] ⟨lj4,trivial⟩ (by kernel_rfl) (fun x=>by kernel_rfl)
 have lj2:=s.jn 1000118 xZc2 (xZbv N) [(1000141,.of xZbD (xZb8 N))] ⟨lj3,trivial⟩ (by kernel_rfl) (fun x=>by kernel_rfl)
 have lj1:=s.jn 1000103 xZbP (xZbF N) [(1000118,.of xZc2 (xZbv N))] ⟨lj2,trivial⟩ (by kernel_rfl) (fun x=>by kernel_rfl)
 have lj0:=s.jn 1000078 xZbn (xZbQ N) [(1000103,.of xZbP (xZbF N))] ⟨lj1,trivial⟩ (by kernel_rfl) (fun x=>by kernel_rfl)
 exact s.main [(1000078,.of xZbn (xZbQ N))] ⟨lj0,trivial⟩ (.trans (by kernel_rfl) h)
noncomputable def xZl5:Fn xZcY:=⟨f34,[],⟨[(28,3)],[],sbf,bof⟩,fun _=>[],[true],none,0,0,fun _ _=>true,none,[],[]⟩
theorem xZmj:xZl5.Ok prog:=⟨Is.of (by kernel_rfl) (by kernel_rfl),by kernel_rfl,xZ9 sb_ok bo_ok,trivial,trivial,fun _=>by kernel_rfl⟩
theorem xZkL (N:Nat):xZcY.Ok prog N:=xZmj.give tb_ok hm N N (fun _=>trivial) fun a r s h=>by
 have l0:=s.loop 0 xZ65 (xZeb N) N fun next0 h0=>by
  exact fun c v=>s.seg 0 xZ65 [(0,.of xZ65 next0)] ⟨h0,trivial⟩ (by kernel_rfl) (by kernel_rfl)
 exact s.main [(0,.of xZ65 (xZhY N))] ⟨l0,trivial⟩ (.trans (by kernel_rfl) h)
noncomputable def xZm3:Fn xZcV:=⟨f12,[],⟨[(43,5)],[],sbf,bof⟩,fun _=>[xZcY],[true],none,0,0,fun _ _=>true,none,[],[]⟩
theorem xZmn:xZm3.Ok prog:=⟨Is.of (by kernel_rfl) (by kernel_rfl),by kernel_rfl,xZ9 sb_ok bo_ok,trivial,trivial,fun _=>by kernel_rfl⟩
theorem xZls (N:Nat):xZcV.Ok prog N:=xZmn.give tb_ok hm N N (fun _=>⟨xZkL N,trivial⟩) fun a r s h=>by
 have l0:=s.loop 0 xZ6B (xZe9 N) N fun next0 h0=>by
  exact fun c v=>s.seg 0 xZ6B [(0,.of xZ6B next0)] ⟨h0,trivial⟩ (by kernel_rfl) (by kernel_rfl)
 exact s.main [(0,.of xZ6B (xZio N))] ⟨l0,trivial⟩ (.trans (by kernel_rfl) h)
noncomputable def xZmb:Fn xZdq:=⟨f33,[],⟨[],[],sbf,bof⟩,fun _=>[],[true],none,0,0,fun _ _=>true,none,[],[]⟩
theorem xZkM:xZmb.Ok prog:=⟨Is.of (by kernel_rfl) (by kernel_rfl),by kernel_rfl,xZ9 sb_ok bo_ok,trivial,trivial,fun _=>by kernel_rfl⟩
theorem xZmq (N:Nat):xZdq.Ok prog N:=xZkM.give tb_ok hm N N (fun _=>trivial) fun a r s h=>by
 have l0:=s.loop 0 xZ6x (xZdY N) N fun next0 h0=>by
  exact fun c v=>s.seg 0 xZ6x [(0,.of xZ6x next0)] ⟨h0,trivial⟩ (by kernel_rfl) (by kernel_rfl)
 exact s.main [(0,.of xZ6x (xZhW N))] ⟨l0,trivial⟩ (.trans (by kernel_rfl) h)
noncomputable def xZky:Fn xZcT:=⟨f11,[],⟨[],[],sbf,bof⟩,fun _=>[xZdq],[true],none,0,0,fun _ _=>true,none,[],[]⟩
theorem xZlj:xZky.Ok prog:=⟨Is.of (by kernel_rfl) (by kernel_rfl),by kernel_rfl,xZ9 sb_ok bo_ok,trivial,trivial,fun _=>by kernel_rfl⟩
theorem xZmp (N:Nat):xZcT.Ok prog N:=xZlj.give tb_ok hm N N (fun _=>⟨xZmq N,trivial⟩) fun a r s h=>by
 have l0:=s.loop 0 xZ6C (xZdU N) N fun next0 h0=>by
  exact fun c v=>s.seg 0 xZ6C [(0,.of xZ6C next0)] ⟨h0,trivial⟩ (by kernel_rfl) (by kernel_rfl)
 exact s.main [(0,.of xZ6C (xZiL N))] ⟨l0,trivial⟩ (.trans (by kernel_rfl) h)
noncomputable def xZia:Fn xZ9Y:=⟨f13,[],⟨[],[],sbf,bof⟩,fun _=>[xZ6q,xZaH],[true],none,0,0,fun _ _=>true,none,[],[]⟩
theorem xZiC:xZia.Ok prog:=⟨Is.of (by kernel_rfl) (by kernel_rfl),by kernel_rfl,xZ9 sb_ok bo_ok,trivial,trivial,fun _=>by kernel_rfl⟩
theorem xZiz (N:Nat):xZ9Y.Ok prog N:=xZiC.give tb_ok hm N N (fun _=>⟨xZdI N,xZfE N,trivial⟩) fun a r s h=>by
 exact s.main [] trivial (.trans (by kernel_rfl) h)
noncomputable def xZi8:Fn xZa1:=⟨f13,[],⟨[],[],sbf,bof⟩,fun _=>[xZ6t,xZag],[true],none,0,0,fun _ _=>true,none,[],[]⟩
theorem xZiA:xZi8.Ok prog:=⟨Is.of (by kernel_rfl) (by kernel_rfl),by kernel_rfl,xZ9 sb_ok bo_ok,trivial,trivial,fun _=>by kernel_rfl⟩
theorem xZiO (N:Nat):xZa1.Ok prog N:=xZiA.give tb_ok hm N N (fun _=>⟨xZe2 N,xZga N,trivial⟩) fun a r s h=>by
 exact s.main [] trivial (.trans (by kernel_rfl) h)
noncomputable def xZcr:Fn xZ5Z:=⟨f3,[],⟨[],[],sbf,bof⟩,fun _=>[xZbc,xZ5J,xZb9,xZcV,xZcT,xZ9Y,xZa1],[true],none,0,0,fun _ _=>true,none,[],[]⟩
theorem xZcu:xZcr.Ok prog:=⟨Is.of (by kernel_rfl) (by kernel_rfl),by kernel_rfl,xZ9 sb_ok bo_ok,trivial,trivial,fun _=>by kernel_rfl⟩
theorem xZco (N:Nat):xZ5Z.Ok prog N:=xZcu.give tb_ok hm N N (fun _=>⟨xZju N,xZcC N,xZjE N,xZls N,xZmp N,xZiz N,xZiO N,trivial⟩) fun a r s h=>by
 exact s.main [] trivial (.trans (by kernel_rfl) h)
end
end
section
open Go.Proofs.Tryz
set_option maxRecDepth 1000000
noncomputable section
end
end
end Go.Proofs.YtahklhniofiofaaGreatDoor.P
