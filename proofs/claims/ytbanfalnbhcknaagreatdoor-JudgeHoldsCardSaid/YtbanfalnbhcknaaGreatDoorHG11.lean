/- The code, and what each function of it is walked to. No premise beyond what each theorem says. -/
import Derived.Test.YtbanfalnbhcknaaGreatDoorHG10
set_option linter.all false
set_option linter.unusedSimpArgs false
set_option linter.unusedVariables false
namespace Go.Proofs.YtbanfalnbhcknaaGreatDoor.H
open Go
section
open Go.Proofs.Tryz
set_option maxRecDepth 1000000
noncomputable section
noncomputable def xZca:Fn xZ4L:=⟨f216,[],⟨[],[],sbf,bof⟩,fun _=>[],[true],none,0,0,fun _ _=>true,none,[],[],[]⟩
theorem xZcv:xZca.Ok prog:=⟨Is.of (by kernel_rfl) (by kernel_rfl),by kernel_rfl,xZ5 sb_ok bo_ok,trivial,trivial,fun _=>by kernel_rfl⟩
theorem xZch (N:Nat):xZ4L.Ok prog N:=xZcv.give tb_ok hm N N (fun _=>trivial) fun a r s h=>by
 exact s.main [] trivial (.trans (by kernel_rfl) h)
noncomputable def xZaN:Fn xZ40:=⟨f209,[],⟨[],[],sbf,bof⟩,fun _=>[xZ4L],[true],none,0,0,fun _ _=>true,none,[],[],[]⟩
theorem xZb4:xZaN.Ok prog:=⟨Is.of (by kernel_rfl) (by kernel_rfl),by kernel_rfl,xZ5 sb_ok bo_ok,trivial,trivial,fun _=>by kernel_rfl⟩
theorem xZaU (N:Nat):xZ40.Ok prog N:=xZb4.give tb_ok hm N N (fun _=>⟨xZch N,trivial⟩) fun a r s h=>by
 exact s.main [] trivial (.trans (by kernel_rfl) h)
noncomputable def xZc9:Fn xZ4K:=⟨f120,[],⟨[],[],sbf,bof⟩,fun _=>[],[true],none,0,0,fun _ _=>true,none,[],[],[]⟩
theorem xZcu:xZc9.Ok prog:=⟨Is.of (by kernel_rfl) (by kernel_rfl),by kernel_rfl,xZ5 sb_ok bo_ok,trivial,trivial,fun _=>by kernel_rfl⟩
theorem xZcg (N:Nat):xZ4K.Ok prog N:=xZcu.give tb_ok hm N N (fun _=>trivial) fun a r s h=>by
 exact s.main [] trivial (.trans (by kernel_rfl) h)
noncomputable def xZaM:Fn xZ3Z:=⟨f211,[],⟨[],[],sbf,bof⟩,fun _=>[xZ4K],[true],none,0,0,fun _ _=>true,none,[],[],[]⟩
theorem xZb3:xZaM.Ok prog:=⟨Is.of (by kernel_rfl) (by kernel_rfl),by kernel_rfl,xZ5 sb_ok bo_ok,trivial,trivial,fun _=>by kernel_rfl⟩
theorem xZaT (N:Nat):xZ3Z.Ok prog N:=xZb3.give tb_ok hm N N (fun _=>⟨xZcg N,trivial⟩) fun a r s h=>by
 exact s.main [] trivial (.trans (by kernel_rfl) h)
noncomputable def xZiF:Fn xZaK:=⟨f202,[],⟨[],[],sbf,bof⟩,fun _=>[xZ4m,xZ5z,xZc4,xZ40,xZ3Z],[true],none,0,0,fun _ _=>true,none,[],[],[]⟩
theorem xZjC:xZiF.Ok prog:=⟨Is.of (by kernel_rfl) (by kernel_rfl),by kernel_rfl,xZ5 sb_ok bo_ok,trivial,trivial,fun _=>by kernel_rfl⟩
theorem xZj0 (N:Nat):xZaK.Ok prog N:=xZjC.give tb_ok hm N N (fun _=>⟨xZbk N,xZdb N,xZkS N,xZaU N,xZaT N,trivial⟩) fun a r s h=>by
 exact s.main [] trivial (.trans (by kernel_rfl) h)
noncomputable def xZey:Fn xZ7s:=⟨f198,[],⟨[],[],sbf,bof⟩,fun _=>[xZ5B,xZcI,xZaK],[true,true],none,0,0,fun _ _=>true,none,[],[],[]⟩
theorem xZeR:xZey.Ok prog:=⟨Is.of (by kernel_rfl) (by kernel_rfl),by kernel_rfl,xZ5 sb_ok bo_ok,trivial,trivial,fun _=>by kernel_rfl⟩
theorem xZeG (N:Nat):xZ7s.Ok prog N:=xZeR.give tb_ok hm N N (fun _=>⟨xZdd N,xZh4 N,xZj0 N,trivial⟩) fun a r s h=>by
 exact s.main [] trivial (.trans (by kernel_rfl) h)
noncomputable def xZfo:Fn xZ8d:=⟨f199,[],⟨[],[],sbf,bof⟩,fun _=>[],[true],none,0,0,fun _ _=>true,none,[],[],[]⟩
theorem xZg1:xZfo.Ok prog:=⟨Is.of (by kernel_rfl) (by kernel_rfl),by kernel_rfl,xZ5 sb_ok bo_ok,trivial,trivial,fun _=>by kernel_rfl⟩
theorem xZfE (N:Nat):xZ8d.Ok prog N:=xZg1.give tb_ok hm N N (fun _=>trivial) fun a r s h=>by
 exact s.main [] trivial (.trans (by kernel_rfl) h)
noncomputable def xZew:Fn xZ7q:=⟨f196,[],⟨[],[],sbf,bof⟩,fun _=>[xZ5g,xZ3S,xZ7s,xZ8d],[true],none,0,0,fun _ _=>true,none,[],[],[]⟩
theorem xZeP:xZew.Ok prog:=⟨Is.of (by kernel_rfl) (by kernel_rfl),by kernel_rfl,xZ5 sb_ok bo_ok,trivial,trivial,fun _=>by kernel_rfl⟩
theorem xZeE (N:Nat):xZ7q.Ok prog N:=xZeP.give tb_ok hm N N (fun _=>⟨xZ9v N,xZ8V N,xZeG N,xZfE N,trivial⟩) fun a r s h=>by
 exact s.main [] trivial (.trans (by kernel_rfl) h)
noncomputable def xZ8Z:Fn xZU:=⟨f195,[],⟨[],[],sbf,bof⟩,fun _=>[xZ1x,xZ1H,xZ1y,xZ13,xZ7q],[true],none,1,0,fun _ _=>true,none,[],[],[]⟩
theorem xZ90:xZ8Z.Ok prog:=⟨Is.of (by kernel_rfl) (by kernel_rfl),by kernel_rfl,xZ5 sb_ok bo_ok,trivial,trivial,fun _=>by kernel_rfl⟩
theorem xZ1X (N:Nat):xZU.Ok prog N:=xZ90.give tb_ok hm N N (fun _=>⟨xZ2V N,xZ3A N,xZ2W N,xZ5k N,xZeE N,trivial⟩) fun a r s h=>by
 exact s.main [] trivial (.trans (by kernel_rfl) h)
noncomputable def xZ9g:Fn xZJ:=⟨f192,[],⟨[],[],sbf,bof⟩,fun _=>[xZJ,xZK,xZT,xZU],[true],none,1,0,fun _ _=>true,none,[],[],[]⟩
theorem xZ5o:xZ9g.Ok prog:=⟨Is.of (by kernel_rfl) (by kernel_rfl),by kernel_rfl,xZ5 sb_ok bo_ok,trivial,trivial,fun _=>by kernel_rfl⟩
noncomputable def xZ9i:Fn xZK:=⟨f194,[],⟨[],[],sbf,bof⟩,fun _=>[xZJ,xZK,xZT,xZU],[true],none,1,0,fun _ _=>true,none,[],[],[]⟩
theorem xZ5p:xZ9i.Ok prog:=⟨Is.of (by kernel_rfl) (by kernel_rfl),by kernel_rfl,xZ5 sb_ok bo_ok,trivial,trivial,fun _=>by kernel_rfl⟩
noncomputable def xZaf:Fn xZT:=⟨f193,[],⟨[],[],sbf,bof⟩,fun _=>[xZJ,xZK,xZT,xZU],[true],none,1,0,fun _ _=>true,none,[],[],[]⟩
theorem xZ5L:xZaf.Ok prog:=⟨Is.of (by kernel_rfl) (by kernel_rfl),by kernel_rfl,xZ5 sb_ok bo_ok,trivial,trivial,fun _=>by kernel_rfl⟩
theorem xZ1Y:∀ N,xZJ.Ok prog N∧xZK.Ok prog N∧xZT.Ok prog N
 | 0=>⟨⟨xZ5o.is.enters,fun a r h=>by (have h:none=some r:=h;cases h)⟩,⟨xZ5p.is.enters,fun a r h=>by (have h:none=some r:=h;cases h)⟩,⟨xZ5L.is.enters,fun a r h=>by (have h:none=some r:=h;cases h)⟩⟩
 | N+1=>by
   obtain ⟨h_judge_and_holds_v355,h_judge_not_holds_v301,h_judge_or_holds_v355⟩:=xZ1Y N
   refine ⟨?_,?_,?_⟩
   ·exact xZ5o.give tb_ok hm N (N+1) (fun _=>⟨h_judge_and_holds_v355,h_judge_not_holds_v301,h_judge_or_holds_v355,xZ1X N,trivial⟩) fun a r s h=>by
     exact s.main [] trivial (.trans (by kernel_rfl) h)
   ·exact xZ5p.give tb_ok hm N (N+1) (fun _=>⟨h_judge_and_holds_v355,h_judge_not_holds_v301,h_judge_or_holds_v355,xZ1X N,trivial⟩) fun a r s h=>by
     exact s.main [] trivial (.trans (by kernel_rfl) h)
   ·exact xZ5L.give tb_ok hm N (N+1) (fun _=>⟨h_judge_and_holds_v355,h_judge_not_holds_v301,h_judge_or_holds_v355,xZ1X N,trivial⟩) fun a r s h=>by
     exact s.main [] trivial (.trans (by kernel_rfl) h)
theorem xZ9q (N:Nat):xZJ.Ok prog N:=(xZ1Y N).1
theorem xZ9r (N:Nat):xZK.Ok prog N:=(xZ1Y N).2.1
theorem xZag (N:Nat):xZT.Ok prog N:=(xZ1Y N).2.2
noncomputable def xZgz:Fn xZ6Z:=⟨f14,[],⟨[],[],sbf,bof⟩,fun _=>[xZ8f,xZ12,xZJ,xZK,xZT,xZU],[true],none,0,0,fun _ _=>true,some EqR.cls,[],[],[]⟩
theorem xZhv:xZgz.Ok prog:=⟨Is.of (by kernel_rfl) (by kernel_rfl),by kernel_rfl,xZ5 sb_ok bo_ok,trivial,trivial,fun _=>by kernel_rfl⟩
theorem xZcJ (N:Nat):xZ6Z.Ok prog N:=xZhv.give tb_ok hm N N (fun _=>⟨xZaV N,xZ82 N,xZ9q N,xZ9r N,xZag N,xZ1X N,trivial⟩) fun a r s h=>by
 exact s.main [] trivial (.trans (by kernel_rfl) h)
noncomputable def xZeB:Fn xZ7u:=⟨f143,[],⟨[],[],sbf,bof⟩,fun _=>[xZ4p,xZ73],[true],none,0,0,fun _ _=>true,none,[],[],[]⟩
theorem xZeU:xZeB.Ok prog:=⟨Is.of (by kernel_rfl) (by kernel_rfl),by kernel_rfl,xZ5 sb_ok bo_ok,trivial,trivial,fun _=>by kernel_rfl⟩
theorem xZeI (N:Nat):xZ7u.Ok prog N:=xZeU.give tb_ok hm N N (fun _=>⟨xZ9u N,xZcN N,trivial⟩) fun a r s h=>by
 have l2:=s.loop 2 xZ3U (xZ8X N) N fun next2 h2=>by
  exact fun c v=>s.seg 2 xZ3U [(2,.of xZ3U next2)] ⟨h2,trivial⟩ (by kernel_rfl) (by kernel_rfl)
 have l0:=s.loop 0 xZ3T (xZ8W N) N fun next0 h0=>by
  exact fun c v=>s.seg 0 xZ3T [(0,.of xZ3T next0),(2,.of xZ3U (xZdn N))] ⟨h0,l2,trivial⟩ (by kernel_rfl) (by kernel_rfl)
 exact s.main [(0,.of xZ3T (xZdm N))] ⟨l0,trivial⟩ (.trans (by kernel_rfl) h)
noncomputable def xZfr:Fn xZ8k:=⟨f111,[],⟨[],[],sbf,bof⟩,fun _=>[xZ2S,xZ6m,xZ7u],[true,true],none,0,0,fun _ _=>true,none,[],[],[]⟩
theorem xZg4:xZfr.Ok prog:=⟨Is.of (by kernel_rfl) (by kernel_rfl),by kernel_rfl,xZ5 sb_ok bo_ok,trivial,trivial,fun _=>by kernel_rfl⟩
theorem xZfI (N:Nat):xZ8k.Ok prog N:=xZg4.give tb_ok hm N N (fun _=>⟨xZ4Q N,xZaW N,xZeI N,trivial⟩) fun a r s h=>by
 exact s.main [] trivial (.trans (by kernel_rfl) h)
noncomputable def xZgE:Fn xZ71:=⟨f113,[],⟨[],[],sbf,bof⟩,fun _=>[xZ2S],[true],none,0,0,fun _ _=>true,none,[],[],[]⟩
theorem xZhA:xZgE.Ok prog:=⟨Is.of (by kernel_rfl) (by kernel_rfl),by kernel_rfl,xZ5 sb_ok bo_ok,trivial,trivial,fun _=>by kernel_rfl⟩
theorem xZcL (N:Nat):xZ71.Ok prog N:=xZhA.give tb_ok hm N N (fun _=>⟨xZ4Q N,trivial⟩) fun a r s h=>by
 exact s.main [] trivial (.trans (by kernel_rfl) h)
end
end
section
open Go.Proofs.Tryz
set_option maxRecDepth 1000000
noncomputable section
noncomputable def xZir:Fn xZ8j:=⟨f144,[],⟨[],[],sbf,bof⟩,fun _=>[xZ5e,xZ6m],[true],none,0,0,fun _ _=>true,none,[],[],[]⟩
theorem xZjq:xZir.Ok prog:=⟨Is.of (by kernel_rfl) (by kernel_rfl),by kernel_rfl,xZ5 sb_ok bo_ok,trivial,trivial,fun _=>by kernel_rfl⟩
theorem xZdT (N:Nat):xZ8j.Ok prog N:=xZjq.give tb_ok hm N N (fun _=>⟨xZ9t N,xZaW N,trivial⟩) fun a r s h=>by
 exact s.main [] trivial (.trans (by kernel_rfl) h)
noncomputable def xZiq:Fn xZaE:=⟨f112,[],⟨[],[],sbf,bof⟩,fun _=>[xZ2S,xZ71,xZ8j],[true],none,0,0,fun _ _=>true,none,[],[],[]⟩
theorem xZjp:xZiq.Ok prog:=⟨Is.of (by kernel_rfl) (by kernel_rfl),by kernel_rfl,xZ5 sb_ok bo_ok,trivial,trivial,fun _=>by kernel_rfl⟩
theorem xZiT (N:Nat):xZaE.Ok prog N:=xZjp.give tb_ok hm N N (fun _=>⟨xZ4Q N,xZcL N,xZdT N,trivial⟩) fun a r s h=>by
 exact s.main [] trivial (.trans (by kernel_rfl) h)
noncomputable def xZiu:Fn xZaF:=⟨f114,[],⟨[],[],sbf,bof⟩,fun _=>[xZ8j],[true],none,0,0,fun _ _=>true,none,[],[124],[]⟩
theorem xZjt:xZiu.Ok prog:=⟨Is.of (by kernel_rfl) (by kernel_rfl),by kernel_rfl,xZ5 sb_ok bo_ok,trivial,trivial,fun _=>by kernel_rfl⟩
theorem xZiU (N:Nat):xZaF.Ok prog N:=xZjt.give tb_ok hm N N (fun _=>⟨xZdT N,trivial⟩) fun a r s h=>by
 have lj2:=s.jn 1000124 xZat (xZau N) [] trivial (by kernel_rfl) (fun x=>by kernel_rfl)
 exact s.main [(1000124,.of xZat (xZau N))] ⟨lj2,trivial⟩ (.trans (by kernel_rfl) h)
noncomputable def xZgM:Fn xZ98:=⟨f76,[],⟨[],[],sbf,bof⟩,fun _=>[xZ8k,xZaE,xZ71,xZaF],[true,true],none,0,0,fun _ _=>true,none,[],[],[]⟩
theorem xZhI:xZgM.Ok prog:=⟨Is.of (by kernel_rfl) (by kernel_rfl),by kernel_rfl,xZ5 sb_ok bo_ok,trivial,trivial,fun _=>by kernel_rfl⟩
theorem xZh9 (N:Nat):xZ98.Ok prog N:=xZhI.give tb_ok hm N N (fun _=>⟨xZfI N,xZiT N,xZcL N,xZiU N,trivial⟩) fun a r s h=>by
 exact s.main [] trivial (.trans (by kernel_rfl) h)
noncomputable def xZgK:Fn xZ96:=⟨f50,[],⟨[],[],sbf,bof⟩,fun _=>[xZ4q,xZ98,xZ4b],[true],none,0,0,fun _ _=>true,none,[],[49,81,119],[]⟩
theorem xZhG:xZgK.Ok prog:=⟨Is.of (by kernel_rfl) (by kernel_rfl),by kernel_rfl,xZ5 sb_ok bo_ok,trivial,trivial,fun _=>by kernel_rfl⟩
theorem xZh7 (N:Nat):xZ96.Ok prog N:=xZhG.give tb_ok hm N N (fun _=>⟨xZ8x N,xZh9 N,xZ78 N,trivial⟩) fun a r s h=>by
 have lj2:=s.jn 1000119 xZ9R (xZ9V N) [] trivial (by kernel_rfl) (fun x=>by kernel_rfl)
 have lj1:=s.jn 1000081 xZ9Q (xZ9U N) [(1000119,.of xZ9R (xZ9V N))] ⟨lj2,trivial⟩ (by kernel_rfl) (fun x=>by kernel_rfl)
 have lj0:=s.jn 1000049 xZ9P (xZ9T N) [(1000081,.of xZ9Q (xZ9U N))] ⟨lj1,trivial⟩ (by kernel_rfl) (fun x=>by kernel_rfl)
 exact s.main [(1000049,.of xZ9P (xZ9T N))] ⟨lj0,trivial⟩ (.trans (by kernel_rfl) h)
noncomputable def xZgS:Fn xZ5f:=⟨f32,[],⟨[],[],sbf,bof⟩,fun _=>[xZ8o,xZ5f,xZ4O,xZ96],[true],none,0,0,fun _ _=>true,none,[],[],[]⟩
theorem xZcY:xZgS.Ok prog:=⟨Is.of (by kernel_rfl) (by kernel_rfl),by kernel_rfl,xZ5 sb_ok bo_ok,trivial,trivial,fun _=>by kernel_rfl⟩
theorem xZbr:∀ N,xZ5f.Ok prog N
 | 0=>⟨xZcY.is.enters,fun a r h=>by (have h:none=some r:=h;cases h)⟩
 | N+1=>by
   obtain h_ref20_truth:=xZbr N
   ·exact xZcY.give tb_ok hm N (N+1) (fun _=>⟨xZdY N,h_ref20_truth,xZdZ N,xZh7 N,trivial⟩) fun a r s h=>by
     exact s.main [] trivial (.trans (by kernel_rfl) h)
theorem xZhd (N:Nat):xZ5f.Ok prog N:=(xZbr N)
noncomputable def xZgQ:Fn xZ75:=⟨f17,[],⟨[],[],sbf,bof⟩,fun _=>[xZ74,xZ5f],[true],none,0,0,fun _ _=>true,none,[],[],[]⟩
theorem xZhM:xZgQ.Ok prog:=⟨Is.of (by kernel_rfl) (by kernel_rfl),by kernel_rfl,xZ5 sb_ok bo_ok,trivial,trivial,fun _=>by kernel_rfl⟩
theorem xZcP (N:Nat):xZ75.Ok prog N:=xZhM.give tb_ok hm N N (fun _=>⟨xZcO N,xZhd N,trivial⟩) fun a r s h=>by
 exact s.main [] trivial (.trans (by kernel_rfl) h)
noncomputable def xZgA:Fn xZ91:=⟨f18,[],⟨[],[],sbf,bof⟩,fun _=>[xZ6Z],[true],none,0,0,fun _ _=>true,none,[],[],[]⟩
theorem xZhw:xZgA.Ok prog:=⟨Is.of (by kernel_rfl) (by kernel_rfl),by kernel_rfl,xZ5 sb_ok bo_ok,trivial,trivial,fun _=>by kernel_rfl⟩
theorem xZh0 (N:Nat):xZ91.Ok prog N:=xZhw.give tb_ok hm N N (fun _=>⟨xZcJ N,trivial⟩) fun a r s h=>by
 exact s.main [] trivial (.trans (by kernel_rfl) h)
noncomputable def xZgR:Fn xZ9b:=⟨f19,[],⟨[],[],sbf,bof⟩,fun _=>[xZ75],[true],none,0,0,fun _ _=>true,none,[],[],[]⟩
theorem xZhN:xZgR.Ok prog:=⟨Is.of (by kernel_rfl) (by kernel_rfl),by kernel_rfl,xZ5 sb_ok bo_ok,trivial,trivial,fun _=>by kernel_rfl⟩
theorem xZhc (N:Nat):xZ9b.Ok prog N:=xZhN.give tb_ok hm N N (fun _=>⟨xZcP N,trivial⟩) fun a r s h=>by
 exact s.main [] trivial (.trans (by kernel_rfl) h)
noncomputable def xZcb:Fn xZ7V:=⟨f4,[],⟨[],[],sbf,bof⟩,fun _=>[xZaA,xZcH,xZaC,xZc1,xZc0,xZ92,xZa3,xZax,xZaJ,xZ6Z,xZ75,xZ91,xZ9b],[true],none,0,0,fun _ _=>true,none,[],[],[]⟩
theorem xZcw:xZcb.Ok prog:=⟨Is.of (by kernel_rfl) (by kernel_rfl),by kernel_rfl,xZ5 sb_ok bo_ok,trivial,trivial,fun _=>by kernel_rfl⟩
theorem xZci (N:Nat):xZ7V.Ok prog N:=xZcw.give tb_ok hm N N (fun _=>⟨xZiO N,xZh2 N,xZiQ N,xZkP N,xZkO N,xZh1 N,xZf9 N,xZiL N,xZiZ N,xZcJ N,xZcP N,xZh0 N,xZhc N,trivial⟩) fun a r s h=>by
 have l0:=s.loop 0 xZ2A (xZ6r N) N fun next0 h0=>by
  exact fun c v=>s.seg 0 xZ2A [(0,.of xZ2A next0)] ⟨h0,trivial⟩ (by kernel_rfl) (by kernel_rfl)
 exact s.main [(0,.of xZ2A (xZb8 N))] ⟨l0,trivial⟩ (.trans (by kernel_rfl) h)
end
end
end Go.Proofs.YtbanfalnbhcknaaGreatDoor.H
