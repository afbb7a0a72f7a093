/- The code, and what each function of it is walked to. No premise beyond what each theorem says. -/
import Derived.Test.YtmllclbhdmajmaaGreatAG8
set_option linter.all false
set_option linter.unusedSimpArgs false
set_option linter.unusedVariables false
namespace Go.Proofs.YtmllclbhdmajmaaGreat.A
open Go
section
open Go.Proofs.Tryz
set_option maxRecDepth 1000000
noncomputable section
noncomputable def xZbX:Fn xZ75:=⟨f22,[],⟨[],[],sbf,bof⟩,fun _=>[],[true],none,0,0,fun _ _=>true,none,[],[],[]⟩
theorem xZcB:xZbX.Ok prog:=⟨Is.of (by kernel_rfl) (by kernel_rfl),by kernel_rfl,xZ4 sb_ok bo_ok,trivial,trivial,fun _=>by kernel_rfl⟩
theorem xZcf (N:Nat):xZ75.Ok prog N:=xZcB.give tb_ok hm N N (fun _=>trivial) fun a r s h=>by
 have l0:=s.loop 0 xZ3B (xZ7D N) N fun next0 h0=>by
  exact fun c v=>s.seg 0 xZ3B [(0,.of xZ3B next0)] ⟨h0,trivial⟩ (by kernel_rfl) (by kernel_rfl)
 exact s.main [(0,.of xZ3B (xZaR N))] ⟨l0,trivial⟩ (.trans (by kernel_rfl) h)
noncomputable def xZdC:Fn xZ86:=⟨f30,[],⟨[(28,1)],[],sbf,bof⟩,fun _=>[],[true],none,0,0,fun _ _=>true,none,[],[],[]⟩
theorem xZe0:xZdC.Ok prog:=⟨Is.of (by kernel_rfl) (by kernel_rfl),by kernel_rfl,xZ4 sb_ok bo_ok,trivial,trivial,fun _=>by kernel_rfl⟩
theorem xZdN (N:Nat):xZ86.Ok prog N:=xZe0.give tb_ok hm N N (fun _=>trivial) fun a r s h=>by
 have l0:=s.loop 0 xZ4s (xZ8x N) N fun next0 h0=>by
  exact fun c v=>s.seg 0 xZ4s [(0,.of xZ4s next0)] ⟨h0,trivial⟩ (by kernel_rfl) (by kernel_rfl)
 exact s.main [(0,.of xZ4s (xZbH N))] ⟨l0,trivial⟩ (.trans (by kernel_rfl) h)
noncomputable def xZdD:Fn xZ87:=⟨f15,[],⟨[(28,3),(55,2)],[],sbf,bof⟩,fun _=>[xZ86],[true],none,0,0,fun _ _=>true,none,[],[],[]⟩
theorem xZe1:xZdD.Ok prog:=⟨Is.of (by kernel_rfl) (by kernel_rfl),by kernel_rfl,xZ4 sb_ok bo_ok,trivial,trivial,fun _=>by kernel_rfl⟩
theorem xZdO (N:Nat):xZ87.Ok prog N:=xZe1.give tb_ok hm N N (fun _=>⟨xZdN N,trivial⟩) fun a r s h=>by
 have l2:=s.loop 2 xZ4u (xZ8z N) N fun next2 h2=>by
  exact fun c v=>s.seg 2 xZ4u [(2,.of xZ4u next2)] ⟨h2,trivial⟩ (by kernel_rfl) (by kernel_rfl)
 have l0:=s.loop 0 xZ4t (xZ8y N) N fun next0 h0=>by
  exact fun c v=>s.seg 0 xZ4t [(0,.of xZ4t next0),(2,.of xZ4u (xZbJ N))] ⟨h0,l2,trivial⟩ (by kernel_rfl) (by kernel_rfl)
 exact s.main [(0,.of xZ4t (xZbI N))] ⟨l0,trivial⟩ (.trans (by kernel_rfl) h)
noncomputable def xZaj:Fn xZ5z:=⟨f46,[],⟨[],[],sbf,bof⟩,fun _=>[],[true],none,0,0,fun _ _=>true,none,[],[],[]⟩
theorem xZaL:xZaj.Ok prog:=⟨Is.of (by kernel_rfl) (by kernel_rfl),by kernel_rfl,xZ4 sb_ok bo_ok,trivial,trivial,fun _=>by kernel_rfl⟩
theorem xZar (N:Nat):xZ5z.Ok prog N:=xZaL.give tb_ok hm N N (fun _=>trivial) fun a r s h=>by
 exact s.main [] trivial (.trans (by kernel_rfl) h)
noncomputable def xZc6:Fn xZ7a:=⟨f80,[],⟨[(2000018,13),(2000028,13)],[],sbf,bof⟩,fun _=>[],[true],none,0,0,fun _ _=>true,none,[],[],[]⟩
theorem xZcK:xZc6.Ok prog:=⟨Is.of (by kernel_rfl) (by kernel_rfl),by kernel_rfl,xZ4 sb_ok bo_ok,trivial,trivial,fun _=>by kernel_rfl⟩
theorem xZcl (N:Nat):xZ7a.Ok prog N:=xZcK.give tb_ok hm N N (fun _=>trivial) fun a r s h=>by
 have l0:=s.loop 0 xZ3I (xZ7K N) N fun next0 h0=>by
  exact fun c v=>s.seg 0 xZ3I [(0,.of xZ3I next0)] ⟨h0,trivial⟩ (by kernel_rfl) (by kernel_rfl)
 exact s.main [(0,.of xZ3I (xZaY N))] ⟨l0,trivial⟩ (.trans (by kernel_rfl) h)
noncomputable def xZbb:Fn xZ6s:=⟨f81,[],⟨[(2000012,13),(2000016,13),(2000019,13)],[],sbf,bof⟩,fun _=>[],[true],none,0,0,fun _ _=>true,none,[],[],[]⟩
theorem xZbw:xZbb.Ok prog:=⟨Is.of (by kernel_rfl) (by kernel_rfl),by kernel_rfl,xZ4 sb_ok bo_ok,trivial,trivial,fun _=>by kernel_rfl⟩
theorem xZbk (N:Nat):xZ6s.Ok prog N:=xZbw.give tb_ok hm N N (fun _=>trivial) fun a r s h=>by
 have l0:=s.loop 0 xZ3e (xZ6Y N) N fun next0 h0=>by
  exact fun c v=>s.seg 0 xZ3e [(0,.of xZ3e next0)] ⟨h0,trivial⟩ (by kernel_rfl) (by kernel_rfl)
 exact s.main [(0,.of xZ3e (xZ9U N))] ⟨l0,trivial⟩ (.trans (by kernel_rfl) h)
noncomputable def xZai:Fn xZ2C:=⟨f52,[],⟨[],[],sbf,bof⟩,fun _=>[xZ5z,xZ7a,xZ2C,xZ33,xZ6s],[true],none,0,0,fun _ _=>true,none,[],[],[]⟩
theorem xZ7S:xZai.Ok prog:=⟨Is.of (by kernel_rfl) (by kernel_rfl),by kernel_rfl,xZ4 sb_ok bo_ok,trivial,trivial,fun _=>by kernel_rfl⟩
theorem xZ6W:∀ N,xZ2C.Ok prog N
 | 0=>⟨xZ7S.is.enters,fun a r h=>by (have h:none=some r:=h;cases h)⟩
 | N+1=>by
   obtain h_ref16_behind:=xZ6W N
   ·exact xZ7S.give tb_ok hm N (N+1) (fun _=>⟨xZar N,xZcl N,h_ref16_behind,xZ5J N,xZbk N,trivial⟩) fun a r s h=>by
     have l0:=s.loop 0 xZ2Q (xZ6C N) N fun next0 h0=>by
      exact fun c v=>s.seg 0 xZ2Q [(0,.of xZ2Q next0)] ⟨h0,trivial⟩ (by kernel_rfl) (by kernel_rfl)
     exact s.main [(0,.of xZ2Q (xZ9x N))] ⟨l0,trivial⟩ (.trans (by kernel_rfl) h)
theorem xZaq (N:Nat):xZ2C.Ok prog N:=(xZ6W N)
noncomputable def xZ9I:Fn xZ4G:=⟨f24,[],⟨[(2000021,13)],[],sbf,bof⟩,fun _=>[xZ5x,xZ2C],[true],none,0,0,fun _ _=>true,none,[],[],[]⟩
theorem xZ9R:xZ9I.Ok prog:=⟨Is.of (by kernel_rfl) (by kernel_rfl),by kernel_rfl,xZ4 sb_ok bo_ok,trivial,trivial,fun _=>by kernel_rfl⟩
theorem xZ9L (N:Nat):xZ4G.Ok prog N:=xZ9R.give tb_ok hm N N (fun _=>⟨xZ9d N,xZaq N,trivial⟩) fun a r s h=>by
 exact s.main [] trivial (.trans (by kernel_rfl) h)
noncomputable def xZ5B:Fn xZ1B:=⟨f38,[],⟨[],[],sbf,bof⟩,fun _=>[],[true],none,0,0,fun _ _=>true,none,[],[],[]⟩
theorem xZ5S:xZ5B.Ok prog:=⟨Is.of (by kernel_rfl) (by kernel_rfl),by kernel_rfl,xZ4 sb_ok bo_ok,trivial,trivial,fun _=>by kernel_rfl⟩
theorem xZ5L (N:Nat):xZ1B.Ok prog N:=xZ5S.give tb_ok hm N N (fun _=>trivial) fun a r s h=>by
 have l0:=s.loop 0 xZX (xZ2d N) N fun next0 h0=>by
  exact fun c v=>s.seg 0 xZX [(0,.of xZX next0)] ⟨h0,trivial⟩ (by kernel_rfl) (by kernel_rfl)
 exact s.main [(0,.of xZX (xZ56 N))] ⟨l0,trivial⟩ (.trans (by kernel_rfl) h)
noncomputable def xZ5C:Fn xZ1C:=⟨f111,[],⟨[],[],sbf,bof⟩,fun _=>[],[true],none,0,0,fun _ _=>true,none,[],[],[]⟩
theorem xZ5T:xZ5C.Ok prog:=⟨Is.of (by kernel_rfl) (by kernel_rfl),by kernel_rfl,xZ4 sb_ok bo_ok,trivial,trivial,fun _=>by kernel_rfl⟩
theorem xZ5M (N:Nat):xZ1C.Ok prog N:=xZ5T.give tb_ok hm N N (fun _=>trivial) fun a r s h=>by
 have l0:=s.loop 0 xZY (xZ2e N) N fun next0 h0=>by
  exact fun c v=>s.seg 0 xZY [(0,.of xZY next0)] ⟨h0,trivial⟩ (by kernel_rfl) (by kernel_rfl)
 exact s.main [(0,.of xZY (xZ57 N))] ⟨l0,trivial⟩ (.trans (by kernel_rfl) h)
noncomputable def xZdF:Fn xZ89:=⟨f74,[],⟨[],[],sbf,bof⟩,fun _=>[xZ1C],[true],none,0,0,fun _ _=>true,none,[],[],[]⟩
theorem xZe3:xZdF.Ok prog:=⟨Is.of (by kernel_rfl) (by kernel_rfl),by kernel_rfl,xZ4 sb_ok bo_ok,trivial,trivial,fun _=>by kernel_rfl⟩
theorem xZdQ (N:Nat):xZ89.Ok prog N:=xZe3.give tb_ok hm N N (fun _=>⟨xZ5M N,trivial⟩) fun a r s h=>by
 exact s.main [] trivial (.trans (by kernel_rfl) h)
noncomputable def xZdB:Fn xZ85:=⟨f40,[],⟨[],[],sbf,bof⟩,fun _=>[xZ89],[true],none,0,0,fun _ _=>true,none,[],[],[]⟩
theorem xZdZ:xZdB.Ok prog:=⟨Is.of (by kernel_rfl) (by kernel_rfl),by kernel_rfl,xZ4 sb_ok bo_ok,trivial,trivial,fun _=>by kernel_rfl⟩
theorem xZdM (N:Nat):xZ85.Ok prog N:=xZdZ.give tb_ok hm N N (fun _=>⟨xZdQ N,trivial⟩) fun a r s h=>by
 exact s.main [] trivial (.trans (by kernel_rfl) h)
noncomputable def xZ2F:Fn xZE:=⟨f39,[],⟨[],[],sbf,bof⟩,fun _=>[xZ85],[true],none,0,0,fun _ _=>true,none,[],[],[]⟩
theorem xZ2P:xZ2F.Ok prog:=⟨Is.of (by kernel_rfl) (by kernel_rfl),by kernel_rfl,xZ4 sb_ok bo_ok,trivial,trivial,fun _=>by kernel_rfl⟩
theorem xZ2J (N:Nat):xZE.Ok prog N:=xZ2P.give tb_ok hm N N (fun _=>⟨xZdM N,trivial⟩) fun a r s h=>by
 have l0:=s.loop 0 xZl (xZ1f N) N fun next0 h0=>by
  exact fun c v=>s.seg 0 xZl [(0,.of xZl next0)] ⟨h0,trivial⟩ (by kernel_rfl) (by kernel_rfl)
 exact s.main [(0,.of xZl (xZ2r N))] ⟨l0,trivial⟩ (.trans (by kernel_rfl) h)
noncomputable def xZdx:Fn xZ82:=⟨f14,[],⟨[],[],sbf,bof⟩,fun _=>[xZ1B,xZE],[true],none,0,0,fun _ _=>true,none,[],[],[]⟩
theorem xZdV:xZdx.Ok prog:=⟨Is.of (by kernel_rfl) (by kernel_rfl),by kernel_rfl,xZ4 sb_ok bo_ok,trivial,trivial,fun _=>by kernel_rfl⟩
theorem xZdJ (N:Nat):xZ82.Ok prog N:=xZdV.give tb_ok hm N N (fun _=>⟨xZ5L N,xZ2J N,trivial⟩) fun a r s h=>by
 exact s.main [] trivial (.trans (by kernel_rfl) h)
noncomputable def xZc1:Fn xZ78:=⟨f36,[],⟨[],[],sbf,bof⟩,fun _=>[],[true],none,0,0,fun _ _=>true,none,[],[],[]⟩
theorem xZcF:xZc1.Ok prog:=⟨Is.of (by kernel_rfl) (by kernel_rfl),by kernel_rfl,xZ4 sb_ok bo_ok,trivial,trivial,fun _=>by kernel_rfl⟩
theorem xZcj (N:Nat):xZ78.Ok prog N:=xZcF.give tb_ok hm N N (fun _=>trivial) fun a r s h=>by
 have l0:=s.loop 0 xZ3D (xZ7F N) N fun next0 h0=>by
  exact fun c v=>s.seg 0 xZ3D [(0,.of xZ3D next0)] ⟨h0,trivial⟩ (by kernel_rfl) (by kernel_rfl)
 exact s.main [(0,.of xZ3D (xZaT N))] ⟨l0,trivial⟩ (.trans (by kernel_rfl) h)
end
end
section
open Go.Proofs.Tryz
set_option maxRecDepth 1000000
noncomputable section
noncomputable def xZc4:Fn xZ79:=⟨f12,[],⟨[],[],sbf,bof⟩,fun _=>[xZ78],[true],none,0,0,fun _ _=>true,none,[],[],[]⟩
theorem xZcI:xZc4.Ok prog:=⟨Is.of (by kernel_rfl) (by kernel_rfl),by kernel_rfl,xZ4 sb_ok bo_ok,trivial,trivial,fun _=>by kernel_rfl⟩
theorem xZck (N:Nat):xZ79.Ok prog N:=xZcI.give tb_ok hm N N (fun _=>⟨xZcj N,trivial⟩) fun a r s h=>by
 have l2:=s.loop 2 xZ3G (xZ7I N) N fun next2 h2=>by
  exact fun c v=>s.seg 2 xZ3G [(2,.of xZ3G next2)] ⟨h2,trivial⟩ (by kernel_rfl) (by kernel_rfl)
 have l0:=s.loop 0 xZ3F (xZ7H N) N fun next0 h0=>by
  exact fun c v=>s.seg 0 xZ3F [(0,.of xZ3F next0),(2,.of xZ3G (xZaW N))] ⟨h0,l2,trivial⟩ (by kernel_rfl) (by kernel_rfl)
 exact s.main [(0,.of xZ3F (xZaV N))] ⟨l0,trivial⟩ (.trans (by kernel_rfl) h)
noncomputable def xZ7q:Fn xZ4m:=⟨f4,[],⟨[],[],sbf,bof⟩,fun _=>[xZ76,xZ8u,xZ75,xZ87,xZ3q,xZ4G,xZ82,xZ79,xZ5e,xZ33],[true],none,0,0,fun _ _=>true,none,[],[],[]⟩
theorem xZ7R:xZ7q.Ok prog:=⟨Is.of (by kernel_rfl) (by kernel_rfl),by kernel_rfl,xZ4 sb_ok bo_ok,trivial,trivial,fun _=>by kernel_rfl⟩
theorem xZ7u (N:Nat):xZ4m.Ok prog N:=xZ7R.give tb_ok hm N N (fun _=>⟨xZcg N,xZbi N,xZcf N,xZdO N,xZ5H N,xZ9L N,xZdJ N,xZck N,xZ8f N,xZ5J N,trivial⟩) fun a r s h=>by
 exact s.main [] trivial (.trans (by kernel_rfl) h)
end
end
end Go.Proofs.YtmllclbhdmajmaaGreat.A
