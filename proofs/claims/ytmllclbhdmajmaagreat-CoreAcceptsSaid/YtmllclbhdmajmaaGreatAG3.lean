/- pred.Node.more, walked. No premise beyond what each theorem says. -/
import Derived.Test.YtmllclbhdmajmaaGreatAG2
import Derived.WalkKit
import Derived.WalkLawsBesides
import Derived.Deep.RegionHeld3
import Derived.Lib.Walk
import Derived.Lib.SliceRun
import Derived.Lib.AppendZerosOnto
import Derived.LaidEql
import Derived.Stop.Asserts
import Derived.RowKitTokens
set_option linter.all false
set_option linter.unusedSimpArgs false
set_option linter.unusedVariables false
set_option linter.unusedVariables false
set_option linter.unusedSimpArgs false
namespace Go.Proofs.YtmllclbhdmajmaaGreat.A
open Go Go.RowKit Go.Proofs.Tryz
set_option maxHeartbeats 4000000
set_option maxRecDepth 1000000
theorem xZca {M:Maps} {S:Nat→Prop} {w:World} {v:Value} {l:List Value} (h:VRep M S w v (.agg (l.map .v))):v=.agg l.toArray:=by
 have key:∀ vs:Array Value,vs.size=(l.map AV.v).length→(∀ i,i < (l.map AV.v).length→VRep M S w (vs.getD i undef) ((l.map AV.v).getD i .any))→vs=l.toArray:=fun vs hn hall=>by
  rw [List.length_map] at hn
  refine Array.ext (by simpa using hn) fun i h1 h2=>?_
  have hi:i < l.length:=by omega
  have q:=hall i (by simpa using hi)
  rw [show (l.map AV.v).getD i .any=.v l[i] by simp [List.getD,hi]] at q
  have:=q.v_eq
  simpa [Array.getD,h1] using this
 cases h with
 | data h=>cases h with | agg vs _ hn hall=>exact congrArg _ (key vs hn fun i hi=>.data (hall i hi))
 | agg vs _ hn hall=>exact congrArg _ (key vs hn hall)
theorem xZ9j (w:World) (a b:Obj):Grew w ((w.alloc a).alloc b):=⟨rfl,rfl,rfl,by simp;omega,fun g h=>(xZ1n _ _ g (by simp;omega)).trans (xZ1n _ _ g h)⟩
theorem xZeK (w:World) (a b:Obj):Grew w ((w.alloc a).alloc b).drew:=⟨rfl,rfl,rfl,by simp;omega,fun g h=>(xZ1n _ _ g (by simp;omega)).trans (xZ1n _ _ g h)⟩
theorem xZ9a (l:List UInt8):(bs l).toList=[] ↔ l=[]:=by simp [bs]
theorem xZkB (o vk vn vb:Int) (va na vt:List UInt8) (w:World):
 Calls Tryz.prog 154 #[.agg #[.int .u8 4,.int .u8 o,.string (bs va),.string (bs na),.int .u8 vk,.int .i64 vn,.int .u64 vb,.string (bs vt)]] w fun e w'=>(∃ b,e=.returned (.bool b)∧(b=false ↔ (va=[]∧na=[]∧0=vk∧0=vn∧0=vb∧vt=[])))∧Grew w w':=by
 rw [← xZ9a vt,← xZ9a va,← xZ9a na]
 go_enter Tryz.func154,Tryz.ntmps154
 go_wp2
 all_goals
  go_ret
  refine ⟨⟨_,rfl,?_⟩,xZ9j _ _ _⟩
  simp_all
theorem xZkC (o vk vn vb:Int) (va na vt:List UInt8) (w:World):
 Calls Tryz.prog 154 #[.agg #[.int .u8 7,.int .u8 o,.string (bs va),.string (bs na),.int .u8 vk,.int .i64 vn,.int .u64 vb,.string (bs vt)]] w fun e w'=>(∃ b,e=.returned (.bool b)∧(b=false ↔ (0=o∧va=[]∧0=vk∧0=vn∧0=vb∧vt=[])))∧Grew w w':=by
 rw [← xZ9a vt,← xZ9a va]
 go_enter Tryz.func154,Tryz.ntmps154
 go_wp2
 all_goals
  go_ret
  refine ⟨⟨_,rfl,?_⟩,xZ9j _ _ _⟩
  simp_all
theorem xZkD (o vk vn vb:Int) (va na vt:List UInt8) (w:World):
 Calls Tryz.prog 154 #[.agg #[.int .u8 8,.int .u8 o,.string (bs va),.string (bs na),.int .u8 vk,.int .i64 vn,.int .u64 vb,.string (bs vt)]] w fun e w'=>(∃ b,e=.returned (.bool b)∧(b=false ↔ (0=o∧0=vk∧0=vn∧0=vb∧vt=[])))∧Grew w w':=by
 rw [← xZ9a vt]
 go_enter Tryz.func154,Tryz.ntmps154
 go_wp2
 go_region_held3 (fun w'=>w'.cell? ⟨w.heap.size,2,none⟩=some (.string (bs va))∧w'.cell? ⟨w.heap.size,3,none⟩=some (.string (bs na))) (go_keep) (fail)
 go_wp2
 all_goals
  go_ret
  refine ⟨⟨_,rfl,?_⟩,xZeK _ _ _⟩
  simp_all
theorem xZkE (o vk vn vb:Int) (va na vt:List UInt8) (w:World):
 Calls Tryz.prog 154 #[.agg #[.int .u8 9,.int .u8 o,.string (bs va),.string (bs na),.int .u8 vk,.int .i64 vn,.int .u64 vb,.string (bs vt)]] w fun e w'=>(∃ b,e=.returned (.bool b)∧(b=false ↔ (0=o∧va=[]∧na=[])))∧Grew w w':=by
 rw [← xZ9a va,← xZ9a na]
 go_enter Tryz.func154,Tryz.ntmps154
 go_wp2
 all_goals
  go_ret
  refine ⟨⟨_,rfl,?_⟩,xZ9j _ _ _⟩
  simp_all
theorem xZkF (k:Int) (h4:¬ k=4) (h7:¬ k=7) (h8:¬ k=8) (h9:¬ k=9) (o vk vn vb:Int) (va na vt:List UInt8) (w:World):
 Calls Tryz.prog 154 #[.agg #[.int .u8 k,.int .u8 o,.string (bs va),.string (bs na),.int .u8 vk,.int .i64 vn,.int .u64 vb,.string (bs vt)]] w fun e w'=>(∃ b,e=.returned (.bool b)∧(b=false ↔ (0=o∧va=[]∧na=[]∧0=vk∧0=vn∧0=vb∧vt=[])))∧Grew w w':=by
 rw [← xZ9a vt,← xZ9a va,← xZ9a na]
 go_enter Tryz.func154,Tryz.ntmps154
 go_wp2
 all_goals
  go_ret
  refine ⟨⟨_,rfl,?_⟩,xZ9j _ _ _⟩
  simp_all
theorem bf_eq {a b:Bool} {Q:Prop} (h1:a=false ↔ Q) (h2:b=false ↔ Q):b=a:=by cases a<;>cases b<;>simp_all
theorem xZ6y (N:Nat):xZ3S.Ok prog N:=by
 refine ⟨⟨Tryz.f154,Tryz.func154,by kernel_rfl,by kernel_rfl⟩,fun a r h=>?_⟩
 obtain ⟨n,⟨⟩⟩:=a
 have h:some (moreB n)=some r:=h
 obtain rfl:=Option.some.inj h
 intro M S w vs hh _ hsz hrep
 obtain ⟨v,rfl⟩:∃ v,vs=#[v]:=by
  match vs,hsz with
  | ⟨[v]⟩,_=>exact ⟨v,rfl⟩
 obtain ⟨k,o,va,na,vk,vn,vb,vt⟩:=n
 have h0:VRep M S w v (.agg ([.int .u8 k,.int .u8 o,.string (bs va),.string (bs na),.int .u8 vk,.int .i64 vn,.int .u64 vb,.string (bs vt)].map .v)):=hrep 0 (Nat.zero_lt_one)
 obtain rfl:=xZca h0
 have fin:∀ {k:Int} {Q:Prop},(moreB ⟨k,o,va,na,⟨vk,vn,vb,vt⟩⟩=false ↔ Q)→∀ e w',((∃ b,e=.returned (.bool b)∧(b=false ↔ Q))∧Grew w w')→
  ∃ M' S',EndRep M' S' w' e (.ret (.v (.bool (moreB ⟨k,o,va,na,⟨vk,vn,vb,vt⟩⟩))))∧RelH M' S' AH.nil w'∧Frm M S AH.nil w M' S' AH.nil w':=by
  rintro k Q hm e w' ⟨⟨b,rfl,hb⟩,hg⟩
  obtain rfl:=bf_eq hm hb
  exact ⟨M,S,.data (.v _),hh.grew hg,.grew hh hg⟩
 by_cases h4:k=4
 ·subst h4
  exact (xZkB o vk vn vb va na vt w).mono (fin (by simp [moreB,moreZ,eq_comm (a:=(0:Int)),and_assoc]))
 by_cases h7:k=7
 ·subst h7
  exact (xZkC o vk vn vb va na vt w).mono (fin (by simp [moreB,moreZ,eq_comm (a:=(0:Int)),and_assoc]))
 by_cases h8:k=8
 ·subst h8
  exact (xZkD o vk vn vb va na vt w).mono (fin (by simp [moreB,moreZ,eq_comm (a:=(0:Int)),and_assoc]))
 by_cases h9:k=9
 ·subst h9
  exact (xZkE o vk vn vb va na vt w).mono (fin (by simp [moreB,moreZ,eq_comm (a:=(0:Int)),and_assoc]))
 have e4:(k==4)=false:=by simpa using h4
 have e7:(k==7)=false:=by simpa using h7
 have e8:(k==8)=false:=by simpa using h8
 have e9:(k==9)=false:=by simpa using h9
 exact (xZkF k h4 h7 h8 h9 o vk vn vb va na vt w).mono (fin (by simp only [moreB,e4,e7,e8,e9,cond_false];simp [moreZ,eq_comm (a:=(0:Int)),and_assoc]))
end Go.Proofs.YtmllclbhdmajmaaGreat.A
set_option linter.unusedVariables false
set_option linter.unusedSimpArgs false
namespace Go.Proofs.YtmllclbhdmajmaaGreat.A
open Go Go.RowKit Go.Lib Go.Proofs.Tryz
set_option maxHeartbeats 4000000
set_option maxRecDepth 1000000
theorem xZga (a:Option Addr) (w:World):Calls Tryz.prog 186 #[.slice a 0 0,.int .i64 0] w fun e w'=>e=.returned (.slice a 0 0)∧w'=w:=by
 go_enter Tryz.func186,Tryz.ntmps186
 go_wp2
 go_ret
 exact ⟨rfl,rfl⟩
theorem xZgb (i0:TypeInfo) (z:Value) (hu:Tryz.prog.underlying 63=some (.slice 138)) (hi0:Tryz.prog.info? 138=some i0) (hz0:i0.zero=some z) (hs0:0 < i0.size) (n:Nat) (h0:0 < n) (hbig:n * i0.bytes≤140737488355328) (h63:n≤4611686018427387904) (a:Option Addr) (w:World):
 Calls Tryz.prog 186 #[.slice a 0 0,.int .i64 n] w fun e w'=>e=.returned (.slice (some ⟨w.heap.size,0,none⟩) 0 (grownCap w n 0 138))∧
  w'=w.drew.alloc (.cells (#[]++Builtin.zeroCells z.cells n++Builtin.zeroCells z.cells (grownCap w n 0 138 - n)) 138):=by
 have h1:¬ ((n:Int) < 0):=by omega
 have h4:(n:Int) > 0:=by omega
 have z25:∀ w,(Go.sizeOf 138).run Tryz.prog w=.ok i0.size w:=fun w=>by simp [Go.sizeOf,typeInfo,hi0]
 have hrz:∀ ty,(Builtin.append_ #[63,3] ty #[.slice a 0 0,.int .i64 n]).run Tryz.prog w=
  .ok (.slice (some ⟨w.heap.size,0,none⟩) n (grownCap w n 0 138)) (w.drew.alloc (.cells (#[]++Builtin.zeroCells z.cells n++Builtin.zeroCells z.cells (grownCap w n 0 138 - n)) 138)):=fun ty=>by
  have hold:(Builtin.firstCells i0.size 0 (.slice a 0 0)).run Tryz.prog w.drew=.ok ([]:List Value).toArray w.drew:=by
   cases a with
   | none=>exact run_firstCells_none w.drew i0.size 0 0 0
   | some a=>exact run_firstCells_some w.drew i0.size 0 a 0 0 [] (by simp) (fun j v hj=>by cases hj)
  have h:=Lib.run_append_grow_zeros w 63 3 ty 138 i0 z .i64 .i64 hu Tryz.underlying3 hi0 hz0 a 0 0 [] hold n h0 hs0 (by omega) (by omega) (by omega) (by
   rw [Nat.zero_add];exact growslice_fits (by omega) (by omega))
  rw [Nat.zero_add] at h
  exact h
 have hGn:n≤grownCap w n 0 138:=grownCap_ge w _ _ _
 obtain ⟨G,hG⟩:∃ G,G=grownCap w n 0 138:=⟨_,rfl⟩
 rw [← hG] at hrz hGn ⊢
 have hG63:G≤9223372036854775807:=by
  have:=grownCap_le_maxLen w n 0 138 (by unfold maxLen;omega)
  rw [← hG] at this
  unfold maxLen at this
  omega
 clear hG
 go_enter Tryz.func186,Tryz.ntmps186
 cases a with
 | none=>
   go_wp2_with (at_builtin;refine Lib.wpList_append_run _ rfl _ _ _ _ rfl _ _ rfl rfl _ _ (hrz _) ?_)
   all_goals (go_ret;exact ⟨rfl,rfl⟩)
 | some a=>
   obtain ⟨ab,ao,asp⟩:=a
   go_wp2_with (at_builtin;refine Lib.wpList_append_run _ rfl _ _ _ _ rfl _ _ rfl rfl _ _ (hrz _) ?_)
   all_goals (go_ret;exact ⟨rfl,rfl⟩)
theorem xZ21 (N:Nat):xZ1l.Ok prog N:=by
 refine ⟨⟨Tryz.f186,Tryz.func186,by kernel_rfl,by kernel_rfl⟩,fun a r h=>?_⟩
 obtain ⟨⟨⟨⟩,n,⟨⟩⟩,⟨⟩,⟨⟩⟩:=a
 have h:xZR N n=some r:=h
 unfold xZR at h
 obtain ⟨hn0,h⟩:=xZ12 h
 obtain ⟨hnb,h⟩:=xZ12 h
 have hn0:=xZT.1 hn0
 have hnb:=xZT.1 hnb
 obtain rfl:=Option.some.inj h
 intro M S w vs hh _ hsz hrep
 obtain ⟨v,u,rfl⟩:∃ v u,vs=#[v,u]:=by
  match vs,hsz with
  | ⟨[v,u]⟩,_=>exact ⟨v,u,rfl⟩
 obtain ⟨ad,rfl⟩:∃ ad,v=.slice ad 0 0:=by
  have q:VRep M S w v .emp:=hrep 0 (Nat.zero_lt_succ 1)
  cases q with
  | data q=>cases q;exact ⟨_,rfl⟩
 have e1:u=.int .i64 n:=VRep.v_eq (hrep 1 (Nat.lt_succ_self 1))
 subst e1
 obtain ⟨m,rfl⟩:∃ m:Nat,n=m:=⟨n.toNat,by omega⟩
 have fin:∀ (g:Value) (w':World),Grew w w'→LiveRep S w' g 8 []→(∀ b,Value.blk g=some b→w.heap.size≤b)→(∃ a n c,g=.slice a n c)→
  ∃ M' S',EndRep M' S' w' (.returned g) (.ret (.own 0))∧RelH M' S' ⟨[],[.live 8 []]⟩ w'∧Frm M S AH.nil w M' S' ⟨[],[.live 8 []]⟩ w':=by
  intro g w' hg hl hb hs
  obtain ⟨h1,h2⟩:=hh.addTok hg hl hb
  exact ⟨_,S,xZ3Y hh.nt hs,h1,h2⟩
 by_cases hm:m=0
 ·subst hm
  refine (xZga ad w).mono ?_
  rintro e w' ⟨rfl,rfl⟩
  exact fin _ _ (.refl _) (.inl ⟨⟨_,rfl⟩,rfl⟩) (fun b hb=>by cases ad<;>cases hb) ⟨_,_,_,rfl⟩
 ·obtain ⟨ks,x,hx⟩:∃ ks x,cMk prog 63 ks=some (x,8,80):=⟨[0,0,0,0,0,0,0,0],eA1 (xZ0.mk 0 0 [] [] (xZ7.mk 0 0 0 [])),by kernel_rfl⟩
  obtain ⟨e,i,z,hu,hi,hz,q1,q2,q3,q4,hx⟩:=xZem hx
  simp only [Prod.mk.injEq] at hx
  obtain ⟨-,hs8,hb80⟩:=hx
  have he:e=138:=by
   have:prog.underlying 63=some (.slice 138):=by kernel_rfl
   rw [this] at hu;cases hu;rfl
  subst he
  refine (xZgb i z hu hi hz q3 m (by omega) (by rw [← hb80];omega) (by omega) ad w).mono ?_
  rintro e w' ⟨rfl,rfl⟩
  have hge:=grownCap_ge w m 0 138
  have hle:=grownCap_le_maxLen w m 0 138 (by unfold maxLen;omega)
  have hG:=Grew.drew_alloc w (.cells (#[]++Builtin.zeroCells z.cells m++Builtin.zeroCells z.cells (grownCap w m 0 138 - m)) 138)
  generalize grownCap w m 0 138=G at *
  obtain ⟨q,rfl⟩:∃ q,G=q+1:=⟨G - 1,by omega⟩
  refine fin _ _ hG (.inr ⟨w.heap.size,q,_,138,rfl,fun h=>by have:=hh.sits _ h;omega,xZ29 _ _,⟨Nat.zero_le _,hle,?_,fun i hi=>absurd hi (Nat.not_lt_zero _),fun i hi=>absurd hi (Nat.not_lt_zero _),fun i hi=>absurd hi (Nat.not_lt_zero _)⟩⟩) (fun b hb=>by cases hb;exact Nat.le_refl _) ⟨_,_,_,rfl⟩
  rw [Array.size_append,Array.size_append,size_zeroCells,size_zeroCells,q2,← hs8,Array.size_empty]
  omega
end Go.Proofs.YtmllclbhdmajmaaGreat.A
namespace Go.Proofs.YtmllclbhdmajmaaGreat.A
open Go Go.RowKit Go.Extern.Stop Go.Stop Go.Extern Go.Proofs.Tryz
set_option maxHeartbeats 4000000
set_option maxRecDepth 1000000
theorem xZcy (n p:Int) (h:n≠0) (w:World):Calls Tryz.prog 59 #[.int .i64 n,.int .i64 p] w fun e w'=>e=.returned (.iface 167 (.pointer (some ⟨w.heap.size,0,none⟩)))∧w'=w.alloc (.cells #[.int .i64 n,.int .i64 p] 176):=by
 go_enter Tryz.func59,Tryz.ntmps59
 go_wp2
 go_ret
 exact ⟨rfl,rfl⟩
end Go.Proofs.YtmllclbhdmajmaaGreat.A
namespace Go.Proofs.YtmllclbhdmajmaaGreat.A
open Go
open Go.Proofs.Tryz
set_option maxRecDepth 1000000
set_option linter.unusedSimpArgs false
set_option linter.unusedVariables false
noncomputable section
noncomputable def xZb9:Fn xZ6q:=⟨f56,[],⟨[],[],sbf,bof⟩,fun _=>[],[true],none,0,0,fun _ _=>true,none,[],[],[]⟩
theorem xZbv:xZb9.Ok prog:=⟨Is.of (by kernel_rfl) (by kernel_rfl),by kernel_rfl,xZ4 sb_ok bo_ok,trivial,trivial,fun _=>by kernel_rfl⟩
theorem xZbh (N:Nat):xZ6q.Ok prog N:=xZbv.give tb_ok hm N N (fun _=>trivial) fun a r s h=>by
 exact s.main [] trivial (.trans (by kernel_rfl) h)
noncomputable def xZbW:Fn xZ74:=⟨f28,[],⟨[],[],sbf,bof⟩,fun _=>[xZ6q],[true],none,0,0,fun _ _=>true,none,[],[],[]⟩
theorem xZcA:xZbW.Ok prog:=⟨Is.of (by kernel_rfl) (by kernel_rfl),by kernel_rfl,xZ4 sb_ok bo_ok,trivial,trivial,fun _=>by kernel_rfl⟩
theorem xZce (N:Nat):xZ74.Ok prog N:=xZcA.give tb_ok hm N N (fun _=>⟨xZbh N,trivial⟩) fun a r s h=>by
 have l0:=s.loop 0 xZ3A (xZ7C N) N fun next0 h0=>by
  exact fun c v=>s.seg 0 xZ3A [(0,.of xZ3A next0)] ⟨h0,trivial⟩ (by kernel_rfl) (by kernel_rfl)
 exact s.main [(0,.of xZ3A (xZaQ N))] ⟨l0,trivial⟩ (.trans (by kernel_rfl) h)
noncomputable def xZc3:Fn xZ5y:=⟨f42,[],⟨[],[],sbf,bof⟩,fun _=>[],[true],none,0,0,fun _ _=>true,none,[],[],[]⟩
theorem xZcH:xZc3.Ok prog:=⟨Is.of (by kernel_rfl) (by kernel_rfl),by kernel_rfl,xZ4 sb_ok bo_ok,trivial,trivial,fun _=>by kernel_rfl⟩
theorem xZ9e (N:Nat):xZ5y.Ok prog N:=xZcH.give tb_ok hm N N (fun _=>trivial) fun a r s h=>by
 exact s.main [] trivial (.trans (by kernel_rfl) h)
noncomputable def xZc5:Fn xZ33:=⟨f17,[],⟨[],[],sbf,bof⟩,fun _=>[xZ5y],[true],none,0,0,fun _ _=>true,none,[],[],[]⟩
theorem xZcJ:xZc5.Ok prog:=⟨Is.of (by kernel_rfl) (by kernel_rfl),by kernel_rfl,xZ4 sb_ok bo_ok,trivial,trivial,fun _=>by kernel_rfl⟩
theorem xZ5J (N:Nat):xZ33.Ok prog N:=xZcJ.give tb_ok hm N N (fun _=>⟨xZ9e N,trivial⟩) fun a r s h=>by
 have l0:=s.loop 0 xZ3H (xZ7J N) N fun next0 h0=>by
  exact fun c v=>s.seg 0 xZ3H [(0,.of xZ3H next0)] ⟨h0,trivial⟩ (by kernel_rfl) (by kernel_rfl)
 exact s.main [(0,.of xZ3H (xZaX N))] ⟨l0,trivial⟩ (.trans (by kernel_rfl) h)
noncomputable def xZc2:Fn xZ5x:=⟨f47,[],⟨[],[],sbf,bof⟩,fun _=>[xZ33],[true],none,0,0,fun _ _=>true,none,[],[],[]⟩
theorem xZcG:xZc2.Ok prog:=⟨Is.of (by kernel_rfl) (by kernel_rfl),by kernel_rfl,xZ4 sb_ok bo_ok,trivial,trivial,fun _=>by kernel_rfl⟩
theorem xZ9d (N:Nat):xZ5x.Ok prog N:=xZcG.give tb_ok hm N N (fun _=>⟨xZ5J N,trivial⟩) fun a r s h=>by
 have l0:=s.loop 0 xZ3E (xZ7G N) N fun next0 h0=>by
  exact fun c v=>s.seg 0 xZ3E [(0,.of xZ3E next0)] ⟨h0,trivial⟩ (by kernel_rfl) (by kernel_rfl)
 exact s.main [(0,.of xZ3E (xZaU N))] ⟨l0,trivial⟩ (.trans (by kernel_rfl) h)
noncomputable def xZba:Fn xZ3h:=⟨f48,[],⟨[],[],sbf,bof⟩,fun _=>[xZ5y,xZ3h,xZ33],[true],none,0,0,fun _ _=>true,none,[],[],[]⟩
theorem xZ8B:xZba.Ok prog:=⟨Is.of (by kernel_rfl) (by kernel_rfl),by kernel_rfl,xZ4 sb_ok bo_ok,trivial,trivial,fun _=>by kernel_rfl⟩
theorem xZ7x:∀ N,xZ3h.Ok prog N
 | 0=>⟨xZ8B.is.enters,fun a r h=>by (have h:none=some r:=h;cases h)⟩
 | N+1=>by
   obtain h_ref16_Loops:=xZ7x N
   ·exact xZ8B.give tb_ok hm N (N+1) (fun _=>⟨xZ9e N,h_ref16_Loops,xZ5J N,trivial⟩) fun a r s h=>by
     have l0:=s.loop 0 xZ3d (xZ6X N) N fun next0 h0=>by
      exact fun c v=>s.seg 0 xZ3d [(0,.of xZ3d next0)] ⟨h0,trivial⟩ (by kernel_rfl) (by kernel_rfl)
     exact s.main [(0,.of xZ3d (xZ9T N))] ⟨l0,trivial⟩ (.trans (by kernel_rfl) h)
theorem xZbj (N:Nat):xZ3h.Ok prog N:=(xZ7x N)
noncomputable def xZbY:Fn xZ76:=⟨f21,[],⟨[],[],sbf,bof⟩,fun _=>[xZ74,xZ5x,xZ3h],[true],none,0,0,fun _ _=>true,none,[],[],[]⟩
theorem xZcC:xZbY.Ok prog:=⟨Is.of (by kernel_rfl) (by kernel_rfl),by kernel_rfl,xZ4 sb_ok bo_ok,trivial,trivial,fun _=>by kernel_rfl⟩
theorem xZcg (N:Nat):xZ76.Ok prog N:=xZcC.give tb_ok hm N N (fun _=>⟨xZce N,xZ9d N,xZbj N,trivial⟩) fun a r s h=>by
 have l0:=s.loop 0 xZ3C (xZ7E N) N fun next0 h0=>by
  exact fun c v=>s.seg 0 xZ3C [(0,.of xZ3C next0)] ⟨h0,trivial⟩ (by kernel_rfl) (by kernel_rfl)
 exact s.main [(0,.of xZ3C (xZaS N))] ⟨l0,trivial⟩ (.trans (by kernel_rfl) h)
noncomputable def xZdA:Fn xZ84:=⟨f41,[],⟨[],[],sbf,bof⟩,fun _=>[],[true],none,0,0,fun _ _=>true,none,[],[],[]⟩
theorem xZdY:xZdA.Ok prog:=⟨Is.of (by kernel_rfl) (by kernel_rfl),by kernel_rfl,xZ4 sb_ok bo_ok,trivial,trivial,fun _=>by kernel_rfl⟩
theorem xZdL (N:Nat):xZ84.Ok prog N:=xZdY.give tb_ok hm N N (fun _=>trivial) fun a r s h=>by
 exact s.main [] trivial (.trans (by kernel_rfl) h)
noncomputable def xZdy:Fn xZ5e:=⟨f16,[],⟨[],[],sbf,bof⟩,fun _=>[xZ84],[true],none,0,0,fun _ _=>true,none,[],[],[]⟩
theorem xZdW:xZdy.Ok prog:=⟨Is.of (by kernel_rfl) (by kernel_rfl),by kernel_rfl,xZ4 sb_ok bo_ok,trivial,trivial,fun _=>by kernel_rfl⟩
theorem xZ8f (N:Nat):xZ5e.Ok prog N:=xZdW.give tb_ok hm N N (fun _=>⟨xZdL N,trivial⟩) fun a r s h=>by
 have l0:=s.loop 0 xZ4r (xZ8w N) N fun next0 h0=>by
  exact fun c v=>s.seg 0 xZ4r [(0,.of xZ4r next0)] ⟨h0,trivial⟩ (by kernel_rfl) (by kernel_rfl)
 exact s.main [(0,.of xZ4r (xZbG N))] ⟨l0,trivial⟩ (.trans (by kernel_rfl) h)
noncomputable def xZ7p:Fn xZ2A:=⟨f76,[],⟨[],[],sbf,bof⟩,fun _=>[],[true],none,1,0,fun _ _=>true,none,[],[],[]⟩
theorem xZ7Q:xZ7p.Ok prog:=⟨Is.of (by kernel_rfl) (by kernel_rfl),by kernel_rfl,xZ4 sb_ok bo_ok,trivial,trivial,fun _=>by kernel_rfl⟩
theorem xZ7t (N:Nat):xZ2A.Ok prog N:=xZ7Q.give tb_ok hm N N (fun _=>trivial) fun a r s h=>by
 exact s.main [] trivial (.trans (by kernel_rfl) h)
noncomputable def xZ2V:Fn xZJ:=⟨f112,[],⟨[],[],sbf,bof⟩,fun _=>[xZ2A],[true],none,1,0,fun _ _=>true,none,[],[],[]⟩
theorem xZ2X:xZ2V.Ok prog:=⟨Is.of (by kernel_rfl) (by kernel_rfl),by kernel_rfl,xZ4 sb_ok bo_ok,trivial,trivial,fun _=>by kernel_rfl⟩
theorem xZ2W (N:Nat):xZJ.Ok prog N:=xZ2X.give tb_ok hm N N (fun _=>⟨xZ7t N,trivial⟩) fun a r s h=>by
 have l0:=s.loop 0 xZn (xZ1j N) N fun next0 h0=>by
  exact fun c v=>s.seg 0 xZn [(0,.of xZn next0)] ⟨h0,trivial⟩ (by kernel_rfl) (by kernel_rfl)
 exact s.main [(0,.of xZn (xZ2z N))] ⟨l0,trivial⟩ (.trans (by kernel_rfl) h)
noncomputable def xZ2n:Fn xZB:=⟨f75,[],⟨[],[],sbf,bof⟩,fun _=>[xZJ],[true],none,1,0,fun _ _=>true,none,[],[],[]⟩
theorem xZ2p:xZ2n.Ok prog:=⟨Is.of (by kernel_rfl) (by kernel_rfl),by kernel_rfl,xZ4 sb_ok bo_ok,trivial,trivial,fun _=>by kernel_rfl⟩
theorem xZ2o (N:Nat):xZB.Ok prog N:=xZ2p.give tb_ok hm N N (fun _=>⟨xZ2W N,trivial⟩) fun a r s h=>by
 exact s.main [] trivial (.trans (by kernel_rfl) h)
noncomputable def xZdz:Fn xZ83:=⟨f49,[],⟨[],[],sbf,bof⟩,fun _=>[xZ5e,xZB],[true],none,0,0,fun _ _=>true,none,[],[],[]⟩
theorem xZdX:xZdz.Ok prog:=⟨Is.of (by kernel_rfl) (by kernel_rfl),by kernel_rfl,xZ4 sb_ok bo_ok,trivial,trivial,fun _=>by kernel_rfl⟩
theorem xZdK (N:Nat):xZ83.Ok prog N:=xZdX.give tb_ok hm N N (fun _=>⟨xZ8f N,xZ2o N,trivial⟩) fun a r s h=>by
 exact s.main [] trivial (.trans (by kernel_rfl) h)
noncomputable def xZb8:Fn xZ6p:=⟨f44,[],⟨[],[],sbf,bof⟩,fun _=>[],[true],none,0,0,fun _ _=>true,none,[],[],[]⟩
theorem xZbu:xZb8.Ok prog:=⟨Is.of (by kernel_rfl) (by kernel_rfl),by kernel_rfl,xZ4 sb_ok bo_ok,trivial,trivial,fun _=>by kernel_rfl⟩
theorem xZbg (N:Nat):xZ6p.Ok prog N:=xZbu.give tb_ok hm N N (fun _=>trivial) fun a r s h=>by
 exact s.main [] trivial (.trans (by kernel_rfl) h)
noncomputable def xZ92:Fn xZ2B:=⟨f51,[],⟨[(2000007,10)],[],sbf,bof⟩,fun _=>[],[true],none,0,0,fun _ _=>true,none,[],[],[]⟩
theorem xZ9r:xZ92.Ok prog:=⟨Is.of (by kernel_rfl) (by kernel_rfl),by kernel_rfl,xZ4 sb_ok bo_ok,trivial,trivial,fun _=>by kernel_rfl⟩
theorem xZ6x (N:Nat):xZ2B.Ok prog N:=xZ9r.give tb_ok hm N N (fun _=>trivial) fun a r s h=>by
 exact s.main [] trivial (.trans (by kernel_rfl) h)
noncomputable def xZ8I:Fn xZ3k:=⟨f113,[],⟨[(2000007,10),(2000013,10)],[],sbf,bof⟩,fun _=>[],[true],none,0,0,fun _ _=>true,none,[],[],[]⟩
theorem xZ8P:xZ8I.Ok prog:=⟨Is.of (by kernel_rfl) (by kernel_rfl),by kernel_rfl,xZ4 sb_ok bo_ok,trivial,trivial,fun _=>by kernel_rfl⟩
theorem xZ8L (N:Nat):xZ3k.Ok prog N:=xZ8P.give tb_ok hm N N (fun _=>trivial) fun a r s h=>by
 exact s.main [] trivial (.trans (by kernel_rfl) h)
noncomputable def xZ6c:Fn xZ1I:=⟨f77,[],⟨[],[],sbf,bof⟩,fun _=>[xZ2B,xZ3k],[true],none,1,1,fun _ _=>true,none,[],[],[]⟩
theorem xZ6n:xZ6c.Ok prog:=⟨Is.of (by kernel_rfl) (by kernel_rfl),by kernel_rfl,xZ4 sb_ok bo_ok,trivial,trivial,fun _=>by kernel_rfl⟩
theorem xZ6e (N:Nat):xZ1I.Ok prog N:=xZ6n.give tb_ok hm N N (fun _=>⟨xZ6x N,xZ8L N,trivial⟩) fun a r s h=>by
 have l0:=s.loop 0 xZ17 (xZ2v N) N fun next0 h0=>by
  exact fun c v=>s.seg 0 xZ17 [(0,.of xZ17 next0)] ⟨h0,trivial⟩ (by kernel_rfl) (by kernel_rfl)
 exact s.main [(0,.of xZ17 (xZ5q N))] ⟨l0,trivial⟩ (.trans (by kernel_rfl) h)
end
end Go.Proofs.YtmllclbhdmajmaaGreat.A
namespace Go.Proofs.YtmllclbhdmajmaaGreat.A
open Go
open Go.Proofs.Tryz
set_option maxRecDepth 1000000
set_option linter.unusedSimpArgs false
set_option linter.unusedVariables false
noncomputable section
noncomputable def xZ9G:Fn xZ3a:=⟨f78,[],⟨[],[],sbf,bof⟩,fun _=>[],[true],none,0,0,fun _ _=>true,none,[],[],[]⟩
theorem xZ9P:xZ9G.Ok prog:=⟨Is.of (by kernel_rfl) (by kernel_rfl),by kernel_rfl,xZ4 sb_ok bo_ok,trivial,trivial,fun _=>by kernel_rfl⟩
theorem xZ6U (N:Nat):xZ3a.Ok prog N:=xZ9P.give tb_ok hm N N (fun _=>trivial) fun a r s h=>by
 exact s.main [] trivial (.trans (by kernel_rfl) h)
noncomputable def xZ6d:Fn xZx:=⟨f50,[],⟨[],[],sbf,bof⟩,fun _=>[xZ6p,xZ1I,xZ5e,xZx,xZ3a,xZ1H],[true],none,1,1,fun _ _=>true,some EqR.cls,[],[],[]⟩
theorem xZ30:xZ6d.Ok prog:=⟨Is.of (by kernel_rfl) (by kernel_rfl),by kernel_rfl,xZ4 sb_ok bo_ok,trivial,trivial,fun _=>by kernel_rfl⟩
noncomputable def xZ6b:Fn xZ1H:=⟨f79,[],⟨[],[],sbf,bof⟩,fun _=>[xZx,xZ3a],[true],none,1,1,fun _ _=>true,some EqR.cls,[],[],[]⟩
theorem xZ2Z:xZ6b.Ok prog:=⟨Is.of (by kernel_rfl) (by kernel_rfl),by kernel_rfl,xZ4 sb_ok bo_ok,trivial,trivial,fun _=>by kernel_rfl⟩
theorem xZ2L:∀ N,xZx.Ok prog N∧xZ1H.Ok prog N
 | 0=>⟨⟨xZ30.is.enters,fun a r h=>by (have h:none=some r:=h;cases h)⟩,⟨xZ2Z.is.enters,fun a r h=>by (have h:none=some r:=h;cases h)⟩⟩
 | N+1=>by
   obtain ⟨h_core_reader_tree_v853,h_core_reader_loop_v853⟩:=xZ2L N
   refine ⟨?_,?_⟩
   ·exact xZ30.give tb_ok hm N (N+1) (fun _=>⟨xZbg N,xZ6e N,xZ8f N,h_core_reader_tree_v853,xZ6U N,h_core_reader_loop_v853,trivial⟩) fun a r s h=>by
     exact s.main [] trivial (.trans (by kernel_rfl) h)
   ·exact xZ2Z.give tb_ok hm N (N+1) (fun _=>⟨h_core_reader_tree_v853,xZ6U N,trivial⟩) fun a r s h=>by
     have l0:=s.loop 0 xZ16 (xZ2u N) N fun next0 h0=>by
      exact fun c v=>s.seg 0 xZ16 [(0,.of xZ16 next0)] ⟨h0,trivial⟩ (by kernel_rfl) (by kernel_rfl)
     exact s.main [(0,.of xZ16 (xZ5p N))] ⟨l0,trivial⟩ (.trans (by kernel_rfl) h)
theorem xZ6f (N:Nat):xZx.Ok prog N:=(xZ2L N).1
noncomputable def xZaf:Fn xZ3q:=⟨f23,[],⟨[(3000105,11)],[],sbf,bof⟩,fun _=>[xZ83,xZx,xZ2B],[true],none,0,0,fun _ _=>true,none,[],[],[]⟩
theorem xZaI:xZaf.Ok prog:=⟨Is.of (by kernel_rfl) (by kernel_rfl),by kernel_rfl,xZ4 sb_ok bo_ok,trivial,trivial,fun _=>by kernel_rfl⟩
theorem xZ5H (N:Nat):xZ3q.Ok prog N:=xZaI.give tb_ok hm N N (fun _=>⟨xZdK N,xZ6f N,xZ6x N,trivial⟩) fun a r s h=>by
 exact s.main [] trivial (.trans (by kernel_rfl) h)
theorem xZ5K (N:Nat):xZ2D.Ok prog N:=xZhx (te:=63) (tb:=4) (e:=138) (CloneIs.of (fn:=f104) (by kernel_rfl) (by kernel_rfl) (by kernel_rfl) (by kernel_rfl) (by kernel_rfl) (by kernel_rfl) (by decide)) hm N
theorem xZ4N (N:Nat):xZ2a.Ok prog N:=xZfU (te:=63) (tb:=4) (e:=138) (CloneIs.of (fn:=f104) (by kernel_rfl) (by kernel_rfl) (by kernel_rfl) (by kernel_rfl) (by kernel_rfl) (by kernel_rfl) (by decide)) hm N
noncomputable def xZ47:Fn xZe:=⟨f177,[],⟨[],[],sbf,bof⟩,fun _=>[],[true],none,1,0,fun _ _=>true,none,[],[],[]⟩
theorem xZ4e:xZ47.Ok prog:=⟨Is.of (by kernel_rfl) (by kernel_rfl),by kernel_rfl,xZ4 sb_ok bo_ok,trivial,trivial,fun _=>by kernel_rfl⟩
theorem xZu (N:Nat):xZe.Ok prog N:=xZ4e.give tb_ok hm N N (fun _=>trivial) fun a r s h=>by
 exact s.main [] trivial (.trans (by kernel_rfl) h)
noncomputable def xZ3T:Fn xZ1e:=⟨f167,[],⟨[],[],sbf,bof⟩,fun _=>[],[true],none,1,0,fun _ _=>true,none,[],[],[]⟩
theorem xZ3V:xZ3T.Ok prog:=⟨Is.of (by kernel_rfl) (by kernel_rfl),by kernel_rfl,xZ4 sb_ok bo_ok,trivial,trivial,fun _=>by kernel_rfl⟩
theorem xZ1P (N:Nat):xZ1e.Ok prog N:=xZ3V.give tb_ok hm N N (fun _=>trivial) fun a r s h=>by
 exact s.main [] trivial (.trans (by kernel_rfl) h)
noncomputable def xZ46:Fn xZk:=⟨f182,[],⟨[],[],sbf,bof⟩,fun _=>[xZ1e],[],none,1,0,fun _ _=>true,none,[],[],[]⟩
theorem xZ4d:xZ46.Ok prog:=⟨Is.of (by kernel_rfl) (by kernel_rfl),by kernel_rfl,xZ4 sb_ok bo_ok,trivial,trivial,fun _=>by kernel_rfl⟩
theorem xZM (N:Nat):xZk.Ok prog N:=xZ4d.give tb_ok hm N N (fun _=>⟨xZ1P N,trivial⟩) fun a r s h=>by
 exact s.main [] trivial (.trans (by kernel_rfl) h)
noncomputable def xZ3r:Fn xZ1b:=⟨f181,[],⟨[],[],sbf,bof⟩,fun _=>[xZe,xZk],[],none,1,0,fun _ _=>true,none,[],[],[]⟩
theorem xZ3x:xZ3r.Ok prog:=⟨Is.of (by kernel_rfl) (by kernel_rfl),by kernel_rfl,xZ4 sb_ok bo_ok,trivial,trivial,fun _=>by kernel_rfl⟩
theorem xZ3u (N:Nat):xZ1b.Ok prog N:=xZ3x.give tb_ok hm N N (fun _=>⟨xZu N,xZM N,trivial⟩) fun a r s h=>by
 exact s.main [] trivial (.trans (by kernel_rfl) h)
noncomputable def xZ4I:Fn xZh:=⟨f173,[],⟨[],[],sbf,bof⟩,fun _=>[xZe],[true],none,1,0,fun _ _=>true,none,[],[],[]⟩
theorem xZ4P:xZ4I.Ok prog:=⟨Is.of (by kernel_rfl) (by kernel_rfl),by kernel_rfl,xZ4 sb_ok bo_ok,trivial,trivial,fun _=>by kernel_rfl⟩
theorem xZz (N:Nat):xZh.Ok prog N:=xZ4P.give tb_ok hm N N (fun _=>⟨xZu N,trivial⟩) fun a r s h=>by
 exact s.main [] trivial (.trans (by kernel_rfl) h)
noncomputable def xZ5g:Fn xZ1w:=⟨f178,[],⟨[],[],sbf,bof⟩,fun _=>[xZ1l],[true],none,0,0,fun _ _=>true,none,[],[],[]⟩
theorem xZ5o:xZ5g.Ok prog:=⟨Is.of (by kernel_rfl) (by kernel_rfl),by kernel_rfl,xZ4 sb_ok bo_ok,trivial,trivial,fun _=>by kernel_rfl⟩
theorem xZ5l (N:Nat):xZ1w.Ok prog N:=xZ5o.give tb_ok hm N N (fun _=>⟨xZ21 N,trivial⟩) fun a r s h=>by
 have l2:=s.loop 2 xZP (xZ24 N) N fun next2 h2=>by
  exact fun c v=>s.seg 2 xZP [(2,.of xZP next2)] ⟨h2,trivial⟩ (by kernel_rfl) (by kernel_rfl)
 have l0:=s.loop 0 xZO (xZ23 N) N fun next0 h0=>by
  exact fun c v=>s.seg 0 xZO [(0,.of xZO next0),(2,.of xZP (xZ4k N))] ⟨h0,l2,trivial⟩ (by kernel_rfl) (by kernel_rfl)
 exact s.main [(0,.of xZO (xZ4j N))] ⟨l0,trivial⟩ (.trans (by kernel_rfl) h)
noncomputable def xZ93:Fn xZ1v:=⟨f174,[],⟨[(6,1)],[],sbf,bof⟩,fun _=>[xZ1w],[true],none,0,0,fun _ _=>true,none,[],[],[]⟩
theorem xZ9s:xZ93.Ok prog:=⟨Is.of (by kernel_rfl) (by kernel_rfl),by kernel_rfl,xZ4 sb_ok bo_ok,trivial,trivial,fun _=>by kernel_rfl⟩
theorem xZ2I (N:Nat):xZ1v.Ok prog N:=xZ9s.give tb_ok hm N N (fun _=>⟨xZ5l N,trivial⟩) fun a r s h=>by
 exact s.main [] trivial (.trans (by kernel_rfl) h)
noncomputable def xZ49:Fn xZL:=⟨f185,[],⟨[],[],sbf,bof⟩,fun _=>[xZe,xZk],[true],none,1,0,fun _ _=>true,none,[],[],[]⟩
theorem xZ4f:xZ49.Ok prog:=⟨Is.of (by kernel_rfl) (by kernel_rfl),by kernel_rfl,xZ4 sb_ok bo_ok,trivial,trivial,fun _=>by kernel_rfl⟩
theorem xZ20 (N:Nat):xZL.Ok prog N:=xZ4f.give tb_ok hm N N (fun _=>⟨xZu N,xZM N,trivial⟩) fun a r s h=>by
 exact s.main [] trivial (.trans (by kernel_rfl) h)
noncomputable def xZ4a:Fn xZ1k:=⟨f187,[],⟨[(24,1),(40,1),(51,1),(54,1)],[],sbf,bof⟩,fun _=>[xZh,xZe,xZk,xZL],[true],none,1,0,fun _ _=>true,none,[],[],[]⟩
theorem xZ4g:xZ4a.Ok prog:=⟨Is.of (by kernel_rfl) (by kernel_rfl),by kernel_rfl,xZ4 sb_ok bo_ok,trivial,trivial,fun _=>by kernel_rfl⟩
theorem xZ4c (N:Nat):xZ1k.Ok prog N:=xZ4g.give tb_ok hm N N (fun _=>⟨xZz N,xZu N,xZM N,xZ20 N,trivial⟩) fun a r s h=>by
 exact s.main [] trivial (.trans (by kernel_rfl) h)
noncomputable def xZ4J:Fn xZ1r:=⟨f183,[],⟨[(14,6),(23,6)],[],sbf,bof⟩,fun _=>[xZ1k,xZh,xZ1v],[true],none,1,0,fun _ _=>true,none,[],[],[]⟩
theorem xZ4Q:xZ4J.Ok prog:=⟨Is.of (by kernel_rfl) (by kernel_rfl),by kernel_rfl,xZ4 sb_ok bo_ok,trivial,trivial,fun _=>by kernel_rfl⟩
theorem xZ4M (N:Nat):xZ1r.Ok prog N:=xZ4Q.give tb_ok hm N N (fun _=>⟨xZ4c N,xZz N,xZ2I N,trivial⟩) fun a r s h=>by
 have l0:=s.loop 0 xZH (xZ1T N) N fun next0 h0=>by
  exact fun c v=>s.seg 0 xZH [(0,.of xZH next0)] ⟨h0,trivial⟩ (by kernel_rfl) (by kernel_rfl)
 exact s.main [(0,.of xZH (xZ3X N))] ⟨l0,trivial⟩ (.trans (by kernel_rfl) h)
end
end Go.Proofs.YtmllclbhdmajmaaGreat.A
