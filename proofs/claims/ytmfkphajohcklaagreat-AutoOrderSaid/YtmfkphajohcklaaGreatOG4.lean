/- slices.Grow of nothing, walked. No premise beyond what each theorem says. -/
import Derived.Test.YtmfkphajohcklaaGreatOG3
import Derived.WalkKit
import Derived.Lib.Walk
import Derived.Lib.SliceRun
import Derived.Lib.AppendZerosOnto
import Derived.WalkLawsBesides
import Derived.Deep.RegionHeld3
import Derived.LaidEql
import Derived.Stop.Asserts
import Derived.RowKitTokens
set_option linter.all false
set_option linter.unusedSimpArgs false
set_option linter.unusedVariables false
set_option linter.unusedVariables false
set_option linter.unusedSimpArgs false
namespace Go.Proofs.YtmfkphajohcklaaGreat.O
open Go Go.RowKit Go.Lib Go.Proofs.Tryz
set_option maxHeartbeats 4000000
set_option maxRecDepth 1000000
theorem xZla (a:Option Addr) (w:World):Calls Tryz.prog 194 #[.slice a 0 0,.int .i64 0] w fun e w'=>e=.returned (.slice a 0 0)∧w'=w:=by
 go_enter Tryz.func194,Tryz.ntmps194
 go_wp2
 go_ret
 exact ⟨rfl,rfl⟩
theorem xZlb (i0:TypeInfo) (z:Value) (hu:Tryz.prog.underlying 51=some (.slice 135)) (hi0:Tryz.prog.info? 135=some i0) (hz0:i0.zero=some z) (hs0:0 < i0.size) (n:Nat) (h0:0 < n) (hbig:n * i0.bytes≤140737488355328) (h63:n≤4611686018427387904) (a:Option Addr) (w:World):
 Calls Tryz.prog 194 #[.slice a 0 0,.int .i64 n] w fun e w'=>e=.returned (.slice (some ⟨w.heap.size,0,none⟩) 0 (grownCap w n 0 135))∧
  w'=w.drew.alloc (.cells (#[]++Builtin.zeroCells z.cells n++Builtin.zeroCells z.cells (grownCap w n 0 135 - n)) 135):=by
 have h1:¬ ((n:Int) < 0):=by omega
 have h4:(n:Int) > 0:=by omega
 have z25:∀ w,(Go.sizeOf 135).run Tryz.prog w=.ok i0.size w:=fun w=>by simp [Go.sizeOf,typeInfo,hi0]
 have hrz:∀ ty,(Builtin.append_ #[51,3] ty #[.slice a 0 0,.int .i64 n]).run Tryz.prog w=
  .ok (.slice (some ⟨w.heap.size,0,none⟩) n (grownCap w n 0 135)) (w.drew.alloc (.cells (#[]++Builtin.zeroCells z.cells n++Builtin.zeroCells z.cells (grownCap w n 0 135 - n)) 135)):=fun ty=>by
  have hold:(Builtin.firstCells i0.size 0 (.slice a 0 0)).run Tryz.prog w.drew=.ok ([]:List Value).toArray w.drew:=by
   cases a with
   | none=>exact run_firstCells_none w.drew i0.size 0 0 0
   | some a=>exact run_firstCells_some w.drew i0.size 0 a 0 0 [] (by simp) (fun j v hj=>by cases hj)
  have h:=Lib.run_append_grow_zeros w 51 3 ty 135 i0 z .i64 .i64 hu Tryz.underlying3 hi0 hz0 a 0 0 [] hold n h0 hs0 (by omega) (by omega) (by omega) (by
   rw [Nat.zero_add];exact growslice_fits (by omega) (by omega))
  rw [Nat.zero_add] at h
  exact h
 have hGn:n≤grownCap w n 0 135:=grownCap_ge w _ _ _
 obtain ⟨G,hG⟩:∃ G,G=grownCap w n 0 135:=⟨_,rfl⟩
 rw [← hG] at hrz hGn ⊢
 have hG63:G≤9223372036854775807:=by
  have:=grownCap_le_maxLen w n 0 135 (by unfold maxLen;omega)
  rw [← hG] at this
  unfold maxLen at this
  omega
 clear hG
 go_enter Tryz.func194,Tryz.ntmps194
 cases a with
 | none=>
   go_wp2_with (at_builtin;refine Lib.wpList_append_run _ rfl _ _ _ _ rfl _ _ rfl rfl _ _ (hrz _) ?_)
   all_goals (go_ret;exact ⟨rfl,rfl⟩)
 | some a=>
   obtain ⟨ab,ao,asp⟩:=a
   go_wp2_with (at_builtin;refine Lib.wpList_append_run _ rfl _ _ _ _ rfl _ _ rfl rfl _ _ (hrz _) ?_)
   all_goals (go_ret;exact ⟨rfl,rfl⟩)
theorem xZ77 (N:Nat):xZ4Y.Ok prog N:=by
 refine ⟨⟨Tryz.f194,Tryz.func194,by kernel_rfl,by kernel_rfl⟩,fun a r h=>?_⟩
 obtain ⟨⟨⟨⟩,n,⟨⟩⟩,⟨⟩,⟨⟩⟩:=a
 have h:xZ3L N n=some r:=h
 unfold xZ3L at h
 obtain ⟨hn0,h⟩:=xZ3p h
 obtain ⟨hnb,h⟩:=xZ3p h
 have hn0:=xZ18.1 hn0
 have hnb:=xZ18.1 hnb
 obtain rfl:=Option.some.inj h
 intro M S w vs hh _ hsz hrep
 obtain ⟨v,u,rfl⟩:∃ v u,vs=#[v,u]:=by
  match vs,hsz with
  | ⟨[v,u]⟩,_=>exact ⟨v,u,rfl⟩
 obtain ⟨ad,rfl⟩:∃ ad,v=.slice ad 0 0:=by
  have q:VRep M S w v .emp:=hrep 0 (Nat.zero_lt_succ 1)
  cases q with
  | data q=>cases q;exact ⟨_,rfl⟩
 have e1:u=.int .i64 n:=VRep.v_eq (hrep 1 (Nat.lt_succ_self 1))
 subst e1
 obtain ⟨m,rfl⟩:∃ m:Nat,n=m:=⟨n.toNat,by omega⟩
 have fin:∀ (g:Value) (w':World),Grew w w'→LiveRep S w' g 8 []→(∀ b,Value.blk g=some b→w.heap.size≤b)→(∃ a n c,g=.slice a n c)→
  ∃ M' S',EndRep M' S' w' (.returned g) (.ret (.own 0))∧RelH M' S' ⟨[],[.live 8 []]⟩ w'∧Frm M S AH.nil w M' S' ⟨[],[.live 8 []]⟩ w':=by
  intro g w' hg hl hb hs
  obtain ⟨h1,h2⟩:=hh.addTok hg hl hb
  exact ⟨_,S,xZ7G hh.nt hs,h1,h2⟩
 by_cases hm:m=0
 ·subst hm
  refine (xZla ad w).mono ?_
  rintro e w' ⟨rfl,rfl⟩
  exact fin _ _ (.refl _) (.inl ⟨⟨_,rfl⟩,rfl⟩) (fun b hb=>by cases ad<;>cases hb) ⟨_,_,_,rfl⟩
 ·obtain ⟨ks,x,hx⟩:∃ ks x,cMk prog 51 ks=some (x,8,80):=⟨[0,0,0,0,0,0,0,0],eA1 (xZ2.mk 0 0 [] [] (xZe.mk 0 0 0 [])),by kernel_rfl⟩
  obtain ⟨e,i,z,hu,hi,hz,q1,q2,q3,q4,hx⟩:=xZjq hx
  simp only [Prod.mk.injEq] at hx
  obtain ⟨-,hs8,hb80⟩:=hx
  have he:e=135:=by
   have:prog.underlying 51=some (.slice 135):=by kernel_rfl
   rw [this] at hu;cases hu;rfl
  subst he
  refine (xZlb i z hu hi hz q3 m (by omega) (by rw [← hb80];omega) (by omega) ad w).mono ?_
  rintro e w' ⟨rfl,rfl⟩
  have hge:=grownCap_ge w m 0 135
  have hle:=grownCap_le_maxLen w m 0 135 (by unfold maxLen;omega)
  have hG:=Grew.drew_alloc w (.cells (#[]++Builtin.zeroCells z.cells m++Builtin.zeroCells z.cells (grownCap w m 0 135 - m)) 135)
  generalize grownCap w m 0 135=G at *
  obtain ⟨q,rfl⟩:∃ q,G=q+1:=⟨G - 1,by omega⟩
  refine fin _ _ hG (.inr ⟨w.heap.size,q,_,135,rfl,fun h=>by have:=hh.sits _ h;omega,xZ7k _ _,⟨Nat.zero_le _,hle,?_,fun i hi=>absurd hi (Nat.not_lt_zero _),fun i hi=>absurd hi (Nat.not_lt_zero _),fun i hi=>absurd hi (Nat.not_lt_zero _)⟩⟩) (fun b hb=>by cases hb;exact Nat.le_refl _) ⟨_,_,_,rfl⟩
  rw [Array.size_append,Array.size_append,size_zeroCells,size_zeroCells,q2,← hs8,Array.size_empty]
  omega
end Go.Proofs.YtmfkphajohcklaaGreat.O
set_option linter.unusedVariables false
set_option linter.unusedSimpArgs false
namespace Go.Proofs.YtmfkphajohcklaaGreat.O
open Go Go.RowKit Go.Proofs.Tryz
set_option maxHeartbeats 4000000
set_option maxRecDepth 1000000
theorem xZhk {M:Maps} {S:Nat→Prop} {w:World} {v:Value} {l:List Value} (h:VRep M S w v (.agg (l.map .v))):v=.agg l.toArray:=by
 have key:∀ vs:Array Value,vs.size=(l.map AV.v).length→(∀ i,i < (l.map AV.v).length→VRep M S w (vs.getD i undef) ((l.map AV.v).getD i .any))→vs=l.toArray:=fun vs hn hall=>by
  rw [List.length_map] at hn
  refine Array.ext (by simpa using hn) fun i h1 h2=>?_
  have hi:i < l.length:=by omega
  have q:=hall i (by simpa using hi)
  rw [show (l.map AV.v).getD i .any=.v l[i] by simp [List.getD,hi]] at q
  have:=q.v_eq
  simpa [Array.getD,h1] using this
 cases h with
 | data h=>cases h with | agg vs _ hn hall=>exact congrArg _ (key vs hn fun i hi=>.data (hall i hi))
 | agg vs _ hn hall=>exact congrArg _ (key vs hn hall)
theorem xZeG (w:World) (a b:Obj):Grew w ((w.alloc a).alloc b):=⟨rfl,rfl,rfl,by simp;omega,fun g h=>(xZ50 _ _ g (by simp;omega)).trans (xZ50 _ _ g h)⟩
theorem xZjW (w:World) (a b:Obj):Grew w ((w.alloc a).alloc b).drew:=⟨rfl,rfl,rfl,by simp;omega,fun g h=>(xZ50 _ _ g (by simp;omega)).trans (xZ50 _ _ g h)⟩
theorem xZex (l:List UInt8):(bs l).toList=[] ↔ l=[]:=by simp [bs]
theorem xZqT (o vk vn vb:Int) (va na vt:List UInt8) (w:World):
 Calls Tryz.prog 174 #[.agg #[.int .u8 4,.int .u8 o,.string (bs va),.string (bs na),.int .u8 vk,.int .i64 vn,.int .u64 vb,.string (bs vt)]] w fun e w'=>(∃ b,e=.returned (.bool b)∧(b=false ↔ (va=[]∧na=[]∧0=vk∧0=vn∧0=vb∧vt=[])))∧Grew w w':=by
 rw [← xZex vt,← xZex va,← xZex na]
 go_enter Tryz.func174,Tryz.ntmps174
 go_wp2
 all_goals
  go_ret
  refine ⟨⟨_,rfl,?_⟩,xZeG _ _ _⟩
  simp_all
theorem xZqU (o vk vn vb:Int) (va na vt:List UInt8) (w:World):
 Calls Tryz.prog 174 #[.agg #[.int .u8 7,.int .u8 o,.string (bs va),.string (bs na),.int .u8 vk,.int .i64 vn,.int .u64 vb,.string (bs vt)]] w fun e w'=>(∃ b,e=.returned (.bool b)∧(b=false ↔ (0=o∧va=[]∧0=vk∧0=vn∧0=vb∧vt=[])))∧Grew w w':=by
 rw [← xZex vt,← xZex va]
 go_enter Tryz.func174,Tryz.ntmps174
 go_wp2
 all_goals
  go_ret
  refine ⟨⟨_,rfl,?_⟩,xZeG _ _ _⟩
  simp_all
theorem xZqV (o vk vn vb:Int) (va na vt:List UInt8) (w:World):
 Calls Tryz.prog 174 #[.agg #[.int .u8 8,.int .u8 o,.string (bs va),.string (bs na),.int .u8 vk,.int .i64 vn,.int .u64 vb,.string (bs vt)]] w fun e w'=>(∃ b,e=.returned (.bool b)∧(b=false ↔ (0=o∧0=vk∧0=vn∧0=vb∧vt=[])))∧Grew w w':=by
 rw [← xZex vt]
 go_enter Tryz.func174,Tryz.ntmps174
 go_wp2
 go_region_held3 (fun w'=>w'.cell? ⟨w.heap.size,2,none⟩=some (.string (bs va))∧w'.cell? ⟨w.heap.size,3,none⟩=some (.string (bs na))) (go_keep) (fail)
 go_wp2
 all_goals
  go_ret
  refine ⟨⟨_,rfl,?_⟩,xZjW _ _ _⟩
  simp_all
theorem xZqW (o vk vn vb:Int) (va na vt:List UInt8) (w:World):
 Calls Tryz.prog 174 #[.agg #[.int .u8 9,.int .u8 o,.string (bs va),.string (bs na),.int .u8 vk,.int .i64 vn,.int .u64 vb,.string (bs vt)]] w fun e w'=>(∃ b,e=.returned (.bool b)∧(b=false ↔ (0=o∧va=[]∧na=[])))∧Grew w w':=by
 rw [← xZex va,← xZex na]
 go_enter Tryz.func174,Tryz.ntmps174
 go_wp2
 all_goals
  go_ret
  refine ⟨⟨_,rfl,?_⟩,xZeG _ _ _⟩
  simp_all
theorem xZqX (k:Int) (h4:¬ k=4) (h7:¬ k=7) (h8:¬ k=8) (h9:¬ k=9) (o vk vn vb:Int) (va na vt:List UInt8) (w:World):
 Calls Tryz.prog 174 #[.agg #[.int .u8 k,.int .u8 o,.string (bs va),.string (bs na),.int .u8 vk,.int .i64 vn,.int .u64 vb,.string (bs vt)]] w fun e w'=>(∃ b,e=.returned (.bool b)∧(b=false ↔ (0=o∧va=[]∧na=[]∧0=vk∧0=vn∧0=vb∧vt=[])))∧Grew w w':=by
 rw [← xZex vt,← xZex va,← xZex na]
 go_enter Tryz.func174,Tryz.ntmps174
 go_wp2
 all_goals
  go_ret
  refine ⟨⟨_,rfl,?_⟩,xZeG _ _ _⟩
  simp_all
theorem bf_eq {a b:Bool} {Q:Prop} (h1:a=false ↔ Q) (h2:b=false ↔ Q):b=a:=by cases a<;>cases b<;>simp_all
theorem xZbI (N:Nat):xZ9g.Ok prog N:=by
 refine ⟨⟨Tryz.f174,Tryz.func174,by kernel_rfl,by kernel_rfl⟩,fun a r h=>?_⟩
 obtain ⟨n,⟨⟩⟩:=a
 have h:some (moreB n)=some r:=h
 obtain rfl:=Option.some.inj h
 intro M S w vs hh _ hsz hrep
 obtain ⟨v,rfl⟩:∃ v,vs=#[v]:=by
  match vs,hsz with
  | ⟨[v]⟩,_=>exact ⟨v,rfl⟩
 obtain ⟨k,o,va,na,vk,vn,vb,vt⟩:=n
 have h0:VRep M S w v (.agg ([.int .u8 k,.int .u8 o,.string (bs va),.string (bs na),.int .u8 vk,.int .i64 vn,.int .u64 vb,.string (bs vt)].map .v)):=hrep 0 (Nat.zero_lt_one)
 obtain rfl:=xZhk h0
 have fin:∀ {k:Int} {Q:Prop},(moreB ⟨k,o,va,na,⟨vk,vn,vb,vt⟩⟩=false ↔ Q)→∀ e w',((∃ b,e=.returned (.bool b)∧(b=false ↔ Q))∧Grew w w')→
  ∃ M' S',EndRep M' S' w' e (.ret (.v (.bool (moreB ⟨k,o,va,na,⟨vk,vn,vb,vt⟩⟩))))∧RelH M' S' AH.nil w'∧Frm M S AH.nil w M' S' AH.nil w':=by
  rintro k Q hm e w' ⟨⟨b,rfl,hb⟩,hg⟩
  obtain rfl:=bf_eq hm hb
  exact ⟨M,S,.data (.v _),hh.grew hg,.grew hh hg⟩
 by_cases h4:k=4
 ·subst h4
  exact (xZqT o vk vn vb va na vt w).mono (fin (by simp [moreB,moreZ,eq_comm (a:=(0:Int)),and_assoc]))
 by_cases h7:k=7
 ·subst h7
  exact (xZqU o vk vn vb va na vt w).mono (fin (by simp [moreB,moreZ,eq_comm (a:=(0:Int)),and_assoc]))
 by_cases h8:k=8
 ·subst h8
  exact (xZqV o vk vn vb va na vt w).mono (fin (by simp [moreB,moreZ,eq_comm (a:=(0:Int)),and_assoc]))
 by_cases h9:k=9
 ·subst h9
  exact (xZqW o vk vn vb va na vt w).mono (fin (by simp [moreB,moreZ,eq_comm (a:=(0:Int)),and_assoc]))
 have e4:(k==4)=false:=by simpa using h4
 have e7:(k==7)=false:=by simpa using h7
 have e8:(k==8)=false:=by simpa using h8
 have e9:(k==9)=false:=by simpa using h9
 exact (xZqX k h4 h7 h8 h9 o vk vn vb va na vt w).mono (fin (by simp only [moreB,e4,e7,e8,e9,cond_false];simp [moreZ,eq_comm (a:=(0:Int)),and_assoc]))
end Go.Proofs.YtmfkphajohcklaaGreat.O
namespace Go.Proofs.YtmfkphajohcklaaGreat.O
open Go Go.RowKit Go.Extern.Stop Go.Stop Go.Extern Go.Proofs.Tryz
set_option maxHeartbeats 4000000
set_option maxRecDepth 1000000
theorem xZhD (n p:Int) (h:n≠0) (w:World):Calls Tryz.prog 60 #[.int .i64 n,.int .i64 p] w fun e w'=>e=.returned (.iface 175 (.pointer (some ⟨w.heap.size,0,none⟩)))∧w'=w.alloc (.cells #[.int .i64 n,.int .i64 p] 189):=by
 go_enter Tryz.func60,Tryz.ntmps60
 go_wp2
 go_ret
 exact ⟨rfl,rfl⟩
end Go.Proofs.YtmfkphajohcklaaGreat.O
namespace Go.Proofs.YtmfkphajohcklaaGreat.O
open Go
open Go.Proofs.Tryz
set_option maxRecDepth 1000000
set_option linter.unusedSimpArgs false
set_option linter.unusedVariables false
noncomputable section
noncomputable def xZgj:Fn xZbB:=⟨f34,[],⟨[],[],sbf,bof⟩,fun _=>[],[true],none,0,0,fun _ _=>true,none,[],[],[]⟩
theorem xZgH:xZgj.Ok prog:=⟨Is.of (by kernel_rfl) (by kernel_rfl),by kernel_rfl,xZ6 sb_ok bo_ok,trivial,trivial,fun _=>by kernel_rfl⟩
theorem xZgq (N:Nat):xZbB.Ok prog N:=xZgH.give tb_ok hm N N (fun _=>trivial) fun a r s h=>by
 exact s.main [] trivial (.trans (by kernel_rfl) h)
noncomputable def xZha:Fn xZcj:=⟨f18,[],⟨[],[],sbf,bof⟩,fun _=>[xZbB],[true],none,0,0,fun _ _=>true,none,[],[],[]⟩
theorem xZhJ:xZha.Ok prog:=⟨Is.of (by kernel_rfl) (by kernel_rfl),by kernel_rfl,xZ6 sb_ok bo_ok,trivial,trivial,fun _=>by kernel_rfl⟩
theorem xZhp (N:Nat):xZcj.Ok prog N:=xZhJ.give tb_ok hm N N (fun _=>⟨xZgq N,trivial⟩) fun a r s h=>by
 have l0:=s.loop 0 xZ96 (xZcU N) N fun next0 h0=>by
  exact fun c v=>s.seg 0 xZ96 [(0,.of xZ96 next0)] ⟨h0,trivial⟩ (by kernel_rfl) (by kernel_rfl)
 exact s.main [(0,.of xZ96 (xZg7 N))] ⟨l0,trivial⟩ (.trans (by kernel_rfl) h)
noncomputable def xZhf:Fn xZb6:=⟨f36,[],⟨[],[],sbf,bof⟩,fun _=>[],[true],none,0,0,fun _ _=>true,none,[],[],[]⟩
theorem xZhO:xZhf.Ok prog:=⟨Is.of (by kernel_rfl) (by kernel_rfl),by kernel_rfl,xZ6 sb_ok bo_ok,trivial,trivial,fun _=>by kernel_rfl⟩
theorem xZeA (N:Nat):xZb6.Ok prog N:=xZhO.give tb_ok hm N N (fun _=>trivial) fun a r s h=>by
 exact s.main [] trivial (.trans (by kernel_rfl) h)
noncomputable def xZhg:Fn xZb7:=⟨f35,[],⟨[],[],sbf,bof⟩,fun _=>[xZb6],[true],none,0,0,fun _ _=>true,none,[],[],[]⟩
theorem xZhP:xZhg.Ok prog:=⟨Is.of (by kernel_rfl) (by kernel_rfl),by kernel_rfl,xZ6 sb_ok bo_ok,trivial,trivial,fun _=>by kernel_rfl⟩
theorem xZeB (N:Nat):xZb7.Ok prog N:=xZhP.give tb_ok hm N N (fun _=>⟨xZeA N,trivial⟩) fun a r s h=>by
 have l0:=s.loop 0 xZ99 (xZcX N) N fun next0 h0=>by
  exact fun c v=>s.seg 0 xZ99 [(0,.of xZ99 next0)] ⟨h0,trivial⟩ (by kernel_rfl) (by kernel_rfl)
 exact s.main [(0,.of xZ99 (xZga N))] ⟨l0,trivial⟩ (.trans (by kernel_rfl) h)
noncomputable def xZhe:Fn xZcm:=⟨f19,[],⟨[],[],sbf,bof⟩,fun _=>[xZb7],[true],none,0,0,fun _ _=>true,none,[],[],[]⟩
theorem xZhN:xZhe.Ok prog:=⟨Is.of (by kernel_rfl) (by kernel_rfl),by kernel_rfl,xZ6 sb_ok bo_ok,trivial,trivial,fun _=>by kernel_rfl⟩
theorem xZht (N:Nat):xZcm.Ok prog N:=xZhN.give tb_ok hm N N (fun _=>⟨xZeB N,trivial⟩) fun a r s h=>by
 have l0:=s.loop 0 xZ98 (xZcW N) N fun next0 h0=>by
  exact fun c v=>s.seg 0 xZ98 [(0,.of xZ98 next0)] ⟨h0,trivial⟩ (by kernel_rfl) (by kernel_rfl)
 exact s.main [(0,.of xZ98 (xZg9 N))] ⟨l0,trivial⟩ (.trans (by kernel_rfl) h)
noncomputable def xZgk:Fn xZ8K:=⟨f20,[],⟨[],[],sbf,bof⟩,fun _=>[xZb6,xZ8K,xZb7],[true],none,0,0,fun _ _=>true,none,[],[],[]⟩
theorem xZdP:xZgk.Ok prog:=⟨Is.of (by kernel_rfl) (by kernel_rfl),by kernel_rfl,xZ6 sb_ok bo_ok,trivial,trivial,fun _=>by kernel_rfl⟩
theorem xZcN:∀ N,xZ8K.Ok prog N
 | 0=>⟨xZdP.is.enters,fun a r h=>by (have h:none=some r:=h;cases h)⟩
 | N+1=>by
   obtain h_ref16_Loops:=xZcN N
   ·exact xZdP.give tb_ok hm N (N+1) (fun _=>⟨xZeA N,h_ref16_Loops,xZeB N,trivial⟩) fun a r s h=>by
     have l0:=s.loop 0 xZ8G (xZcc N) N fun next0 h0=>by
      exact fun c v=>s.seg 0 xZ8G [(0,.of xZ8G next0)] ⟨h0,trivial⟩ (by kernel_rfl) (by kernel_rfl)
     exact s.main [(0,.of xZ8G (xZfc N))] ⟨l0,trivial⟩ (.trans (by kernel_rfl) h)
theorem xZgs (N:Nat):xZ8K.Ok prog N:=(xZcN N)
noncomputable def xZhb:Fn xZck:=⟨f6,[],⟨[],[],sbf,bof⟩,fun _=>[xZcj,xZcm,xZ8K],[true],none,0,0,fun _ _=>true,none,[],[],[]⟩
theorem xZhK:xZhb.Ok prog:=⟨Is.of (by kernel_rfl) (by kernel_rfl),by kernel_rfl,xZ6 sb_ok bo_ok,trivial,trivial,fun _=>by kernel_rfl⟩
theorem xZhq (N:Nat):xZck.Ok prog N:=xZhK.give tb_ok hm N N (fun _=>⟨xZhp N,xZht N,xZgs N,trivial⟩) fun a r s h=>by
 have l0:=s.loop 0 xZ97 (xZcV N) N fun next0 h0=>by
  exact fun c v=>s.seg 0 xZ97 [(0,.of xZ97 next0)] ⟨h0,trivial⟩ (by kernel_rfl) (by kernel_rfl)
 exact s.main [(0,.of xZ97 (xZg8 N))] ⟨l0,trivial⟩ (.trans (by kernel_rfl) h)
noncomputable def xZiN:Fn xZdi:=⟨f73,[],⟨[],[],sbf,bof⟩,fun _=>[],[true],none,0,0,fun _ _=>true,none,[],[],[]⟩
theorem xZj5:xZiN.Ok prog:=⟨Is.of (by kernel_rfl) (by kernel_rfl),by kernel_rfl,xZ6 sb_ok bo_ok,trivial,trivial,fun _=>by kernel_rfl⟩
theorem xZiV (N:Nat):xZdi.Ok prog N:=xZj5.give tb_ok hm N N (fun _=>trivial) fun a r s h=>by
 exact s.main [] trivial (.trans (by kernel_rfl) h)
noncomputable def xZiM:Fn xZdh:=⟨f53,[],⟨[],[],sbf,bof⟩,fun _=>[xZdi],[true],none,0,0,fun _ _=>true,none,[],[],[]⟩
theorem xZj4:xZiM.Ok prog:=⟨Is.of (by kernel_rfl) (by kernel_rfl),by kernel_rfl,xZ6 sb_ok bo_ok,trivial,trivial,fun _=>by kernel_rfl⟩
theorem xZiU (N:Nat):xZdh.Ok prog N:=xZj4.give tb_ok hm N N (fun _=>⟨xZiV N,trivial⟩) fun a r s h=>by
 have l0:=s.loop 0 xZ9X (xZdK N) N fun next0 h0=>by
  exact fun c v=>s.seg 0 xZ9X [(0,.of xZ9X next0)] ⟨h0,trivial⟩ (by kernel_rfl) (by kernel_rfl)
 exact s.main [(0,.of xZ9X (xZgR N))] ⟨l0,trivial⟩ (.trans (by kernel_rfl) h)
noncomputable def xZgi:Fn xZbA:=⟨f30,[],⟨[(2000063,10),(2000068,10)],[],sbf,bof⟩,fun _=>[xZdh],[true],none,0,0,fun _ _=>true,none,[],[],[]⟩
theorem xZgG:xZgi.Ok prog:=⟨Is.of (by kernel_rfl) (by kernel_rfl),by kernel_rfl,xZ6 sb_ok bo_ok,trivial,trivial,fun _=>by kernel_rfl⟩
theorem xZgp (N:Nat):xZbA.Ok prog N:=xZgG.give tb_ok hm N N (fun _=>⟨xZiU N,trivial⟩) fun a r s h=>by
 have l0:=s.loop 0 xZ8F (xZcb N) N fun next0 h0=>by
  exact fun c v=>s.seg 0 xZ8F [(0,.of xZ8F next0)] ⟨h0,trivial⟩ (by kernel_rfl) (by kernel_rfl)
 exact s.main [(0,.of xZ8F (xZfb N))] ⟨l0,trivial⟩ (.trans (by kernel_rfl) h)
noncomputable def xZh9:Fn xZ7P:=⟨f13,[],⟨[],[],sbf,bof⟩,fun _=>[],[true],none,0,0,fun _ _=>true,none,[],[],[]⟩
theorem xZhI:xZh9.Ok prog:=⟨Is.of (by kernel_rfl) (by kernel_rfl),by kernel_rfl,xZ6 sb_ok bo_ok,trivial,trivial,fun _=>by kernel_rfl⟩
theorem xZ9j (N:Nat):xZ7P.Ok prog N:=xZhI.give tb_ok hm N N (fun _=>trivial) fun a r s h=>by
 exact s.main [] trivial (.trans (by kernel_rfl) h)
noncomputable def xZaK:Fn xZ5k:=⟨f54,[],⟨[],[],sbf,bof⟩,fun _=>[xZ7P],[],none,1,1,fun _ _=>true,none,[],[],[]⟩
theorem xZaX:xZaK.Ok prog:=⟨Is.of (by kernel_rfl) (by kernel_rfl),by kernel_rfl,xZ6 sb_ok bo_ok,trivial,trivial,fun _=>by kernel_rfl⟩
theorem xZaR (N:Nat):xZ5k.Ok prog N:=xZaX.give tb_ok hm N N (fun _=>⟨xZ9j N,trivial⟩) fun a r s h=>by
 have l0:=s.loop 0 xZ3F (xZ7a N) N fun next0 h0=>by
  exact fun c v=>s.seg 0 xZ3F [(0,.of xZ3F next0)] ⟨h0,trivial⟩ (by kernel_rfl) (by kernel_rfl)
 exact s.main [(0,.of xZ3F (xZ9K N))] ⟨l0,trivial⟩ (.trans (by kernel_rfl) h)
noncomputable def xZad:Fn xZ2Z:=⟨f31,[],⟨[],[],sbf,bof⟩,fun _=>[xZ2Z,xZ5k],[true],none,1,1,fun _ _=>true,none,[],[],[]⟩
theorem xZ7z:xZad.Ok prog:=⟨Is.of (by kernel_rfl) (by kernel_rfl),by kernel_rfl,xZ6 sb_ok bo_ok,trivial,trivial,fun _=>by kernel_rfl⟩
theorem xZ79:∀ N,xZ2Z.Ok prog N
 | 0=>⟨xZ7z.is.enters,fun a r h=>by (have h:none=some r:=h;cases h)⟩
 | N+1=>by
   obtain h_follow_builder_tree_v901:=xZ79 N
   ·exact xZ7z.give tb_ok hm N (N+1) (fun _=>⟨h_follow_builder_tree_v901,xZaR N,trivial⟩) fun a r s h=>by
     exact s.main [] trivial (.trans (by kernel_rfl) h)
theorem xZai (N:Nat):xZ2Z.Ok prog N:=(xZ79 N)
noncomputable def xZfz:Fn xZb3:=⟨f14,[],⟨[],[(55,⟨11,(0:Int),4⟩)],sbf,bof⟩,fun _=>[xZbA,xZ2Z],[true,true],none,0,0,fun _ _=>true,some EqR.cls,[],[],[]⟩
theorem xZfX:xZfz.Ok prog:=⟨Is.of (by kernel_rfl) (by kernel_rfl),by kernel_rfl,xZ6 sb_ok bo_ok,⟨⟨[0],by kernel_rfl⟩,trivial⟩,trivial,fun _=>by kernel_rfl⟩
theorem xZfG (N:Nat):xZb3.Ok prog N:=xZfX.give tb_ok hm N N (fun _=>⟨xZgp N,xZai N,trivial⟩) fun a r s h=>by
 exact s.main [] trivial (.trans (by kernel_rfl) h)
noncomputable def xZ9s:Fn xZ4W:=⟨f23,[],⟨[],[],sbf,bof⟩,fun _=>[xZ7P],[true],none,1,0,fun _ _=>true,none,[],[],[]⟩
theorem xZ9D:xZ9s.Ok prog:=⟨Is.of (by kernel_rfl) (by kernel_rfl),by kernel_rfl,xZ6 sb_ok bo_ok,trivial,trivial,fun _=>by kernel_rfl⟩
theorem xZ9B (N:Nat):xZ4W.Ok prog N:=xZ9D.give tb_ok hm N N (fun _=>⟨xZ9j N,trivial⟩) fun a r s h=>by
 have l0:=s.loop 0 xZ2o (xZ6h N) N fun next0 h0=>by
  have l2:=s.loop 2 xZ3k (xZ6i N next0) N fun next2 h2=>by
   exact fun c v=>s.seg 2 xZ3k [(0,.of xZ2o next0),(2,.of xZ3k next2)] ⟨h0,h2,trivial⟩ (by kernel_rfl) (by kernel_rfl)
  exact fun c v=>s.seg 0 xZ2o [(0,.of xZ2o next0),(2,.of xZ3k (xZ9b N next0))] ⟨h0,l2,trivial⟩ (by kernel_rfl) (by kernel_rfl)
 exact s.main [(0,.of xZ2o (xZ9a N))] ⟨l0,trivial⟩ (.trans (by kernel_rfl) h)
end
end Go.Proofs.YtmfkphajohcklaaGreat.O
namespace Go.Proofs.YtmfkphajohcklaaGreat.O
open Go
open Go.Proofs.Tryz
set_option maxRecDepth 1000000
set_option linter.unusedSimpArgs false
set_option linter.unusedVariables false
noncomputable section
noncomputable def xZdZ:Fn xZ8N:=⟨f99,[],⟨[],[],sbf,bof⟩,fun _=>[],[true],none,0,0,fun _ _=>true,none,[],[],[]⟩
theorem xZed:xZdZ.Ok prog:=⟨Is.of (by kernel_rfl) (by kernel_rfl),by kernel_rfl,xZ6 sb_ok bo_ok,trivial,trivial,fun _=>by kernel_rfl⟩
theorem xZe4 (N:Nat):xZ8N.Ok prog N:=xZed.give tb_ok hm N N (fun _=>trivial) fun a r s h=>by
 exact s.main [] trivial (.trans (by kernel_rfl) h)
noncomputable def xZf0:Fn xZ7o:=⟨f63,[],⟨[],[],sbf,bof⟩,fun _=>[xZ8N],[true],none,0,0,fun _ _=>true,none,[],[],[]⟩
theorem xZf8:xZf0.Ok prog:=⟨Is.of (by kernel_rfl) (by kernel_rfl),by kernel_rfl,xZ6 sb_ok bo_ok,trivial,trivial,fun _=>by kernel_rfl⟩
theorem xZaj (N:Nat):xZ7o.Ok prog N:=xZf8.give tb_ok hm N N (fun _=>⟨xZe4 N,trivial⟩) fun a r s h=>by
 exact s.main [] trivial (.trans (by kernel_rfl) h)
noncomputable def xZeZ:Fn xZab:=⟨f100,[],⟨[],[],sbf,bof⟩,fun _=>[],[true],none,0,0,fun _ _=>true,none,[],[],[]⟩
theorem xZf7:xZeZ.Ok prog:=⟨Is.of (by kernel_rfl) (by kernel_rfl),by kernel_rfl,xZ6 sb_ok bo_ok,trivial,trivial,fun _=>by kernel_rfl⟩
theorem xZf3 (N:Nat):xZab.Ok prog N:=xZf7.give tb_ok hm N N (fun _=>trivial) fun a r s h=>by
 exact s.main [] trivial (.trans (by kernel_rfl) h)
noncomputable def xZdW:Fn xZ8M:=⟨f65,[],⟨[],[],sbf,bof⟩,fun _=>[xZab],[true],none,0,0,fun _ _=>true,none,[],[],[]⟩
theorem xZea:xZdW.Ok prog:=⟨Is.of (by kernel_rfl) (by kernel_rfl),by kernel_rfl,xZ6 sb_ok bo_ok,trivial,trivial,fun _=>by kernel_rfl⟩
theorem xZe2 (N:Nat):xZ8M.Ok prog N:=xZea.give tb_ok hm N N (fun _=>⟨xZf3 N,trivial⟩) fun a r s h=>by
 exact s.main [] trivial (.trans (by kernel_rfl) h)
noncomputable def xZdm:Fn xZ6Q:=⟨f101,[],⟨[],[],sbf,bof⟩,fun _=>[],[true],none,0,0,fun _ _=>true,none,[],[],[]⟩
theorem xZdz:xZdm.Ok prog:=⟨Is.of (by kernel_rfl) (by kernel_rfl),by kernel_rfl,xZ6 sb_ok bo_ok,trivial,trivial,fun _=>by kernel_rfl⟩
theorem xZaQ (N:Nat):xZ6Q.Ok prog N:=xZdz.give tb_ok hm N N (fun _=>trivial) fun a r s h=>by
 exact s.main [] trivial (.trans (by kernel_rfl) h)
noncomputable def xZco:Fn xZ7O:=⟨f66,[],⟨[],[],sbf,bof⟩,fun _=>[xZ6Q],[true],none,0,0,fun _ _=>true,none,[],[],[]⟩
theorem xZcB:xZco.Ok prog:=⟨Is.of (by kernel_rfl) (by kernel_rfl),by kernel_rfl,xZ6 sb_ok bo_ok,trivial,trivial,fun _=>by kernel_rfl⟩
theorem xZcu (N:Nat):xZ7O.Ok prog N:=xZcB.give tb_ok hm N N (fun _=>⟨xZaQ N,trivial⟩) fun a r s h=>by
 exact s.main [] trivial (.trans (by kernel_rfl) h)
noncomputable def xZh7:Fn xZch:=⟨f64,[],⟨[],[],sbf,bof⟩,fun _=>[],[true],none,0,0,fun _ _=>true,none,[],[],[]⟩
theorem xZhG:xZh7.Ok prog:=⟨Is.of (by kernel_rfl) (by kernel_rfl),by kernel_rfl,xZ6 sb_ok bo_ok,trivial,trivial,fun _=>by kernel_rfl⟩
theorem xZhn (N:Nat):xZch.Ok prog N:=xZhG.give tb_ok hm N N (fun _=>trivial) fun a r s h=>by
 have l0:=s.loop 0 xZ94 (xZcS N) 8 fun next0 h0=>by
  exact fun c v=>s.seg 0 xZ94 [(0,.of xZ94 next0)] ⟨h0,trivial⟩ (by kernel_rfl) (by kernel_rfl)
 exact s.main [(0,.of xZ94 (xZg5 N))] ⟨l0,trivial⟩ (.trans (by kernel_rfl) h)
noncomputable def xZh6:Fn xZ5F:=⟨f44,[],⟨[(15,0)],[],sbf,bof⟩,fun _=>[xZ8M,xZ7O,xZch],[true],none,0,0,fun _ _=>true,none,[],[],[]⟩
theorem xZhF:xZh6.Ok prog:=⟨Is.of (by kernel_rfl) (by kernel_rfl),by kernel_rfl,xZ6 sb_ok bo_ok,trivial,trivial,fun _=>by kernel_rfl⟩
theorem xZ7U (N:Nat):xZ5F.Ok prog N:=xZhF.give tb_ok hm N N (fun _=>⟨xZe2 N,xZcu N,xZhn N,trivial⟩) fun a r s h=>by
 exact s.main [] trivial (.trans (by kernel_rfl) h)
noncomputable def xZ5H:Fn xZ29:=⟨f90,[],⟨[],[],sbf,bof⟩,fun _=>[xZ5F],[],none,0,1,fun _ _=>true,none,[],[],[]⟩
theorem xZ5L:xZ5H.Ok prog:=⟨Is.of (by kernel_rfl) (by kernel_rfl),by kernel_rfl,xZ6 sb_ok bo_ok,trivial,trivial,fun _=>by kernel_rfl⟩
theorem xZ5J (N:Nat):xZ29.Ok prog N:=xZ5L.give tb_ok hm N N (fun _=>⟨xZ7U N,trivial⟩) fun a r s h=>by
 have l0:=s.loop 0 xZx (xZ3h N) N fun next0 h0=>by
  have l2:=s.loop 2 xZX (xZ3i N next0) N fun next2 h2=>by
   exact fun c v=>s.seg 2 xZX [(0,.of xZx next0),(2,.of xZX next2)] ⟨h0,h2,trivial⟩ (by kernel_rfl) (by kernel_rfl)
  exact fun c v=>s.seg 0 xZx [(0,.of xZx next0),(2,.of xZX (xZ5s N next0))] ⟨h0,l2,trivial⟩ (by kernel_rfl) (by kernel_rfl)
 exact s.main [(0,.of xZx (xZ5r N))] ⟨l0,trivial⟩ (.trans (by kernel_rfl) h)
noncomputable def xZ6T:Fn xZ2F:=⟨f135,[],⟨[],[],sbf,bof⟩,fun _=>[xZ5F],[],none,0,1,fun _ _=>true,none,[],[],[]⟩
theorem xZ6Z:xZ6T.Ok prog:=⟨Is.of (by kernel_rfl) (by kernel_rfl),by kernel_rfl,xZ6 sb_ok bo_ok,trivial,trivial,fun _=>by kernel_rfl⟩
theorem xZ6W (N:Nat):xZ2F.Ok prog N:=xZ6Z.give tb_ok hm N N (fun _=>⟨xZ7U N,trivial⟩) fun a r s h=>by
 have l0:=s.loop 0 xZ1y (xZ3Y N) N fun next0 h0=>by
  exact fun c v=>s.seg 0 xZ1y [(0,.of xZ1y next0)] ⟨h0,trivial⟩ (by kernel_rfl) (by kernel_rfl)
 exact s.main [(0,.of xZ1y (xZ6x N))] ⟨l0,trivial⟩ (.trans (by kernel_rfl) h)
noncomputable def xZ6S:Fn xZ2E:=⟨f91,[],⟨[],[],sbf,bof⟩,fun _=>[xZ2F],[],none,0,1,fun _ _=>true,none,[],[],[]⟩
theorem xZ6Y:xZ6S.Ok prog:=⟨Is.of (by kernel_rfl) (by kernel_rfl),by kernel_rfl,xZ6 sb_ok bo_ok,trivial,trivial,fun _=>by kernel_rfl⟩
theorem xZ6V (N:Nat):xZ2E.Ok prog N:=xZ6Y.give tb_ok hm N N (fun _=>⟨xZ6W N,trivial⟩) fun a r s h=>by
 have l2:=s.loop 2 xZ1x (xZ3X N) N fun next2 h2=>by
  exact fun c v=>s.seg 2 xZ1x [(2,.of xZ1x next2)] ⟨h2,trivial⟩ (by kernel_rfl) (by kernel_rfl)
 have l0:=s.loop 0 xZ1w (xZ3W N) N fun next0 h0=>by
  exact fun c v=>s.seg 0 xZ1w [(0,.of xZ1w next0),(2,.of xZ1x (xZ6w N))] ⟨h0,l2,trivial⟩ (by kernel_rfl) (by kernel_rfl)
 exact s.main [(0,.of xZ1w (xZ6v N))] ⟨l0,trivial⟩ (.trans (by kernel_rfl) h)
noncomputable def xZbx:Fn xZ4P:=⟨f136,[],⟨[],[],sbf,bof⟩,fun _=>[xZ7o],[true],none,0,0,fun _ _=>true,none,[],[],[]⟩
theorem xZbz:xZbx.Ok prog:=⟨Is.of (by kernel_rfl) (by kernel_rfl),by kernel_rfl,xZ6 sb_ok bo_ok,trivial,trivial,fun _=>by kernel_rfl⟩
theorem xZ8q (N:Nat):xZ4P.Ok prog N:=xZbz.give tb_ok hm N N (fun _=>⟨xZaj N,trivial⟩) fun a r s h=>by
 exact s.main [] trivial (.trans (by kernel_rfl) h)
noncomputable def xZ9y:Fn xZ3D:=⟨f137,[],⟨[],[],sbf,bof⟩,fun _=>[],[true],none,1,0,fun _ _=>true,none,[],[],[]⟩
theorem xZ9I:xZ9y.Ok prog:=⟨Is.of (by kernel_rfl) (by kernel_rfl),by kernel_rfl,xZ6 sb_ok bo_ok,trivial,trivial,fun _=>by kernel_rfl⟩
theorem xZ78 (N:Nat):xZ3D.Ok prog N:=xZ9I.give tb_ok hm N N (fun _=>trivial) fun a r s h=>by
 exact s.main [] trivial (.trans (by kernel_rfl) h)
noncomputable def xZ5G:Fn xZ28:=⟨f92,[],⟨[],[],sbf,bof⟩,fun _=>[xZ4P,xZ3D],[],none,0,1,fun _ _=>true,none,[],[],[]⟩
theorem xZ5K:xZ5G.Ok prog:=⟨Is.of (by kernel_rfl) (by kernel_rfl),by kernel_rfl,xZ6 sb_ok bo_ok,trivial,trivial,fun _=>by kernel_rfl⟩
theorem xZ5I (N:Nat):xZ28.Ok prog N:=xZ5K.give tb_ok hm N N (fun _=>⟨xZ8q N,xZ78 N,trivial⟩) fun a r s h=>by
 have l0:=s.loop 0 xZW (xZ3g N) N fun next0 h0=>by
  exact fun c v=>s.seg 0 xZW [(0,.of xZW next0)] ⟨h0,trivial⟩ (by kernel_rfl) (by kernel_rfl)
 exact s.main [(0,.of xZW (xZ5q N))] ⟨l0,trivial⟩ (.trans (by kernel_rfl) h)
end
end Go.Proofs.YtmfkphajohcklaaGreat.O
