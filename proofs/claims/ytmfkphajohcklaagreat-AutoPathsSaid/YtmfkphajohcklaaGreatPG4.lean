/- slices.Grow of nothing, walked. No premise beyond what each theorem says. -/
import Derived.Test.YtmfkphajohcklaaGreatPG3
import Derived.WalkKit
import Derived.Lib.Walk
import Derived.Lib.SliceRun
import Derived.Lib.AppendZerosOnto
import Derived.WalkLawsBesides
import Derived.Deep.RegionHeld3
import Derived.LaidEql
import Derived.Stop.Asserts
import Derived.RowKitTokens
set_option linter.all false
set_option linter.unusedSimpArgs false
set_option linter.unusedVariables false
set_option linter.unusedVariables false
set_option linter.unusedSimpArgs false
namespace Go.Proofs.YtmfkphajohcklaaGreat.P
open Go Go.RowKit Go.Lib Go.Proofs.Tryz
set_option maxHeartbeats 4000000
set_option maxRecDepth 1000000
theorem xZm5 (a:Option Addr) (w:World):Calls Tryz.prog 194 #[.slice a 0 0,.int .i64 0] w fun e w'=>e=.returned (.slice a 0 0)∧w'=w:=by
 go_enter Tryz.func194,Tryz.ntmps194
 go_wp2
 go_ret
 exact ⟨rfl,rfl⟩
theorem xZm6 (i0:TypeInfo) (z:Value) (hu:Tryz.prog.underlying 51=some (.slice 135)) (hi0:Tryz.prog.info? 135=some i0) (hz0:i0.zero=some z) (hs0:0 < i0.size) (n:Nat) (h0:0 < n) (hbig:n * i0.bytes≤140737488355328) (h63:n≤4611686018427387904) (a:Option Addr) (w:World):
 Calls Tryz.prog 194 #[.slice a 0 0,.int .i64 n] w fun e w'=>e=.returned (.slice (some ⟨w.heap.size,0,none⟩) 0 (grownCap w n 0 135))∧
  w'=w.drew.alloc (.cells (#[]++Builtin.zeroCells z.cells n++Builtin.zeroCells z.cells (grownCap w n 0 135 - n)) 135):=by
 have h1:¬ ((n:Int) < 0):=by omega
 have h4:(n:Int) > 0:=by omega
 have z25:∀ w,(Go.sizeOf 135).run Tryz.prog w=.ok i0.size w:=fun w=>by simp [Go.sizeOf,typeInfo,hi0]
 have hrz:∀ ty,(Builtin.append_ #[51,3] ty #[.slice a 0 0,.int .i64 n]).run Tryz.prog w=
  .ok (.slice (some ⟨w.heap.size,0,none⟩) n (grownCap w n 0 135)) (w.drew.alloc (.cells (#[]++Builtin.zeroCells z.cells n++Builtin.zeroCells z.cells (grownCap w n 0 135 - n)) 135)):=fun ty=>by
  have hold:(Builtin.firstCells i0.size 0 (.slice a 0 0)).run Tryz.prog w.drew=.ok ([]:List Value).toArray w.drew:=by
   cases a with
   | none=>exact run_firstCells_none w.drew i0.size 0 0 0
   | some a=>exact run_firstCells_some w.drew i0.size 0 a 0 0 [] (by simp) (fun j v hj=>by cases hj)
  have h:=Lib.run_append_grow_zeros w 51 3 ty 135 i0 z .i64 .i64 hu Tryz.underlying3 hi0 hz0 a 0 0 [] hold n h0 hs0 (by omega) (by omega) (by omega) (by
   rw [Nat.zero_add];exact growslice_fits (by omega) (by omega))
  rw [Nat.zero_add] at h
  exact h
 have hGn:n≤grownCap w n 0 135:=grownCap_ge w _ _ _
 obtain ⟨G,hG⟩:∃ G,G=grownCap w n 0 135:=⟨_,rfl⟩
 rw [← hG] at hrz hGn ⊢
 have hG63:G≤9223372036854775807:=by
  have:=grownCap_le_maxLen w n 0 135 (by unfold maxLen;omega)
  rw [← hG] at this
  unfold maxLen at this
  omega
 clear hG
 go_enter Tryz.func194,Tryz.ntmps194
 cases a with
 | none=>
   go_wp2_with (at_builtin;refine Lib.wpList_append_run _ rfl _ _ _ _ rfl _ _ rfl rfl _ _ (hrz _) ?_)
   all_goals (go_ret;exact ⟨rfl,rfl⟩)
 | some a=>
   obtain ⟨ab,ao,asp⟩:=a
   go_wp2_with (at_builtin;refine Lib.wpList_append_run _ rfl _ _ _ _ rfl _ _ rfl rfl _ _ (hrz _) ?_)
   all_goals (go_ret;exact ⟨rfl,rfl⟩)
theorem xZ7k (N:Nat):xZ55.Ok prog N:=by
 refine ⟨⟨Tryz.f194,Tryz.func194,by kernel_rfl,by kernel_rfl⟩,fun a r h=>?_⟩
 obtain ⟨⟨⟨⟩,n,⟨⟩⟩,⟨⟩,⟨⟩⟩:=a
 have h:xZ3M N n=some r:=h
 unfold xZ3M at h
 obtain ⟨hn0,h⟩:=xZ3r h
 obtain ⟨hnb,h⟩:=xZ3r h
 have hn0:=xZT.1 hn0
 have hnb:=xZT.1 hnb
 obtain rfl:=Option.some.inj h
 intro M S w vs hh _ hsz hrep
 obtain ⟨v,u,rfl⟩:∃ v u,vs=#[v,u]:=by
  match vs,hsz with
  | ⟨[v,u]⟩,_=>exact ⟨v,u,rfl⟩
 obtain ⟨ad,rfl⟩:∃ ad,v=.slice ad 0 0:=by
  have q:VRep M S w v .emp:=hrep 0 (Nat.zero_lt_succ 1)
  cases q with
  | data q=>cases q;exact ⟨_,rfl⟩
 have e1:u=.int .i64 n:=VRep.v_eq (hrep 1 (Nat.lt_succ_self 1))
 subst e1
 obtain ⟨m,rfl⟩:∃ m:Nat,n=m:=⟨n.toNat,by omega⟩
 have fin:∀ (g:Value) (w':World),Grew w w'→LiveRep S w' g 8 []→(∀ b,Value.blk g=some b→w.heap.size≤b)→(∃ a n c,g=.slice a n c)→
  ∃ M' S',EndRep M' S' w' (.returned g) (.ret (.own 0))∧RelH M' S' ⟨[],[.live 8 []]⟩ w'∧Frm M S AH.nil w M' S' ⟨[],[.live 8 []]⟩ w':=by
  intro g w' hg hl hb hs
  obtain ⟨h1,h2⟩:=hh.addTok hg hl hb
  exact ⟨_,S,xZ7V hh.nt hs,h1,h2⟩
 by_cases hm:m=0
 ·subst hm
  refine (xZm5 ad w).mono ?_
  rintro e w' ⟨rfl,rfl⟩
  exact fin _ _ (.refl _) (.inl ⟨⟨_,rfl⟩,rfl⟩) (fun b hb=>by cases ad<;>cases hb) ⟨_,_,_,rfl⟩
 ·obtain ⟨ks,x,hx⟩:∃ ks x,cMk prog 51 ks=some (x,8,80):=⟨[0,0,0,0,0,0,0,0],eA1 (xZ2.mk 0 0 [] [] (xZe.mk 0 0 0 [])),by kernel_rfl⟩
  obtain ⟨e,i,z,hu,hi,hz,q1,q2,q3,q4,hx⟩:=xZkk hx
  simp only [Prod.mk.injEq] at hx
  obtain ⟨-,hs8,hb80⟩:=hx
  have he:e=135:=by
   have:prog.underlying 51=some (.slice 135):=by kernel_rfl
   rw [this] at hu;cases hu;rfl
  subst he
  refine (xZm6 i z hu hi hz q3 m (by omega) (by rw [← hb80];omega) (by omega) ad w).mono ?_
  rintro e w' ⟨rfl,rfl⟩
  have hge:=grownCap_ge w m 0 135
  have hle:=grownCap_le_maxLen w m 0 135 (by unfold maxLen;omega)
  have hG:=Grew.drew_alloc w (.cells (#[]++Builtin.zeroCells z.cells m++Builtin.zeroCells z.cells (grownCap w m 0 135 - m)) 135)
  generalize grownCap w m 0 135=G at *
  obtain ⟨q,rfl⟩:∃ q,G=q+1:=⟨G - 1,by omega⟩
  refine fin _ _ hG (.inr ⟨w.heap.size,q,_,135,rfl,fun h=>by have:=hh.sits _ h;omega,xZ7y _ _,⟨Nat.zero_le _,hle,?_,fun i hi=>absurd hi (Nat.not_lt_zero _),fun i hi=>absurd hi (Nat.not_lt_zero _),fun i hi=>absurd hi (Nat.not_lt_zero _)⟩⟩) (fun b hb=>by cases hb;exact Nat.le_refl _) ⟨_,_,_,rfl⟩
  rw [Array.size_append,Array.size_append,size_zeroCells,size_zeroCells,q2,← hs8,Array.size_empty]
  omega
end Go.Proofs.YtmfkphajohcklaaGreat.P
set_option linter.unusedVariables false
set_option linter.unusedSimpArgs false
namespace Go.Proofs.YtmfkphajohcklaaGreat.P
open Go Go.RowKit Go.Proofs.Tryz
set_option maxHeartbeats 4000000
set_option maxRecDepth 1000000
theorem xZi8 {M:Maps} {S:Nat→Prop} {w:World} {v:Value} {l:List Value} (h:VRep M S w v (.agg (l.map .v))):v=.agg l.toArray:=by
 have key:∀ vs:Array Value,vs.size=(l.map AV.v).length→(∀ i,i < (l.map AV.v).length→VRep M S w (vs.getD i undef) ((l.map AV.v).getD i .any))→vs=l.toArray:=fun vs hn hall=>by
  rw [List.length_map] at hn
  refine Array.ext (by simpa using hn) fun i h1 h2=>?_
  have hi:i < l.length:=by omega
  have q:=hall i (by simpa using hi)
  rw [show (l.map AV.v).getD i .any=.v l[i] by simp [List.getD,hi]] at q
  have:=q.v_eq
  simpa [Array.getD,h1] using this
 cases h with
 | data h=>cases h with | agg vs _ hn hall=>exact congrArg _ (key vs hn fun i hi=>.data (hall i hi))
 | agg vs _ hn hall=>exact congrArg _ (key vs hn hall)
theorem xZfn (w:World) (a b:Obj):Grew w ((w.alloc a).alloc b):=⟨rfl,rfl,rfl,by simp;omega,fun g h=>(xZ57 _ _ g (by simp;omega)).trans (xZ57 _ _ g h)⟩
theorem xZkQ (w:World) (a b:Obj):Grew w ((w.alloc a).alloc b).drew:=⟨rfl,rfl,rfl,by simp;omega,fun g h=>(xZ57 _ _ g (by simp;omega)).trans (xZ57 _ _ g h)⟩
theorem xZfe (l:List UInt8):(bs l).toList=[] ↔ l=[]:=by simp [bs]
theorem xZrO (o vk vn vb:Int) (va na vt:List UInt8) (w:World):
 Calls Tryz.prog 174 #[.agg #[.int .u8 4,.int .u8 o,.string (bs va),.string (bs na),.int .u8 vk,.int .i64 vn,.int .u64 vb,.string (bs vt)]] w fun e w'=>(∃ b,e=.returned (.bool b)∧(b=false ↔ (va=[]∧na=[]∧0=vk∧0=vn∧0=vb∧vt=[])))∧Grew w w':=by
 rw [← xZfe vt,← xZfe va,← xZfe na]
 go_enter Tryz.func174,Tryz.ntmps174
 go_wp2
 all_goals
  go_ret
  refine ⟨⟨_,rfl,?_⟩,xZfn _ _ _⟩
  simp_all
theorem xZrP (o vk vn vb:Int) (va na vt:List UInt8) (w:World):
 Calls Tryz.prog 174 #[.agg #[.int .u8 7,.int .u8 o,.string (bs va),.string (bs na),.int .u8 vk,.int .i64 vn,.int .u64 vb,.string (bs vt)]] w fun e w'=>(∃ b,e=.returned (.bool b)∧(b=false ↔ (0=o∧va=[]∧0=vk∧0=vn∧0=vb∧vt=[])))∧Grew w w':=by
 rw [← xZfe vt,← xZfe va]
 go_enter Tryz.func174,Tryz.ntmps174
 go_wp2
 all_goals
  go_ret
  refine ⟨⟨_,rfl,?_⟩,xZfn _ _ _⟩
  simp_all
theorem xZrQ (o vk vn vb:Int) (va na vt:List UInt8) (w:World):
 Calls Tryz.prog 174 #[.agg #[.int .u8 8,.int .u8 o,.string (bs va),.string (bs na),.int .u8 vk,.int .i64 vn,.int .u64 vb,.string (bs vt)]] w fun e w'=>(∃ b,e=.returned (.bool b)∧(b=false ↔ (0=o∧0=vk∧0=vn∧0=vb∧vt=[])))∧Grew w w':=by
 rw [← xZfe vt]
 go_enter Tryz.func174,Tryz.ntmps174
 go_wp2
 go_region_held3 (fun w'=>w'.cell? ⟨w.heap.size,2,none⟩=some (.string (bs va))∧w'.cell? ⟨w.heap.size,3,none⟩=some (.string (bs na))) (go_keep) (fail)
 go_wp2
 all_goals
  go_ret
  refine ⟨⟨_,rfl,?_⟩,xZkQ _ _ _⟩
  simp_all
theorem xZrR (o vk vn vb:Int) (va na vt:List UInt8) (w:World):
 Calls Tryz.prog 174 #[.agg #[.int .u8 9,.int .u8 o,.string (bs va),.string (bs na),.int .u8 vk,.int .i64 vn,.int .u64 vb,.string (bs vt)]] w fun e w'=>(∃ b,e=.returned (.bool b)∧(b=false ↔ (0=o∧va=[]∧na=[])))∧Grew w w':=by
 rw [← xZfe va,← xZfe na]
 go_enter Tryz.func174,Tryz.ntmps174
 go_wp2
 all_goals
  go_ret
  refine ⟨⟨_,rfl,?_⟩,xZfn _ _ _⟩
  simp_all
theorem xZrS (k:Int) (h4:¬ k=4) (h7:¬ k=7) (h8:¬ k=8) (h9:¬ k=9) (o vk vn vb:Int) (va na vt:List UInt8) (w:World):
 Calls Tryz.prog 174 #[.agg #[.int .u8 k,.int .u8 o,.string (bs va),.string (bs na),.int .u8 vk,.int .i64 vn,.int .u64 vb,.string (bs vt)]] w fun e w'=>(∃ b,e=.returned (.bool b)∧(b=false ↔ (0=o∧va=[]∧na=[]∧0=vk∧0=vn∧0=vb∧vt=[])))∧Grew w w':=by
 rw [← xZfe vt,← xZfe va,← xZfe na]
 go_enter Tryz.func174,Tryz.ntmps174
 go_wp2
 all_goals
  go_ret
  refine ⟨⟨_,rfl,?_⟩,xZfn _ _ _⟩
  simp_all
theorem bf_eq {a b:Bool} {Q:Prop} (h1:a=false ↔ Q) (h2:b=false ↔ Q):b=a:=by cases a<;>cases b<;>simp_all
theorem xZce (N:Nat):xZ9y.Ok prog N:=by
 refine ⟨⟨Tryz.f174,Tryz.func174,by kernel_rfl,by kernel_rfl⟩,fun a r h=>?_⟩
 obtain ⟨n,⟨⟩⟩:=a
 have h:some (moreB n)=some r:=h
 obtain rfl:=Option.some.inj h
 intro M S w vs hh _ hsz hrep
 obtain ⟨v,rfl⟩:∃ v,vs=#[v]:=by
  match vs,hsz with
  | ⟨[v]⟩,_=>exact ⟨v,rfl⟩
 obtain ⟨k,o,va,na,vk,vn,vb,vt⟩:=n
 have h0:VRep M S w v (.agg ([.int .u8 k,.int .u8 o,.string (bs va),.string (bs na),.int .u8 vk,.int .i64 vn,.int .u64 vb,.string (bs vt)].map .v)):=hrep 0 (Nat.zero_lt_one)
 obtain rfl:=xZi8 h0
 have fin:∀ {k:Int} {Q:Prop},(moreB ⟨k,o,va,na,⟨vk,vn,vb,vt⟩⟩=false ↔ Q)→∀ e w',((∃ b,e=.returned (.bool b)∧(b=false ↔ Q))∧Grew w w')→
  ∃ M' S',EndRep M' S' w' e (.ret (.v (.bool (moreB ⟨k,o,va,na,⟨vk,vn,vb,vt⟩⟩))))∧RelH M' S' AH.nil w'∧Frm M S AH.nil w M' S' AH.nil w':=by
  rintro k Q hm e w' ⟨⟨b,rfl,hb⟩,hg⟩
  obtain rfl:=bf_eq hm hb
  exact ⟨M,S,.data (.v _),hh.grew hg,.grew hh hg⟩
 by_cases h4:k=4
 ·subst h4
  exact (xZrO o vk vn vb va na vt w).mono (fin (by simp [moreB,moreZ,eq_comm (a:=(0:Int)),and_assoc]))
 by_cases h7:k=7
 ·subst h7
  exact (xZrP o vk vn vb va na vt w).mono (fin (by simp [moreB,moreZ,eq_comm (a:=(0:Int)),and_assoc]))
 by_cases h8:k=8
 ·subst h8
  exact (xZrQ o vk vn vb va na vt w).mono (fin (by simp [moreB,moreZ,eq_comm (a:=(0:Int)),and_assoc]))
 by_cases h9:k=9
 ·subst h9
  exact (xZrR o vk vn vb va na vt w).mono (fin (by simp [moreB,moreZ,eq_comm (a:=(0:Int)),and_assoc]))
 have e4:(k==4)=false:=by simpa using h4
 have e7:(k==7)=false:=by simpa using h7
 have e8:(k==8)=false:=by simpa using h8
 have e9:(k==9)=false:=by simpa using h9
 exact (xZrS k h4 h7 h8 h9 o vk vn vb va na vt w).mono (fin (by simp only [moreB,e4,e7,e8,e9,cond_false];simp [moreZ,eq_comm (a:=(0:Int)),and_assoc]))
end Go.Proofs.YtmfkphajohcklaaGreat.P
namespace Go.Proofs.YtmfkphajohcklaaGreat.P
open Go Go.RowKit Go.Extern.Stop Go.Stop Go.Extern Go.Proofs.Tryz
set_option maxHeartbeats 4000000
set_option maxRecDepth 1000000
theorem xZiq (n p:Int) (h:n≠0) (w:World):Calls Tryz.prog 60 #[.int .i64 n,.int .i64 p] w fun e w'=>e=.returned (.iface 175 (.pointer (some ⟨w.heap.size,0,none⟩)))∧w'=w.alloc (.cells #[.int .i64 n,.int .i64 p] 189):=by
 go_enter Tryz.func60,Tryz.ntmps60
 go_wp2
 go_ret
 exact ⟨rfl,rfl⟩
end Go.Proofs.YtmfkphajohcklaaGreat.P
namespace Go.Proofs.YtmfkphajohcklaaGreat.P
open Go
open Go.Proofs.Tryz
set_option maxRecDepth 1000000
set_option linter.unusedSimpArgs false
set_option linter.unusedVariables false
noncomputable section
noncomputable def xZh6:Fn xZc7:=⟨f34,[],⟨[],[],sbf,bof⟩,fun _=>[],[true],none,0,0,fun _ _=>true,none,[],[],[]⟩
theorem xZhu:xZh6.Ok prog:=⟨Is.of (by kernel_rfl) (by kernel_rfl),by kernel_rfl,xZ5 sb_ok bo_ok,trivial,trivial,fun _=>by kernel_rfl⟩
theorem xZhe (N:Nat):xZc7.Ok prog N:=xZhu.give tb_ok hm N N (fun _=>trivial) fun a r s h=>by
 exact s.main [] trivial (.trans (by kernel_rfl) h)
noncomputable def xZhY:Fn xZd0:=⟨f18,[],⟨[],[],sbf,bof⟩,fun _=>[xZc7],[true],none,0,0,fun _ _=>true,none,[],[],[]⟩
theorem xZiw:xZhY.Ok prog:=⟨Is.of (by kernel_rfl) (by kernel_rfl),by kernel_rfl,xZ5 sb_ok bo_ok,trivial,trivial,fun _=>by kernel_rfl⟩
theorem xZid (N:Nat):xZd0.Ok prog N:=xZiw.give tb_ok hm N N (fun _=>⟨xZhe N,trivial⟩) fun a r s h=>by
 have l0:=s.loop 0 xZ9n (xZdC N) N fun next0 h0=>by
  exact fun c v=>s.seg 0 xZ9n [(0,.of xZ9n next0)] ⟨h0,trivial⟩ (by kernel_rfl) (by kernel_rfl)
 exact s.main [(0,.of xZ9n (xZgT N))] ⟨l0,trivial⟩ (.trans (by kernel_rfl) h)
noncomputable def xZi3:Fn xZbu:=⟨f36,[],⟨[],[],sbf,bof⟩,fun _=>[],[true],none,0,0,fun _ _=>true,none,[],[],[]⟩
theorem xZiB:xZi3.Ok prog:=⟨Is.of (by kernel_rfl) (by kernel_rfl),by kernel_rfl,xZ5 sb_ok bo_ok,trivial,trivial,fun _=>by kernel_rfl⟩
theorem xZfh (N:Nat):xZbu.Ok prog N:=xZiB.give tb_ok hm N N (fun _=>trivial) fun a r s h=>by
 exact s.main [] trivial (.trans (by kernel_rfl) h)
noncomputable def xZi4:Fn xZbv:=⟨f35,[],⟨[],[],sbf,bof⟩,fun _=>[xZbu],[true],none,0,0,fun _ _=>true,none,[],[],[]⟩
theorem xZiC:xZi4.Ok prog:=⟨Is.of (by kernel_rfl) (by kernel_rfl),by kernel_rfl,xZ5 sb_ok bo_ok,trivial,trivial,fun _=>by kernel_rfl⟩
theorem xZfi (N:Nat):xZbv.Ok prog N:=xZiC.give tb_ok hm N N (fun _=>⟨xZfh N,trivial⟩) fun a r s h=>by
 have l0:=s.loop 0 xZ9q (xZdF N) N fun next0 h0=>by
  exact fun c v=>s.seg 0 xZ9q [(0,.of xZ9q next0)] ⟨h0,trivial⟩ (by kernel_rfl) (by kernel_rfl)
 exact s.main [(0,.of xZ9q (xZgW N))] ⟨l0,trivial⟩ (.trans (by kernel_rfl) h)
noncomputable def xZi2:Fn xZd3:=⟨f19,[],⟨[],[],sbf,bof⟩,fun _=>[xZbv],[true],none,0,0,fun _ _=>true,none,[],[],[]⟩
theorem xZiA:xZi2.Ok prog:=⟨Is.of (by kernel_rfl) (by kernel_rfl),by kernel_rfl,xZ5 sb_ok bo_ok,trivial,trivial,fun _=>by kernel_rfl⟩
theorem xZih (N:Nat):xZd3.Ok prog N:=xZiA.give tb_ok hm N N (fun _=>⟨xZfi N,trivial⟩) fun a r s h=>by
 have l0:=s.loop 0 xZ9p (xZdE N) N fun next0 h0=>by
  exact fun c v=>s.seg 0 xZ9p [(0,.of xZ9p next0)] ⟨h0,trivial⟩ (by kernel_rfl) (by kernel_rfl)
 exact s.main [(0,.of xZ9p (xZgV N))] ⟨l0,trivial⟩ (.trans (by kernel_rfl) h)
noncomputable def xZh7:Fn xZ90:=⟨f20,[],⟨[],[],sbf,bof⟩,fun _=>[xZbu,xZ90,xZbv],[true],none,0,0,fun _ _=>true,none,[],[],[]⟩
theorem xZex:xZh7.Ok prog:=⟨Is.of (by kernel_rfl) (by kernel_rfl),by kernel_rfl,xZ5 sb_ok bo_ok,trivial,trivial,fun _=>by kernel_rfl⟩
theorem xZdv:∀ N,xZ90.Ok prog N
 | 0=>⟨xZex.is.enters,fun a r h=>by (have h:none=some r:=h;cases h)⟩
 | N+1=>by
   obtain h_ref16_Loops:=xZdv N
   ·exact xZex.give tb_ok hm N (N+1) (fun _=>⟨xZfh N,h_ref16_Loops,xZfi N,trivial⟩) fun a r s h=>by
     have l0:=s.loop 0 xZ8W (xZcT N) N fun next0 h0=>by
      exact fun c v=>s.seg 0 xZ8W [(0,.of xZ8W next0)] ⟨h0,trivial⟩ (by kernel_rfl) (by kernel_rfl)
     exact s.main [(0,.of xZ8W (xZfW N))] ⟨l0,trivial⟩ (.trans (by kernel_rfl) h)
theorem xZhg (N:Nat):xZ90.Ok prog N:=(xZdv N)
noncomputable def xZhZ:Fn xZd1:=⟨f6,[],⟨[],[],sbf,bof⟩,fun _=>[xZd0,xZd3,xZ90],[true],none,0,0,fun _ _=>true,none,[],[],[]⟩
theorem xZix:xZhZ.Ok prog:=⟨Is.of (by kernel_rfl) (by kernel_rfl),by kernel_rfl,xZ5 sb_ok bo_ok,trivial,trivial,fun _=>by kernel_rfl⟩
theorem xZie (N:Nat):xZd1.Ok prog N:=xZix.give tb_ok hm N N (fun _=>⟨xZid N,xZih N,xZhg N,trivial⟩) fun a r s h=>by
 have l0:=s.loop 0 xZ9o (xZdD N) N fun next0 h0=>by
  exact fun c v=>s.seg 0 xZ9o [(0,.of xZ9o next0)] ⟨h0,trivial⟩ (by kernel_rfl) (by kernel_rfl)
 exact s.main [(0,.of xZ9o (xZgU N))] ⟨l0,trivial⟩ (.trans (by kernel_rfl) h)
noncomputable def xZjD:Fn xZdZ:=⟨f73,[],⟨[],[],sbf,bof⟩,fun _=>[],[true],none,0,0,fun _ _=>true,none,[],[],[]⟩
theorem xZjY:xZjD.Ok prog:=⟨Is.of (by kernel_rfl) (by kernel_rfl),by kernel_rfl,xZ5 sb_ok bo_ok,trivial,trivial,fun _=>by kernel_rfl⟩
theorem xZjM (N:Nat):xZdZ.Ok prog N:=xZjY.give tb_ok hm N N (fun _=>trivial) fun a r s h=>by
 exact s.main [] trivial (.trans (by kernel_rfl) h)
noncomputable def xZjC:Fn xZdY:=⟨f53,[],⟨[],[],sbf,bof⟩,fun _=>[xZdZ],[true],none,0,0,fun _ _=>true,none,[],[],[]⟩
theorem xZjX:xZjC.Ok prog:=⟨Is.of (by kernel_rfl) (by kernel_rfl),by kernel_rfl,xZ5 sb_ok bo_ok,trivial,trivial,fun _=>by kernel_rfl⟩
theorem xZjL (N:Nat):xZdY.Ok prog N:=xZjX.give tb_ok hm N N (fun _=>⟨xZjM N,trivial⟩) fun a r s h=>by
 have l0:=s.loop 0 xZai (xZes N) N fun next0 h0=>by
  exact fun c v=>s.seg 0 xZai [(0,.of xZai next0)] ⟨h0,trivial⟩ (by kernel_rfl) (by kernel_rfl)
 exact s.main [(0,.of xZai (xZhF N))] ⟨l0,trivial⟩ (.trans (by kernel_rfl) h)
noncomputable def xZh5:Fn xZc6:=⟨f30,[],⟨[(2000063,10),(2000068,10)],[],sbf,bof⟩,fun _=>[xZdY],[true],none,0,0,fun _ _=>true,none,[],[],[]⟩
theorem xZht:xZh5.Ok prog:=⟨Is.of (by kernel_rfl) (by kernel_rfl),by kernel_rfl,xZ5 sb_ok bo_ok,trivial,trivial,fun _=>by kernel_rfl⟩
theorem xZhd (N:Nat):xZc6.Ok prog N:=xZht.give tb_ok hm N N (fun _=>⟨xZjL N,trivial⟩) fun a r s h=>by
 have l0:=s.loop 0 xZ8V (xZcS N) N fun next0 h0=>by
  exact fun c v=>s.seg 0 xZ8V [(0,.of xZ8V next0)] ⟨h0,trivial⟩ (by kernel_rfl) (by kernel_rfl)
 exact s.main [(0,.of xZ8V (xZfV N))] ⟨l0,trivial⟩ (.trans (by kernel_rfl) h)
noncomputable def xZhX:Fn xZ6I:=⟨f13,[],⟨[],[],sbf,bof⟩,fun _=>[],[true],none,0,0,fun _ _=>true,none,[],[],[]⟩
theorem xZiv:xZhX.Ok prog:=⟨Is.of (by kernel_rfl) (by kernel_rfl),by kernel_rfl,xZ5 sb_ok bo_ok,trivial,trivial,fun _=>by kernel_rfl⟩
theorem xZ8J (N:Nat):xZ6I.Ok prog N:=xZiv.give tb_ok hm N N (fun _=>trivial) fun a r s h=>by
 exact s.main [] trivial (.trans (by kernel_rfl) h)
noncomputable def xZb8:Fn xZ5w:=⟨f54,[],⟨[],[],sbf,bof⟩,fun _=>[xZ6I],[],none,1,1,fun _ _=>true,none,[],[],[]⟩
theorem xZbl:xZb8.Ok prog:=⟨Is.of (by kernel_rfl) (by kernel_rfl),by kernel_rfl,xZ5 sb_ok bo_ok,trivial,trivial,fun _=>by kernel_rfl⟩
theorem xZbf (N:Nat):xZ5w.Ok prog N:=xZbl.give tb_ok hm N N (fun _=>⟨xZ8J N,trivial⟩) fun a r s h=>by
 have l0:=s.loop 0 xZ3G (xZ7n N) N fun next0 h0=>by
  exact fun c v=>s.seg 0 xZ3G [(0,.of xZ3G next0)] ⟨h0,trivial⟩ (by kernel_rfl) (by kernel_rfl)
 exact s.main [(0,.of xZ3G (xZa6 N))] ⟨l0,trivial⟩ (.trans (by kernel_rfl) h)
noncomputable def xZaz:Fn xZ31:=⟨f31,[],⟨[],[],sbf,bof⟩,fun _=>[xZ31,xZ5w],[true],none,1,1,fun _ _=>true,none,[],[],[]⟩
theorem xZ7O:xZaz.Ok prog:=⟨Is.of (by kernel_rfl) (by kernel_rfl),by kernel_rfl,xZ5 sb_ok bo_ok,trivial,trivial,fun _=>by kernel_rfl⟩
theorem xZ7m:∀ N,xZ31.Ok prog N
 | 0=>⟨xZ7O.is.enters,fun a r h=>by (have h:none=some r:=h;cases h)⟩
 | N+1=>by
   obtain h_follow_builder_tree_v901:=xZ7m N
   ·exact xZ7O.give tb_ok hm N (N+1) (fun _=>⟨h_follow_builder_tree_v901,xZbf N,trivial⟩) fun a r s h=>by
     exact s.main [] trivial (.trans (by kernel_rfl) h)
theorem xZaE (N:Nat):xZ31.Ok prog N:=(xZ7m N)
noncomputable def xZgi:Fn xZ9a:=⟨f14,[],⟨[],[(55,⟨11,(0:Int),4⟩)],sbf,bof⟩,fun _=>[xZc6,xZ31],[true,true],none,0,0,fun _ _=>true,some EqR.cls,[],[],[]⟩
theorem xZgI:xZgi.Ok prog:=⟨Is.of (by kernel_rfl) (by kernel_rfl),by kernel_rfl,xZ5 sb_ok bo_ok,⟨⟨[0],by kernel_rfl⟩,trivial⟩,trivial,fun _=>by kernel_rfl⟩
theorem xZds (N:Nat):xZ9a.Ok prog N:=xZgI.give tb_ok hm N N (fun _=>⟨xZhd N,xZaE N,trivial⟩) fun a r s h=>by
 exact s.main [] trivial (.trans (by kernel_rfl) h)
noncomputable def xZ9L:Fn xZ52:=⟨f23,[],⟨[],[],sbf,bof⟩,fun _=>[xZ6I],[true],none,1,0,fun _ _=>true,none,[],[],[]⟩
theorem xZ9Y:xZ9L.Ok prog:=⟨Is.of (by kernel_rfl) (by kernel_rfl),by kernel_rfl,xZ5 sb_ok bo_ok,trivial,trivial,fun _=>by kernel_rfl⟩
theorem xZ9V (N:Nat):xZ52.Ok prog N:=xZ9Y.give tb_ok hm N N (fun _=>⟨xZ8J N,trivial⟩) fun a r s h=>by
 have l0:=s.loop 0 xZ2q (xZ6v N) N fun next0 h0=>by
  have l2:=s.loop 2 xZ3m (xZ6w N next0) N fun next2 h2=>by
   exact fun c v=>s.seg 2 xZ3m [(0,.of xZ2q next0),(2,.of xZ3m next2)] ⟨h0,h2,trivial⟩ (by kernel_rfl) (by kernel_rfl)
  exact fun c v=>s.seg 0 xZ2q [(0,.of xZ2q next0),(2,.of xZ3m (xZ9s N next0))] ⟨h0,l2,trivial⟩ (by kernel_rfl) (by kernel_rfl)
 exact s.main [(0,.of xZ2q (xZ9r N))] ⟨l0,trivial⟩ (.trans (by kernel_rfl) h)
end
end Go.Proofs.YtmfkphajohcklaaGreat.P
namespace Go.Proofs.YtmfkphajohcklaaGreat.P
open Go
open Go.Proofs.Tryz
set_option maxRecDepth 1000000
set_option linter.unusedSimpArgs false
set_option linter.unusedVariables false
noncomputable section
noncomputable def xZeH:Fn xZ93:=⟨f99,[],⟨[],[],sbf,bof⟩,fun _=>[],[true],none,0,0,fun _ _=>true,none,[],[],[]⟩
theorem xZeU:xZeH.Ok prog:=⟨Is.of (by kernel_rfl) (by kernel_rfl),by kernel_rfl,xZ5 sb_ok bo_ok,trivial,trivial,fun _=>by kernel_rfl⟩
theorem xZeM (N:Nat):xZ93.Ok prog N:=xZeU.give tb_ok hm N N (fun _=>trivial) fun a r s h=>by
 exact s.main [] trivial (.trans (by kernel_rfl) h)
noncomputable def xZfJ:Fn xZ7C:=⟨f63,[],⟨[],[],sbf,bof⟩,fun _=>[xZ93],[true],none,0,0,fun _ _=>true,none,[],[],[]⟩
theorem xZfR:xZfJ.Ok prog:=⟨Is.of (by kernel_rfl) (by kernel_rfl),by kernel_rfl,xZ5 sb_ok bo_ok,trivial,trivial,fun _=>by kernel_rfl⟩
theorem xZaF (N:Nat):xZ7C.Ok prog N:=xZfR.give tb_ok hm N N (fun _=>⟨xZeM N,trivial⟩) fun a r s h=>by
 exact s.main [] trivial (.trans (by kernel_rfl) h)
noncomputable def xZfI:Fn xZax:=⟨f100,[],⟨[],[],sbf,bof⟩,fun _=>[],[true],none,0,0,fun _ _=>true,none,[],[],[]⟩
theorem xZfQ:xZfI.Ok prog:=⟨Is.of (by kernel_rfl) (by kernel_rfl),by kernel_rfl,xZ5 sb_ok bo_ok,trivial,trivial,fun _=>by kernel_rfl⟩
theorem xZfM (N:Nat):xZax.Ok prog N:=xZfQ.give tb_ok hm N N (fun _=>trivial) fun a r s h=>by
 exact s.main [] trivial (.trans (by kernel_rfl) h)
noncomputable def xZeE:Fn xZ92:=⟨f65,[],⟨[],[],sbf,bof⟩,fun _=>[xZax],[true],none,0,0,fun _ _=>true,none,[],[],[]⟩
theorem xZeR:xZeE.Ok prog:=⟨Is.of (by kernel_rfl) (by kernel_rfl),by kernel_rfl,xZ5 sb_ok bo_ok,trivial,trivial,fun _=>by kernel_rfl⟩
theorem xZeK (N:Nat):xZ92.Ok prog N:=xZeR.give tb_ok hm N N (fun _=>⟨xZfM N,trivial⟩) fun a r s h=>by
 exact s.main [] trivial (.trans (by kernel_rfl) h)
noncomputable def xZe3:Fn xZ73:=⟨f101,[],⟨[],[],sbf,bof⟩,fun _=>[],[true],none,0,0,fun _ _=>true,none,[],[],[]⟩
theorem xZeg:xZe3.Ok prog:=⟨Is.of (by kernel_rfl) (by kernel_rfl),by kernel_rfl,xZ5 sb_ok bo_ok,trivial,trivial,fun _=>by kernel_rfl⟩
theorem xZbe (N:Nat):xZ73.Ok prog N:=xZeg.give tb_ok hm N N (fun _=>trivial) fun a r s h=>by
 exact s.main [] trivial (.trans (by kernel_rfl) h)
noncomputable def xZd5:Fn xZ83:=⟨f66,[],⟨[],[],sbf,bof⟩,fun _=>[xZ73],[true],none,0,0,fun _ _=>true,none,[],[],[]⟩
theorem xZdi:xZd5.Ok prog:=⟨Is.of (by kernel_rfl) (by kernel_rfl),by kernel_rfl,xZ5 sb_ok bo_ok,trivial,trivial,fun _=>by kernel_rfl⟩
theorem xZdb (N:Nat):xZ83.Ok prog N:=xZdi.give tb_ok hm N N (fun _=>⟨xZbe N,trivial⟩) fun a r s h=>by
 exact s.main [] trivial (.trans (by kernel_rfl) h)
noncomputable def xZhV:Fn xZcY:=⟨f64,[],⟨[],[],sbf,bof⟩,fun _=>[],[true],none,0,0,fun _ _=>true,none,[],[],[]⟩
theorem xZit:xZhV.Ok prog:=⟨Is.of (by kernel_rfl) (by kernel_rfl),by kernel_rfl,xZ5 sb_ok bo_ok,trivial,trivial,fun _=>by kernel_rfl⟩
theorem xZib (N:Nat):xZcY.Ok prog N:=xZit.give tb_ok hm N N (fun _=>trivial) fun a r s h=>by
 have l0:=s.loop 0 xZ9l (xZdA N) 8 fun next0 h0=>by
  exact fun c v=>s.seg 0 xZ9l [(0,.of xZ9l next0)] ⟨h0,trivial⟩ (by kernel_rfl) (by kernel_rfl)
 exact s.main [(0,.of xZ9l (xZgR N))] ⟨l0,trivial⟩ (.trans (by kernel_rfl) h)
noncomputable def xZhU:Fn xZ5Q:=⟨f44,[],⟨[(15,0)],[],sbf,bof⟩,fun _=>[xZ92,xZ83,xZcY],[true],none,0,0,fun _ _=>true,none,[],[],[]⟩
theorem xZis:xZhU.Ok prog:=⟨Is.of (by kernel_rfl) (by kernel_rfl),by kernel_rfl,xZ5 sb_ok bo_ok,trivial,trivial,fun _=>by kernel_rfl⟩
theorem xZ88 (N:Nat):xZ5Q.Ok prog N:=xZis.give tb_ok hm N N (fun _=>⟨xZeK N,xZdb N,xZib N,trivial⟩) fun a r s h=>by
 exact s.main [] trivial (.trans (by kernel_rfl) h)
noncomputable def xZ5U:Fn xZ2a:=⟨f90,[],⟨[],[],sbf,bof⟩,fun _=>[xZ5Q],[],none,0,1,fun _ _=>true,none,[],[],[]⟩
theorem xZ5Z:xZ5U.Ok prog:=⟨Is.of (by kernel_rfl) (by kernel_rfl),by kernel_rfl,xZ5 sb_ok bo_ok,trivial,trivial,fun _=>by kernel_rfl⟩
theorem xZ5W (N:Nat):xZ2a.Ok prog N:=xZ5Z.give tb_ok hm N N (fun _=>⟨xZ88 N,trivial⟩) fun a r s h=>by
 have l0:=s.loop 0 xZy (xZ3j N) N fun next0 h0=>by
  have l2:=s.loop 2 xZY (xZ3k N next0) N fun next2 h2=>by
   exact fun c v=>s.seg 2 xZY [(0,.of xZy next0),(2,.of xZY next2)] ⟨h0,h2,trivial⟩ (by kernel_rfl) (by kernel_rfl)
  exact fun c v=>s.seg 0 xZy [(0,.of xZy next0),(2,.of xZY (xZ5E N next0))] ⟨h0,l2,trivial⟩ (by kernel_rfl) (by kernel_rfl)
 exact s.main [(0,.of xZy (xZ5D N))] ⟨l0,trivial⟩ (.trans (by kernel_rfl) h)
noncomputable def xZ76:Fn xZ2H:=⟨f135,[],⟨[],[],sbf,bof⟩,fun _=>[xZ5Q],[],none,0,1,fun _ _=>true,none,[],[],[]⟩
theorem xZ7c:xZ76.Ok prog:=⟨Is.of (by kernel_rfl) (by kernel_rfl),by kernel_rfl,xZ5 sb_ok bo_ok,trivial,trivial,fun _=>by kernel_rfl⟩
theorem xZ79 (N:Nat):xZ2H.Ok prog N:=xZ7c.give tb_ok hm N N (fun _=>⟨xZ88 N,trivial⟩) fun a r s h=>by
 have l0:=s.loop 0 xZ1y (xZ40 N) N fun next0 h0=>by
  exact fun c v=>s.seg 0 xZ1y [(0,.of xZ1y next0)] ⟨h0,trivial⟩ (by kernel_rfl) (by kernel_rfl)
 exact s.main [(0,.of xZ1y (xZ6H N))] ⟨l0,trivial⟩ (.trans (by kernel_rfl) h)
noncomputable def xZ75:Fn xZ2G:=⟨f91,[],⟨[],[],sbf,bof⟩,fun _=>[xZ2H],[],none,0,1,fun _ _=>true,none,[],[],[]⟩
theorem xZ7b:xZ75.Ok prog:=⟨Is.of (by kernel_rfl) (by kernel_rfl),by kernel_rfl,xZ5 sb_ok bo_ok,trivial,trivial,fun _=>by kernel_rfl⟩
theorem xZ78 (N:Nat):xZ2G.Ok prog N:=xZ7b.give tb_ok hm N N (fun _=>⟨xZ79 N,trivial⟩) fun a r s h=>by
 have l2:=s.loop 2 xZ1x (xZ3Z N) N fun next2 h2=>by
  exact fun c v=>s.seg 2 xZ1x [(2,.of xZ1x next2)] ⟨h2,trivial⟩ (by kernel_rfl) (by kernel_rfl)
 have l0:=s.loop 0 xZ1w (xZ3Y N) N fun next0 h0=>by
  exact fun c v=>s.seg 0 xZ1w [(0,.of xZ1w next0),(2,.of xZ1x (xZ6G N))] ⟨h0,l2,trivial⟩ (by kernel_rfl) (by kernel_rfl)
 exact s.main [(0,.of xZ1w (xZ6F N))] ⟨l0,trivial⟩ (.trans (by kernel_rfl) h)
noncomputable def xZc1:Fn xZ4T:=⟨f136,[],⟨[],[],sbf,bof⟩,fun _=>[xZ7C],[true],none,0,0,fun _ _=>true,none,[],[],[]⟩
theorem xZc3:xZc1.Ok prog:=⟨Is.of (by kernel_rfl) (by kernel_rfl),by kernel_rfl,xZ5 sb_ok bo_ok,trivial,trivial,fun _=>by kernel_rfl⟩
theorem xZ8D (N:Nat):xZ4T.Ok prog N:=xZc3.give tb_ok hm N N (fun _=>⟨xZaF N,trivial⟩) fun a r s h=>by
 exact s.main [] trivial (.trans (by kernel_rfl) h)
noncomputable def xZ9S:Fn xZ3E:=⟨f137,[],⟨[],[],sbf,bof⟩,fun _=>[],[true],none,1,0,fun _ _=>true,none,[],[],[]⟩
theorem xZa4:xZ9S.Ok prog:=⟨Is.of (by kernel_rfl) (by kernel_rfl),by kernel_rfl,xZ5 sb_ok bo_ok,trivial,trivial,fun _=>by kernel_rfl⟩
theorem xZ7l (N:Nat):xZ3E.Ok prog N:=xZa4.give tb_ok hm N N (fun _=>trivial) fun a r s h=>by
 exact s.main [] trivial (.trans (by kernel_rfl) h)
noncomputable def xZ5T:Fn xZ29:=⟨f92,[],⟨[],[],sbf,bof⟩,fun _=>[xZ4T,xZ3E],[],none,0,1,fun _ _=>true,none,[],[],[]⟩
theorem xZ5Y:xZ5T.Ok prog:=⟨Is.of (by kernel_rfl) (by kernel_rfl),by kernel_rfl,xZ5 sb_ok bo_ok,trivial,trivial,fun _=>by kernel_rfl⟩
theorem xZ5V (N:Nat):xZ29.Ok prog N:=xZ5Y.give tb_ok hm N N (fun _=>⟨xZ8D N,xZ7l N,trivial⟩) fun a r s h=>by
 have l0:=s.loop 0 xZX (xZ3i N) N fun next0 h0=>by
  exact fun c v=>s.seg 0 xZX [(0,.of xZX next0)] ⟨h0,trivial⟩ (by kernel_rfl) (by kernel_rfl)
 exact s.main [(0,.of xZX (xZ5C N))] ⟨l0,trivial⟩ (.trans (by kernel_rfl) h)
end
end Go.Proofs.YtmfkphajohcklaaGreat.P
