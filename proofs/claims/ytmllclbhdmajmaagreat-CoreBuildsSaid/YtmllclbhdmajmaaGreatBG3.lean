/- pred.Node.more, walked. No premise beyond what each theorem says. -/
import Derived.Test.YtmllclbhdmajmaaGreatBG2
import Derived.WalkKit
import Derived.WalkLawsBesides
import Derived.Deep.RegionHeld3
import Derived.Lib.Walk
import Derived.Lib.SliceRun
import Derived.Lib.AppendZerosOnto
import Derived.LaidEql
import Derived.Stop.Asserts
import Derived.RowKitTokens
set_option linter.all false
set_option linter.unusedSimpArgs false
set_option linter.unusedVariables false
set_option linter.unusedVariables false
set_option linter.unusedSimpArgs false
namespace Go.Proofs.YtmllclbhdmajmaaGreat.B
open Go Go.RowKit Go.Proofs.Tryz
set_option maxHeartbeats 4000000
set_option maxRecDepth 1000000
theorem xZh3 {M:Maps} {S:Nat→Prop} {w:World} {v:Value} {l:List Value} (h:VRep M S w v (.agg (l.map .v))):v=.agg l.toArray:=by
 have key:∀ vs:Array Value,vs.size=(l.map AV.v).length→(∀ i,i < (l.map AV.v).length→VRep M S w (vs.getD i undef) ((l.map AV.v).getD i .any))→vs=l.toArray:=fun vs hn hall=>by
  rw [List.length_map] at hn
  refine Array.ext (by simpa using hn) fun i h1 h2=>?_
  have hi:i < l.length:=by omega
  have q:=hall i (by simpa using hi)
  rw [show (l.map AV.v).getD i .any=.v l[i] by simp [List.getD,hi]] at q
  have:=q.v_eq
  simpa [Array.getD,h1] using this
 cases h with
 | data h=>cases h with | agg vs _ hn hall=>exact congrArg _ (key vs hn fun i hi=>.data (hall i hi))
 | agg vs _ hn hall=>exact congrArg _ (key vs hn hall)
theorem xZdm (w:World) (a b:Obj):Grew w ((w.alloc a).alloc b):=⟨rfl,rfl,rfl,by simp;omega,fun g h=>(xZ1P _ _ g (by simp;omega)).trans (xZ1P _ _ g h)⟩
theorem xZkv (w:World) (a b:Obj):Grew w ((w.alloc a).alloc b).drew:=⟨rfl,rfl,rfl,by simp;omega,fun g h=>(xZ1P _ _ g (by simp;omega)).trans (xZ1P _ _ g h)⟩
theorem xZde (l:List UInt8):(bs l).toList=[] ↔ l=[]:=by simp [bs]
theorem xZra (o vk vn vb:Int) (va na vt:List UInt8) (w:World):
 Calls Tryz.prog 154 #[.agg #[.int .u8 4,.int .u8 o,.string (bs va),.string (bs na),.int .u8 vk,.int .i64 vn,.int .u64 vb,.string (bs vt)]] w fun e w'=>(∃ b,e=.returned (.bool b)∧(b=false ↔ (va=[]∧na=[]∧0=vk∧0=vn∧0=vb∧vt=[])))∧Grew w w':=by
 rw [← xZde vt,← xZde va,← xZde na]
 go_enter Tryz.func154,Tryz.ntmps154
 go_wp2
 all_goals
  go_ret
  refine ⟨⟨_,rfl,?_⟩,xZdm _ _ _⟩
  simp_all
theorem xZrb (o vk vn vb:Int) (va na vt:List UInt8) (w:World):
 Calls Tryz.prog 154 #[.agg #[.int .u8 7,.int .u8 o,.string (bs va),.string (bs na),.int .u8 vk,.int .i64 vn,.int .u64 vb,.string (bs vt)]] w fun e w'=>(∃ b,e=.returned (.bool b)∧(b=false ↔ (0=o∧va=[]∧0=vk∧0=vn∧0=vb∧vt=[])))∧Grew w w':=by
 rw [← xZde vt,← xZde va]
 go_enter Tryz.func154,Tryz.ntmps154
 go_wp2
 all_goals
  go_ret
  refine ⟨⟨_,rfl,?_⟩,xZdm _ _ _⟩
  simp_all
theorem xZrc (o vk vn vb:Int) (va na vt:List UInt8) (w:World):
 Calls Tryz.prog 154 #[.agg #[.int .u8 8,.int .u8 o,.string (bs va),.string (bs na),.int .u8 vk,.int .i64 vn,.int .u64 vb,.string (bs vt)]] w fun e w'=>(∃ b,e=.returned (.bool b)∧(b=false ↔ (0=o∧0=vk∧0=vn∧0=vb∧vt=[])))∧Grew w w':=by
 rw [← xZde vt]
 go_enter Tryz.func154,Tryz.ntmps154
 go_wp2
 go_region_held3 (fun w'=>w'.cell? ⟨w.heap.size,2,none⟩=some (.string (bs va))∧w'.cell? ⟨w.heap.size,3,none⟩=some (.string (bs na))) (go_keep) (fail)
 go_wp2
 all_goals
  go_ret
  refine ⟨⟨_,rfl,?_⟩,xZkv _ _ _⟩
  simp_all
theorem xZrd (o vk vn vb:Int) (va na vt:List UInt8) (w:World):
 Calls Tryz.prog 154 #[.agg #[.int .u8 9,.int .u8 o,.string (bs va),.string (bs na),.int .u8 vk,.int .i64 vn,.int .u64 vb,.string (bs vt)]] w fun e w'=>(∃ b,e=.returned (.bool b)∧(b=false ↔ (0=o∧va=[]∧na=[])))∧Grew w w':=by
 rw [← xZde va,← xZde na]
 go_enter Tryz.func154,Tryz.ntmps154
 go_wp2
 all_goals
  go_ret
  refine ⟨⟨_,rfl,?_⟩,xZdm _ _ _⟩
  simp_all
theorem xZre (k:Int) (h4:¬ k=4) (h7:¬ k=7) (h8:¬ k=8) (h9:¬ k=9) (o vk vn vb:Int) (va na vt:List UInt8) (w:World):
 Calls Tryz.prog 154 #[.agg #[.int .u8 k,.int .u8 o,.string (bs va),.string (bs na),.int .u8 vk,.int .i64 vn,.int .u64 vb,.string (bs vt)]] w fun e w'=>(∃ b,e=.returned (.bool b)∧(b=false ↔ (0=o∧va=[]∧na=[]∧0=vk∧0=vn∧0=vb∧vt=[])))∧Grew w w':=by
 rw [← xZde vt,← xZde va,← xZde na]
 go_enter Tryz.func154,Tryz.ntmps154
 go_wp2
 all_goals
  go_ret
  refine ⟨⟨_,rfl,?_⟩,xZdm _ _ _⟩
  simp_all
theorem bf_eq {a b:Bool} {Q:Prop} (h1:a=false ↔ Q) (h2:b=false ↔ Q):b=a:=by cases a<;>cases b<;>simp_all
theorem xZ9c (N:Nat):xZ5M.Ok prog N:=by
 refine ⟨⟨Tryz.f154,Tryz.func154,by kernel_rfl,by kernel_rfl⟩,fun a r h=>?_⟩
 obtain ⟨n,⟨⟩⟩:=a
 have h:some (moreB n)=some r:=h
 obtain rfl:=Option.some.inj h
 intro M S w vs hh _ hsz hrep
 obtain ⟨v,rfl⟩:∃ v,vs=#[v]:=by
  match vs,hsz with
  | ⟨[v]⟩,_=>exact ⟨v,rfl⟩
 obtain ⟨k,o,va,na,vk,vn,vb,vt⟩:=n
 have h0:VRep M S w v (.agg ([.int .u8 k,.int .u8 o,.string (bs va),.string (bs na),.int .u8 vk,.int .i64 vn,.int .u64 vb,.string (bs vt)].map .v)):=hrep 0 (Nat.zero_lt_one)
 obtain rfl:=xZh3 h0
 have fin:∀ {k:Int} {Q:Prop},(moreB ⟨k,o,va,na,⟨vk,vn,vb,vt⟩⟩=false ↔ Q)→∀ e w',((∃ b,e=.returned (.bool b)∧(b=false ↔ Q))∧Grew w w')→
  ∃ M' S',EndRep M' S' w' e (.ret (.v (.bool (moreB ⟨k,o,va,na,⟨vk,vn,vb,vt⟩⟩))))∧RelH M' S' AH.nil w'∧Frm M S AH.nil w M' S' AH.nil w':=by
  rintro k Q hm e w' ⟨⟨b,rfl,hb⟩,hg⟩
  obtain rfl:=bf_eq hm hb
  exact ⟨M,S,.data (.v _),hh.grew hg,.grew hh hg⟩
 by_cases h4:k=4
 ·subst h4
  exact (xZra o vk vn vb va na vt w).mono (fin (by simp [moreB,moreZ,eq_comm (a:=(0:Int)),and_assoc]))
 by_cases h7:k=7
 ·subst h7
  exact (xZrb o vk vn vb va na vt w).mono (fin (by simp [moreB,moreZ,eq_comm (a:=(0:Int)),and_assoc]))
 by_cases h8:k=8
 ·subst h8
  exact (xZrc o vk vn vb va na vt w).mono (fin (by simp [moreB,moreZ,eq_comm (a:=(0:Int)),and_assoc]))
 by_cases h9:k=9
 ·subst h9
  exact (xZrd o vk vn vb va na vt w).mono (fin (by simp [moreB,moreZ,eq_comm (a:=(0:Int)),and_assoc]))
 have e4:(k==4)=false:=by simpa using h4
 have e7:(k==7)=false:=by simpa using h7
 have e8:(k==8)=false:=by simpa using h8
 have e9:(k==9)=false:=by simpa using h9
 exact (xZre k h4 h7 h8 h9 o vk vn vb va na vt w).mono (fin (by simp only [moreB,e4,e7,e8,e9,cond_false];simp [moreZ,eq_comm (a:=(0:Int)),and_assoc]))
end Go.Proofs.YtmllclbhdmajmaaGreat.B
set_option linter.unusedVariables false
set_option linter.unusedSimpArgs false
namespace Go.Proofs.YtmllclbhdmajmaaGreat.B
open Go Go.RowKit Go.Lib Go.Proofs.Tryz
set_option maxHeartbeats 4000000
set_option maxRecDepth 1000000
theorem xZm2 (a:Option Addr) (w:World):Calls Tryz.prog 186 #[.slice a 0 0,.int .i64 0] w fun e w'=>e=.returned (.slice a 0 0)∧w'=w:=by
 go_enter Tryz.func186,Tryz.ntmps186
 go_wp2
 go_ret
 exact ⟨rfl,rfl⟩
theorem xZm3 (i0:TypeInfo) (z:Value) (hu:Tryz.prog.underlying 63=some (.slice 138)) (hi0:Tryz.prog.info? 138=some i0) (hz0:i0.zero=some z) (hs0:0 < i0.size) (n:Nat) (h0:0 < n) (hbig:n * i0.bytes≤140737488355328) (h63:n≤4611686018427387904) (a:Option Addr) (w:World):
 Calls Tryz.prog 186 #[.slice a 0 0,.int .i64 n] w fun e w'=>e=.returned (.slice (some ⟨w.heap.size,0,none⟩) 0 (grownCap w n 0 138))∧
  w'=w.drew.alloc (.cells (#[]++Builtin.zeroCells z.cells n++Builtin.zeroCells z.cells (grownCap w n 0 138 - n)) 138):=by
 have h1:¬ ((n:Int) < 0):=by omega
 have h4:(n:Int) > 0:=by omega
 have z25:∀ w,(Go.sizeOf 138).run Tryz.prog w=.ok i0.size w:=fun w=>by simp [Go.sizeOf,typeInfo,hi0]
 have hrz:∀ ty,(Builtin.append_ #[63,3] ty #[.slice a 0 0,.int .i64 n]).run Tryz.prog w=
  .ok (.slice (some ⟨w.heap.size,0,none⟩) n (grownCap w n 0 138)) (w.drew.alloc (.cells (#[]++Builtin.zeroCells z.cells n++Builtin.zeroCells z.cells (grownCap w n 0 138 - n)) 138)):=fun ty=>by
  have hold:(Builtin.firstCells i0.size 0 (.slice a 0 0)).run Tryz.prog w.drew=.ok ([]:List Value).toArray w.drew:=by
   cases a with
   | none=>exact run_firstCells_none w.drew i0.size 0 0 0
   | some a=>exact run_firstCells_some w.drew i0.size 0 a 0 0 [] (by simp) (fun j v hj=>by cases hj)
  have h:=Lib.run_append_grow_zeros w 63 3 ty 138 i0 z .i64 .i64 hu Tryz.underlying3 hi0 hz0 a 0 0 [] hold n h0 hs0 (by omega) (by omega) (by omega) (by
   rw [Nat.zero_add];exact growslice_fits (by omega) (by omega))
  rw [Nat.zero_add] at h
  exact h
 have hGn:n≤grownCap w n 0 138:=grownCap_ge w _ _ _
 obtain ⟨G,hG⟩:∃ G,G=grownCap w n 0 138:=⟨_,rfl⟩
 rw [← hG] at hrz hGn ⊢
 have hG63:G≤9223372036854775807:=by
  have:=grownCap_le_maxLen w n 0 138 (by unfold maxLen;omega)
  rw [← hG] at this
  unfold maxLen at this
  omega
 clear hG
 go_enter Tryz.func186,Tryz.ntmps186
 cases a with
 | none=>
   go_wp2_with (at_builtin;refine Lib.wpList_append_run _ rfl _ _ _ _ rfl _ _ rfl rfl _ _ (hrz _) ?_)
   all_goals (go_ret;exact ⟨rfl,rfl⟩)
 | some a=>
   obtain ⟨ab,ao,asp⟩:=a
   go_wp2_with (at_builtin;refine Lib.wpList_append_run _ rfl _ _ _ _ rfl _ _ rfl rfl _ _ (hrz _) ?_)
   all_goals (go_ret;exact ⟨rfl,rfl⟩)
theorem xZ38 (N:Nat):xZ1O.Ok prog N:=by
 refine ⟨⟨Tryz.f186,Tryz.func186,by kernel_rfl,by kernel_rfl⟩,fun a r h=>?_⟩
 obtain ⟨⟨⟨⟩,n,⟨⟩⟩,⟨⟩,⟨⟩⟩:=a
 have h:xZ1b N n=some r:=h
 unfold xZ1b at h
 obtain ⟨hn0,h⟩:=xZ1o h
 obtain ⟨hnb,h⟩:=xZ1o h
 have hn0:=xZE.1 hn0
 have hnb:=xZE.1 hnb
 obtain rfl:=Option.some.inj h
 intro M S w vs hh _ hsz hrep
 obtain ⟨v,u,rfl⟩:∃ v u,vs=#[v,u]:=by
  match vs,hsz with
  | ⟨[v,u]⟩,_=>exact ⟨v,u,rfl⟩
 obtain ⟨ad,rfl⟩:∃ ad,v=.slice ad 0 0:=by
  have q:VRep M S w v .emp:=hrep 0 (Nat.zero_lt_succ 1)
  cases q with
  | data q=>cases q;exact ⟨_,rfl⟩
 have e1:u=.int .i64 n:=VRep.v_eq (hrep 1 (Nat.lt_succ_self 1))
 subst e1
 obtain ⟨m,rfl⟩:∃ m:Nat,n=m:=⟨n.toNat,by omega⟩
 have fin:∀ (g:Value) (w':World),Grew w w'→LiveRep S w' g 8 []→(∀ b,Value.blk g=some b→w.heap.size≤b)→(∃ a n c,g=.slice a n c)→
  ∃ M' S',EndRep M' S' w' (.returned g) (.ret (.own 0))∧RelH M' S' ⟨[],[.live 8 []]⟩ w'∧Frm M S AH.nil w M' S' ⟨[],[.live 8 []]⟩ w':=by
  intro g w' hg hl hb hs
  obtain ⟨h1,h2⟩:=hh.addTok hg hl hb
  exact ⟨_,S,xZ62 hh.nt hs,h1,h2⟩
 by_cases hm:m=0
 ·subst hm
  refine (xZm2 ad w).mono ?_
  rintro e w' ⟨rfl,rfl⟩
  exact fin _ _ (.refl _) (.inl ⟨⟨_,rfl⟩,rfl⟩) (fun b hb=>by cases ad<;>cases hb) ⟨_,_,_,rfl⟩
 ·obtain ⟨ks,x,hx⟩:∃ ks x,cMk prog 63 ks=some (x,8,80):=⟨[0,0,0,0,0,0,0,0],eA1 (xZ2.mk 0 0 [] [] (xZb.mk 0 0 0 [])),by kernel_rfl⟩
  obtain ⟨e,i,z,hu,hi,hz,q1,q2,q3,q4,hx⟩:=xZk3 hx
  simp only [Prod.mk.injEq] at hx
  obtain ⟨-,hs8,hb80⟩:=hx
  have he:e=138:=by
   have:prog.underlying 63=some (.slice 138):=by kernel_rfl
   rw [this] at hu;cases hu;rfl
  subst he
  refine (xZm3 i z hu hi hz q3 m (by omega) (by rw [← hb80];omega) (by omega) ad w).mono ?_
  rintro e w' ⟨rfl,rfl⟩
  have hge:=grownCap_ge w m 0 138
  have hle:=grownCap_le_maxLen w m 0 138 (by unfold maxLen;omega)
  have hG:=Grew.drew_alloc w (.cells (#[]++Builtin.zeroCells z.cells m++Builtin.zeroCells z.cells (grownCap w m 0 138 - m)) 138)
  generalize grownCap w m 0 138=G at *
  obtain ⟨q,rfl⟩:∃ q,G=q+1:=⟨G - 1,by omega⟩
  refine fin _ _ hG (.inr ⟨w.heap.size,q,_,138,rfl,fun h=>by have:=hh.sits _ h;omega,xZ3h _ _,⟨Nat.zero_le _,hle,?_,fun i hi=>absurd hi (Nat.not_lt_zero _),fun i hi=>absurd hi (Nat.not_lt_zero _),fun i hi=>absurd hi (Nat.not_lt_zero _)⟩⟩) (fun b hb=>by cases hb;exact Nat.le_refl _) ⟨_,_,_,rfl⟩
  rw [Array.size_append,Array.size_append,size_zeroCells,size_zeroCells,q2,← hs8,Array.size_empty]
  omega
end Go.Proofs.YtmllclbhdmajmaaGreat.B
namespace Go.Proofs.YtmllclbhdmajmaaGreat.B
open Go Go.RowKit Go.Extern.Stop Go.Stop Go.Extern Go.Proofs.Tryz
set_option maxHeartbeats 4000000
set_option maxRecDepth 1000000
theorem xZhD (n p:Int) (h:n≠0) (w:World):Calls Tryz.prog 59 #[.int .i64 n,.int .i64 p] w fun e w'=>e=.returned (.iface 167 (.pointer (some ⟨w.heap.size,0,none⟩)))∧w'=w.alloc (.cells #[.int .i64 n,.int .i64 p] 176):=by
 go_enter Tryz.func59,Tryz.ntmps59
 go_wp2
 go_ret
 exact ⟨rfl,rfl⟩
end Go.Proofs.YtmllclbhdmajmaaGreat.B
namespace Go.Proofs.YtmllclbhdmajmaaGreat.B
open Go
open Go.Proofs.Tryz
set_option maxRecDepth 1000000
set_option linter.unusedSimpArgs false
set_option linter.unusedVariables false
noncomputable section
noncomputable def xZfp:Fn xZ8X:=⟨f56,[],⟨[],[],sbf,bof⟩,fun _=>[],[true],none,0,0,fun _ _=>true,none,[],[],[]⟩
theorem xZg0:xZfp.Ok prog:=⟨Is.of (by kernel_rfl) (by kernel_rfl),by kernel_rfl,xZ5 sb_ok bo_ok,trivial,trivial,fun _=>by kernel_rfl⟩
theorem xZfD (N:Nat):xZ8X.Ok prog N:=xZg0.give tb_ok hm N N (fun _=>trivial) fun a r s h=>by
 exact s.main [] trivial (.trans (by kernel_rfl) h)
noncomputable def xZgA:Fn xZa2:=⟨f28,[],⟨[],[],sbf,bof⟩,fun _=>[xZ8X],[true],none,0,0,fun _ _=>true,none,[],[],[]⟩
theorem xZhH:xZgA.Ok prog:=⟨Is.of (by kernel_rfl) (by kernel_rfl),by kernel_rfl,xZ5 sb_ok bo_ok,trivial,trivial,fun _=>by kernel_rfl⟩
theorem xZh9 (N:Nat):xZa2.Ok prog N:=xZhH.give tb_ok hm N N (fun _=>⟨xZfD N,trivial⟩) fun a r s h=>by
 have l0:=s.loop 0 xZ5j (xZaT N) N fun next0 h0=>by
  exact fun c v=>s.seg 0 xZ5j [(0,.of xZ5j next0)] ⟨h0,trivial⟩ (by kernel_rfl) (by kernel_rfl)
 exact s.main [(0,.of xZ5j (xZeZ N))] ⟨l0,trivial⟩ (.trans (by kernel_rfl) h)
noncomputable def xZgB:Fn xZa3:=⟨f7,[],⟨[],[],sbf,bof⟩,fun _=>[xZa2],[true],none,0,0,fun _ _=>true,none,[],[],[]⟩
theorem xZhI:xZgB.Ok prog:=⟨Is.of (by kernel_rfl) (by kernel_rfl),by kernel_rfl,xZ5 sb_ok bo_ok,trivial,trivial,fun _=>by kernel_rfl⟩
theorem xZha (N:Nat):xZa3.Ok prog N:=xZhI.give tb_ok hm N N (fun _=>⟨xZh9 N,trivial⟩) fun a r s h=>by
 have l0:=s.loop 0 xZ5k (xZaU N) N fun next0 h0=>by
  exact fun c v=>s.seg 0 xZ5k [(0,.of xZ5k next0)] ⟨h0,trivial⟩ (by kernel_rfl) (by kernel_rfl)
 exact s.main [(0,.of xZ5k (xZf0 N))] ⟨l0,trivial⟩ (.trans (by kernel_rfl) h)
noncomputable def xZj1:Fn xZbv:=⟨f41,[],⟨[],[],sbf,bof⟩,fun _=>[],[true],none,0,0,fun _ _=>true,none,[],[],[]⟩
theorem xZjA:xZj1.Ok prog:=⟨Is.of (by kernel_rfl) (by kernel_rfl),by kernel_rfl,xZ5 sb_ok bo_ok,trivial,trivial,fun _=>by kernel_rfl⟩
theorem xZjh (N:Nat):xZbv.Ok prog N:=xZjA.give tb_ok hm N N (fun _=>trivial) fun a r s h=>by
 exact s.main [] trivial (.trans (by kernel_rfl) h)
noncomputable def xZiZ:Fn xZ7w:=⟨f16,[],⟨[],[],sbf,bof⟩,fun _=>[xZbv],[true],none,0,0,fun _ _=>true,none,[],[],[]⟩
theorem xZjy:xZiZ.Ok prog:=⟨Is.of (by kernel_rfl) (by kernel_rfl),by kernel_rfl,xZ5 sb_ok bo_ok,trivial,trivial,fun _=>by kernel_rfl⟩
theorem xZbN (N:Nat):xZ7w.Ok prog N:=xZjy.give tb_ok hm N N (fun _=>⟨xZjh N,trivial⟩) fun a r s h=>by
 have l0:=s.loop 0 xZ6K (xZck N) N fun next0 h0=>by
  exact fun c v=>s.seg 0 xZ6K [(0,.of xZ6K next0)] ⟨h0,trivial⟩ (by kernel_rfl) (by kernel_rfl)
 exact s.main [(0,.of xZ6K (xZgi N))] ⟨l0,trivial⟩ (.trans (by kernel_rfl) h)
noncomputable def xZaG:Fn xZ3Z:=⟨f76,[],⟨[],[],sbf,bof⟩,fun _=>[],[true],none,1,0,fun _ _=>true,none,[],[],[]⟩
theorem xZbi:xZaG.Ok prog:=⟨Is.of (by kernel_rfl) (by kernel_rfl),by kernel_rfl,xZ5 sb_ok bo_ok,trivial,trivial,fun _=>by kernel_rfl⟩
theorem xZaL (N:Nat):xZ3Z.Ok prog N:=xZbi.give tb_ok hm N N (fun _=>trivial) fun a r s h=>by
 exact s.main [] trivial (.trans (by kernel_rfl) h)
noncomputable def xZ4n:Fn xZ12:=⟨f112,[],⟨[],[],sbf,bof⟩,fun _=>[xZ3Z],[true],none,1,0,fun _ _=>true,none,[],[],[]⟩
theorem xZ4p:xZ4n.Ok prog:=⟨Is.of (by kernel_rfl) (by kernel_rfl),by kernel_rfl,xZ5 sb_ok bo_ok,trivial,trivial,fun _=>by kernel_rfl⟩
theorem xZ4o (N:Nat):xZ12.Ok prog N:=xZ4p.give tb_ok hm N N (fun _=>⟨xZaL N,trivial⟩) fun a r s h=>by
 have l0:=s.loop 0 xZx (xZ1M N) N fun next0 h0=>by
  exact fun c v=>s.seg 0 xZx [(0,.of xZx next0)] ⟨h0,trivial⟩ (by kernel_rfl) (by kernel_rfl)
 exact s.main [(0,.of xZx (xZ3Y N))] ⟨l0,trivial⟩ (.trans (by kernel_rfl) h)
noncomputable def xZ3D:Fn xZQ:=⟨f75,[],⟨[],[],sbf,bof⟩,fun _=>[xZ12],[true],none,1,0,fun _ _=>true,none,[],[],[]⟩
theorem xZ3G:xZ3D.Ok prog:=⟨Is.of (by kernel_rfl) (by kernel_rfl),by kernel_rfl,xZ5 sb_ok bo_ok,trivial,trivial,fun _=>by kernel_rfl⟩
theorem xZ3F (N:Nat):xZQ.Ok prog N:=xZ3G.give tb_ok hm N N (fun _=>⟨xZ4o N,trivial⟩) fun a r s h=>by
 exact s.main [] trivial (.trans (by kernel_rfl) h)
noncomputable def xZj0:Fn xZbu:=⟨f49,[],⟨[],[],sbf,bof⟩,fun _=>[xZ7w,xZQ],[true],none,0,0,fun _ _=>true,none,[],[],[]⟩
theorem xZjz:xZj0.Ok prog:=⟨Is.of (by kernel_rfl) (by kernel_rfl),by kernel_rfl,xZ5 sb_ok bo_ok,trivial,trivial,fun _=>by kernel_rfl⟩
theorem xZjg (N:Nat):xZbu.Ok prog N:=xZjz.give tb_ok hm N N (fun _=>⟨xZbN N,xZ3F N,trivial⟩) fun a r s h=>by
 exact s.main [] trivial (.trans (by kernel_rfl) h)
noncomputable def xZfo:Fn xZ6x:=⟨f44,[],⟨[],[],sbf,bof⟩,fun _=>[],[true],none,0,0,fun _ _=>true,none,[],[],[]⟩
theorem xZfZ:xZfo.Ok prog:=⟨Is.of (by kernel_rfl) (by kernel_rfl),by kernel_rfl,xZ5 sb_ok bo_ok,trivial,trivial,fun _=>by kernel_rfl⟩
theorem xZcb (N:Nat):xZ6x.Ok prog N:=xZfZ.give tb_ok hm N N (fun _=>trivial) fun a r s h=>by
 exact s.main [] trivial (.trans (by kernel_rfl) h)
noncomputable def xZd5:Fn xZ40:=⟨f51,[],⟨[(2000007,11)],[],sbf,bof⟩,fun _=>[],[true],none,0,0,fun _ _=>true,none,[],[],[]⟩
theorem xZds:xZd5.Ok prog:=⟨Is.of (by kernel_rfl) (by kernel_rfl),by kernel_rfl,xZ5 sb_ok bo_ok,trivial,trivial,fun _=>by kernel_rfl⟩
theorem xZ9b (N:Nat):xZ40.Ok prog N:=xZds.give tb_ok hm N N (fun _=>trivial) fun a r s h=>by
 exact s.main [] trivial (.trans (by kernel_rfl) h)
noncomputable def xZcw:Fn xZ4Z:=⟨f113,[],⟨[(2000007,11),(2000013,11)],[],sbf,bof⟩,fun _=>[],[true],none,0,0,fun _ _=>true,none,[],[],[]⟩
theorem xZcL:xZcw.Ok prog:=⟨Is.of (by kernel_rfl) (by kernel_rfl),by kernel_rfl,xZ5 sb_ok bo_ok,trivial,trivial,fun _=>by kernel_rfl⟩
theorem xZcE (N:Nat):xZ4Z.Ok prog N:=xZcL.give tb_ok hm N N (fun _=>trivial) fun a r s h=>by
 exact s.main [] trivial (.trans (by kernel_rfl) h)
noncomputable def xZ8K:Fn xZ2t:=⟨f77,[],⟨[],[],sbf,bof⟩,fun _=>[xZ40,xZ4Z],[true],none,1,1,fun _ _=>true,none,[],[],[]⟩
theorem xZ8S:xZ8K.Ok prog:=⟨Is.of (by kernel_rfl) (by kernel_rfl),by kernel_rfl,xZ5 sb_ok bo_ok,trivial,trivial,fun _=>by kernel_rfl⟩
theorem xZ8M (N:Nat):xZ2t.Ok prog N:=xZ8S.give tb_ok hm N N (fun _=>⟨xZ9b N,xZcE N,trivial⟩) fun a r s h=>by
 have l0:=s.loop 0 xZ1w (xZ3S N) N fun next0 h0=>by
  exact fun c v=>s.seg 0 xZ1w [(0,.of xZ1w next0)] ⟨h0,trivial⟩ (by kernel_rfl) (by kernel_rfl)
 exact s.main [(0,.of xZ1w (xZ7L N))] ⟨l0,trivial⟩ (.trans (by kernel_rfl) h)
noncomputable def xZdM:Fn xZ4K:=⟨f78,[],⟨[],[],sbf,bof⟩,fun _=>[],[true],none,0,0,fun _ _=>true,none,[],[],[]⟩
theorem xZdX:xZdM.Ok prog:=⟨Is.of (by kernel_rfl) (by kernel_rfl),by kernel_rfl,xZ5 sb_ok bo_ok,trivial,trivial,fun _=>by kernel_rfl⟩
theorem xZ9S (N:Nat):xZ4K.Ok prog N:=xZdX.give tb_ok hm N N (fun _=>trivial) fun a r s h=>by
 exact s.main [] trivial (.trans (by kernel_rfl) h)
noncomputable def xZ8L:Fn xZK:=⟨f50,[],⟨[],[],sbf,bof⟩,fun _=>[xZ6x,xZ2t,xZ7w,xZK,xZ4K,xZ2s],[true],none,1,1,fun _ _=>true,some EqR.cls,[],[],[]⟩
theorem xZ4u:xZ8L.Ok prog:=⟨Is.of (by kernel_rfl) (by kernel_rfl),by kernel_rfl,xZ5 sb_ok bo_ok,trivial,trivial,fun _=>by kernel_rfl⟩
noncomputable def xZ8J:Fn xZ2s:=⟨f79,[],⟨[],[],sbf,bof⟩,fun _=>[xZK,xZ4K],[true],none,1,1,fun _ _=>true,some EqR.cls,[],[],[]⟩
theorem xZ4t:xZ8J.Ok prog:=⟨Is.of (by kernel_rfl) (by kernel_rfl),by kernel_rfl,xZ5 sb_ok bo_ok,trivial,trivial,fun _=>by kernel_rfl⟩
theorem xZ49:∀ N,xZK.Ok prog N∧xZ2s.Ok prog N
 | 0=>⟨⟨xZ4u.is.enters,fun a r h=>by (have h:none=some r:=h;cases h)⟩,⟨xZ4t.is.enters,fun a r h=>by (have h:none=some r:=h;cases h)⟩⟩
 | N+1=>by
   obtain ⟨h_core_reader_tree_v853,h_core_reader_loop_v853⟩:=xZ49 N
   refine ⟨?_,?_⟩
   ·exact xZ4u.give tb_ok hm N (N+1) (fun _=>⟨xZcb N,xZ8M N,xZbN N,h_core_reader_tree_v853,xZ9S N,h_core_reader_loop_v853,trivial⟩) fun a r s h=>by
     exact s.main [] trivial (.trans (by kernel_rfl) h)
   ·exact xZ4t.give tb_ok hm N (N+1) (fun _=>⟨h_core_reader_tree_v853,xZ9S N,trivial⟩) fun a r s h=>by
     have l0:=s.loop 0 xZ1v (xZ3R N) N fun next0 h0=>by
      exact fun c v=>s.seg 0 xZ1v [(0,.of xZ1v next0)] ⟨h0,trivial⟩ (by kernel_rfl) (by kernel_rfl)
     exact s.main [(0,.of xZ1v (xZ7K N))] ⟨l0,trivial⟩ (.trans (by kernel_rfl) h)
theorem xZ8N (N:Nat):xZK.Ok prog N:=(xZ49 N).1
end
end Go.Proofs.YtmllclbhdmajmaaGreat.B
namespace Go.Proofs.YtmllclbhdmajmaaGreat.B
open Go
open Go.Proofs.Tryz
set_option maxRecDepth 1000000
set_option linter.unusedSimpArgs false
set_option linter.unusedVariables false
noncomputable section
noncomputable def xZeo:Fn xZ7Q:=⟨f23,[],⟨[(3000105,12)],[],sbf,bof⟩,fun _=>[xZbu,xZK,xZ40],[true],none,0,0,fun _ _=>true,none,[],[],[]⟩
theorem xZeP:xZeo.Ok prog:=⟨Is.of (by kernel_rfl) (by kernel_rfl),by kernel_rfl,xZ5 sb_ok bo_ok,trivial,trivial,fun _=>by kernel_rfl⟩
theorem xZaK (N:Nat):xZ7Q.Ok prog N:=xZeP.give tb_ok hm N N (fun _=>⟨xZjg N,xZ8N N,xZ9b N,trivial⟩) fun a r s h=>by
 exact s.main [] trivial (.trans (by kernel_rfl) h)
theorem xZ87 (N:Nat):xZ42.Ok prog N:=xZnx (te:=63) (tb:=4) (e:=138) (CloneIs.of (fn:=f104) (by kernel_rfl) (by kernel_rfl) (by kernel_rfl) (by kernel_rfl) (by kernel_rfl) (by kernel_rfl) (by decide)) hm N
theorem xZ3j (N:Nat):xZ1X.Ok prog N:=xZlL (te:=63) (tb:=4) (e:=138) (CloneIs.of (fn:=f104) (by kernel_rfl) (by kernel_rfl) (by kernel_rfl) (by kernel_rfl) (by kernel_rfl) (by kernel_rfl) (by decide)) hm N
noncomputable def xZ6h:Fn xZl:=⟨f177,[],⟨[],[],sbf,bof⟩,fun _=>[],[true],none,1,0,fun _ _=>true,none,[],[],[]⟩
theorem xZ6o:xZ6h.Ok prog:=⟨Is.of (by kernel_rfl) (by kernel_rfl),by kernel_rfl,xZ5 sb_ok bo_ok,trivial,trivial,fun _=>by kernel_rfl⟩
theorem xZH (N:Nat):xZl.Ok prog N:=xZ6o.give tb_ok hm N N (fun _=>trivial) fun a r s h=>by
 exact s.main [] trivial (.trans (by kernel_rfl) h)
noncomputable def xZ5W:Fn xZ1F:=⟨f167,[],⟨[],[],sbf,bof⟩,fun _=>[],[true],none,1,0,fun _ _=>true,none,[],[],[]⟩
theorem xZ5Z:xZ5W.Ok prog:=⟨Is.of (by kernel_rfl) (by kernel_rfl),by kernel_rfl,xZ5 sb_ok bo_ok,trivial,trivial,fun _=>by kernel_rfl⟩
theorem xZ2H (N:Nat):xZ1F.Ok prog N:=xZ5Z.give tb_ok hm N N (fun _=>trivial) fun a r s h=>by
 exact s.main [] trivial (.trans (by kernel_rfl) h)
noncomputable def xZ6g:Fn xZt:=⟨f182,[],⟨[],[],sbf,bof⟩,fun _=>[xZ1F],[],none,1,0,fun _ _=>true,none,[],[],[]⟩
theorem xZ6n:xZ6g.Ok prog:=⟨Is.of (by kernel_rfl) (by kernel_rfl),by kernel_rfl,xZ5 sb_ok bo_ok,trivial,trivial,fun _=>by kernel_rfl⟩
theorem xZ16 (N:Nat):xZt.Ok prog N:=xZ6n.give tb_ok hm N N (fun _=>⟨xZ2H N,trivial⟩) fun a r s h=>by
 exact s.main [] trivial (.trans (by kernel_rfl) h)
noncomputable def xZ5a:Fn xZ1B:=⟨f181,[],⟨[],[],sbf,bof⟩,fun _=>[xZl,xZt],[],none,1,0,fun _ _=>true,none,[],[],[]⟩
theorem xZ5f:xZ5a.Ok prog:=⟨Is.of (by kernel_rfl) (by kernel_rfl),by kernel_rfl,xZ5 sb_ok bo_ok,trivial,trivial,fun _=>by kernel_rfl⟩
theorem xZ5c (N:Nat):xZ1B.Ok prog N:=xZ5f.give tb_ok hm N N (fun _=>⟨xZH N,xZ16 N,trivial⟩) fun a r s h=>by
 exact s.main [] trivial (.trans (by kernel_rfl) h)
noncomputable def xZ74:Fn xZp:=⟨f173,[],⟨[],[],sbf,bof⟩,fun _=>[xZl],[true],none,1,0,fun _ _=>true,none,[],[],[]⟩
theorem xZ79:xZ74.Ok prog:=⟨Is.of (by kernel_rfl) (by kernel_rfl),by kernel_rfl,xZ5 sb_ok bo_ok,trivial,trivial,fun _=>by kernel_rfl⟩
theorem xZN (N:Nat):xZp.Ok prog N:=xZ79.give tb_ok hm N N (fun _=>⟨xZH N,trivial⟩) fun a r s h=>by
 exact s.main [] trivial (.trans (by kernel_rfl) h)
noncomputable def xZ7z:Fn xZ23:=⟨f178,[],⟨[],[],sbf,bof⟩,fun _=>[xZ1O],[true],none,0,0,fun _ _=>true,none,[],[],[]⟩
theorem xZ7I:xZ7z.Ok prog:=⟨Is.of (by kernel_rfl) (by kernel_rfl),by kernel_rfl,xZ5 sb_ok bo_ok,trivial,trivial,fun _=>by kernel_rfl⟩
theorem xZ7E (N:Nat):xZ23.Ok prog N:=xZ7I.give tb_ok hm N N (fun _=>⟨xZ38 N,trivial⟩) fun a r s h=>by
 have l2:=s.loop 2 xZ19 (xZ3b N) N fun next2 h2=>by
  exact fun c v=>s.seg 2 xZ19 [(2,.of xZ19 next2)] ⟨h2,trivial⟩ (by kernel_rfl) (by kernel_rfl)
 have l0:=s.loop 0 xZ18 (xZ3a N) N fun next0 h0=>by
  exact fun c v=>s.seg 0 xZ18 [(0,.of xZ18 next0),(2,.of xZ19 (xZ6u N))] ⟨h0,l2,trivial⟩ (by kernel_rfl) (by kernel_rfl)
 exact s.main [(0,.of xZ18 (xZ6t N))] ⟨l0,trivial⟩ (.trans (by kernel_rfl) h)
noncomputable def xZd6:Fn xZ22:=⟨f174,[],⟨[(6,1)],[],sbf,bof⟩,fun _=>[xZ23],[true],none,0,0,fun _ _=>true,none,[],[],[]⟩
theorem xZdt:xZd6.Ok prog:=⟨Is.of (by kernel_rfl) (by kernel_rfl),by kernel_rfl,xZ5 sb_ok bo_ok,trivial,trivial,fun _=>by kernel_rfl⟩
theorem xZ46 (N:Nat):xZ22.Ok prog N:=xZdt.give tb_ok hm N N (fun _=>⟨xZ7E N,trivial⟩) fun a r s h=>by
 exact s.main [] trivial (.trans (by kernel_rfl) h)
noncomputable def xZ6j:Fn xZ15:=⟨f185,[],⟨[],[],sbf,bof⟩,fun _=>[xZl,xZt],[true],none,1,0,fun _ _=>true,none,[],[],[]⟩
theorem xZ6p:xZ6j.Ok prog:=⟨Is.of (by kernel_rfl) (by kernel_rfl),by kernel_rfl,xZ5 sb_ok bo_ok,trivial,trivial,fun _=>by kernel_rfl⟩
theorem xZ37 (N:Nat):xZ15.Ok prog N:=xZ6p.give tb_ok hm N N (fun _=>⟨xZH N,xZ16 N,trivial⟩) fun a r s h=>by
 exact s.main [] trivial (.trans (by kernel_rfl) h)
noncomputable def xZ6k:Fn xZ1N:=⟨f187,[],⟨[(24,1),(40,1),(51,1),(54,1)],[],sbf,bof⟩,fun _=>[xZp,xZl,xZt,xZ15],[true],none,1,0,fun _ _=>true,none,[],[],[]⟩
theorem xZ6q:xZ6k.Ok prog:=⟨Is.of (by kernel_rfl) (by kernel_rfl),by kernel_rfl,xZ5 sb_ok bo_ok,trivial,trivial,fun _=>by kernel_rfl⟩
theorem xZ6m (N:Nat):xZ1N.Ok prog N:=xZ6q.give tb_ok hm N N (fun _=>⟨xZN N,xZH N,xZ16 N,xZ37 N,trivial⟩) fun a r s h=>by
 exact s.main [] trivial (.trans (by kernel_rfl) h)
noncomputable def xZ75:Fn xZ1W:=⟨f183,[],⟨[(14,6),(23,6)],[],sbf,bof⟩,fun _=>[xZ1N,xZp,xZ22],[true],none,1,0,fun _ _=>true,none,[],[],[]⟩
theorem xZ7a:xZ75.Ok prog:=⟨Is.of (by kernel_rfl) (by kernel_rfl),by kernel_rfl,xZ5 sb_ok bo_ok,trivial,trivial,fun _=>by kernel_rfl⟩
theorem xZ77 (N:Nat):xZ1W.Ok prog N:=xZ7a.give tb_ok hm N N (fun _=>⟨xZ6m N,xZN N,xZ46 N,trivial⟩) fun a r s h=>by
 have l0:=s.loop 0 xZX (xZ2L N) N fun next0 h0=>by
  exact fun c v=>s.seg 0 xZX [(0,.of xZX next0)] ⟨h0,trivial⟩ (by kernel_rfl) (by kernel_rfl)
 exact s.main [(0,.of xZX (xZ61 N))] ⟨l0,trivial⟩ (.trans (by kernel_rfl) h)
noncomputable def xZen:Fn xZ59:=⟨f164,[],⟨[],[],sbf,bof⟩,fun _=>[],[true],none,0,0,fun _ _=>true,none,[],[],[]⟩
theorem xZeO:xZen.Ok prog:=⟨Is.of (by kernel_rfl) (by kernel_rfl),by kernel_rfl,xZ5 sb_ok bo_ok,trivial,trivial,fun _=>by kernel_rfl⟩
theorem xZaJ (N:Nat):xZ59.Ok prog N:=xZeO.give tb_ok hm N N (fun _=>trivial) fun a r s h=>by
 exact s.main [] trivial (.trans (by kernel_rfl) h)
noncomputable def xZgx:Fn xZ9Z:=⟨f184,[],⟨[],[],sbf,bof⟩,fun _=>[xZ59],[true],none,0,0,fun _ _=>true,none,[],[],[]⟩
theorem xZhE:xZgx.Ok prog:=⟨Is.of (by kernel_rfl) (by kernel_rfl),by kernel_rfl,xZ5 sb_ok bo_ok,trivial,trivial,fun _=>by kernel_rfl⟩
theorem xZh6 (N:Nat):xZ9Z.Ok prog N:=xZhE.give tb_ok hm N N (fun _=>⟨xZaJ N,trivial⟩) fun a r s h=>by
 have l0:=s.loop 0 xZ5h (xZaR N) N fun next0 h0=>by
  exact fun c v=>s.seg 0 xZ5h [(0,.of xZ5h next0)] ⟨h0,trivial⟩ (by kernel_rfl) (by kernel_rfl)
 exact s.main [(0,.of xZ5h (xZeX N))] ⟨l0,trivial⟩ (.trans (by kernel_rfl) h)
end
end Go.Proofs.YtmllclbhdmajmaaGreat.B
