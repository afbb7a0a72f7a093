/- pred.Node.more, walked. No premise beyond what each theorem says. -/
import Derived.Test.YtmllclbhdmajmaaGreatWG2
import Derived.WalkKit
import Derived.WalkLawsBesides
import Derived.Deep.RegionHeld3
import Derived.Lib.Walk
import Derived.Lib.SliceRun
import Derived.Lib.AppendZerosOnto
import Derived.LaidEql
import Derived.Stop.Asserts
import Derived.RowKitTokens
set_option linter.all false
set_option linter.unusedSimpArgs false
set_option linter.unusedVariables false
set_option linter.unusedVariables false
set_option linter.unusedSimpArgs false
namespace Go.Proofs.YtmllclbhdmajmaaGreat.W
open Go Go.RowKit Go.Proofs.Tryz
set_option maxHeartbeats 4000000
set_option maxRecDepth 1000000
theorem xZgQ {M:Maps} {S:Nat→Prop} {w:World} {v:Value} {l:List Value} (h:VRep M S w v (.agg (l.map .v))):v=.agg l.toArray:=by
 have key:∀ vs:Array Value,vs.size=(l.map AV.v).length→(∀ i,i < (l.map AV.v).length→VRep M S w (vs.getD i undef) ((l.map AV.v).getD i .any))→vs=l.toArray:=fun vs hn hall=>by
  rw [List.length_map] at hn
  refine Array.ext (by simpa using hn) fun i h1 h2=>?_
  have hi:i < l.length:=by omega
  have q:=hall i (by simpa using hi)
  rw [show (l.map AV.v).getD i .any=.v l[i] by simp [List.getD,hi]] at q
  have:=q.v_eq
  simpa [Array.getD,h1] using this
 cases h with
 | data h=>cases h with | agg vs _ hn hall=>exact congrArg _ (key vs hn fun i hi=>.data (hall i hi))
 | agg vs _ hn hall=>exact congrArg _ (key vs hn hall)
theorem xZcV (w:World) (a b:Obj):Grew w ((w.alloc a).alloc b):=⟨rfl,rfl,rfl,by simp;omega,fun g h=>(xZ1G _ _ g (by simp;omega)).trans (xZ1G _ _ g h)⟩
theorem xZk6 (w:World) (a b:Obj):Grew w ((w.alloc a).alloc b).drew:=⟨rfl,rfl,rfl,by simp;omega,fun g h=>(xZ1G _ _ g (by simp;omega)).trans (xZ1G _ _ g h)⟩
theorem xZcK (l:List UInt8):(bs l).toList=[] ↔ l=[]:=by simp [bs]
theorem xZqW (o vk vn vb:Int) (va na vt:List UInt8) (w:World):
 Calls Tryz.prog 154 #[.agg #[.int .u8 4,.int .u8 o,.string (bs va),.string (bs na),.int .u8 vk,.int .i64 vn,.int .u64 vb,.string (bs vt)]] w fun e w'=>(∃ b,e=.returned (.bool b)∧(b=false ↔ (va=[]∧na=[]∧0=vk∧0=vn∧0=vb∧vt=[])))∧Grew w w':=by
 rw [← xZcK vt,← xZcK va,← xZcK na]
 go_enter Tryz.func154,Tryz.ntmps154
 go_wp2
 all_goals
  go_ret
  refine ⟨⟨_,rfl,?_⟩,xZcV _ _ _⟩
  simp_all
theorem xZqX (o vk vn vb:Int) (va na vt:List UInt8) (w:World):
 Calls Tryz.prog 154 #[.agg #[.int .u8 7,.int .u8 o,.string (bs va),.string (bs na),.int .u8 vk,.int .i64 vn,.int .u64 vb,.string (bs vt)]] w fun e w'=>(∃ b,e=.returned (.bool b)∧(b=false ↔ (0=o∧va=[]∧0=vk∧0=vn∧0=vb∧vt=[])))∧Grew w w':=by
 rw [← xZcK vt,← xZcK va]
 go_enter Tryz.func154,Tryz.ntmps154
 go_wp2
 all_goals
  go_ret
  refine ⟨⟨_,rfl,?_⟩,xZcV _ _ _⟩
  simp_all
theorem xZqY (o vk vn vb:Int) (va na vt:List UInt8) (w:World):
 Calls Tryz.prog 154 #[.agg #[.int .u8 8,.int .u8 o,.string (bs va),.string (bs na),.int .u8 vk,.int .i64 vn,.int .u64 vb,.string (bs vt)]] w fun e w'=>(∃ b,e=.returned (.bool b)∧(b=false ↔ (0=o∧0=vk∧0=vn∧0=vb∧vt=[])))∧Grew w w':=by
 rw [← xZcK vt]
 go_enter Tryz.func154,Tryz.ntmps154
 go_wp2
 go_region_held3 (fun w'=>w'.cell? ⟨w.heap.size,2,none⟩=some (.string (bs va))∧w'.cell? ⟨w.heap.size,3,none⟩=some (.string (bs na))) (go_keep) (fail)
 go_wp2
 all_goals
  go_ret
  refine ⟨⟨_,rfl,?_⟩,xZk6 _ _ _⟩
  simp_all
theorem xZqZ (o vk vn vb:Int) (va na vt:List UInt8) (w:World):
 Calls Tryz.prog 154 #[.agg #[.int .u8 9,.int .u8 o,.string (bs va),.string (bs na),.int .u8 vk,.int .i64 vn,.int .u64 vb,.string (bs vt)]] w fun e w'=>(∃ b,e=.returned (.bool b)∧(b=false ↔ (0=o∧va=[]∧na=[])))∧Grew w w':=by
 rw [← xZcK va,← xZcK na]
 go_enter Tryz.func154,Tryz.ntmps154
 go_wp2
 all_goals
  go_ret
  refine ⟨⟨_,rfl,?_⟩,xZcV _ _ _⟩
  simp_all
theorem xZr0 (k:Int) (h4:¬ k=4) (h7:¬ k=7) (h8:¬ k=8) (h9:¬ k=9) (o vk vn vb:Int) (va na vt:List UInt8) (w:World):
 Calls Tryz.prog 154 #[.agg #[.int .u8 k,.int .u8 o,.string (bs va),.string (bs na),.int .u8 vk,.int .i64 vn,.int .u64 vb,.string (bs vt)]] w fun e w'=>(∃ b,e=.returned (.bool b)∧(b=false ↔ (0=o∧va=[]∧na=[]∧0=vk∧0=vn∧0=vb∧vt=[])))∧Grew w w':=by
 rw [← xZcK vt,← xZcK va,← xZcK na]
 go_enter Tryz.func154,Tryz.ntmps154
 go_wp2
 all_goals
  go_ret
  refine ⟨⟨_,rfl,?_⟩,xZcV _ _ _⟩
  simp_all
theorem bf_eq {a b:Bool} {Q:Prop} (h1:a=false ↔ Q) (h2:b=false ↔ Q):b=a:=by cases a<;>cases b<;>simp_all
theorem xZ8T (N:Nat):xZ5E.Ok prog N:=by
 refine ⟨⟨Tryz.f154,Tryz.func154,by kernel_rfl,by kernel_rfl⟩,fun a r h=>?_⟩
 obtain ⟨n,⟨⟩⟩:=a
 have h:some (moreB n)=some r:=h
 obtain rfl:=Option.some.inj h
 intro M S w vs hh _ hsz hrep
 obtain ⟨v,rfl⟩:∃ v,vs=#[v]:=by
  match vs,hsz with
  | ⟨[v]⟩,_=>exact ⟨v,rfl⟩
 obtain ⟨k,o,va,na,vk,vn,vb,vt⟩:=n
 have h0:VRep M S w v (.agg ([.int .u8 k,.int .u8 o,.string (bs va),.string (bs na),.int .u8 vk,.int .i64 vn,.int .u64 vb,.string (bs vt)].map .v)):=hrep 0 (Nat.zero_lt_one)
 obtain rfl:=xZgQ h0
 have fin:∀ {k:Int} {Q:Prop},(moreB ⟨k,o,va,na,⟨vk,vn,vb,vt⟩⟩=false ↔ Q)→∀ e w',((∃ b,e=.returned (.bool b)∧(b=false ↔ Q))∧Grew w w')→
  ∃ M' S',EndRep M' S' w' e (.ret (.v (.bool (moreB ⟨k,o,va,na,⟨vk,vn,vb,vt⟩⟩))))∧RelH M' S' AH.nil w'∧Frm M S AH.nil w M' S' AH.nil w':=by
  rintro k Q hm e w' ⟨⟨b,rfl,hb⟩,hg⟩
  obtain rfl:=bf_eq hm hb
  exact ⟨M,S,.data (.v _),hh.grew hg,.grew hh hg⟩
 by_cases h4:k=4
 ·subst h4
  exact (xZqW o vk vn vb va na vt w).mono (fin (by simp [moreB,moreZ,eq_comm (a:=(0:Int)),and_assoc]))
 by_cases h7:k=7
 ·subst h7
  exact (xZqX o vk vn vb va na vt w).mono (fin (by simp [moreB,moreZ,eq_comm (a:=(0:Int)),and_assoc]))
 by_cases h8:k=8
 ·subst h8
  exact (xZqY o vk vn vb va na vt w).mono (fin (by simp [moreB,moreZ,eq_comm (a:=(0:Int)),and_assoc]))
 by_cases h9:k=9
 ·subst h9
  exact (xZqZ o vk vn vb va na vt w).mono (fin (by simp [moreB,moreZ,eq_comm (a:=(0:Int)),and_assoc]))
 have e4:(k==4)=false:=by simpa using h4
 have e7:(k==7)=false:=by simpa using h7
 have e8:(k==8)=false:=by simpa using h8
 have e9:(k==9)=false:=by simpa using h9
 exact (xZr0 k h4 h7 h8 h9 o vk vn vb va na vt w).mono (fin (by simp only [moreB,e4,e7,e8,e9,cond_false];simp [moreZ,eq_comm (a:=(0:Int)),and_assoc]))
end Go.Proofs.YtmllclbhdmajmaaGreat.W
set_option linter.unusedVariables false
set_option linter.unusedSimpArgs false
namespace Go.Proofs.YtmllclbhdmajmaaGreat.W
open Go Go.RowKit Go.Lib Go.Proofs.Tryz
set_option maxHeartbeats 4000000
set_option maxRecDepth 1000000
theorem xZlF (a:Option Addr) (w:World):Calls Tryz.prog 186 #[.slice a 0 0,.int .i64 0] w fun e w'=>e=.returned (.slice a 0 0)∧w'=w:=by
 go_enter Tryz.func186,Tryz.ntmps186
 go_wp2
 go_ret
 exact ⟨rfl,rfl⟩
theorem xZlG (i0:TypeInfo) (z:Value) (hu:Tryz.prog.underlying 63=some (.slice 138)) (hi0:Tryz.prog.info? 138=some i0) (hz0:i0.zero=some z) (hs0:0 < i0.size) (n:Nat) (h0:0 < n) (hbig:n * i0.bytes≤140737488355328) (h63:n≤4611686018427387904) (a:Option Addr) (w:World):
 Calls Tryz.prog 186 #[.slice a 0 0,.int .i64 n] w fun e w'=>e=.returned (.slice (some ⟨w.heap.size,0,none⟩) 0 (grownCap w n 0 138))∧
  w'=w.drew.alloc (.cells (#[]++Builtin.zeroCells z.cells n++Builtin.zeroCells z.cells (grownCap w n 0 138 - n)) 138):=by
 have h1:¬ ((n:Int) < 0):=by omega
 have h4:(n:Int) > 0:=by omega
 have z25:∀ w,(Go.sizeOf 138).run Tryz.prog w=.ok i0.size w:=fun w=>by simp [Go.sizeOf,typeInfo,hi0]
 have hrz:∀ ty,(Builtin.append_ #[63,3] ty #[.slice a 0 0,.int .i64 n]).run Tryz.prog w=
  .ok (.slice (some ⟨w.heap.size,0,none⟩) n (grownCap w n 0 138)) (w.drew.alloc (.cells (#[]++Builtin.zeroCells z.cells n++Builtin.zeroCells z.cells (grownCap w n 0 138 - n)) 138)):=fun ty=>by
  have hold:(Builtin.firstCells i0.size 0 (.slice a 0 0)).run Tryz.prog w.drew=.ok ([]:List Value).toArray w.drew:=by
   cases a with
   | none=>exact run_firstCells_none w.drew i0.size 0 0 0
   | some a=>exact run_firstCells_some w.drew i0.size 0 a 0 0 [] (by simp) (fun j v hj=>by cases hj)
  have h:=Lib.run_append_grow_zeros w 63 3 ty 138 i0 z .i64 .i64 hu Tryz.underlying3 hi0 hz0 a 0 0 [] hold n h0 hs0 (by omega) (by omega) (by omega) (by
   rw [Nat.zero_add];exact growslice_fits (by omega) (by omega))
  rw [Nat.zero_add] at h
  exact h
 have hGn:n≤grownCap w n 0 138:=grownCap_ge w _ _ _
 obtain ⟨G,hG⟩:∃ G,G=grownCap w n 0 138:=⟨_,rfl⟩
 rw [← hG] at hrz hGn ⊢
 have hG63:G≤9223372036854775807:=by
  have:=grownCap_le_maxLen w n 0 138 (by unfold maxLen;omega)
  rw [← hG] at this
  unfold maxLen at this
  omega
 clear hG
 go_enter Tryz.func186,Tryz.ntmps186
 cases a with
 | none=>
   go_wp2_with (at_builtin;refine Lib.wpList_append_run _ rfl _ _ _ _ rfl _ _ rfl rfl _ _ (hrz _) ?_)
   all_goals (go_ret;exact ⟨rfl,rfl⟩)
 | some a=>
   obtain ⟨ab,ao,asp⟩:=a
   go_wp2_with (at_builtin;refine Lib.wpList_append_run _ rfl _ _ _ _ rfl _ _ rfl rfl _ _ (hrz _) ?_)
   all_goals (go_ret;exact ⟨rfl,rfl⟩)
theorem xZ2R (N:Nat):xZ1F.Ok prog N:=by
 refine ⟨⟨Tryz.f186,Tryz.func186,by kernel_rfl,by kernel_rfl⟩,fun a r h=>?_⟩
 obtain ⟨⟨⟨⟩,n,⟨⟩⟩,⟨⟩,⟨⟩⟩:=a
 have h:xZ18 N n=some r:=h
 unfold xZ18 at h
 obtain ⟨hn0,h⟩:=xZ19 h
 obtain ⟨hnb,h⟩:=xZ19 h
 have hn0:=xZt.1 hn0
 have hnb:=xZt.1 hnb
 obtain rfl:=Option.some.inj h
 intro M S w vs hh _ hsz hrep
 obtain ⟨v,u,rfl⟩:∃ v u,vs=#[v,u]:=by
  match vs,hsz with
  | ⟨[v,u]⟩,_=>exact ⟨v,u,rfl⟩
 obtain ⟨ad,rfl⟩:∃ ad,v=.slice ad 0 0:=by
  have q:VRep M S w v .emp:=hrep 0 (Nat.zero_lt_succ 1)
  cases q with
  | data q=>cases q;exact ⟨_,rfl⟩
 have e1:u=.int .i64 n:=VRep.v_eq (hrep 1 (Nat.lt_succ_self 1))
 subst e1
 obtain ⟨m,rfl⟩:∃ m:Nat,n=m:=⟨n.toNat,by omega⟩
 have fin:∀ (g:Value) (w':World),Grew w w'→LiveRep S w' g 8 []→(∀ b,Value.blk g=some b→w.heap.size≤b)→(∃ a n c,g=.slice a n c)→
  ∃ M' S',EndRep M' S' w' (.returned g) (.ret (.own 0))∧RelH M' S' ⟨[],[.live 8 []]⟩ w'∧Frm M S AH.nil w M' S' ⟨[],[.live 8 []]⟩ w':=by
  intro g w' hg hl hb hs
  obtain ⟨h1,h2⟩:=hh.addTok hg hl hb
  exact ⟨_,S,xZ4M hh.nt hs,h1,h2⟩
 by_cases hm:m=0
 ·subst hm
  refine (xZlF ad w).mono ?_
  rintro e w' ⟨rfl,rfl⟩
  exact fin _ _ (.refl _) (.inl ⟨⟨_,rfl⟩,rfl⟩) (fun b hb=>by cases ad<;>cases hb) ⟨_,_,_,rfl⟩
 ·obtain ⟨ks,x,hx⟩:∃ ks x,cMk prog 63 ks=some (x,8,80):=⟨[0,0,0,0,0,0,0,0],eA1 (xZ2.mk 0 0 [] [] (xZa.mk 0 0 0 [])),by kernel_rfl⟩
  obtain ⟨e,i,z,hu,hi,hz,q1,q2,q3,q4,hx⟩:=xZjF hx
  simp only [Prod.mk.injEq] at hx
  obtain ⟨-,hs8,hb80⟩:=hx
  have he:e=138:=by
   have:prog.underlying 63=some (.slice 138):=by kernel_rfl
   rw [this] at hu;cases hu;rfl
  subst he
  refine (xZlG i z hu hi hz q3 m (by omega) (by rw [← hb80];omega) (by omega) ad w).mono ?_
  rintro e w' ⟨rfl,rfl⟩
  have hge:=grownCap_ge w m 0 138
  have hle:=grownCap_le_maxLen w m 0 138 (by unfold maxLen;omega)
  have hG:=Grew.drew_alloc w (.cells (#[]++Builtin.zeroCells z.cells m++Builtin.zeroCells z.cells (grownCap w m 0 138 - m)) 138)
  generalize grownCap w m 0 138=G at *
  obtain ⟨q,rfl⟩:∃ q,G=q+1:=⟨G - 1,by omega⟩
  refine fin _ _ hG (.inr ⟨w.heap.size,q,_,138,rfl,fun h=>by have:=hh.sits _ h;omega,xZ30 _ _,⟨Nat.zero_le _,hle,?_,fun i hi=>absurd hi (Nat.not_lt_zero _),fun i hi=>absurd hi (Nat.not_lt_zero _),fun i hi=>absurd hi (Nat.not_lt_zero _)⟩⟩) (fun b hb=>by cases hb;exact Nat.le_refl _) ⟨_,_,_,rfl⟩
  rw [Array.size_append,Array.size_append,size_zeroCells,size_zeroCells,q2,← hs8,Array.size_empty]
  omega
end Go.Proofs.YtmllclbhdmajmaaGreat.W
namespace Go.Proofs.YtmllclbhdmajmaaGreat.W
open Go Go.RowKit Go.Extern.Stop Go.Stop Go.Extern Go.Proofs.Tryz
set_option maxHeartbeats 4000000
set_option maxRecDepth 1000000
theorem xZho (n p:Int) (h:n≠0) (w:World):Calls Tryz.prog 59 #[.int .i64 n,.int .i64 p] w fun e w'=>e=.returned (.iface 167 (.pointer (some ⟨w.heap.size,0,none⟩)))∧w'=w.alloc (.cells #[.int .i64 n,.int .i64 p] 176):=by
 go_enter Tryz.func59,Tryz.ntmps59
 go_wp2
 go_ret
 exact ⟨rfl,rfl⟩
end Go.Proofs.YtmllclbhdmajmaaGreat.W
namespace Go.Proofs.YtmllclbhdmajmaaGreat.W
open Go
open Go.Proofs.Tryz
set_option maxRecDepth 1000000
set_option linter.unusedSimpArgs false
set_option linter.unusedVariables false
noncomputable section
noncomputable def xZf1:Fn xZ8z:=⟨f56,[],⟨[],[],sbf,bof⟩,fun _=>[],[true],none,0,0,fun _ _=>true,none,[],[],[]⟩
theorem xZfM:xZf1.Ok prog:=⟨Is.of (by kernel_rfl) (by kernel_rfl),by kernel_rfl,xZ6 sb_ok bo_ok,trivial,trivial,fun _=>by kernel_rfl⟩
theorem xZfi (N:Nat):xZ8z.Ok prog N:=xZfM.give tb_ok hm N N (fun _=>trivial) fun a r s h=>by
 exact s.main [] trivial (.trans (by kernel_rfl) h)
noncomputable def xZgm:Fn xZ7w:=⟨f28,[],⟨[],[],sbf,bof⟩,fun _=>[xZ8z],[true],none,0,0,fun _ _=>true,none,[],[],[]⟩
theorem xZhr:xZgm.Ok prog:=⟨Is.of (by kernel_rfl) (by kernel_rfl),by kernel_rfl,xZ6 sb_ok bo_ok,trivial,trivial,fun _=>by kernel_rfl⟩
theorem xZcM (N:Nat):xZ7w.Ok prog N:=xZhr.give tb_ok hm N N (fun _=>⟨xZfi N,trivial⟩) fun a r s h=>by
 have l0:=s.loop 0 xZ5b (xZaE N) N fun next0 h0=>by
  exact fun c v=>s.seg 0 xZ5b [(0,.of xZ5b next0)] ⟨h0,trivial⟩ (by kernel_rfl) (by kernel_rfl)
 exact s.main [(0,.of xZ5b (xZeB N))] ⟨l0,trivial⟩ (.trans (by kernel_rfl) h)
noncomputable def xZgn:Fn xZ9N:=⟨f7,[],⟨[],[],sbf,bof⟩,fun _=>[xZ7w],[true],none,0,0,fun _ _=>true,none,[],[],[]⟩
theorem xZhs:xZgn.Ok prog:=⟨Is.of (by kernel_rfl) (by kernel_rfl),by kernel_rfl,xZ6 sb_ok bo_ok,trivial,trivial,fun _=>by kernel_rfl⟩
theorem xZgV (N:Nat):xZ9N.Ok prog N:=xZhs.give tb_ok hm N N (fun _=>⟨xZcM N,trivial⟩) fun a r s h=>by
 have l0:=s.loop 0 xZ5c (xZaF N) N fun next0 h0=>by
  exact fun c v=>s.seg 0 xZ5c [(0,.of xZ5c next0)] ⟨h0,trivial⟩ (by kernel_rfl) (by kernel_rfl)
 exact s.main [(0,.of xZ5c (xZeC N))] ⟨l0,trivial⟩ (.trans (by kernel_rfl) h)
noncomputable def xZiO:Fn xZba:=⟨f41,[],⟨[],[],sbf,bof⟩,fun _=>[],[true],none,0,0,fun _ _=>true,none,[],[],[]⟩
theorem xZje:xZiO.Ok prog:=⟨Is.of (by kernel_rfl) (by kernel_rfl),by kernel_rfl,xZ6 sb_ok bo_ok,trivial,trivial,fun _=>by kernel_rfl⟩
theorem xZiZ (N:Nat):xZba.Ok prog N:=xZje.give tb_ok hm N N (fun _=>trivial) fun a r s h=>by
 exact s.main [] trivial (.trans (by kernel_rfl) h)
noncomputable def xZiM:Fn xZ9j:=⟨f16,[],⟨[],[],sbf,bof⟩,fun _=>[xZba],[true],none,0,0,fun _ _=>true,none,[],[],[]⟩
theorem xZjc:xZiM.Ok prog:=⟨Is.of (by kernel_rfl) (by kernel_rfl),by kernel_rfl,xZ6 sb_ok bo_ok,trivial,trivial,fun _=>by kernel_rfl⟩
theorem xZdH (N:Nat):xZ9j.Ok prog N:=xZjc.give tb_ok hm N N (fun _=>⟨xZiZ N,trivial⟩) fun a r s h=>by
 have l0:=s.loop 0 xZ6w (xZbP N) N fun next0 h0=>by
  exact fun c v=>s.seg 0 xZ6w [(0,.of xZ6w next0)] ⟨h0,trivial⟩ (by kernel_rfl) (by kernel_rfl)
 exact s.main [(0,.of xZ6w (xZg5 N))] ⟨l0,trivial⟩ (.trans (by kernel_rfl) h)
noncomputable def xZar:Fn xZ3P:=⟨f76,[],⟨[],[],sbf,bof⟩,fun _=>[],[true],none,1,0,fun _ _=>true,none,[],[],[]⟩
theorem xZb1:xZar.Ok prog:=⟨Is.of (by kernel_rfl) (by kernel_rfl),by kernel_rfl,xZ6 sb_ok bo_ok,trivial,trivial,fun _=>by kernel_rfl⟩
theorem xZaw (N:Nat):xZ3P.Ok prog N:=xZb1.give tb_ok hm N N (fun _=>trivial) fun a r s h=>by
 exact s.main [] trivial (.trans (by kernel_rfl) h)
noncomputable def xZ47:Fn xZZ:=⟨f112,[],⟨[],[],sbf,bof⟩,fun _=>[xZ3P],[true],none,1,0,fun _ _=>true,none,[],[],[]⟩
theorem xZ49:xZ47.Ok prog:=⟨Is.of (by kernel_rfl) (by kernel_rfl),by kernel_rfl,xZ6 sb_ok bo_ok,trivial,trivial,fun _=>by kernel_rfl⟩
theorem xZ48 (N:Nat):xZZ.Ok prog N:=xZ49.give tb_ok hm N N (fun _=>⟨xZaw N,trivial⟩) fun a r s h=>by
 have l0:=s.loop 0 xZy (xZ1D N) N fun next0 h0=>by
  exact fun c v=>s.seg 0 xZy [(0,.of xZy next0)] ⟨h0,trivial⟩ (by kernel_rfl) (by kernel_rfl)
 exact s.main [(0,.of xZy (xZ3O N))] ⟨l0,trivial⟩ (.trans (by kernel_rfl) h)
noncomputable def xZ3t:Fn xZQ:=⟨f75,[],⟨[],[],sbf,bof⟩,fun _=>[xZZ],[true],none,1,0,fun _ _=>true,none,[],[],[]⟩
theorem xZ3w:xZ3t.Ok prog:=⟨Is.of (by kernel_rfl) (by kernel_rfl),by kernel_rfl,xZ6 sb_ok bo_ok,trivial,trivial,fun _=>by kernel_rfl⟩
theorem xZ3v (N:Nat):xZQ.Ok prog N:=xZ3w.give tb_ok hm N N (fun _=>⟨xZ48 N,trivial⟩) fun a r s h=>by
 exact s.main [] trivial (.trans (by kernel_rfl) h)
noncomputable def xZiN:Fn xZb9:=⟨f49,[],⟨[],[],sbf,bof⟩,fun _=>[xZ9j,xZQ],[true],none,0,0,fun _ _=>true,none,[],[],[]⟩
theorem xZjd:xZiN.Ok prog:=⟨Is.of (by kernel_rfl) (by kernel_rfl),by kernel_rfl,xZ6 sb_ok bo_ok,trivial,trivial,fun _=>by kernel_rfl⟩
theorem xZiY (N:Nat):xZb9.Ok prog N:=xZjd.give tb_ok hm N N (fun _=>⟨xZdH N,xZ3v N,trivial⟩) fun a r s h=>by
 exact s.main [] trivial (.trans (by kernel_rfl) h)
noncomputable def xZf0:Fn xZ8y:=⟨f44,[],⟨[],[],sbf,bof⟩,fun _=>[],[true],none,0,0,fun _ _=>true,none,[],[],[]⟩
theorem xZfL:xZf0.Ok prog:=⟨Is.of (by kernel_rfl) (by kernel_rfl),by kernel_rfl,xZ6 sb_ok bo_ok,trivial,trivial,fun _=>by kernel_rfl⟩
theorem xZfh (N:Nat):xZ8y.Ok prog N:=xZfL.give tb_ok hm N N (fun _=>trivial) fun a r s h=>by
 exact s.main [] trivial (.trans (by kernel_rfl) h)
noncomputable def xZcC:Fn xZ3Q:=⟨f51,[],⟨[(2000007,11)],[],sbf,bof⟩,fun _=>[],[true],none,0,0,fun _ _=>true,none,[],[],[]⟩
theorem xZd2:xZcC.Ok prog:=⟨Is.of (by kernel_rfl) (by kernel_rfl),by kernel_rfl,xZ6 sb_ok bo_ok,trivial,trivial,fun _=>by kernel_rfl⟩
theorem xZ8S (N:Nat):xZ3Q.Ok prog N:=xZd2.give tb_ok hm N N (fun _=>trivial) fun a r s h=>by
 exact s.main [] trivial (.trans (by kernel_rfl) h)
noncomputable def xZc1:Fn xZ4O:=⟨f113,[],⟨[(2000007,11),(2000013,11)],[],sbf,bof⟩,fun _=>[],[true],none,0,0,fun _ _=>true,none,[],[],[]⟩
theorem xZcg:xZc1.Ok prog:=⟨Is.of (by kernel_rfl) (by kernel_rfl),by kernel_rfl,xZ6 sb_ok bo_ok,trivial,trivial,fun _=>by kernel_rfl⟩
theorem xZc9 (N:Nat):xZ4O.Ok prog N:=xZcg.give tb_ok hm N N (fun _=>trivial) fun a r s h=>by
 exact s.main [] trivial (.trans (by kernel_rfl) h)
noncomputable def xZ8o:Fn xZ2h:=⟨f77,[],⟨[],[],sbf,bof⟩,fun _=>[xZ3Q,xZ4O],[true],none,1,1,fun _ _=>true,none,[],[],[]⟩
theorem xZ8t:xZ8o.Ok prog:=⟨Is.of (by kernel_rfl) (by kernel_rfl),by kernel_rfl,xZ6 sb_ok bo_ok,trivial,trivial,fun _=>by kernel_rfl⟩
theorem xZ8q (N:Nat):xZ2h.Ok prog N:=xZ8t.give tb_ok hm N N (fun _=>⟨xZ8S N,xZc9 N,trivial⟩) fun a r s h=>by
 have l0:=s.loop 0 xZ1n (xZ3H N) N fun next0 h0=>by
  exact fun c v=>s.seg 0 xZ1n [(0,.of xZ1n next0)] ⟨h0,trivial⟩ (by kernel_rfl) (by kernel_rfl)
 exact s.main [(0,.of xZ1n (xZ7u N))] ⟨l0,trivial⟩ (.trans (by kernel_rfl) h)
noncomputable def xZdl:Fn xZ4x:=⟨f78,[],⟨[],[],sbf,bof⟩,fun _=>[],[true],none,0,0,fun _ _=>true,none,[],[],[]⟩
theorem xZdu:xZdl.Ok prog:=⟨Is.of (by kernel_rfl) (by kernel_rfl),by kernel_rfl,xZ6 sb_ok bo_ok,trivial,trivial,fun _=>by kernel_rfl⟩
theorem xZ9B (N:Nat):xZ4x.Ok prog N:=xZdu.give tb_ok hm N N (fun _=>trivial) fun a r s h=>by
 exact s.main [] trivial (.trans (by kernel_rfl) h)
noncomputable def xZ8p:Fn xZI:=⟨f50,[],⟨[],[],sbf,bof⟩,fun _=>[xZ8y,xZ2h,xZ9j,xZI,xZ4x,xZ2g],[true],none,1,1,fun _ _=>true,some EqR.cls,[],[],[]⟩
theorem xZ4e:xZ8p.Ok prog:=⟨Is.of (by kernel_rfl) (by kernel_rfl),by kernel_rfl,xZ6 sb_ok bo_ok,trivial,trivial,fun _=>by kernel_rfl⟩
noncomputable def xZ8n:Fn xZ2g:=⟨f79,[],⟨[],[],sbf,bof⟩,fun _=>[xZI,xZ4x],[true],none,1,1,fun _ _=>true,some EqR.cls,[],[],[]⟩
theorem xZ4d:xZ8n.Ok prog:=⟨Is.of (by kernel_rfl) (by kernel_rfl),by kernel_rfl,xZ6 sb_ok bo_ok,trivial,trivial,fun _=>by kernel_rfl⟩
theorem xZ3X:∀ N,xZI.Ok prog N∧xZ2g.Ok prog N
 | 0=>⟨⟨xZ4e.is.enters,fun a r h=>by (have h:none=some r:=h;cases h)⟩,⟨xZ4d.is.enters,fun a r h=>by (have h:none=some r:=h;cases h)⟩⟩
 | N+1=>by
   obtain ⟨h_core_reader_tree_v853,h_core_reader_loop_v853⟩:=xZ3X N
   refine ⟨?_,?_⟩
   ·exact xZ4e.give tb_ok hm N (N+1) (fun _=>⟨xZfh N,xZ8q N,xZdH N,h_core_reader_tree_v853,xZ9B N,h_core_reader_loop_v853,trivial⟩) fun a r s h=>by
     exact s.main [] trivial (.trans (by kernel_rfl) h)
   ·exact xZ4d.give tb_ok hm N (N+1) (fun _=>⟨h_core_reader_tree_v853,xZ9B N,trivial⟩) fun a r s h=>by
     have l0:=s.loop 0 xZ1m (xZ3G N) N fun next0 h0=>by
      exact fun c v=>s.seg 0 xZ1m [(0,.of xZ1m next0)] ⟨h0,trivial⟩ (by kernel_rfl) (by kernel_rfl)
     exact s.main [(0,.of xZ1m (xZ7t N))] ⟨l0,trivial⟩ (.trans (by kernel_rfl) h)
theorem xZ8r (N:Nat):xZI.Ok prog N:=(xZ3X N).1
end
end Go.Proofs.YtmllclbhdmajmaaGreat.W
namespace Go.Proofs.YtmllclbhdmajmaaGreat.W
open Go
open Go.Proofs.Tryz
set_option maxRecDepth 1000000
set_option linter.unusedSimpArgs false
set_option linter.unusedVariables false
noncomputable section
noncomputable def xZdY:Fn xZ50:=⟨f23,[],⟨[(3000105,12)],[],sbf,bof⟩,fun _=>[xZb9,xZI,xZ3Q],[true],none,0,0,fun _ _=>true,none,[],[],[]⟩
theorem xZes:xZdY.Ok prog:=⟨Is.of (by kernel_rfl) (by kernel_rfl),by kernel_rfl,xZ6 sb_ok bo_ok,trivial,trivial,fun _=>by kernel_rfl⟩
theorem xZ7J (N:Nat):xZ50.Ok prog N:=xZes.give tb_ok hm N N (fun _=>⟨xZiY N,xZ8r N,xZ8S N,trivial⟩) fun a r s h=>by
 exact s.main [] trivial (.trans (by kernel_rfl) h)
theorem xZ7N (N:Nat):xZ3S.Ok prog N:=xZnd (te:=63) (tb:=4) (e:=138) (CloneIs.of (fn:=f104) (by kernel_rfl) (by kernel_rfl) (by kernel_rfl) (by kernel_rfl) (by kernel_rfl) (by kernel_rfl) (by decide)) hm N
theorem xZ33 (N:Nat):xZ1O.Ok prog N:=xZln (te:=63) (tb:=4) (e:=138) (CloneIs.of (fn:=f104) (by kernel_rfl) (by kernel_rfl) (by kernel_rfl) (by kernel_rfl) (by kernel_rfl) (by kernel_rfl) (by decide)) hm N
noncomputable def xZ67:Fn xZk:=⟨f177,[],⟨[],[],sbf,bof⟩,fun _=>[],[true],none,1,0,fun _ _=>true,none,[],[],[]⟩
theorem xZ6f:xZ67.Ok prog:=⟨Is.of (by kernel_rfl) (by kernel_rfl),by kernel_rfl,xZ6 sb_ok bo_ok,trivial,trivial,fun _=>by kernel_rfl⟩
theorem xZE (N:Nat):xZk.Ok prog N:=xZ6f.give tb_ok hm N N (fun _=>trivial) fun a r s h=>by
 exact s.main [] trivial (.trans (by kernel_rfl) h)
noncomputable def xZ5P:Fn xZ1u:=⟨f167,[],⟨[],[],sbf,bof⟩,fun _=>[],[true],none,1,0,fun _ _=>true,none,[],[],[]⟩
theorem xZ5R:xZ5P.Ok prog:=⟨Is.of (by kernel_rfl) (by kernel_rfl),by kernel_rfl,xZ6 sb_ok bo_ok,trivial,trivial,fun _=>by kernel_rfl⟩
theorem xZ2s (N:Nat):xZ1u.Ok prog N:=xZ5R.give tb_ok hm N N (fun _=>trivial) fun a r s h=>by
 exact s.main [] trivial (.trans (by kernel_rfl) h)
noncomputable def xZ66:Fn xZu:=⟨f182,[],⟨[],[],sbf,bof⟩,fun _=>[xZ1u],[],none,1,0,fun _ _=>true,none,[],[],[]⟩
theorem xZ6e:xZ66.Ok prog:=⟨Is.of (by kernel_rfl) (by kernel_rfl),by kernel_rfl,xZ6 sb_ok bo_ok,trivial,trivial,fun _=>by kernel_rfl⟩
theorem xZ13 (N:Nat):xZu.Ok prog N:=xZ6e.give tb_ok hm N N (fun _=>⟨xZ2s N,trivial⟩) fun a r s h=>by
 exact s.main [] trivial (.trans (by kernel_rfl) h)
noncomputable def xZ51:Fn xZ1r:=⟨f181,[],⟨[],[],sbf,bof⟩,fun _=>[xZk,xZu],[],none,1,0,fun _ _=>true,none,[],[],[]⟩
theorem xZ58:xZ51.Ok prog:=⟨Is.of (by kernel_rfl) (by kernel_rfl),by kernel_rfl,xZ6 sb_ok bo_ok,trivial,trivial,fun _=>by kernel_rfl⟩
theorem xZ55 (N:Nat):xZ1r.Ok prog N:=xZ58.give tb_ok hm N N (fun _=>⟨xZE N,xZ13 N,trivial⟩) fun a r s h=>by
 exact s.main [] trivial (.trans (by kernel_rfl) h)
noncomputable def xZ6O:Fn xZo:=⟨f173,[],⟨[],[],sbf,bof⟩,fun _=>[xZk],[true],none,1,0,fun _ _=>true,none,[],[],[]⟩
theorem xZ6T:xZ6O.Ok prog:=⟨Is.of (by kernel_rfl) (by kernel_rfl),by kernel_rfl,xZ6 sb_ok bo_ok,trivial,trivial,fun _=>by kernel_rfl⟩
theorem xZM (N:Nat):xZo.Ok prog N:=xZ6T.give tb_ok hm N N (fun _=>⟨xZE N,trivial⟩) fun a r s h=>by
 exact s.main [] trivial (.trans (by kernel_rfl) h)
noncomputable def xZ7i:Fn xZ1V:=⟨f178,[],⟨[],[],sbf,bof⟩,fun _=>[xZ1F],[true],none,0,0,fun _ _=>true,none,[],[],[]⟩
theorem xZ7r:xZ7i.Ok prog:=⟨Is.of (by kernel_rfl) (by kernel_rfl),by kernel_rfl,xZ6 sb_ok bo_ok,trivial,trivial,fun _=>by kernel_rfl⟩
theorem xZ7m (N:Nat):xZ1V.Ok prog N:=xZ7r.give tb_ok hm N N (fun _=>⟨xZ2R N,trivial⟩) fun a r s h=>by
 have l2:=s.loop 2 xZ16 (xZ2U N) N fun next2 h2=>by
  exact fun c v=>s.seg 2 xZ16 [(2,.of xZ16 next2)] ⟨h2,trivial⟩ (by kernel_rfl) (by kernel_rfl)
 have l0:=s.loop 0 xZ15 (xZ2T N) N fun next0 h0=>by
  exact fun c v=>s.seg 0 xZ15 [(0,.of xZ15 next0),(2,.of xZ16 (xZ6l N))] ⟨h0,l2,trivial⟩ (by kernel_rfl) (by kernel_rfl)
 exact s.main [(0,.of xZ15 (xZ6k N))] ⟨l0,trivial⟩ (.trans (by kernel_rfl) h)
noncomputable def xZcD:Fn xZ1U:=⟨f174,[],⟨[(6,1)],[],sbf,bof⟩,fun _=>[xZ1V],[true],none,0,0,fun _ _=>true,none,[],[],[]⟩
theorem xZd3:xZcD.Ok prog:=⟨Is.of (by kernel_rfl) (by kernel_rfl),by kernel_rfl,xZ6 sb_ok bo_ok,trivial,trivial,fun _=>by kernel_rfl⟩
theorem xZ3V (N:Nat):xZ1U.Ok prog N:=xZd3.give tb_ok hm N N (fun _=>⟨xZ7m N,trivial⟩) fun a r s h=>by
 exact s.main [] trivial (.trans (by kernel_rfl) h)
noncomputable def xZ69:Fn xZ12:=⟨f185,[],⟨[],[],sbf,bof⟩,fun _=>[xZk,xZu],[true],none,1,0,fun _ _=>true,none,[],[],[]⟩
theorem xZ6g:xZ69.Ok prog:=⟨Is.of (by kernel_rfl) (by kernel_rfl),by kernel_rfl,xZ6 sb_ok bo_ok,trivial,trivial,fun _=>by kernel_rfl⟩
theorem xZ2Q (N:Nat):xZ12.Ok prog N:=xZ6g.give tb_ok hm N N (fun _=>⟨xZE N,xZ13 N,trivial⟩) fun a r s h=>by
 exact s.main [] trivial (.trans (by kernel_rfl) h)
noncomputable def xZ6a:Fn xZ1E:=⟨f187,[],⟨[(24,1),(40,1),(51,1),(54,1)],[],sbf,bof⟩,fun _=>[xZo,xZk,xZu,xZ12],[true],none,1,0,fun _ _=>true,none,[],[],[]⟩
theorem xZ6h:xZ6a.Ok prog:=⟨Is.of (by kernel_rfl) (by kernel_rfl),by kernel_rfl,xZ6 sb_ok bo_ok,trivial,trivial,fun _=>by kernel_rfl⟩
theorem xZ6d (N:Nat):xZ1E.Ok prog N:=xZ6h.give tb_ok hm N N (fun _=>⟨xZM N,xZE N,xZ13 N,xZ2Q N,trivial⟩) fun a r s h=>by
 exact s.main [] trivial (.trans (by kernel_rfl) h)
noncomputable def xZ6P:Fn xZ1N:=⟨f183,[],⟨[(14,6),(23,6)],[],sbf,bof⟩,fun _=>[xZ1E,xZo,xZ1U],[true],none,1,0,fun _ _=>true,none,[],[],[]⟩
theorem xZ6U:xZ6P.Ok prog:=⟨Is.of (by kernel_rfl) (by kernel_rfl),by kernel_rfl,xZ6 sb_ok bo_ok,trivial,trivial,fun _=>by kernel_rfl⟩
theorem xZ6R (N:Nat):xZ1N.Ok prog N:=xZ6U.give tb_ok hm N N (fun _=>⟨xZ6d N,xZM N,xZ3V N,trivial⟩) fun a r s h=>by
 have l0:=s.loop 0 xZX (xZ2w N) N fun next0 h0=>by
  exact fun c v=>s.seg 0 xZX [(0,.of xZX next0)] ⟨h0,trivial⟩ (by kernel_rfl) (by kernel_rfl)
 exact s.main [(0,.of xZX (xZ5T N))] ⟨l0,trivial⟩ (.trans (by kernel_rfl) h)
noncomputable def xZdX:Fn xZ4Z:=⟨f164,[],⟨[],[],sbf,bof⟩,fun _=>[],[true],none,0,0,fun _ _=>true,none,[],[],[]⟩
theorem xZer:xZdX.Ok prog:=⟨Is.of (by kernel_rfl) (by kernel_rfl),by kernel_rfl,xZ6 sb_ok bo_ok,trivial,trivial,fun _=>by kernel_rfl⟩
theorem xZav (N:Nat):xZ4Z.Ok prog N:=xZer.give tb_ok hm N N (fun _=>trivial) fun a r s h=>by
 exact s.main [] trivial (.trans (by kernel_rfl) h)
noncomputable def xZgk:Fn xZ9L:=⟨f184,[],⟨[],[],sbf,bof⟩,fun _=>[xZ4Z],[true],none,0,0,fun _ _=>true,none,[],[],[]⟩
theorem xZhp:xZgk.Ok prog:=⟨Is.of (by kernel_rfl) (by kernel_rfl),by kernel_rfl,xZ6 sb_ok bo_ok,trivial,trivial,fun _=>by kernel_rfl⟩
theorem xZgT (N:Nat):xZ9L.Ok prog N:=xZhp.give tb_ok hm N N (fun _=>⟨xZav N,trivial⟩) fun a r s h=>by
 have l0:=s.loop 0 xZ5a (xZaD N) N fun next0 h0=>by
  exact fun c v=>s.seg 0 xZ5a [(0,.of xZ5a next0)] ⟨h0,trivial⟩ (by kernel_rfl) (by kernel_rfl)
 exact s.main [(0,.of xZ5a (xZeA N))] ⟨l0,trivial⟩ (.trans (by kernel_rfl) h)
end
end Go.Proofs.YtmllclbhdmajmaaGreat.W
