/- pred.Node.more, walked. No premise beyond what each theorem says. -/
import Derived.Test.YtmllclbhdmajmaaGreatKG2
import Derived.WalkKit
import Derived.WalkLawsBesides
import Derived.Deep.RegionHeld3
import Derived.Lib.Walk
import Derived.Lib.SliceRun
import Derived.Lib.AppendZerosOnto
import Derived.LaidEql
import Derived.Stop.Asserts
import Derived.RowKitTokens
set_option linter.all false
set_option linter.unusedSimpArgs false
set_option linter.unusedVariables false
set_option linter.unusedVariables false
set_option linter.unusedSimpArgs false
namespace Go.Proofs.YtmllclbhdmajmaaGreat.K
open Go Go.RowKit Go.Proofs.Tryz
set_option maxHeartbeats 4000000
set_option maxRecDepth 1000000
theorem xZfS {M:Maps} {S:Nat→Prop} {w:World} {v:Value} {l:List Value} (h:VRep M S w v (.agg (l.map .v))):v=.agg l.toArray:=by
 have key:∀ vs:Array Value,vs.size=(l.map AV.v).length→(∀ i,i < (l.map AV.v).length→VRep M S w (vs.getD i undef) ((l.map AV.v).getD i .any))→vs=l.toArray:=fun vs hn hall=>by
  rw [List.length_map] at hn
  refine Array.ext (by simpa using hn) fun i h1 h2=>?_
  have hi:i < l.length:=by omega
  have q:=hall i (by simpa using hi)
  rw [show (l.map AV.v).getD i .any=.v l[i] by simp [List.getD,hi]] at q
  have:=q.v_eq
  simpa [Array.getD,h1] using this
 cases h with
 | data h=>cases h with | agg vs _ hn hall=>exact congrArg _ (key vs hn fun i hi=>.data (hall i hi))
 | agg vs _ hn hall=>exact congrArg _ (key vs hn hall)
theorem xZcw (w:World) (a b:Obj):Grew w ((w.alloc a).alloc b):=⟨rfl,rfl,rfl,by simp;omega,fun g h=>(xZ1V _ _ g (by simp;omega)).trans (xZ1V _ _ g h)⟩
theorem xZiV (w:World) (a b:Obj):Grew w ((w.alloc a).alloc b).drew:=⟨rfl,rfl,rfl,by simp;omega,fun g h=>(xZ1V _ _ g (by simp;omega)).trans (xZ1V _ _ g h)⟩
theorem xZco (l:List UInt8):(bs l).toList=[] ↔ l=[]:=by simp [bs]
theorem xZpt (o vk vn vb:Int) (va na vt:List UInt8) (w:World):
 Calls Tryz.prog 154 #[.agg #[.int .u8 4,.int .u8 o,.string (bs va),.string (bs na),.int .u8 vk,.int .i64 vn,.int .u64 vb,.string (bs vt)]] w fun e w'=>(∃ b,e=.returned (.bool b)∧(b=false ↔ (va=[]∧na=[]∧0=vk∧0=vn∧0=vb∧vt=[])))∧Grew w w':=by
 rw [← xZco vt,← xZco va,← xZco na]
 go_enter Tryz.func154,Tryz.ntmps154
 go_wp2
 all_goals
  go_ret
  refine ⟨⟨_,rfl,?_⟩,xZcw _ _ _⟩
  simp_all
theorem xZpu (o vk vn vb:Int) (va na vt:List UInt8) (w:World):
 Calls Tryz.prog 154 #[.agg #[.int .u8 7,.int .u8 o,.string (bs va),.string (bs na),.int .u8 vk,.int .i64 vn,.int .u64 vb,.string (bs vt)]] w fun e w'=>(∃ b,e=.returned (.bool b)∧(b=false ↔ (0=o∧va=[]∧0=vk∧0=vn∧0=vb∧vt=[])))∧Grew w w':=by
 rw [← xZco vt,← xZco va]
 go_enter Tryz.func154,Tryz.ntmps154
 go_wp2
 all_goals
  go_ret
  refine ⟨⟨_,rfl,?_⟩,xZcw _ _ _⟩
  simp_all
theorem xZpv (o vk vn vb:Int) (va na vt:List UInt8) (w:World):
 Calls Tryz.prog 154 #[.agg #[.int .u8 8,.int .u8 o,.string (bs va),.string (bs na),.int .u8 vk,.int .i64 vn,.int .u64 vb,.string (bs vt)]] w fun e w'=>(∃ b,e=.returned (.bool b)∧(b=false ↔ (0=o∧0=vk∧0=vn∧0=vb∧vt=[])))∧Grew w w':=by
 rw [← xZco vt]
 go_enter Tryz.func154,Tryz.ntmps154
 go_wp2
 go_region_held3 (fun w'=>w'.cell? ⟨w.heap.size,2,none⟩=some (.string (bs va))∧w'.cell? ⟨w.heap.size,3,none⟩=some (.string (bs na))) (go_keep) (fail)
 go_wp2
 all_goals
  go_ret
  refine ⟨⟨_,rfl,?_⟩,xZiV _ _ _⟩
  simp_all
theorem xZpw (o vk vn vb:Int) (va na vt:List UInt8) (w:World):
 Calls Tryz.prog 154 #[.agg #[.int .u8 9,.int .u8 o,.string (bs va),.string (bs na),.int .u8 vk,.int .i64 vn,.int .u64 vb,.string (bs vt)]] w fun e w'=>(∃ b,e=.returned (.bool b)∧(b=false ↔ (0=o∧va=[]∧na=[])))∧Grew w w':=by
 rw [← xZco va,← xZco na]
 go_enter Tryz.func154,Tryz.ntmps154
 go_wp2
 all_goals
  go_ret
  refine ⟨⟨_,rfl,?_⟩,xZcw _ _ _⟩
  simp_all
theorem xZpx (k:Int) (h4:¬ k=4) (h7:¬ k=7) (h8:¬ k=8) (h9:¬ k=9) (o vk vn vb:Int) (va na vt:List UInt8) (w:World):
 Calls Tryz.prog 154 #[.agg #[.int .u8 k,.int .u8 o,.string (bs va),.string (bs na),.int .u8 vk,.int .i64 vn,.int .u64 vb,.string (bs vt)]] w fun e w'=>(∃ b,e=.returned (.bool b)∧(b=false ↔ (0=o∧va=[]∧na=[]∧0=vk∧0=vn∧0=vb∧vt=[])))∧Grew w w':=by
 rw [← xZco vt,← xZco va,← xZco na]
 go_enter Tryz.func154,Tryz.ntmps154
 go_wp2
 all_goals
  go_ret
  refine ⟨⟨_,rfl,?_⟩,xZcw _ _ _⟩
  simp_all
theorem bf_eq {a b:Bool} {Q:Prop} (h1:a=false ↔ Q) (h2:b=false ↔ Q):b=a:=by cases a<;>cases b<;>simp_all
theorem xZ8R (N:Nat):xZ5E.Ok prog N:=by
 refine ⟨⟨Tryz.f154,Tryz.func154,by kernel_rfl,by kernel_rfl⟩,fun a r h=>?_⟩
 obtain ⟨n,⟨⟩⟩:=a
 have h:some (moreB n)=some r:=h
 obtain rfl:=Option.some.inj h
 intro M S w vs hh _ hsz hrep
 obtain ⟨v,rfl⟩:∃ v,vs=#[v]:=by
  match vs,hsz with
  | ⟨[v]⟩,_=>exact ⟨v,rfl⟩
 obtain ⟨k,o,va,na,vk,vn,vb,vt⟩:=n
 have h0:VRep M S w v (.agg ([.int .u8 k,.int .u8 o,.string (bs va),.string (bs na),.int .u8 vk,.int .i64 vn,.int .u64 vb,.string (bs vt)].map .v)):=hrep 0 (Nat.zero_lt_one)
 obtain rfl:=xZfS h0
 have fin:∀ {k:Int} {Q:Prop},(moreB ⟨k,o,va,na,⟨vk,vn,vb,vt⟩⟩=false ↔ Q)→∀ e w',((∃ b,e=.returned (.bool b)∧(b=false ↔ Q))∧Grew w w')→
  ∃ M' S',EndRep M' S' w' e (.ret (.v (.bool (moreB ⟨k,o,va,na,⟨vk,vn,vb,vt⟩⟩))))∧RelH M' S' AH.nil w'∧Frm M S AH.nil w M' S' AH.nil w':=by
  rintro k Q hm e w' ⟨⟨b,rfl,hb⟩,hg⟩
  obtain rfl:=bf_eq hm hb
  exact ⟨M,S,.data (.v _),hh.grew hg,.grew hh hg⟩
 by_cases h4:k=4
 ·subst h4
  exact (xZpt o vk vn vb va na vt w).mono (fin (by simp [moreB,moreZ,eq_comm (a:=(0:Int)),and_assoc]))
 by_cases h7:k=7
 ·subst h7
  exact (xZpu o vk vn vb va na vt w).mono (fin (by simp [moreB,moreZ,eq_comm (a:=(0:Int)),and_assoc]))
 by_cases h8:k=8
 ·subst h8
  exact (xZpv o vk vn vb va na vt w).mono (fin (by simp [moreB,moreZ,eq_comm (a:=(0:Int)),and_assoc]))
 by_cases h9:k=9
 ·subst h9
  exact (xZpw o vk vn vb va na vt w).mono (fin (by simp [moreB,moreZ,eq_comm (a:=(0:Int)),and_assoc]))
 have e4:(k==4)=false:=by simpa using h4
 have e7:(k==7)=false:=by simpa using h7
 have e8:(k==8)=false:=by simpa using h8
 have e9:(k==9)=false:=by simpa using h9
 exact (xZpx k h4 h7 h8 h9 o vk vn vb va na vt w).mono (fin (by simp only [moreB,e4,e7,e8,e9,cond_false];simp [moreZ,eq_comm (a:=(0:Int)),and_assoc]))
end Go.Proofs.YtmllclbhdmajmaaGreat.K
set_option linter.unusedVariables false
set_option linter.unusedSimpArgs false
namespace Go.Proofs.YtmllclbhdmajmaaGreat.K
open Go Go.RowKit Go.Lib Go.Proofs.Tryz
set_option maxHeartbeats 4000000
set_option maxRecDepth 1000000
theorem xZks (a:Option Addr) (w:World):Calls Tryz.prog 186 #[.slice a 0 0,.int .i64 0] w fun e w'=>e=.returned (.slice a 0 0)∧w'=w:=by
 go_enter Tryz.func186,Tryz.ntmps186
 go_wp2
 go_ret
 exact ⟨rfl,rfl⟩
theorem xZkt (i0:TypeInfo) (z:Value) (hu:Tryz.prog.underlying 63=some (.slice 138)) (hi0:Tryz.prog.info? 138=some i0) (hz0:i0.zero=some z) (hs0:0 < i0.size) (n:Nat) (h0:0 < n) (hbig:n * i0.bytes≤140737488355328) (h63:n≤4611686018427387904) (a:Option Addr) (w:World):
 Calls Tryz.prog 186 #[.slice a 0 0,.int .i64 n] w fun e w'=>e=.returned (.slice (some ⟨w.heap.size,0,none⟩) 0 (grownCap w n 0 138))∧
  w'=w.drew.alloc (.cells (#[]++Builtin.zeroCells z.cells n++Builtin.zeroCells z.cells (grownCap w n 0 138 - n)) 138):=by
 have h1:¬ ((n:Int) < 0):=by omega
 have h4:(n:Int) > 0:=by omega
 have z25:∀ w,(Go.sizeOf 138).run Tryz.prog w=.ok i0.size w:=fun w=>by simp [Go.sizeOf,typeInfo,hi0]
 have hrz:∀ ty,(Builtin.append_ #[63,3] ty #[.slice a 0 0,.int .i64 n]).run Tryz.prog w=
  .ok (.slice (some ⟨w.heap.size,0,none⟩) n (grownCap w n 0 138)) (w.drew.alloc (.cells (#[]++Builtin.zeroCells z.cells n++Builtin.zeroCells z.cells (grownCap w n 0 138 - n)) 138)):=fun ty=>by
  have hold:(Builtin.firstCells i0.size 0 (.slice a 0 0)).run Tryz.prog w.drew=.ok ([]:List Value).toArray w.drew:=by
   cases a with
   | none=>exact run_firstCells_none w.drew i0.size 0 0 0
   | some a=>exact run_firstCells_some w.drew i0.size 0 a 0 0 [] (by simp) (fun j v hj=>by cases hj)
  have h:=Lib.run_append_grow_zeros w 63 3 ty 138 i0 z .i64 .i64 hu Tryz.underlying3 hi0 hz0 a 0 0 [] hold n h0 hs0 (by omega) (by omega) (by omega) (by
   rw [Nat.zero_add];exact growslice_fits (by omega) (by omega))
  rw [Nat.zero_add] at h
  exact h
 have hGn:n≤grownCap w n 0 138:=grownCap_ge w _ _ _
 obtain ⟨G,hG⟩:∃ G,G=grownCap w n 0 138:=⟨_,rfl⟩
 rw [← hG] at hrz hGn ⊢
 have hG63:G≤9223372036854775807:=by
  have:=grownCap_le_maxLen w n 0 138 (by unfold maxLen;omega)
  rw [← hG] at this
  unfold maxLen at this
  omega
 clear hG
 go_enter Tryz.func186,Tryz.ntmps186
 cases a with
 | none=>
   go_wp2_with (at_builtin;refine Lib.wpList_append_run _ rfl _ _ _ _ rfl _ _ rfl rfl _ _ (hrz _) ?_)
   all_goals (go_ret;exact ⟨rfl,rfl⟩)
 | some a=>
   obtain ⟨ab,ao,asp⟩:=a
   go_wp2_with (at_builtin;refine Lib.wpList_append_run _ rfl _ _ _ _ rfl _ _ rfl rfl _ _ (hrz _) ?_)
   all_goals (go_ret;exact ⟨rfl,rfl⟩)
theorem xZ3h (N:Nat):xZ1U.Ok prog N:=by
 refine ⟨⟨Tryz.f186,Tryz.func186,by kernel_rfl,by kernel_rfl⟩,fun a r h=>?_⟩
 obtain ⟨⟨⟨⟩,n,⟨⟩⟩,⟨⟩,⟨⟩⟩:=a
 have h:xZ1j N n=some r:=h
 unfold xZ1j at h
 obtain ⟨hn0,h⟩:=xZ1w h
 obtain ⟨hnb,h⟩:=xZ1w h
 have hn0:=xZK.1 hn0
 have hnb:=xZK.1 hnb
 obtain rfl:=Option.some.inj h
 intro M S w vs hh _ hsz hrep
 obtain ⟨v,u,rfl⟩:∃ v u,vs=#[v,u]:=by
  match vs,hsz with
  | ⟨[v,u]⟩,_=>exact ⟨v,u,rfl⟩
 obtain ⟨ad,rfl⟩:∃ ad,v=.slice ad 0 0:=by
  have q:VRep M S w v .emp:=hrep 0 (Nat.zero_lt_succ 1)
  cases q with
  | data q=>cases q;exact ⟨_,rfl⟩
 have e1:u=.int .i64 n:=VRep.v_eq (hrep 1 (Nat.lt_succ_self 1))
 subst e1
 obtain ⟨m,rfl⟩:∃ m:Nat,n=m:=⟨n.toNat,by omega⟩
 have fin:∀ (g:Value) (w':World),Grew w w'→LiveRep S w' g 8 []→(∀ b,Value.blk g=some b→w.heap.size≤b)→(∃ a n c,g=.slice a n c)→
  ∃ M' S',EndRep M' S' w' (.returned g) (.ret (.own 0))∧RelH M' S' ⟨[],[.live 8 []]⟩ w'∧Frm M S AH.nil w M' S' ⟨[],[.live 8 []]⟩ w':=by
  intro g w' hg hl hb hs
  obtain ⟨h1,h2⟩:=hh.addTok hg hl hb
  exact ⟨_,S,xZ5S hh.nt hs,h1,h2⟩
 by_cases hm:m=0
 ·subst hm
  refine (xZks ad w).mono ?_
  rintro e w' ⟨rfl,rfl⟩
  exact fin _ _ (.refl _) (.inl ⟨⟨_,rfl⟩,rfl⟩) (fun b hb=>by cases ad<;>cases hb) ⟨_,_,_,rfl⟩
 ·obtain ⟨ks,x,hx⟩:∃ ks x,cMk prog 63 ks=some (x,8,80):=⟨[0,0,0,0,0,0,0,0],eA1 (xZ1.mk 0 0 [] [] (xZa.mk 0 0 0 [])),by kernel_rfl⟩
  obtain ⟨e,i,z,hu,hi,hz,q1,q2,q3,q4,hx⟩:=xZix hx
  simp only [Prod.mk.injEq] at hx
  obtain ⟨-,hs8,hb80⟩:=hx
  have he:e=138:=by
   have:prog.underlying 63=some (.slice 138):=by kernel_rfl
   rw [this] at hu;cases hu;rfl
  subst he
  refine (xZkt i z hu hi hz q3 m (by omega) (by rw [← hb80];omega) (by omega) ad w).mono ?_
  rintro e w' ⟨rfl,rfl⟩
  have hge:=grownCap_ge w m 0 138
  have hle:=grownCap_le_maxLen w m 0 138 (by unfold maxLen;omega)
  have hG:=Grew.drew_alloc w (.cells (#[]++Builtin.zeroCells z.cells m++Builtin.zeroCells z.cells (grownCap w m 0 138 - m)) 138)
  generalize grownCap w m 0 138=G at *
  obtain ⟨q,rfl⟩:∃ q,G=q+1:=⟨G - 1,by omega⟩
  refine fin _ _ hG (.inr ⟨w.heap.size,q,_,138,rfl,fun h=>by have:=hh.sits _ h;omega,xZ3q _ _,⟨Nat.zero_le _,hle,?_,fun i hi=>absurd hi (Nat.not_lt_zero _),fun i hi=>absurd hi (Nat.not_lt_zero _),fun i hi=>absurd hi (Nat.not_lt_zero _)⟩⟩) (fun b hb=>by cases hb;exact Nat.le_refl _) ⟨_,_,_,rfl⟩
  rw [Array.size_append,Array.size_append,size_zeroCells,size_zeroCells,q2,← hs8,Array.size_empty]
  omega
end Go.Proofs.YtmllclbhdmajmaaGreat.K
namespace Go.Proofs.YtmllclbhdmajmaaGreat.K
open Go Go.RowKit Go.Extern.Stop Go.Stop Go.Extern Go.Proofs.Tryz
set_option maxHeartbeats 4000000
set_option maxRecDepth 1000000
theorem xZgq (n p:Int) (h:n≠0) (w:World):Calls Tryz.prog 59 #[.int .i64 n,.int .i64 p] w fun e w'=>e=.returned (.iface 167 (.pointer (some ⟨w.heap.size,0,none⟩)))∧w'=w.alloc (.cells #[.int .i64 n,.int .i64 p] 176):=by
 go_enter Tryz.func59,Tryz.ntmps59
 go_wp2
 go_ret
 exact ⟨rfl,rfl⟩
end Go.Proofs.YtmllclbhdmajmaaGreat.K
namespace Go.Proofs.YtmllclbhdmajmaaGreat.K
open Go
open Go.Proofs.Tryz
set_option maxRecDepth 1000000
set_option linter.unusedSimpArgs false
set_option linter.unusedVariables false
noncomputable section
noncomputable def xZei:Fn xZ8F:=⟨f56,[],⟨[],[],sbf,bof⟩,fun _=>[],[true],none,0,0,fun _ _=>true,none,[],[],[]⟩
theorem xZeW:xZei.Ok prog:=⟨Is.of (by kernel_rfl) (by kernel_rfl),by kernel_rfl,xZ6 sb_ok bo_ok,trivial,trivial,fun _=>by kernel_rfl⟩
theorem xZey (N:Nat):xZ8F.Ok prog N:=xZeW.give tb_ok hm N N (fun _=>trivial) fun a r s h=>by
 exact s.main [] trivial (.trans (by kernel_rfl) h)
noncomputable def xZfu:Fn xZ9D:=⟨f28,[],⟨[],[],sbf,bof⟩,fun _=>[xZ8F],[true],none,0,0,fun _ _=>true,none,[],[],[]⟩
theorem xZgt:xZfu.Ok prog:=⟨Is.of (by kernel_rfl) (by kernel_rfl),by kernel_rfl,xZ6 sb_ok bo_ok,trivial,trivial,fun _=>by kernel_rfl⟩
theorem xZfX (N:Nat):xZ9D.Ok prog N:=xZgt.give tb_ok hm N N (fun _=>⟨xZey N,trivial⟩) fun a r s h=>by
 have l0:=s.loop 0 xZ5m (xZan N) N fun next0 h0=>by
  exact fun c v=>s.seg 0 xZ5m [(0,.of xZ5m next0)] ⟨h0,trivial⟩ (by kernel_rfl) (by kernel_rfl)
 exact s.main [(0,.of xZ5m (xZdX N))] ⟨l0,trivial⟩ (.trans (by kernel_rfl) h)
noncomputable def xZfv:Fn xZ9E:=⟨f7,[],⟨[],[],sbf,bof⟩,fun _=>[xZ9D],[true],none,0,0,fun _ _=>true,none,[],[],[]⟩
theorem xZgu:xZfv.Ok prog:=⟨Is.of (by kernel_rfl) (by kernel_rfl),by kernel_rfl,xZ6 sb_ok bo_ok,trivial,trivial,fun _=>by kernel_rfl⟩
theorem xZfY (N:Nat):xZ9E.Ok prog N:=xZgu.give tb_ok hm N N (fun _=>⟨xZfX N,trivial⟩) fun a r s h=>by
 have l0:=s.loop 0 xZ5n (xZao N) N fun next0 h0=>by
  exact fun c v=>s.seg 0 xZ5n [(0,.of xZ5n next0)] ⟨h0,trivial⟩ (by kernel_rfl) (by kernel_rfl)
 exact s.main [(0,.of xZ5n (xZdY N))] ⟨l0,trivial⟩ (.trans (by kernel_rfl) h)
noncomputable def xZhH:Fn xZaR:=⟨f41,[],⟨[],[],sbf,bof⟩,fun _=>[],[true],none,0,0,fun _ _=>true,none,[],[],[]⟩
theorem xZi5:xZhH.Ok prog:=⟨Is.of (by kernel_rfl) (by kernel_rfl),by kernel_rfl,xZ6 sb_ok bo_ok,trivial,trivial,fun _=>by kernel_rfl⟩
theorem xZhS (N:Nat):xZaR.Ok prog N:=xZi5.give tb_ok hm N N (fun _=>trivial) fun a r s h=>by
 exact s.main [] trivial (.trans (by kernel_rfl) h)
noncomputable def xZhF:Fn xZ9e:=⟨f16,[],⟨[],[],sbf,bof⟩,fun _=>[xZaR],[true],none,0,0,fun _ _=>true,none,[],[],[]⟩
theorem xZi3:xZhF.Ok prog:=⟨Is.of (by kernel_rfl) (by kernel_rfl),by kernel_rfl,xZ6 sb_ok bo_ok,trivial,trivial,fun _=>by kernel_rfl⟩
theorem xZd9 (N:Nat):xZ9e.Ok prog N:=xZi3.give tb_ok hm N N (fun _=>⟨xZhS N,trivial⟩) fun a r s h=>by
 have l0:=s.loop 0 xZ6z (xZbx N) N fun next0 h0=>by
  exact fun c v=>s.seg 0 xZ6z [(0,.of xZ6z next0)] ⟨h0,trivial⟩ (by kernel_rfl) (by kernel_rfl)
 exact s.main [(0,.of xZ6z (xZfe N))] ⟨l0,trivial⟩ (.trans (by kernel_rfl) h)
noncomputable def xZad:Fn xZ4a:=⟨f76,[],⟨[],[],sbf,bof⟩,fun _=>[],[true],none,1,0,fun _ _=>true,none,[],[],[]⟩
theorem xZaE:xZad.Ok prog:=⟨Is.of (by kernel_rfl) (by kernel_rfl),by kernel_rfl,xZ6 sb_ok bo_ok,trivial,trivial,fun _=>by kernel_rfl⟩
theorem xZah (N:Nat):xZ4a.Ok prog N:=xZaE.give tb_ok hm N N (fun _=>trivial) fun a r s h=>by
 exact s.main [] trivial (.trans (by kernel_rfl) h)
noncomputable def xZ4x:Fn xZ1a:=⟨f112,[],⟨[],[],sbf,bof⟩,fun _=>[xZ4a],[true],none,1,0,fun _ _=>true,none,[],[],[]⟩
theorem xZ4z:xZ4x.Ok prog:=⟨Is.of (by kernel_rfl) (by kernel_rfl),by kernel_rfl,xZ6 sb_ok bo_ok,trivial,trivial,fun _=>by kernel_rfl⟩
theorem xZ4y (N:Nat):xZ1a.Ok prog N:=xZ4z.give tb_ok hm N N (fun _=>⟨xZah N,trivial⟩) fun a r s h=>by
 have l0:=s.loop 0 xZA (xZ1S N) N fun next0 h0=>by
  exact fun c v=>s.seg 0 xZA [(0,.of xZA next0)] ⟨h0,trivial⟩ (by kernel_rfl) (by kernel_rfl)
 exact s.main [(0,.of xZA (xZ49 N))] ⟨l0,trivial⟩ (.trans (by kernel_rfl) h)
noncomputable def xZ3O:Fn xZX:=⟨f75,[],⟨[],[],sbf,bof⟩,fun _=>[xZ1a],[true],none,1,0,fun _ _=>true,none,[],[],[]⟩
theorem xZ3R:xZ3O.Ok prog:=⟨Is.of (by kernel_rfl) (by kernel_rfl),by kernel_rfl,xZ6 sb_ok bo_ok,trivial,trivial,fun _=>by kernel_rfl⟩
theorem xZ3Q (N:Nat):xZX.Ok prog N:=xZ3R.give tb_ok hm N N (fun _=>⟨xZ4y N,trivial⟩) fun a r s h=>by
 exact s.main [] trivial (.trans (by kernel_rfl) h)
noncomputable def xZhG:Fn xZaQ:=⟨f49,[],⟨[],[],sbf,bof⟩,fun _=>[xZ9e,xZX],[true],none,0,0,fun _ _=>true,none,[],[],[]⟩
theorem xZi4:xZhG.Ok prog:=⟨Is.of (by kernel_rfl) (by kernel_rfl),by kernel_rfl,xZ6 sb_ok bo_ok,trivial,trivial,fun _=>by kernel_rfl⟩
theorem xZhR (N:Nat):xZaQ.Ok prog N:=xZi4.give tb_ok hm N N (fun _=>⟨xZd9 N,xZ3Q N,trivial⟩) fun a r s h=>by
 exact s.main [] trivial (.trans (by kernel_rfl) h)
noncomputable def xZeh:Fn xZ8E:=⟨f44,[],⟨[],[],sbf,bof⟩,fun _=>[],[true],none,0,0,fun _ _=>true,none,[],[],[]⟩
theorem xZeV:xZeh.Ok prog:=⟨Is.of (by kernel_rfl) (by kernel_rfl),by kernel_rfl,xZ6 sb_ok bo_ok,trivial,trivial,fun _=>by kernel_rfl⟩
theorem xZex (N:Nat):xZ8E.Ok prog N:=xZeV.give tb_ok hm N N (fun _=>trivial) fun a r s h=>by
 exact s.main [] trivial (.trans (by kernel_rfl) h)
noncomputable def xZcg:Fn xZ4b:=⟨f51,[],⟨[(2000007,11)],[],sbf,bof⟩,fun _=>[],[true],none,0,0,fun _ _=>true,none,[],[],[]⟩
theorem xZcD:xZcg.Ok prog:=⟨Is.of (by kernel_rfl) (by kernel_rfl),by kernel_rfl,xZ6 sb_ok bo_ok,trivial,trivial,fun _=>by kernel_rfl⟩
theorem xZ8Q (N:Nat):xZ4b.Ok prog N:=xZcD.give tb_ok hm N N (fun _=>trivial) fun a r s h=>by
 exact s.main [] trivial (.trans (by kernel_rfl) h)
noncomputable def xZbI:Fn xZ54:=⟨f113,[],⟨[(2000007,11),(2000013,11)],[],sbf,bof⟩,fun _=>[],[true],none,0,0,fun _ _=>true,none,[],[],[]⟩
theorem xZbY:xZbI.Ok prog:=⟨Is.of (by kernel_rfl) (by kernel_rfl),by kernel_rfl,xZ6 sb_ok bo_ok,trivial,trivial,fun _=>by kernel_rfl⟩
theorem xZbQ (N:Nat):xZ54.Ok prog N:=xZbY.give tb_ok hm N N (fun _=>trivial) fun a r s h=>by
 exact s.main [] trivial (.trans (by kernel_rfl) h)
noncomputable def xZ8u:Fn xZ2C:=⟨f77,[],⟨[],[],sbf,bof⟩,fun _=>[xZ4b,xZ54],[true],none,1,1,fun _ _=>true,none,[],[],[]⟩
theorem xZ8z:xZ8u.Ok prog:=⟨Is.of (by kernel_rfl) (by kernel_rfl),by kernel_rfl,xZ6 sb_ok bo_ok,trivial,trivial,fun _=>by kernel_rfl⟩
theorem xZ8w (N:Nat):xZ2C.Ok prog N:=xZ8z.give tb_ok hm N N (fun _=>⟨xZ8Q N,xZbQ N,trivial⟩) fun a r s h=>by
 have l0:=s.loop 0 xZ1D (xZ43 N) N fun next0 h0=>by
  exact fun c v=>s.seg 0 xZ1D [(0,.of xZ1D next0)] ⟨h0,trivial⟩ (by kernel_rfl) (by kernel_rfl)
 exact s.main [(0,.of xZ1D (xZ7G N))] ⟨l0,trivial⟩ (.trans (by kernel_rfl) h)
noncomputable def xZcU:Fn xZ4T:=⟨f78,[],⟨[],[],sbf,bof⟩,fun _=>[],[true],none,0,0,fun _ _=>true,none,[],[],[]⟩
theorem xZd0:xZcU.Ok prog:=⟨Is.of (by kernel_rfl) (by kernel_rfl),by kernel_rfl,xZ6 sb_ok bo_ok,trivial,trivial,fun _=>by kernel_rfl⟩
theorem xZ9w (N:Nat):xZ4T.Ok prog N:=xZd0.give tb_ok hm N N (fun _=>trivial) fun a r s h=>by
 exact s.main [] trivial (.trans (by kernel_rfl) h)
noncomputable def xZ8v:Fn xZO:=⟨f50,[],⟨[],[],sbf,bof⟩,fun _=>[xZ8E,xZ2C,xZ9e,xZO,xZ4T,xZ2B],[true],none,1,1,fun _ _=>true,some EqR.cls,[],[],[]⟩
theorem xZ4E:xZ8v.Ok prog:=⟨Is.of (by kernel_rfl) (by kernel_rfl),by kernel_rfl,xZ6 sb_ok bo_ok,trivial,trivial,fun _=>by kernel_rfl⟩
noncomputable def xZ8t:Fn xZ2B:=⟨f79,[],⟨[],[],sbf,bof⟩,fun _=>[xZO,xZ4T],[true],none,1,1,fun _ _=>true,some EqR.cls,[],[],[]⟩
theorem xZ4D:xZ8t.Ok prog:=⟨Is.of (by kernel_rfl) (by kernel_rfl),by kernel_rfl,xZ6 sb_ok bo_ok,trivial,trivial,fun _=>by kernel_rfl⟩
theorem xZ4j:∀ N,xZO.Ok prog N∧xZ2B.Ok prog N
 | 0=>⟨⟨xZ4E.is.enters,fun a r h=>by (have h:none=some r:=h;cases h)⟩,⟨xZ4D.is.enters,fun a r h=>by (have h:none=some r:=h;cases h)⟩⟩
 | N+1=>by
   obtain ⟨h_core_reader_tree_v853,h_core_reader_loop_v853⟩:=xZ4j N
   refine ⟨?_,?_⟩
   ·exact xZ4E.give tb_ok hm N (N+1) (fun _=>⟨xZex N,xZ8w N,xZd9 N,h_core_reader_tree_v853,xZ9w N,h_core_reader_loop_v853,trivial⟩) fun a r s h=>by
     exact s.main [] trivial (.trans (by kernel_rfl) h)
   ·exact xZ4D.give tb_ok hm N (N+1) (fun _=>⟨h_core_reader_tree_v853,xZ9w N,trivial⟩) fun a r s h=>by
     have l0:=s.loop 0 xZ1C (xZ42 N) N fun next0 h0=>by
      exact fun c v=>s.seg 0 xZ1C [(0,.of xZ1C next0)] ⟨h0,trivial⟩ (by kernel_rfl) (by kernel_rfl)
     exact s.main [(0,.of xZ1C (xZ7F N))] ⟨l0,trivial⟩ (.trans (by kernel_rfl) h)
theorem xZ8x (N:Nat):xZO.Ok prog N:=(xZ4j N).1
end
end Go.Proofs.YtmllclbhdmajmaaGreat.K
namespace Go.Proofs.YtmllclbhdmajmaaGreat.K
open Go
open Go.Proofs.Tryz
set_option maxRecDepth 1000000
set_option linter.unusedSimpArgs false
set_option linter.unusedVariables false
noncomputable section
noncomputable def xZdn:Fn xZ5e:=⟨f23,[],⟨[(3000105,12)],[],sbf,bof⟩,fun _=>[xZaQ,xZO,xZ4b],[true],none,0,0,fun _ _=>true,none,[],[],[]⟩
theorem xZdP:xZdn.Ok prog:=⟨Is.of (by kernel_rfl) (by kernel_rfl),by kernel_rfl,xZ6 sb_ok bo_ok,trivial,trivial,fun _=>by kernel_rfl⟩
theorem xZ7V (N:Nat):xZ5e.Ok prog N:=xZdP.give tb_ok hm N N (fun _=>⟨xZhR N,xZ8x N,xZ8Q N,trivial⟩) fun a r s h=>by
 exact s.main [] trivial (.trans (by kernel_rfl) h)
theorem xZ81 (N:Nat):xZ4d.Ok prog N:=xZlT (te:=63) (tb:=4) (e:=138) (CloneIs.of (fn:=f104) (by kernel_rfl) (by kernel_rfl) (by kernel_rfl) (by kernel_rfl) (by kernel_rfl) (by kernel_rfl) (by decide)) hm N
theorem xZ3r (N:Nat):xZ24.Ok prog N:=xZka (te:=63) (tb:=4) (e:=138) (CloneIs.of (fn:=f104) (by kernel_rfl) (by kernel_rfl) (by kernel_rfl) (by kernel_rfl) (by kernel_rfl) (by kernel_rfl) (by decide)) hm N
noncomputable def xZ66:Fn xZn:=⟨f177,[],⟨[],[],sbf,bof⟩,fun _=>[],[true],none,1,0,fun _ _=>true,none,[],[],[]⟩
theorem xZ6d:xZ66.Ok prog:=⟨Is.of (by kernel_rfl) (by kernel_rfl),by kernel_rfl,xZ6 sb_ok bo_ok,trivial,trivial,fun _=>by kernel_rfl⟩
theorem xZJ (N:Nat):xZn.Ok prog N:=xZ6d.give tb_ok hm N N (fun _=>trivial) fun a r s h=>by
 exact s.main [] trivial (.trans (by kernel_rfl) h)
noncomputable def xZ5N:Fn xZ1M:=⟨f167,[],⟨[],[],sbf,bof⟩,fun _=>[],[true],none,1,0,fun _ _=>true,none,[],[],[]⟩
theorem xZ5P:xZ5N.Ok prog:=⟨Is.of (by kernel_rfl) (by kernel_rfl),by kernel_rfl,xZ6 sb_ok bo_ok,trivial,trivial,fun _=>by kernel_rfl⟩
theorem xZ2S (N:Nat):xZ1M.Ok prog N:=xZ5P.give tb_ok hm N N (fun _=>trivial) fun a r s h=>by
 exact s.main [] trivial (.trans (by kernel_rfl) h)
noncomputable def xZ65:Fn xZv:=⟨f182,[],⟨[],[],sbf,bof⟩,fun _=>[xZ1M],[],none,1,0,fun _ _=>true,none,[],[],[]⟩
theorem xZ6c:xZ65.Ok prog:=⟨Is.of (by kernel_rfl) (by kernel_rfl),by kernel_rfl,xZ6 sb_ok bo_ok,trivial,trivial,fun _=>by kernel_rfl⟩
theorem xZ1e (N:Nat):xZv.Ok prog N:=xZ6c.give tb_ok hm N N (fun _=>⟨xZ2S N,trivial⟩) fun a r s h=>by
 exact s.main [] trivial (.trans (by kernel_rfl) h)
noncomputable def xZ5f:Fn xZ1I:=⟨f181,[],⟨[],[],sbf,bof⟩,fun _=>[xZn,xZv],[],none,1,0,fun _ _=>true,none,[],[],[]⟩
theorem xZ5j:xZ5f.Ok prog:=⟨Is.of (by kernel_rfl) (by kernel_rfl),by kernel_rfl,xZ6 sb_ok bo_ok,trivial,trivial,fun _=>by kernel_rfl⟩
theorem xZ5g (N:Nat):xZ1I.Ok prog N:=xZ5j.give tb_ok hm N N (fun _=>⟨xZJ N,xZ1e N,trivial⟩) fun a r s h=>by
 exact s.main [] trivial (.trans (by kernel_rfl) h)
noncomputable def xZ6R:Fn xZq:=⟨f173,[],⟨[],[],sbf,bof⟩,fun _=>[xZn],[true],none,1,0,fun _ _=>true,none,[],[],[]⟩
theorem xZ70:xZ6R.Ok prog:=⟨Is.of (by kernel_rfl) (by kernel_rfl),by kernel_rfl,xZ6 sb_ok bo_ok,trivial,trivial,fun _=>by kernel_rfl⟩
theorem xZQ (N:Nat):xZq.Ok prog N:=xZ70.give tb_ok hm N N (fun _=>⟨xZJ N,trivial⟩) fun a r s h=>by
 exact s.main [] trivial (.trans (by kernel_rfl) h)
noncomputable def xZ7u:Fn xZ2e:=⟨f178,[],⟨[],[],sbf,bof⟩,fun _=>[xZ1U],[true],none,0,0,fun _ _=>true,none,[],[],[]⟩
theorem xZ7D:xZ7u.Ok prog:=⟨Is.of (by kernel_rfl) (by kernel_rfl),by kernel_rfl,xZ6 sb_ok bo_ok,trivial,trivial,fun _=>by kernel_rfl⟩
theorem xZ7z (N:Nat):xZ2e.Ok prog N:=xZ7D.give tb_ok hm N N (fun _=>⟨xZ3h N,trivial⟩) fun a r s h=>by
 have l2:=s.loop 2 xZ1h (xZ3k N) N fun next2 h2=>by
  exact fun c v=>s.seg 2 xZ1h [(2,.of xZ1h next2)] ⟨h2,trivial⟩ (by kernel_rfl) (by kernel_rfl)
 have l0:=s.loop 0 xZ1g (xZ3j N) N fun next0 h0=>by
  exact fun c v=>s.seg 0 xZ1g [(0,.of xZ1g next0),(2,.of xZ1h (xZ6j N))] ⟨h0,l2,trivial⟩ (by kernel_rfl) (by kernel_rfl)
 exact s.main [(0,.of xZ1g (xZ6i N))] ⟨l0,trivial⟩ (.trans (by kernel_rfl) h)
noncomputable def xZch:Fn xZ2d:=⟨f174,[],⟨[(6,1)],[],sbf,bof⟩,fun _=>[xZ2e],[true],none,0,0,fun _ _=>true,none,[],[],[]⟩
theorem xZcE:xZch.Ok prog:=⟨Is.of (by kernel_rfl) (by kernel_rfl),by kernel_rfl,xZ6 sb_ok bo_ok,trivial,trivial,fun _=>by kernel_rfl⟩
theorem xZ4h (N:Nat):xZ2d.Ok prog N:=xZcE.give tb_ok hm N N (fun _=>⟨xZ7z N,trivial⟩) fun a r s h=>by
 exact s.main [] trivial (.trans (by kernel_rfl) h)
noncomputable def xZ68:Fn xZ1d:=⟨f185,[],⟨[],[],sbf,bof⟩,fun _=>[xZn,xZv],[true],none,1,0,fun _ _=>true,none,[],[],[]⟩
theorem xZ6e:xZ68.Ok prog:=⟨Is.of (by kernel_rfl) (by kernel_rfl),by kernel_rfl,xZ6 sb_ok bo_ok,trivial,trivial,fun _=>by kernel_rfl⟩
theorem xZ3g (N:Nat):xZ1d.Ok prog N:=xZ6e.give tb_ok hm N N (fun _=>⟨xZJ N,xZ1e N,trivial⟩) fun a r s h=>by
 exact s.main [] trivial (.trans (by kernel_rfl) h)
noncomputable def xZ69:Fn xZ1T:=⟨f187,[],⟨[(24,1),(40,1),(51,1),(54,1)],[],sbf,bof⟩,fun _=>[xZq,xZn,xZv,xZ1d],[true],none,1,0,fun _ _=>true,none,[],[],[]⟩
theorem xZ6f:xZ69.Ok prog:=⟨Is.of (by kernel_rfl) (by kernel_rfl),by kernel_rfl,xZ6 sb_ok bo_ok,trivial,trivial,fun _=>by kernel_rfl⟩
theorem xZ6b (N:Nat):xZ1T.Ok prog N:=xZ6f.give tb_ok hm N N (fun _=>⟨xZQ N,xZJ N,xZ1e N,xZ3g N,trivial⟩) fun a r s h=>by
 exact s.main [] trivial (.trans (by kernel_rfl) h)
noncomputable def xZ6S:Fn xZ21:=⟨f183,[],⟨[(14,6),(23,6)],[],sbf,bof⟩,fun _=>[xZ1T,xZq,xZ2d],[true],none,1,0,fun _ _=>true,none,[],[],[]⟩
theorem xZ71:xZ6S.Ok prog:=⟨Is.of (by kernel_rfl) (by kernel_rfl),by kernel_rfl,xZ6 sb_ok bo_ok,trivial,trivial,fun _=>by kernel_rfl⟩
theorem xZ6W (N:Nat):xZ21.Ok prog N:=xZ71.give tb_ok hm N N (fun _=>⟨xZ6b N,xZQ N,xZ4h N,trivial⟩) fun a r s h=>by
 have l0:=s.loop 0 xZ16 (xZ2W N) N fun next0 h0=>by
  exact fun c v=>s.seg 0 xZ16 [(0,.of xZ16 next0)] ⟨h0,trivial⟩ (by kernel_rfl) (by kernel_rfl)
 exact s.main [(0,.of xZ16 (xZ5R N))] ⟨l0,trivial⟩ (.trans (by kernel_rfl) h)
noncomputable def xZdm:Fn xZ5d:=⟨f164,[],⟨[],[],sbf,bof⟩,fun _=>[],[true],none,0,0,fun _ _=>true,none,[],[],[]⟩
theorem xZdO:xZdm.Ok prog:=⟨Is.of (by kernel_rfl) (by kernel_rfl),by kernel_rfl,xZ6 sb_ok bo_ok,trivial,trivial,fun _=>by kernel_rfl⟩
theorem xZag (N:Nat):xZ5d.Ok prog N:=xZdO.give tb_ok hm N N (fun _=>trivial) fun a r s h=>by
 exact s.main [] trivial (.trans (by kernel_rfl) h)
noncomputable def xZfs:Fn xZ9B:=⟨f184,[],⟨[],[],sbf,bof⟩,fun _=>[xZ5d],[true],none,0,0,fun _ _=>true,none,[],[],[]⟩
theorem xZgr:xZfs.Ok prog:=⟨Is.of (by kernel_rfl) (by kernel_rfl),by kernel_rfl,xZ6 sb_ok bo_ok,trivial,trivial,fun _=>by kernel_rfl⟩
theorem xZfV (N:Nat):xZ9B.Ok prog N:=xZgr.give tb_ok hm N N (fun _=>⟨xZag N,trivial⟩) fun a r s h=>by
 have l0:=s.loop 0 xZ5l (xZam N) N fun next0 h0=>by
  exact fun c v=>s.seg 0 xZ5l [(0,.of xZ5l next0)] ⟨h0,trivial⟩ (by kernel_rfl) (by kernel_rfl)
 exact s.main [(0,.of xZ5l (xZdW N))] ⟨l0,trivial⟩ (.trans (by kernel_rfl) h)
end
end Go.Proofs.YtmllclbhdmajmaaGreat.K
