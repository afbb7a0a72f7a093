/- slices.Grow of nothing, walked. No premise beyond what each theorem says. -/
import Derived.Test.YtbanfalnbhcknaaGreatDoorHG2
import Derived.WalkKit
import Derived.Lib.Walk
import Derived.Lib.SliceRun
import Derived.Lib.AppendZerosOnto
import Derived.WalkLawsBesides
import Derived.Deep.RegionHeld3
import Derived.LaidEql
import Derived.Stop.Asserts
import Derived.RowKitTokens
set_option linter.all false
set_option linter.unusedSimpArgs false
set_option linter.unusedVariables false
set_option linter.unusedVariables false
set_option linter.unusedSimpArgs false
namespace Go.Proofs.YtbanfalnbhcknaaGreatDoor.H
open Go Go.RowKit Go.Lib Go.Proofs.Tryz
set_option maxHeartbeats 4000000
set_option maxRecDepth 1000000
theorem xZnP (a:Option Addr) (w:World):Calls Tryz.prog 171 #[.slice a 0 0,.int .i64 0] w fun e w'=>e=.returned (.slice a 0 0)∧w'=w:=by
 go_enter Tryz.func171,Tryz.ntmps171
 go_wp2
 go_ret
 exact ⟨rfl,rfl⟩
theorem xZnQ (i0:TypeInfo) (z:Value) (hu:Tryz.prog.underlying 33=some (.slice 50)) (hi0:Tryz.prog.info? 50=some i0) (hz0:i0.zero=some z) (hs0:0 < i0.size) (n:Nat) (h0:0 < n) (hbig:n * i0.bytes≤140737488355328) (h63:n≤4611686018427387904) (a:Option Addr) (w:World):
 Calls Tryz.prog 171 #[.slice a 0 0,.int .i64 n] w fun e w'=>e=.returned (.slice (some ⟨w.heap.size,0,none⟩) 0 (grownCap w n 0 50))∧
  w'=w.drew.alloc (.cells (#[]++Builtin.zeroCells z.cells n++Builtin.zeroCells z.cells (grownCap w n 0 50 - n)) 50):=by
 have h1:¬ ((n:Int) < 0):=by omega
 have h4:(n:Int) > 0:=by omega
 have z25:∀ w,(Go.sizeOf 50).run Tryz.prog w=.ok i0.size w:=fun w=>by simp [Go.sizeOf,typeInfo,hi0]
 have hrz:∀ ty,(Builtin.append_ #[33,3] ty #[.slice a 0 0,.int .i64 n]).run Tryz.prog w=
  .ok (.slice (some ⟨w.heap.size,0,none⟩) n (grownCap w n 0 50)) (w.drew.alloc (.cells (#[]++Builtin.zeroCells z.cells n++Builtin.zeroCells z.cells (grownCap w n 0 50 - n)) 50)):=fun ty=>by
  have hold:(Builtin.firstCells i0.size 0 (.slice a 0 0)).run Tryz.prog w.drew=.ok ([]:List Value).toArray w.drew:=by
   cases a with
   | none=>exact run_firstCells_none w.drew i0.size 0 0 0
   | some a=>exact run_firstCells_some w.drew i0.size 0 a 0 0 [] (by simp) (fun j v hj=>by cases hj)
  have h:=Lib.run_append_grow_zeros w 33 3 ty 50 i0 z .i64 .i64 hu Tryz.underlying3 hi0 hz0 a 0 0 [] hold n h0 hs0 (by omega) (by omega) (by omega) (by
   rw [Nat.zero_add];exact growslice_fits (by omega) (by omega))
  rw [Nat.zero_add] at h
  exact h
 have hGn:n≤grownCap w n 0 50:=grownCap_ge w _ _ _
 obtain ⟨G,hG⟩:∃ G,G=grownCap w n 0 50:=⟨_,rfl⟩
 rw [← hG] at hrz hGn ⊢
 have hG63:G≤9223372036854775807:=by
  have:=grownCap_le_maxLen w n 0 50 (by unfold maxLen;omega)
  rw [← hG] at this
  unfold maxLen at this
  omega
 clear hG
 go_enter Tryz.func171,Tryz.ntmps171
 cases a with
 | none=>
   go_wp2_with (at_builtin;refine Lib.wpList_append_run _ rfl _ _ _ _ rfl _ _ rfl rfl _ _ (hrz _) ?_)
   all_goals (go_ret;exact ⟨rfl,rfl⟩)
 | some a=>
   obtain ⟨ab,ao,asp⟩:=a
   go_wp2_with (at_builtin;refine Lib.wpList_append_run _ rfl _ _ _ _ rfl _ _ rfl rfl _ _ (hrz _) ?_)
   all_goals (go_ret;exact ⟨rfl,rfl⟩)
theorem xZ3r (N:Nat):xZ24.Ok prog N:=by
 refine ⟨⟨Tryz.f171,Tryz.func171,by kernel_rfl,by kernel_rfl⟩,fun a r h=>?_⟩
 obtain ⟨⟨⟨⟩,n,⟨⟩⟩,⟨⟩,⟨⟩⟩:=a
 have h:xZ1o N n=some r:=h
 unfold xZ1o at h
 obtain ⟨hn0,h⟩:=xZ1a h
 obtain ⟨hnb,h⟩:=xZ1a h
 have hn0:=xZ1D.1 hn0
 have hnb:=xZ1D.1 hnb
 obtain rfl:=Option.some.inj h
 intro M S w vs hh _ hsz hrep
 obtain ⟨v,u,rfl⟩:∃ v u,vs=#[v,u]:=by
  match vs,hsz with
  | ⟨[v,u]⟩,_=>exact ⟨v,u,rfl⟩
 obtain ⟨ad,rfl⟩:∃ ad,v=.slice ad 0 0:=by
  have q:VRep M S w v .emp:=hrep 0 (Nat.zero_lt_succ 1)
  cases q with
  | data q=>cases q;exact ⟨_,rfl⟩
 have e1:u=.int .i64 n:=VRep.v_eq (hrep 1 (Nat.lt_succ_self 1))
 subst e1
 obtain ⟨m,rfl⟩:∃ m:Nat,n=m:=⟨n.toNat,by omega⟩
 have fin:∀ (g:Value) (w':World),Grew w w'→LiveRep S w' g 8 []→(∀ b,Value.blk g=some b→w.heap.size≤b)→(∃ a n c,g=.slice a n c)→
  ∃ M' S',EndRep M' S' w' (.returned g) (.ret (.own 0))∧RelH M' S' ⟨[],[.live 8 []]⟩ w'∧Frm M S AH.nil w M' S' ⟨[],[.live 8 []]⟩ w':=by
  intro g w' hg hl hb hs
  obtain ⟨h1,h2⟩:=hh.addTok hg hl hb
  exact ⟨_,S,xZ5s hh.nt hs,h1,h2⟩
 by_cases hm:m=0
 ·subst hm
  refine (xZnP ad w).mono ?_
  rintro e w' ⟨rfl,rfl⟩
  exact fin _ _ (.refl _) (.inl ⟨⟨_,rfl⟩,rfl⟩) (fun b hb=>by cases ad<;>cases hb) ⟨_,_,_,rfl⟩
 ·obtain ⟨ks,x,hx⟩:∃ ks x,cMk prog 33 ks=some (x,8,80):=⟨[0,0,0,0,0,0,0,0],eA4 (xZ1.mk 0 0 [] [] (xZ0.mk 0 0 0 [])),by kernel_rfl⟩
  obtain ⟨e,i,z,hu,hi,hz,q1,q2,q3,q4,hx⟩:=xZlE hx
  simp only [Prod.mk.injEq] at hx
  obtain ⟨-,hs8,hb80⟩:=hx
  have he:e=50:=by
   have:prog.underlying 33=some (.slice 50):=by kernel_rfl
   rw [this] at hu;cases hu;rfl
  subst he
  refine (xZnQ i z hu hi hz q3 m (by omega) (by rw [← hb80];omega) (by omega) ad w).mono ?_
  rintro e w' ⟨rfl,rfl⟩
  have hge:=grownCap_ge w m 0 50
  have hle:=grownCap_le_maxLen w m 0 50 (by unfold maxLen;omega)
  have hG:=Grew.drew_alloc w (.cells (#[]++Builtin.zeroCells z.cells m++Builtin.zeroCells z.cells (grownCap w m 0 50 - m)) 50)
  generalize grownCap w m 0 50=G at *
  obtain ⟨q,rfl⟩:∃ q,G=q+1:=⟨G - 1,by omega⟩
  refine fin _ _ hG (.inr ⟨w.heap.size,q,_,50,rfl,fun h=>by have:=hh.sits _ h;omega,xZ3B _ _,⟨Nat.zero_le _,hle,?_,fun i hi=>absurd hi (Nat.not_lt_zero _),fun i hi=>absurd hi (Nat.not_lt_zero _),fun i hi=>absurd hi (Nat.not_lt_zero _)⟩⟩) (fun b hb=>by cases hb;exact Nat.le_refl _) ⟨_,_,_,rfl⟩
  rw [Array.size_append,Array.size_append,size_zeroCells,size_zeroCells,q2,← hs8,Array.size_empty]
  omega
end Go.Proofs.YtbanfalnbhcknaaGreatDoor.H
set_option linter.unusedVariables false
set_option linter.unusedSimpArgs false
namespace Go.Proofs.YtbanfalnbhcknaaGreatDoor.H
open Go Go.RowKit Go.Proofs.Tryz
set_option maxHeartbeats 4000000
set_option maxRecDepth 1000000
theorem xZiJ {M:Maps} {S:Nat→Prop} {w:World} {v:Value} {l:List Value} (h:VRep M S w v (.agg (l.map .v))):v=.agg l.toArray:=by
 have key:∀ vs:Array Value,vs.size=(l.map AV.v).length→(∀ i,i < (l.map AV.v).length→VRep M S w (vs.getD i undef) ((l.map AV.v).getD i .any))→vs=l.toArray:=fun vs hn hall=>by
  rw [List.length_map] at hn
  refine Array.ext (by simpa using hn) fun i h1 h2=>?_
  have hi:i < l.length:=by omega
  have q:=hall i (by simpa using hi)
  rw [show (l.map AV.v).getD i .any=.v l[i] by simp [List.getD,hi]] at q
  have:=q.v_eq
  simpa [Array.getD,h1] using this
 cases h with
 | data h=>cases h with | agg vs _ hn hall=>exact congrArg _ (key vs hn fun i hi=>.data (hall i hi))
 | agg vs _ hn hall=>exact congrArg _ (key vs hn hall)
theorem xZe7 (w:World) (a b:Obj):Grew w ((w.alloc a).alloc b):=⟨rfl,rfl,rfl,by simp;omega,fun g h=>(xZ25 _ _ g (by simp;omega)).trans (xZ25 _ _ g h)⟩
theorem xZmd (w:World) (a b:Obj):Grew w ((w.alloc a).alloc b).drew:=⟨rfl,rfl,rfl,by simp;omega,fun g h=>(xZ25 _ _ g (by simp;omega)).trans (xZ25 _ _ g h)⟩
theorem xZdN (l:List UInt8):(bs l).toList=[] ↔ l=[]:=by simp [bs]
theorem xZtM (o vk vn vb:Int) (va na vt:List UInt8) (w:World):
 Calls Tryz.prog 41 #[.agg #[.int .u8 4,.int .u8 o,.string (bs va),.string (bs na),.int .u8 vk,.int .i64 vn,.int .u64 vb,.string (bs vt)]] w fun e w'=>(∃ b,e=.returned (.bool b)∧(b=false ↔ (va=[]∧na=[]∧0=vk∧0=vn∧0=vb∧vt=[])))∧Grew w w':=by
 rw [← xZdN vt,← xZdN va,← xZdN na]
 go_enter Tryz.func41,Tryz.ntmps41
 go_wp2
 all_goals
  go_ret
  refine ⟨⟨_,rfl,?_⟩,xZe7 _ _ _⟩
  simp_all
theorem xZtN (o vk vn vb:Int) (va na vt:List UInt8) (w:World):
 Calls Tryz.prog 41 #[.agg #[.int .u8 7,.int .u8 o,.string (bs va),.string (bs na),.int .u8 vk,.int .i64 vn,.int .u64 vb,.string (bs vt)]] w fun e w'=>(∃ b,e=.returned (.bool b)∧(b=false ↔ (0=o∧va=[]∧0=vk∧0=vn∧0=vb∧vt=[])))∧Grew w w':=by
 rw [← xZdN vt,← xZdN va]
 go_enter Tryz.func41,Tryz.ntmps41
 go_wp2
 all_goals
  go_ret
  refine ⟨⟨_,rfl,?_⟩,xZe7 _ _ _⟩
  simp_all
theorem xZtO (o vk vn vb:Int) (va na vt:List UInt8) (w:World):
 Calls Tryz.prog 41 #[.agg #[.int .u8 8,.int .u8 o,.string (bs va),.string (bs na),.int .u8 vk,.int .i64 vn,.int .u64 vb,.string (bs vt)]] w fun e w'=>(∃ b,e=.returned (.bool b)∧(b=false ↔ (0=o∧0=vk∧0=vn∧0=vb∧vt=[])))∧Grew w w':=by
 rw [← xZdN vt]
 go_enter Tryz.func41,Tryz.ntmps41
 go_wp2
 go_region_held3 (fun w'=>w'.cell? ⟨w.heap.size,2,none⟩=some (.string (bs va))∧w'.cell? ⟨w.heap.size,3,none⟩=some (.string (bs na))) (go_keep) (fail)
 go_wp2
 all_goals
  go_ret
  refine ⟨⟨_,rfl,?_⟩,xZmd _ _ _⟩
  simp_all
theorem xZtP (o vk vn vb:Int) (va na vt:List UInt8) (w:World):
 Calls Tryz.prog 41 #[.agg #[.int .u8 9,.int .u8 o,.string (bs va),.string (bs na),.int .u8 vk,.int .i64 vn,.int .u64 vb,.string (bs vt)]] w fun e w'=>(∃ b,e=.returned (.bool b)∧(b=false ↔ (0=o∧va=[]∧na=[])))∧Grew w w':=by
 rw [← xZdN va,← xZdN na]
 go_enter Tryz.func41,Tryz.ntmps41
 go_wp2
 all_goals
  go_ret
  refine ⟨⟨_,rfl,?_⟩,xZe7 _ _ _⟩
  simp_all
theorem xZtQ (k:Int) (h4:¬ k=4) (h7:¬ k=7) (h8:¬ k=8) (h9:¬ k=9) (o vk vn vb:Int) (va na vt:List UInt8) (w:World):
 Calls Tryz.prog 41 #[.agg #[.int .u8 k,.int .u8 o,.string (bs va),.string (bs na),.int .u8 vk,.int .i64 vn,.int .u64 vb,.string (bs vt)]] w fun e w'=>(∃ b,e=.returned (.bool b)∧(b=false ↔ (0=o∧va=[]∧na=[]∧0=vk∧0=vn∧0=vb∧vt=[])))∧Grew w w':=by
 rw [← xZdN vt,← xZdN va,← xZdN na]
 go_enter Tryz.func41,Tryz.ntmps41
 go_wp2
 all_goals
  go_ret
  refine ⟨⟨_,rfl,?_⟩,xZe7 _ _ _⟩
  simp_all
theorem bf_eq {a b:Bool} {Q:Prop} (h1:a=false ↔ Q) (h2:b=false ↔ Q):b=a:=by cases a<;>cases b<;>simp_all
theorem xZ9s (N:Nat):xZ6l.Ok prog N:=by
 refine ⟨⟨Tryz.f41,Tryz.func41,by kernel_rfl,by kernel_rfl⟩,fun a r h=>?_⟩
 obtain ⟨n,⟨⟩⟩:=a
 have h:some (moreB n)=some r:=h
 obtain rfl:=Option.some.inj h
 intro M S w vs hh _ hsz hrep
 obtain ⟨v,rfl⟩:∃ v,vs=#[v]:=by
  match vs,hsz with
  | ⟨[v]⟩,_=>exact ⟨v,rfl⟩
 obtain ⟨k,o,va,na,vk,vn,vb,vt⟩:=n
 have h0:VRep M S w v (.agg ([.int .u8 k,.int .u8 o,.string (bs va),.string (bs na),.int .u8 vk,.int .i64 vn,.int .u64 vb,.string (bs vt)].map .v)):=hrep 0 (Nat.zero_lt_one)
 obtain rfl:=xZiJ h0
 have fin:∀ {k:Int} {Q:Prop},(moreB ⟨k,o,va,na,⟨vk,vn,vb,vt⟩⟩=false ↔ Q)→∀ e w',((∃ b,e=.returned (.bool b)∧(b=false ↔ Q))∧Grew w w')→
  ∃ M' S',EndRep M' S' w' e (.ret (.v (.bool (moreB ⟨k,o,va,na,⟨vk,vn,vb,vt⟩⟩))))∧RelH M' S' AH.nil w'∧Frm M S AH.nil w M' S' AH.nil w':=by
  rintro k Q hm e w' ⟨⟨b,rfl,hb⟩,hg⟩
  obtain rfl:=bf_eq hm hb
  exact ⟨M,S,.data (.v _),hh.grew hg,.grew hh hg⟩
 by_cases h4:k=4
 ·subst h4
  exact (xZtM o vk vn vb va na vt w).mono (fin (by simp [moreB,moreZ,eq_comm (a:=(0:Int)),and_assoc]))
 by_cases h7:k=7
 ·subst h7
  exact (xZtN o vk vn vb va na vt w).mono (fin (by simp [moreB,moreZ,eq_comm (a:=(0:Int)),and_assoc]))
 by_cases h8:k=8
 ·subst h8
  exact (xZtO o vk vn vb va na vt w).mono (fin (by simp [moreB,moreZ,eq_comm (a:=(0:Int)),and_assoc]))
 by_cases h9:k=9
 ·subst h9
  exact (xZtP o vk vn vb va na vt w).mono (fin (by simp [moreB,moreZ,eq_comm (a:=(0:Int)),and_assoc]))
 have e4:(k==4)=false:=by simpa using h4
 have e7:(k==7)=false:=by simpa using h7
 have e8:(k==8)=false:=by simpa using h8
 have e9:(k==9)=false:=by simpa using h9
 exact (xZtQ k h4 h7 h8 h9 o vk vn vb va na vt w).mono (fin (by simp only [moreB,e4,e7,e8,e9,cond_false];simp [moreZ,eq_comm (a:=(0:Int)),and_assoc]))
end Go.Proofs.YtbanfalnbhcknaaGreatDoor.H
namespace Go.Proofs.YtbanfalnbhcknaaGreatDoor.H
open Go Go.RowKit Go.Extern.Stop Go.Stop Go.Extern Go.Proofs.Tryz
set_option maxHeartbeats 4000000
set_option maxRecDepth 1000000
theorem xZjb (n p:Int) (h:n≠0) (w:World):Calls Tryz.prog 55 #[.int .i64 n,.int .i64 p] w fun e w'=>e=.returned (.iface 204 (.pointer (some ⟨w.heap.size,0,none⟩)))∧w'=w.alloc (.cells #[.int .i64 n,.int .i64 p] 206):=by
 go_enter Tryz.func55,Tryz.ntmps55
 go_wp2
 go_ret
 exact ⟨rfl,rfl⟩
end Go.Proofs.YtbanfalnbhcknaaGreatDoor.H
