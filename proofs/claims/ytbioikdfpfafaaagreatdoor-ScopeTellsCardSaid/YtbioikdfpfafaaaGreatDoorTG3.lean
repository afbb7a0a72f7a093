/- pred.Node.more, walked. No premise beyond what each theorem says. -/
import Derived.Test.YtbioikdfpfafaaaGreatDoorTG2
import Derived.WalkKit
import Derived.WalkLawsBesides
import Derived.Deep.RegionHeld3
import Derived.Lib.Walk
import Derived.Lib.SliceRun
import Derived.Lib.AppendZerosOnto
import Derived.LaidEql
import Derived.Stop.Asserts
import Derived.RowKitTokens
import Derived.Shelf.Slices.In.SortNone
import Derived.Shelf.Slices.In.SortAlone
import Derived.Sort.OwnSorted
import Derived.Sort.EveryDepth
set_option linter.all false
set_option linter.unusedSimpArgs false
set_option linter.unusedVariables false
set_option linter.unusedVariables false
set_option linter.unusedSimpArgs false
namespace Go.Proofs.YtbioikdfpfafaaaGreatDoor.T
open Go Go.RowKit Go.Proofs.Tryz
set_option maxHeartbeats 4000000
set_option maxRecDepth 1000000
theorem xZiN {M:Maps} {S:Nat→Prop} {w:World} {v:Value} {l:List Value} (h:VRep M S w v (.agg (l.map .v))):v=.agg l.toArray:=by
 have key:∀ vs:Array Value,vs.size=(l.map AV.v).length→(∀ i,i < (l.map AV.v).length→VRep M S w (vs.getD i undef) ((l.map AV.v).getD i .any))→vs=l.toArray:=fun vs hn hall=>by
  rw [List.length_map] at hn
  refine Array.ext (by simpa using hn) fun i h1 h2=>?_
  have hi:i < l.length:=by omega
  have q:=hall i (by simpa using hi)
  rw [show (l.map AV.v).getD i .any=.v l[i] by simp [List.getD,hi]] at q
  have:=q.v_eq
  simpa [Array.getD,h1] using this
 cases h with
 | data h=>cases h with | agg vs _ hn hall=>exact congrArg _ (key vs hn fun i hi=>.data (hall i hi))
 | agg vs _ hn hall=>exact congrArg _ (key vs hn hall)
theorem xZeC (w:World) (a b:Obj):Grew w ((w.alloc a).alloc b):=⟨rfl,rfl,rfl,by simp;omega,fun g h=>(xZ1P _ _ g (by simp;omega)).trans (xZ1P _ _ g h)⟩
theorem xZmN (w:World) (a b:Obj):Grew w ((w.alloc a).alloc b).drew:=⟨rfl,rfl,rfl,by simp;omega,fun g h=>(xZ1P _ _ g (by simp;omega)).trans (xZ1P _ _ g h)⟩
theorem xZf3 (l:List UInt8):(bs l).toList=[] ↔ l=[]:=by simp [bs]
theorem xZvm (o vk vn vb:Int) (va na vt:List UInt8) (w:World):
 Calls Tryz.prog 186 #[.agg #[.int .u8 4,.int .u8 o,.string (bs va),.string (bs na),.int .u8 vk,.int .i64 vn,.int .u64 vb,.string (bs vt)]] w fun e w'=>(∃ b,e=.returned (.bool b)∧(b=false ↔ (va=[]∧na=[]∧0=vk∧0=vn∧0=vb∧vt=[])))∧Grew w w':=by
 rw [← xZf3 vt,← xZf3 va,← xZf3 na]
 go_enter Tryz.func186,Tryz.ntmps186
 go_wp2
 all_goals
  go_ret
  refine ⟨⟨_,rfl,?_⟩,xZeC _ _ _⟩
  simp_all
theorem xZvE (o vk vn vb:Int) (va na vt:List UInt8) (w:World):
 Calls Tryz.prog 186 #[.agg #[.int .u8 7,.int .u8 o,.string (bs va),.string (bs na),.int .u8 vk,.int .i64 vn,.int .u64 vb,.string (bs vt)]] w fun e w'=>(∃ b,e=.returned (.bool b)∧(b=false ↔ (0=o∧va=[]∧0=vk∧0=vn∧0=vb∧vt=[])))∧Grew w w':=by
 rw [← xZf3 vt,← xZf3 va]
 go_enter Tryz.func186,Tryz.ntmps186
 go_wp2
 all_goals
  go_ret
  refine ⟨⟨_,rfl,?_⟩,xZeC _ _ _⟩
  simp_all
theorem xZuU (o vk vn vb:Int) (va na vt:List UInt8) (w:World):
 Calls Tryz.prog 186 #[.agg #[.int .u8 8,.int .u8 o,.string (bs va),.string (bs na),.int .u8 vk,.int .i64 vn,.int .u64 vb,.string (bs vt)]] w fun e w'=>(∃ b,e=.returned (.bool b)∧(b=false ↔ (0=o∧0=vk∧0=vn∧0=vb∧vt=[])))∧Grew w w':=by
 rw [← xZf3 vt]
 go_enter Tryz.func186,Tryz.ntmps186
 go_wp2
 go_region_held3 (fun w'=>w'.cell? ⟨w.heap.size,2,none⟩=some (.string (bs va))∧w'.cell? ⟨w.heap.size,3,none⟩=some (.string (bs na))) (go_keep) (fail)
 go_wp2
 all_goals
  go_ret
  refine ⟨⟨_,rfl,?_⟩,xZmN _ _ _⟩
  simp_all
theorem xZvh (o vk vn vb:Int) (va na vt:List UInt8) (w:World):
 Calls Tryz.prog 186 #[.agg #[.int .u8 9,.int .u8 o,.string (bs va),.string (bs na),.int .u8 vk,.int .i64 vn,.int .u64 vb,.string (bs vt)]] w fun e w'=>(∃ b,e=.returned (.bool b)∧(b=false ↔ (0=o∧va=[]∧na=[])))∧Grew w w':=by
 rw [← xZf3 va,← xZf3 na]
 go_enter Tryz.func186,Tryz.ntmps186
 go_wp2
 all_goals
  go_ret
  refine ⟨⟨_,rfl,?_⟩,xZeC _ _ _⟩
  simp_all
theorem xZvb (k:Int) (h4:¬ k=4) (h7:¬ k=7) (h8:¬ k=8) (h9:¬ k=9) (o vk vn vb:Int) (va na vt:List UInt8) (w:World):
 Calls Tryz.prog 186 #[.agg #[.int .u8 k,.int .u8 o,.string (bs va),.string (bs na),.int .u8 vk,.int .i64 vn,.int .u64 vb,.string (bs vt)]] w fun e w'=>(∃ b,e=.returned (.bool b)∧(b=false ↔ (0=o∧va=[]∧na=[]∧0=vk∧0=vn∧0=vb∧vt=[])))∧Grew w w':=by
 rw [← xZf3 vt,← xZf3 va,← xZf3 na]
 go_enter Tryz.func186,Tryz.ntmps186
 go_wp2
 all_goals
  go_ret
  refine ⟨⟨_,rfl,?_⟩,xZeC _ _ _⟩
  simp_all
theorem bf_eq {a b:Bool} {Q:Prop} (h1:a=false ↔ Q) (h2:b=false ↔ Q):b=a:=by cases a<;>cases b<;>simp_all
theorem xZa1 (N:Nat):xZ6z.Ok prog N:=by
 refine ⟨⟨Tryz.f186,Tryz.func186,by kernel_rfl,by kernel_rfl⟩,fun a r h=>?_⟩
 obtain ⟨n,⟨⟩⟩:=a
 have h:some (moreB n)=some r:=h
 obtain rfl:=Option.some.inj h
 intro M S w vs hh _ hsz hrep
 obtain ⟨v,rfl⟩:∃ v,vs=#[v]:=by
  match vs,hsz with
  | ⟨[v]⟩,_=>exact ⟨v,rfl⟩
 obtain ⟨k,o,va,na,vk,vn,vb,vt⟩:=n
 have h0:VRep M S w v (.agg ([.int .u8 k,.int .u8 o,.string (bs va),.string (bs na),.int .u8 vk,.int .i64 vn,.int .u64 vb,.string (bs vt)].map .v)):=hrep 0 (Nat.zero_lt_one)
 obtain rfl:=xZiN h0
 have fin:∀ {k:Int} {Q:Prop},(moreB ⟨k,o,va,na,⟨vk,vn,vb,vt⟩⟩=false ↔ Q)→∀ e w',((∃ b,e=.returned (.bool b)∧(b=false ↔ Q))∧Grew w w')→
  ∃ M' S',EndRep M' S' w' e (.ret (.v (.bool (moreB ⟨k,o,va,na,⟨vk,vn,vb,vt⟩⟩))))∧RelH M' S' AH.nil w'∧Frm M S AH.nil w M' S' AH.nil w':=by
  rintro k Q hm e w' ⟨⟨b,rfl,hb⟩,hg⟩
  obtain rfl:=bf_eq hm hb
  exact ⟨M,S,.data (.v _),hh.grew hg,.grew hh hg⟩
 by_cases h4:k=4
 ·subst h4
  exact (xZvm o vk vn vb va na vt w).mono (fin (by simp [moreB,moreZ,eq_comm (a:=(0:Int)),and_assoc]))
 by_cases h7:k=7
 ·subst h7
  exact (xZvE o vk vn vb va na vt w).mono (fin (by simp [moreB,moreZ,eq_comm (a:=(0:Int)),and_assoc]))
 by_cases h8:k=8
 ·subst h8
  exact (xZuU o vk vn vb va na vt w).mono (fin (by simp [moreB,moreZ,eq_comm (a:=(0:Int)),and_assoc]))
 by_cases h9:k=9
 ·subst h9
  exact (xZvh o vk vn vb va na vt w).mono (fin (by simp [moreB,moreZ,eq_comm (a:=(0:Int)),and_assoc]))
 have e4:(k==4)=false:=by simpa using h4
 have e7:(k==7)=false:=by simpa using h7
 have e8:(k==8)=false:=by simpa using h8
 have e9:(k==9)=false:=by simpa using h9
 exact (xZvb k h4 h7 h8 h9 o vk vn vb va na vt w).mono (fin (by simp only [moreB,e4,e7,e8,e9,cond_false];simp [moreZ,eq_comm (a:=(0:Int)),and_assoc]))
end Go.Proofs.YtbioikdfpfafaaaGreatDoor.T
set_option linter.unusedVariables false
set_option linter.unusedSimpArgs false
namespace Go.Proofs.YtbioikdfpfafaaaGreatDoor.T
open Go Go.RowKit Go.Lib Go.Proofs.Tryz
set_option maxHeartbeats 4000000
set_option maxRecDepth 1000000
theorem xZoa (a:Option Addr) (w:World):Calls Tryz.prog 220 #[.slice a 0 0,.int .i64 0] w fun e w'=>e=.returned (.slice a 0 0)∧w'=w:=by
 go_enter Tryz.func220,Tryz.ntmps220
 go_wp2
 go_ret
 exact ⟨rfl,rfl⟩
theorem xZnY (i0:TypeInfo) (z:Value) (hu:Tryz.prog.underlying 50=some (.slice 57)) (hi0:Tryz.prog.info? 57=some i0) (hz0:i0.zero=some z) (hs0:0 < i0.size) (n:Nat) (h0:0 < n) (hbig:n * i0.bytes≤140737488355328) (h63:n≤4611686018427387904) (a:Option Addr) (w:World):
 Calls Tryz.prog 220 #[.slice a 0 0,.int .i64 n] w fun e w'=>e=.returned (.slice (some ⟨w.heap.size,0,none⟩) 0 (grownCap w n 0 57))∧
  w'=w.drew.alloc (.cells (#[]++Builtin.zeroCells z.cells n++Builtin.zeroCells z.cells (grownCap w n 0 57 - n)) 57):=by
 have h1:¬ ((n:Int) < 0):=by omega
 have h4:(n:Int) > 0:=by omega
 have z25:∀ w,(Go.sizeOf 57).run Tryz.prog w=.ok i0.size w:=fun w=>by simp [Go.sizeOf,typeInfo,hi0]
 have hrz:∀ ty,(Builtin.append_ #[50,3] ty #[.slice a 0 0,.int .i64 n]).run Tryz.prog w=
  .ok (.slice (some ⟨w.heap.size,0,none⟩) n (grownCap w n 0 57)) (w.drew.alloc (.cells (#[]++Builtin.zeroCells z.cells n++Builtin.zeroCells z.cells (grownCap w n 0 57 - n)) 57)):=fun ty=>by
  have hold:(Builtin.firstCells i0.size 0 (.slice a 0 0)).run Tryz.prog w.drew=.ok ([]:List Value).toArray w.drew:=by
   cases a with
   | none=>exact run_firstCells_none w.drew i0.size 0 0 0
   | some a=>exact run_firstCells_some w.drew i0.size 0 a 0 0 [] (by simp) (fun j v hj=>by cases hj)
  have h:=Lib.run_append_grow_zeros w 50 3 ty 57 i0 z .i64 .i64 hu Tryz.underlying3 hi0 hz0 a 0 0 [] hold n h0 hs0 (by omega) (by omega) (by omega) (by
   rw [Nat.zero_add];exact growslice_fits (by omega) (by omega))
  rw [Nat.zero_add] at h
  exact h
 have hGn:n≤grownCap w n 0 57:=grownCap_ge w _ _ _
 obtain ⟨G,hG⟩:∃ G,G=grownCap w n 0 57:=⟨_,rfl⟩
 rw [← hG] at hrz hGn ⊢
 have hG63:G≤9223372036854775807:=by
  have:=grownCap_le_maxLen w n 0 57 (by unfold maxLen;omega)
  rw [← hG] at this
  unfold maxLen at this
  omega
 clear hG
 go_enter Tryz.func220,Tryz.ntmps220
 cases a with
 | none=>
   go_wp2_with (at_builtin;refine Lib.wpList_append_run _ rfl _ _ _ _ rfl _ _ rfl rfl _ _ (hrz _) ?_)
   all_goals (go_ret;exact ⟨rfl,rfl⟩)
 | some a=>
   obtain ⟨ab,ao,asp⟩:=a
   go_wp2_with (at_builtin;refine Lib.wpList_append_run _ rfl _ _ _ _ rfl _ _ rfl rfl _ _ (hrz _) ?_)
   all_goals (go_ret;exact ⟨rfl,rfl⟩)
theorem xZ3j (N:Nat):xZ1S.Ok prog N:=by
 refine ⟨⟨Tryz.f220,Tryz.func220,by kernel_rfl,by kernel_rfl⟩,fun a r h=>?_⟩
 obtain ⟨⟨⟨⟩,n,⟨⟩⟩,⟨⟩,⟨⟩⟩:=a
 have h:xZ1c N n=some r:=h
 unfold xZ1c at h
 obtain ⟨hn0,h⟩:=xZ1q h
 obtain ⟨hnb,h⟩:=xZ1q h
 have hn0:=xZI.1 hn0
 have hnb:=xZI.1 hnb
 obtain rfl:=Option.some.inj h
 intro M S w vs hh _ hsz hrep
 obtain ⟨v,u,rfl⟩:∃ v u,vs=#[v,u]:=by
  match vs,hsz with
  | ⟨[v,u]⟩,_=>exact ⟨v,u,rfl⟩
 obtain ⟨ad,rfl⟩:∃ ad,v=.slice ad 0 0:=by
  have q:VRep M S w v .emp:=hrep 0 (Nat.zero_lt_succ 1)
  cases q with
  | data q=>cases q;exact ⟨_,rfl⟩
 have e1:u=.int .i64 n:=VRep.v_eq (hrep 1 (Nat.lt_succ_self 1))
 subst e1
 obtain ⟨m,rfl⟩:∃ m:Nat,n=m:=⟨n.toNat,by omega⟩
 have fin:∀ (g:Value) (w':World),Grew w w'→LiveRep S w' g 8 []→(∀ b,Value.blk g=some b→w.heap.size≤b)→(∃ a n c,g=.slice a n c)→
  ∃ M' S',EndRep M' S' w' (.returned g) (.ret (.own 0))∧RelH M' S' ⟨[],[.live 8 []]⟩ w'∧Frm M S AH.nil w M' S' ⟨[],[.live 8 []]⟩ w':=by
  intro g w' hg hl hb hs
  obtain ⟨h1,h2⟩:=hh.addTok hg hl hb
  exact ⟨_,S,xZ6J hh.nt hs,h1,h2⟩
 by_cases hm:m=0
 ·subst hm
  refine (xZoa ad w).mono ?_
  rintro e w' ⟨rfl,rfl⟩
  exact fin _ _ (.refl _) (.inl ⟨⟨_,rfl⟩,rfl⟩) (fun b hb=>by cases ad<;>cases hb) ⟨_,_,_,rfl⟩
 ·obtain ⟨ks,x,hx⟩:∃ ks x,cMk prog 50 ks=some (x,8,80):=⟨[0,0,0,0,0,0,0,0],eA4 (xZ2.mk 0 0 [] [] (xZ7.mk 0 0 0 [])),by kernel_rfl⟩
  obtain ⟨e,i,z,hu,hi,hz,q1,q2,q3,q4,hx⟩:=xZmo hx
  simp only [Prod.mk.injEq] at hx
  obtain ⟨-,hs8,hb80⟩:=hx
  have he:e=57:=by
   have:prog.underlying 50=some (.slice 57):=by kernel_rfl
   rw [this] at hu;cases hu;rfl
  subst he
  refine (xZnY i z hu hi hz q3 m (by omega) (by rw [← hb80];omega) (by omega) ad w).mono ?_
  rintro e w' ⟨rfl,rfl⟩
  have hge:=grownCap_ge w m 0 57
  have hle:=grownCap_le_maxLen w m 0 57 (by unfold maxLen;omega)
  have hG:=Grew.drew_alloc w (.cells (#[]++Builtin.zeroCells z.cells m++Builtin.zeroCells z.cells (grownCap w m 0 57 - m)) 57)
  generalize grownCap w m 0 57=G at *
  obtain ⟨q,rfl⟩:∃ q,G=q+1:=⟨G - 1,by omega⟩
  refine fin _ _ hG (.inr ⟨w.heap.size,q,_,57,rfl,fun h=>by have:=hh.sits _ h;omega,xZ3Q _ _,⟨Nat.zero_le _,hle,?_,fun i hi=>absurd hi (Nat.not_lt_zero _),fun i hi=>absurd hi (Nat.not_lt_zero _),fun i hi=>absurd hi (Nat.not_lt_zero _)⟩⟩) (fun b hb=>by cases hb;exact Nat.le_refl _) ⟨_,_,_,rfl⟩
  rw [Array.size_append,Array.size_append,size_zeroCells,size_zeroCells,q2,← hs8,Array.size_empty]
  omega
end Go.Proofs.YtbioikdfpfafaaaGreatDoor.T
namespace Go.Proofs.YtbioikdfpfafaaaGreatDoor.T
open Go Go.RowKit Go.Extern.Stop Go.Stop Go.Extern Go.Proofs.Tryz
set_option maxHeartbeats 4000000
set_option maxRecDepth 1000000
theorem xZjD (n p:Int) (h:n≠0) (w:World):Calls Tryz.prog 47 #[.int .i64 n,.int .i64 p] w fun e w'=>e=.returned (.iface 172 (.pointer (some ⟨w.heap.size,0,none⟩)))∧w'=w.alloc (.cells #[.int .i64 n,.int .i64 p] 181):=by
 go_enter Tryz.func47,Tryz.ntmps47
 go_wp2
 go_ret
 exact ⟨rfl,rfl⟩
end Go.Proofs.YtbioikdfpfafaaaGreatDoor.T
set_option linter.unusedVariables false
set_option linter.unusedSimpArgs false
namespace Go.Proofs.YtbioikdfpfafaaaGreatDoor.T
open Go Go.Shelf Go.Sort Go.Proofs.Tryz
set_option maxHeartbeats 1000000
set_option maxRecDepth 1000000
def sren:Go.Shelf.Ren:=⟨fun | 125=>74 | 128=>122 | 129=>123 | 190=>39 | 258=>73 | 302=>113 | 303=>114 | 304=>115 | 305=>116 | 306=>117 | 307=>118 | 308=>119 | 309=>120 | 310=>121 | 329=>147 | 330=>148 | 333=>146 | 334=>149 | 335=>150 | 336=>151 | 344=>172 | n=>n,fun | 0=>0 | 3=>3 | 4=>4 | 5=>5 | 9=>9 | 31=>41 | 46=>157 | 51=>200 | 53=>53 | 131=>197 | 182=>191 | 183=>192 | 218=>210 | 222=>214 | 228=>234 | 229=>38 | n=>n,fun n=>n⟩
theorem laysSort:Go.Proofs.Lays.n190 Tryz.prog sren:={
 mixed:=by kernel_rfl
 f125:=Tryz.func74.trans (congrArg some (by kernel_rfl))
 f128:=Tryz.func122.trans (congrArg some (by kernel_rfl))
 f129:=Tryz.func123.trans (congrArg some (by kernel_rfl))
 f190:=Tryz.func39.trans (congrArg some (by kernel_rfl))
 f258:=Tryz.func73.trans (congrArg some (by kernel_rfl))
 f302:=Tryz.func113.trans (congrArg some (by kernel_rfl))
 f303:=Tryz.func114.trans (congrArg some (by kernel_rfl))
 f304:=Tryz.func115.trans (congrArg some (by kernel_rfl))
 f305:=Tryz.func116.trans (congrArg some (by kernel_rfl))
 f306:=Tryz.func117.trans (congrArg some (by kernel_rfl))
 f307:=Tryz.func118.trans (congrArg some (by kernel_rfl))
 f308:=Tryz.func119.trans (congrArg some (by kernel_rfl))
 f309:=Tryz.func120.trans (congrArg some (by kernel_rfl))
 f310:=Tryz.func121.trans (congrArg some (by kernel_rfl))
 f329:=Tryz.func147.trans (congrArg some (by kernel_rfl))
 f330:=Tryz.func148.trans (congrArg some (by kernel_rfl))
 f333:=Tryz.func146.trans (congrArg some (by kernel_rfl))
 f334:=Tryz.func149.trans (congrArg some (by kernel_rfl))
 f335:=Tryz.func150.trans (congrArg some (by kernel_rfl))
 f336:=Tryz.func151.trans (congrArg some (by kernel_rfl))
 f344:=Tryz.func172.trans (congrArg some (by kernel_rfl))
 t0:=Tryz.underlying0
 a0:=Tryz.isAgg0
 z0:=Tryz.sizeOf0
 v0:=Tryz.zeroValue0
 t3:=Tryz.underlying3
 a3:=Tryz.isAgg3
 z3:=Tryz.sizeOf3
 v3:=Tryz.zeroValue3
 t4:=Tryz.underlying4
 a4:=Tryz.isAgg4
 z4:=Tryz.sizeOf4
 v4:=Tryz.zeroValue4
 t5:=Tryz.underlying5
 a5:=Tryz.isAgg5
 z5:=Tryz.sizeOf5
 v5:=Tryz.zeroValue5
 t9:=Tryz.underlying9
 a9:=Tryz.isAgg9
 z9:=Tryz.sizeOf9
 v9:=Tryz.zeroValue9
 t31:=Tryz.underlying41
 a31:=Tryz.isAgg41
 z31:=Tryz.sizeOf41
 v31:=Tryz.zeroValue41
 t46:=Tryz.underlying157
 a46:=Tryz.isAgg157
 z46:=Tryz.sizeOf157
 v46:=Tryz.zeroValue157
 t51:=Tryz.underlying200
 a51:=Tryz.isAgg200
 z51:=Tryz.sizeOf200
 v51:=Tryz.zeroValue200
 t53:=Tryz.underlying53
 a53:=Tryz.isAgg53
 z53:=Tryz.sizeOf53
 v53:=Tryz.zeroValue53
 t131:=Tryz.underlying197
 a131:=Tryz.isAgg197
 z131:=Tryz.sizeOf197
 v131:=Tryz.zeroValue197
 t182:=Tryz.underlying191
 a182:=Tryz.isAgg191
 z182:=Tryz.sizeOf191
 v182:=Tryz.zeroValue191
 t183:=Tryz.underlying192
 a183:=Tryz.isAgg192
 z183:=Tryz.sizeOf192
 v183:=Tryz.zeroValue192
 t218:=Tryz.underlying210
 a218:=Tryz.isAgg210
 z218:=Tryz.sizeOf210
 v218:=Tryz.zeroValue210
 t222:=Tryz.underlying214
 a222:=Tryz.isAgg214
 z222:=Tryz.sizeOf214
 v222:=Tryz.zeroValue214
 t228:=Tryz.underlying234
 a228:=Tryz.isAgg234
 z228:=Tryz.sizeOf234
 v228:=Tryz.zeroValue234
 t229:=Tryz.underlying38
 a229:=Tryz.isAgg38
 z229:=Tryz.sizeOf38
 v229:=Tryz.zeroValue38 }
theorem xZvz (c:Array Value) (ts:List (List UInt8)) (h:ts.length≤c.size) (i:Nat) (hi:i < ts.length):(Go.Sort.putCells encStr 0 ts.toArray c).getD i undef=.string (bs (ts.getD i [])):=by
 have h1:i < c.size:=by omega
 simp [Go.Sort.putCells,Array.getD,h1,hi,List.getD,bs]
theorem xZ8M (N:Nat):xZ3V.Ok prog N:=by
 refine ⟨⟨Tryz.f39,Tryz.func39,by kernel_rfl,by kernel_rfl⟩,fun a r h=>?_⟩
 obtain ⟨⟨⟨⟩,⟨⟩⟩,⟨⟩,xs0,⟨⟩⟩:=a
 obtain ⟨xs,rfl⟩:∃ xs:List (List UInt8),xs=xs0:=⟨xs0,rfl⟩
 have h:xZP N xs=some r:=h
 unfold xZP at h
 obtain ⟨hn,h⟩:=xZ1q h
 have hn:=Nat.le_of_ble_eq_true hn
 obtain rfl:=Option.some.inj h
 intro M S w vs hh _ hsz hrep
 obtain ⟨v,rfl⟩:∃ v,vs=#[v]:=by
  match vs,hsz with
  | ⟨[v]⟩,_=>exact ⟨v,rfl⟩
 have hv:VRep M S w v (.own 0):=hrep 0 (Nat.lt_succ_self 0)
 have e0:v=M.bv 0:=by
  cases hv with
  | data q=>cases q
  | own=>rfl
 have hb:LiveRep S w (M.bv 0) 1 (xs.map fun x=>AV.v (.string (bs x))):=hh.buf 0 (Nat.lt_succ_self 0)
 have hh':RelH M S ⟨[],[.live 1 (xs.map fun x=>AV.v (.string (bs x)))]⟩ w:=hh
 clear hh hrep
 have hlen:(sortS xs).length=xs.length:=by simp [sortS]
 have goal:Calls prog 39 #[v] w fun en w'=>en=.returned (.tuple #[])∧RelH M S ⟨[],[.live 1 ((sortS xs).map fun x=>AV.v (.string (bs x)))]⟩ w'∧Frm M S ⟨[],[.live 1 (xs.map fun x=>AV.v (.string (bs x)))]⟩ w M S ⟨[],[.live 1 ((sortS xs).map fun x=>AV.v (.string (bs x)))]⟩ w':=by
  rcases hb with ⟨⟨ad,ha⟩,hx⟩ | ⟨g,cap,c,T,hbv,hun,hg,hrow⟩
  ·have hx:xs=[]:=by simpa using hx
   subst hx
   rw [e0,ha]
   refine (calls_of_every_depth fun D=>AnyS.slices_Sort_string_none_alone laysSort D ad 0 w).mono ?_
   rintro e w' ⟨rfl,rfl⟩
   have:sortS []=[]:=by simp [sortS]
   rw [this]
   exact ⟨rfl,hh',.refl hh'⟩
  ·have hgl:g < w.heap.size:=(Array.getElem?_eq_some_iff.1 hg).1
   have hl0:(xs.map fun x=>AV.v (.string (bs x))).length=xs.length:=by simp
   have hcs:xs.length≤c.size:=by have:=hrow.fits;have:=hrow.size;omega
   have hcell:∀ i,i < xs.length→c.getD i undef=.string (bs (xs.getD i [])):=fun i hi=>by
    have:=hrow.rep i (by rw [hl0];exact hi) 0 (by omega)
    rw [Nat.mul_one,Nat.add_zero] at this
    have e:(xs.map fun x=>AV.v (.string (bs x))).getD i .any=.v (.string (bs (xs.getD i []))):=by simp [List.getD,hi]
    rw [e] at this
    exact drepv this
   have hH:Holds encStr w g 0 xs.toArray:=by
    refine holds_of_block hg ?_
    apply List.ext_getElem (by simp;omega)
    intro i h1 h2
    have hi:i < xs.length:=by simpa using h2
    have hic:i < c.size:=by omega
    have:=hcell i hi
    simp only [Array.getD,hic,dif_pos] at this
    simp [encStr,bs,List.getD,hi] at this ⊢
    exact this
   rw [e0,hbv,hl0]
   refine (calls_of_every_depth fun D=>AnyS.slices_Sort_string_alone laysSort D g 0 (cap+1) xs w hH hgl (by omega)).mono ?_
   rintro e w' ⟨rfl,n,os,rfl⟩
   have hts:(xs.mergeSort fun x y=>decide (x≤y))=sortS xs:=rfl
   rw [hts]
   have hbv':M.bv 0=.slice (some ⟨g,0,none⟩) (xs.map fun x=>AV.v (.string (bs x))).length (cap+1):=hbv
   have hx':∀ i,i < ((sortS xs).map fun x=>AV.v (.string (bs x))).length→i < (sortS xs).length∧((sortS xs).map fun x=>AV.v (.string (bs x))).getD i .any=.v (.string (bs ((sortS xs).getD i []))):=fun i hi=>by
    have hi':i < (sortS xs).length:=by simpa using hi
    exact ⟨hi',by simp [List.getD,hi']⟩
   obtain ⟨q1,q2⟩:=hh'.storeTok (t:=0) (Nat.lt_succ_self 0) rfl (xs':=(sortS xs).map fun x=>AV.v (.string (bs x))) (c':=Go.Sort.putCells encStr 0 (sortS xs).toArray c) hbv' hg (by simp [hlen]) ⟨by rw [List.length_map,hlen,← hl0];exact hrow.fits,hrow.small,by rw [← hrow.size];simp [Go.Sort.putCells],
    fun i hi=>by rw [(hx' i hi).2];rfl,
    fun i hi j hj=>by
     have:j=0:=by omega
     subst this
     rw [(hx' i hi).2];rfl,
    fun i hi j hj=>by
     have:j=0:=by omega
     subst this
     rw [Nat.mul_one,Nat.add_zero,xZvz c _ (by omega) i (hx' i hi).1,(hx' i hi).2]
     exact .v _⟩
   have gr:Grew (w.setRow g (Go.Sort.putCells encStr 0 (sortS xs).toArray c)) (grow (putRow encStr (Sort.ahead w n) g 0 (sortS xs).toArray) os):=by
    obtain ⟨_,_,_,_,hby⟩:=grownBy_sorted (w:=w) (g:=g) (n:=n) (os:=os) (sortS xs).toArray
    have hsb:w.grownBy (w.setRow g (Go.Sort.putCells encStr 0 (sortS xs).toArray c)) (some g):=xZkN
    refine ⟨rfl,rfl,rfl,?_,fun k hk=>?_⟩
    ·have:(w.setRow g (Go.Sort.putCells encStr 0 (sortS xs).toArray c)).heap.size=w.heap.size:=by simp
     rw [this];simp [putRow,mapBlock,Sort.ahead]
    ·have hk:k < w.heap.size:=by simpa using hk
     by_cases hkg:k=g
     ·subst hkg
      rw [heap_sorted _ hg,setRow_heap w _ c _ T (0,0) hg]
     ·rw [setRow_other w g k _ hkg]
      exact hby k hk (fun e=>hkg (Option.some.inj e))
   exact ⟨rfl,q1.grew gr,q2.trans (.grew q1 gr)⟩
 refine goal.mono ?_
 rintro en w' ⟨rfl,k1,k2⟩
 exact ⟨M,S,.data (.tup #[] [] rfl (fun i hi=>by cases hi)),k1,k2⟩
where drepv {S:Nat→Prop} {w:World} {v x:Value} (h:DRep S w v (.v x)):v=x:=by cases h;rfl
end Go.Proofs.YtbioikdfpfafaaaGreatDoor.T
namespace Go.Proofs.YtbioikdfpfafaaaGreatDoor.T
open Go
open Go.Proofs.Tryz
set_option maxRecDepth 1000000
set_option linter.unusedSimpArgs false
set_option linter.unusedVariables false
noncomputable section
noncomputable def xZhn:Fn xZ9Q:=⟨f43,[],⟨[],[],sbf,bof⟩,fun _=>[],[true],none,0,0,fun _ _=>true,none,[],[]⟩
theorem xZhT:xZhn.Ok prog:=⟨Is.of (by kernel_rfl) (by kernel_rfl),by kernel_rfl,xZ4 sb_ok bo_ok,trivial,trivial,fun _=>by kernel_rfl⟩
theorem xZhK (N:Nat):xZ9Q.Ok prog N:=xZhT.give tb_ok hm N N (fun _=>trivial) fun a r s h=>by
 exact s.main [] trivial (.trans (by kernel_rfl) h)
noncomputable def xZke:Fn xZb4:=⟨f20,[],⟨[],[],sbf,bof⟩,fun _=>[xZ9Q],[true],none,0,0,fun _ _=>true,none,[],[]⟩
theorem xZkB:xZke.Ok prog:=⟨Is.of (by kernel_rfl) (by kernel_rfl),by kernel_rfl,xZ4 sb_ok bo_ok,trivial,trivial,fun _=>by kernel_rfl⟩
theorem xZjo (N:Nat):xZb4.Ok prog N:=xZkB.give tb_ok hm N N (fun _=>⟨xZhK N,trivial⟩) fun a r s h=>by
 have l0:=s.loop 0 xZ5V (xZcc N) N fun next0 h0=>by
  exact fun c v=>s.seg 0 xZ5V [(0,.of xZ5V next0)] ⟨h0,trivial⟩ (by kernel_rfl) (by kernel_rfl)
 exact s.main [(0,.of xZ5V (xZg1 N))] ⟨l0,trivial⟩ (.trans (by kernel_rfl) h)
noncomputable def xZj1:Fn xZbz:=⟨f7,[],⟨[],[],sbf,bof⟩,fun _=>[xZb4],[true],none,0,0,fun _ _=>true,none,[],[]⟩
theorem xZjn:xZj1.Ok prog:=⟨Is.of (by kernel_rfl) (by kernel_rfl),by kernel_rfl,xZ4 sb_ok bo_ok,trivial,trivial,fun _=>by kernel_rfl⟩
theorem xZiZ (N:Nat):xZbz.Ok prog N:=xZjn.give tb_ok hm N N (fun _=>⟨xZjo N,trivial⟩) fun a r s h=>by
 have l0:=s.loop 0 xZ6j (xZcq N) N fun next0 h0=>by
  exact fun c v=>s.seg 0 xZ6j [(0,.of xZ6j next0)] ⟨h0,trivial⟩ (by kernel_rfl) (by kernel_rfl)
 exact s.main [(0,.of xZ6j (xZg6 N))] ⟨l0,trivial⟩ (.trans (by kernel_rfl) h)
theorem xZ3f (N:Nat):xZ1R.Ok prog N:=xZr8 (te:=92) (tb:=4) (e:=95) (CloneIs.of (fn:=f100) (by kernel_rfl) (by kernel_rfl) (by kernel_rfl) (by kernel_rfl) (by kernel_rfl) (by kernel_rfl) (by decide)) hm N
theorem xZ61 (N:Nat):xZ2C.Ok prog N:=xZnU (te:=92) (tb:=4) (e:=95) (CloneIs.of (fn:=f100) (by kernel_rfl) (by kernel_rfl) (by kernel_rfl) (by kernel_rfl) (by kernel_rfl) (by kernel_rfl) (by decide)) hm N
noncomputable def xZ6Y:Fn xZi:=⟨f211,[],⟨[],[],sbf,bof⟩,fun _=>[],[true],none,1,0,fun _ _=>true,none,[],[]⟩
theorem xZ6R:xZ6Y.Ok prog:=⟨Is.of (by kernel_rfl) (by kernel_rfl),by kernel_rfl,xZ4 sb_ok bo_ok,trivial,trivial,fun _=>by kernel_rfl⟩
theorem xZD (N:Nat):xZi.Ok prog N:=xZ6R.give tb_ok hm N N (fun _=>trivial) fun a r s h=>by
 exact s.main [] trivial (.trans (by kernel_rfl) h)
noncomputable def xZ6l:Fn xZ1L:=⟨f201,[],⟨[],[],sbf,bof⟩,fun _=>[],[true],none,1,0,fun _ _=>true,none,[],[]⟩
theorem xZ6L:xZ6l.Ok prog:=⟨Is.of (by kernel_rfl) (by kernel_rfl),by kernel_rfl,xZ4 sb_ok bo_ok,trivial,trivial,fun _=>by kernel_rfl⟩
theorem xZ2Q (N:Nat):xZ1L.Ok prog N:=xZ6L.give tb_ok hm N N (fun _=>trivial) fun a r s h=>by
 exact s.main [] trivial (.trans (by kernel_rfl) h)
noncomputable def xZ71:Fn xZo:=⟨f216,[],⟨[],[],sbf,bof⟩,fun _=>[xZ1L],[],none,1,0,fun _ _=>true,none,[],[]⟩
theorem xZ74:xZ71.Ok prog:=⟨Is.of (by kernel_rfl) (by kernel_rfl),by kernel_rfl,xZ4 sb_ok bo_ok,trivial,trivial,fun _=>by kernel_rfl⟩
theorem xZ15 (N:Nat):xZo.Ok prog N:=xZ74.give tb_ok hm N N (fun _=>⟨xZ2Q N,trivial⟩) fun a r s h=>by
 exact s.main [] trivial (.trans (by kernel_rfl) h)
noncomputable def xZ60:Fn xZ1C:=⟨f215,[],⟨[],[],sbf,bof⟩,fun _=>[xZi,xZo],[],none,1,0,fun _ _=>true,none,[],[]⟩
theorem xZ5M:xZ60.Ok prog:=⟨Is.of (by kernel_rfl) (by kernel_rfl),by kernel_rfl,xZ4 sb_ok bo_ok,trivial,trivial,fun _=>by kernel_rfl⟩
theorem xZ67 (N:Nat):xZ1C.Ok prog N:=xZ5M.give tb_ok hm N N (fun _=>⟨xZD N,xZ15 N,trivial⟩) fun a r s h=>by
 exact s.main [] trivial (.trans (by kernel_rfl) h)
noncomputable def xZ8s:Fn xZk:=⟨f207,[],⟨[],[],sbf,bof⟩,fun _=>[xZi],[true],none,1,0,fun _ _=>true,none,[],[]⟩
theorem xZ89:xZ8s.Ok prog:=⟨Is.of (by kernel_rfl) (by kernel_rfl),by kernel_rfl,xZ4 sb_ok bo_ok,trivial,trivial,fun _=>by kernel_rfl⟩
theorem xZH (N:Nat):xZk.Ok prog N:=xZ89.give tb_ok hm N N (fun _=>⟨xZD N,trivial⟩) fun a r s h=>by
 exact s.main [] trivial (.trans (by kernel_rfl) h)
noncomputable def xZ8Q:Fn xZ2h:=⟨f212,[],⟨[],[],sbf,bof⟩,fun _=>[xZ1S],[true],none,0,0,fun _ _=>true,none,[],[]⟩
theorem xZ8G:xZ8Q.Ok prog:=⟨Is.of (by kernel_rfl) (by kernel_rfl),by kernel_rfl,xZ4 sb_ok bo_ok,trivial,trivial,fun _=>by kernel_rfl⟩
theorem xZ8u (N:Nat):xZ2h.Ok prog N:=xZ8G.give tb_ok hm N N (fun _=>⟨xZ3j N,trivial⟩) fun a r s h=>by
 have l2:=s.loop 2 xZ19 (xZ3i N) N fun next2 h2=>by
  exact fun c v=>s.seg 2 xZ19 [(2,.of xZ19 next2)] ⟨h2,trivial⟩ (by kernel_rfl) (by kernel_rfl)
 have l0:=s.loop 0 xZ17 (xZ3p N) N fun next0 h0=>by
  exact fun c v=>s.seg 0 xZ17 [(0,.of xZ17 next0),(2,.of xZ19 (xZ6W N))] ⟨h0,l2,trivial⟩ (by kernel_rfl) (by kernel_rfl)
 exact s.main [(0,.of xZ17 (xZ6U N))] ⟨l0,trivial⟩ (.trans (by kernel_rfl) h)
noncomputable def xZeG:Fn xZ2f:=⟨f208,[],⟨[(6,4)],[],sbf,bof⟩,fun _=>[xZ2h],[true],none,0,0,fun _ _=>true,none,[],[]⟩
theorem xZer:xZeG.Ok prog:=⟨Is.of (by kernel_rfl) (by kernel_rfl),by kernel_rfl,xZ4 sb_ok bo_ok,trivial,trivial,fun _=>by kernel_rfl⟩
theorem xZ4c (N:Nat):xZ2f.Ok prog N:=xZer.give tb_ok hm N N (fun _=>⟨xZ8u N,trivial⟩) fun a r s h=>by
 exact s.main [] trivial (.trans (by kernel_rfl) h)
noncomputable def xZ72:Fn xZ14:=⟨f219,[],⟨[],[],sbf,bof⟩,fun _=>[xZi,xZo],[true],none,1,0,fun _ _=>true,none,[],[]⟩
theorem xZ73:xZ72.Ok prog:=⟨Is.of (by kernel_rfl) (by kernel_rfl),by kernel_rfl,xZ4 sb_ok bo_ok,trivial,trivial,fun _=>by kernel_rfl⟩
theorem xZ3l (N:Nat):xZ14.Ok prog N:=xZ73.give tb_ok hm N N (fun _=>⟨xZD N,xZ15 N,trivial⟩) fun a r s h=>by
 exact s.main [] trivial (.trans (by kernel_rfl) h)
noncomputable def xZ6P:Fn xZ1T:=⟨f221,[],⟨[(24,4),(40,4),(51,4),(54,4)],[],sbf,bof⟩,fun _=>[xZk,xZi,xZo,xZ14],[true],none,1,0,fun _ _=>true,none,[],[]⟩
theorem xZ6Q:xZ6P.Ok prog:=⟨Is.of (by kernel_rfl) (by kernel_rfl),by kernel_rfl,xZ4 sb_ok bo_ok,trivial,trivial,fun _=>by kernel_rfl⟩
theorem xZ76 (N:Nat):xZ1T.Ok prog N:=xZ6Q.give tb_ok hm N N (fun _=>⟨xZH N,xZD N,xZ15 N,xZ3l N,trivial⟩) fun a r s h=>by
 exact s.main [] trivial (.trans (by kernel_rfl) h)
noncomputable def xZ8k:Fn xZ23:=⟨f217,[],⟨[(14,7),(23,7)],[],sbf,bof⟩,fun _=>[xZ1T,xZk,xZ2f],[true],none,1,0,fun _ _=>true,none,[],[]⟩
theorem xZ86:xZ8k.Ok prog:=⟨Is.of (by kernel_rfl) (by kernel_rfl),by kernel_rfl,xZ4 sb_ok bo_ok,trivial,trivial,fun _=>by kernel_rfl⟩
theorem xZ7L (N:Nat):xZ23.Ok prog N:=xZ86.give tb_ok hm N N (fun _=>⟨xZ76 N,xZH N,xZ4c N,trivial⟩) fun a r s h=>by
 have l0:=s.loop 0 xZW (xZ2T N) N fun next0 h0=>by
  exact fun c v=>s.seg 0 xZW [(0,.of xZW next0)] ⟨h0,trivial⟩ (by kernel_rfl) (by kernel_rfl)
 exact s.main [(0,.of xZW (xZ6B N))] ⟨l0,trivial⟩ (.trans (by kernel_rfl) h)
noncomputable def xZgX:Fn xZ5R:=⟨f198,[],⟨[],[],sbf,bof⟩,fun _=>[],[true],none,0,0,fun _ _=>true,none,[],[]⟩
theorem xZgi:xZgX.Ok prog:=⟨Is.of (by kernel_rfl) (by kernel_rfl),by kernel_rfl,xZ4 sb_ok bo_ok,trivial,trivial,fun _=>by kernel_rfl⟩
theorem xZcn (N:Nat):xZ5R.Ok prog N:=xZgi.give tb_ok hm N N (fun _=>trivial) fun a r s h=>by
 exact s.main [] trivial (.trans (by kernel_rfl) h)
noncomputable def xZju:Fn xZbv:=⟨f218,[],⟨[],[],sbf,bof⟩,fun _=>[xZ5R],[true],none,0,0,fun _ _=>true,none,[],[]⟩
theorem xZiM:xZju.Ok prog:=⟨Is.of (by kernel_rfl) (by kernel_rfl),by kernel_rfl,xZ4 sb_ok bo_ok,trivial,trivial,fun _=>by kernel_rfl⟩
theorem xZje (N:Nat):xZbv.Ok prog N:=xZiM.give tb_ok hm N N (fun _=>⟨xZcn N,trivial⟩) fun a r s h=>by
 have l0:=s.loop 0 xZ5T (xZcs N) N fun next0 h0=>by
  exact fun c v=>s.seg 0 xZ5T [(0,.of xZ5T next0)] ⟨h0,trivial⟩ (by kernel_rfl) (by kernel_rfl)
 exact s.main [(0,.of xZ5T (xZgD N))] ⟨l0,trivial⟩ (.trans (by kernel_rfl) h)
end
end Go.Proofs.YtbioikdfpfafaaaGreatDoor.T
