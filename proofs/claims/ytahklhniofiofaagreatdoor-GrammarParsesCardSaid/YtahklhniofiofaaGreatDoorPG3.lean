/- fault.New, walked. No premise beyond what each theorem says. -/
import Derived.Test.YtahklhniofiofaaGreatDoorPG2
import Derived.WalkKit
import Derived.LaidEql
import Derived.Stop.Asserts
import Derived.RowKitTokens
import Derived.Lib.Walk
import Derived.Lib.SliceRun
import Derived.Lib.AppendZerosOnto
import Derived.WalkLawsBesides
import Derived.Deep.RegionHeld3
import Derived.Shelf.Strings.BuilderK
import Derived.Test.YtahklhniofiofaaGreatDoorPA3
import Derived.BigCall
import Derived.Laws.BytesString
import Derived.Laws.IdiomStrings
import Derived.Lib.SmallJoins
import Derived.Laws.Bits64b
import Derived.Lib.UnsafeStr
import Derived.Lib.OthersKept
set_option linter.all false
set_option linter.unusedSimpArgs false
set_option linter.unusedVariables false
namespace Go.Proofs.YtahklhniofiofaaGreatDoor.P
open Go Go.RowKit Go.Extern.Stop Go.Stop Go.Extern Go.Proofs.Tryz
set_option maxHeartbeats 4000000
set_option maxRecDepth 1000000
theorem xZtN (p:Int) (w:World):Calls Tryz.prog 23 #[.int .i64 0,.int .i64 p] w fun e w'=>e=.returned .nilIface∧w'=w:=by
 go_enter Tryz.func23,Tryz.ntmps23
 go_wp2
 go_ret
 exact ⟨rfl,rfl⟩
theorem xZhn (n p:Int) (h:n≠0) (w:World):Calls Tryz.prog 23 #[.int .i64 n,.int .i64 p] w fun e w'=>e=.returned (.iface 84 (.pointer (some ⟨w.heap.size,0,none⟩)))∧w'=w.alloc (.cells #[.int .i64 n,.int .i64 p] 87):=by
 go_enter Tryz.func23,Tryz.ntmps23
 go_wp2
 go_ret
 exact ⟨rfl,rfl⟩
theorem xZ9w (N:Nat):xZ6E.Ok prog N:=by
 refine ⟨⟨Tryz.f23,Tryz.func23,by kernel_rfl,by kernel_rfl⟩,fun a r h=>?_⟩
 obtain ⟨n,p,⟨⟩⟩:=a
 have h:xZV N n p=some r:=h
 intro M S w vs hh _ hsz hrep
 obtain ⟨v,u,rfl⟩:∃ v u,vs=#[v,u]:=by
  match vs,hsz with
  | ⟨[v,u]⟩,_=>exact ⟨v,u,rfl⟩
 have h0:v=.int .i64 n:=VRep.v_eq (hrep 0 (Nat.zero_lt_succ 1))
 have h1:u=.int .i64 p:=VRep.v_eq (hrep 1 (Nat.lt_succ_self 1))
 subst h0;subst h1
 by_cases hn:n=0
 ·subst hn
  refine (xZtN p w).mono ?_
  rintro e w' ⟨rfl,rfl⟩
  have e1:xZV N 0 p=some (.inl ()):=rfl
  rw [e1] at h;obtain rfl:=Option.some.inj h
  exact ⟨M,S,.data (.v _),hh,.refl hh⟩
 ·refine (xZhn n p hn w).mono ?_
  rintro e w' ⟨rfl,rfl⟩
  have e1:xZV N n p=some (.inr (n,p)):=by unfold xZV;rw [show (n==0)=false by simpa using hn];rfl
  rw [e1] at h;obtain rfl:=Option.some.inj h
  have hg:=Grew.alloc w (.cells #[.int .i64 n,.int .i64 p] 87)
  obtain ⟨h3,h4⟩:=hh.addData hg (g:=w.heap.size) (Nat.le_refl _) (by simp)
  refine ⟨M,_,.data (.ifc _ _ _ (.dptr w.heap.size 0 _ _ _ (0,0) (.inr rfl) (xZ3q _ _) (Nat.le_refl 2) (fun j hj=>?_) fun j hj=>?_)),h3,h4⟩
  ·match j,hj with
   | 0,_=>rfl
   | 1,_=>rfl
  ·match j,hj with
   | 0,_=>exact .v _
   | 1,_=>exact .v _
end Go.Proofs.YtahklhniofiofaaGreatDoor.P
set_option linter.unusedVariables false
set_option linter.unusedSimpArgs false
namespace Go.Proofs.YtahklhniofiofaaGreatDoor.P
open Go Go.RowKit Go.Lib Go.Proofs.Tryz
set_option maxHeartbeats 4000000
set_option maxRecDepth 1000000
theorem xZpU (a:Option Addr) (w:World):Calls Tryz.prog 199 #[.slice a 0 0,.int .i64 0] w fun e w'=>e=.returned (.slice a 0 0)∧w'=w:=by
 go_enter Tryz.func199,Tryz.ntmps199
 go_wp2
 go_ret
 exact ⟨rfl,rfl⟩
theorem xZqr (i0:TypeInfo) (z:Value) (hu:Tryz.prog.underlying 44=some (.slice 127)) (hi0:Tryz.prog.info? 127=some i0) (hz0:i0.zero=some z) (hs0:0 < i0.size) (n:Nat) (h0:0 < n) (hbig:n * i0.bytes≤140737488355328) (h63:n≤4611686018427387904) (a:Option Addr) (w:World):
 Calls Tryz.prog 199 #[.slice a 0 0,.int .i64 n] w fun e w'=>e=.returned (.slice (some ⟨w.heap.size,0,none⟩) 0 (grownCap w n 0 127))∧
  w'=w.drew.alloc (.cells (#[]++Builtin.zeroCells z.cells n++Builtin.zeroCells z.cells (grownCap w n 0 127 - n)) 127):=by
 have h1:¬ ((n:Int) < 0):=by omega
 have h4:(n:Int) > 0:=by omega
 have z25:∀ w,(Go.sizeOf 127).run Tryz.prog w=.ok i0.size w:=fun w=>by simp [Go.sizeOf,typeInfo,hi0]
 have hrz:∀ ty,(Builtin.append_ #[44,3] ty #[.slice a 0 0,.int .i64 n]).run Tryz.prog w=
  .ok (.slice (some ⟨w.heap.size,0,none⟩) n (grownCap w n 0 127)) (w.drew.alloc (.cells (#[]++Builtin.zeroCells z.cells n++Builtin.zeroCells z.cells (grownCap w n 0 127 - n)) 127)):=fun ty=>by
  have hold:(Builtin.firstCells i0.size 0 (.slice a 0 0)).run Tryz.prog w.drew=.ok ([]:List Value).toArray w.drew:=by
   cases a with
   | none=>exact run_firstCells_none w.drew i0.size 0 0 0
   | some a=>exact run_firstCells_some w.drew i0.size 0 a 0 0 [] (by simp) (fun j v hj=>by cases hj)
  have h:=Lib.run_append_grow_zeros w 44 3 ty 127 i0 z .i64 .i64 hu Tryz.underlying3 hi0 hz0 a 0 0 [] hold n h0 hs0 (by omega) (by omega) (by omega) (by
   rw [Nat.zero_add];exact growslice_fits (by omega) (by omega))
  rw [Nat.zero_add] at h
  exact h
 have hGn:n≤grownCap w n 0 127:=grownCap_ge w _ _ _
 obtain ⟨G,hG⟩:∃ G,G=grownCap w n 0 127:=⟨_,rfl⟩
 rw [← hG] at hrz hGn ⊢
 have hG63:G≤9223372036854775807:=by
  have:=grownCap_le_maxLen w n 0 127 (by unfold maxLen;omega)
  rw [← hG] at this
  unfold maxLen at this
  omega
 clear hG
 go_enter Tryz.func199,Tryz.ntmps199
 cases a with
 | none=>
   go_wp2_with (at_builtin;refine Lib.wpList_append_run _ rfl _ _ _ _ rfl _ _ rfl rfl _ _ (hrz _) ?_)
   all_goals (go_ret;exact ⟨rfl,rfl⟩)
 | some a=>
   obtain ⟨ab,ao,asp⟩:=a
   go_wp2_with (at_builtin;refine Lib.wpList_append_run _ rfl _ _ _ _ rfl _ _ rfl rfl _ _ (hrz _) ?_)
   all_goals (go_ret;exact ⟨rfl,rfl⟩)
theorem xZ7w (N:Nat):xZ48.Ok prog N:=by
 refine ⟨⟨Tryz.f199,Tryz.func199,by kernel_rfl,by kernel_rfl⟩,fun a r h=>?_⟩
 obtain ⟨⟨⟨⟩,n,⟨⟩⟩,⟨⟩,⟨⟩⟩:=a
 have h:xZ19 N n=some r:=h
 unfold xZ19 at h
 obtain ⟨hn0,h⟩:=xZ2K h
 obtain ⟨hnb,h⟩:=xZ2K h
 have hn0:=xZ16.1 hn0
 have hnb:=xZ16.1 hnb
 obtain rfl:=Option.some.inj h
 intro M S w vs hh _ hsz hrep
 obtain ⟨v,u,rfl⟩:∃ v u,vs=#[v,u]:=by
  match vs,hsz with
  | ⟨[v,u]⟩,_=>exact ⟨v,u,rfl⟩
 obtain ⟨ad,rfl⟩:∃ ad,v=.slice ad 0 0:=by
  have q:VRep M S w v .emp:=hrep 0 (Nat.zero_lt_succ 1)
  cases q with
  | data q=>cases q;exact ⟨_,rfl⟩
 have e1:u=.int .i64 n:=VRep.v_eq (hrep 1 (Nat.lt_succ_self 1))
 subst e1
 obtain ⟨m,rfl⟩:∃ m:Nat,n=m:=⟨n.toNat,by omega⟩
 have fin:∀ (g:Value) (w':World),Grew w w'→LiveRep S w' g 8 []→(∀ b,Value.blk g=some b→w.heap.size≤b)→(∃ a n c,g=.slice a n c)→
  ∃ M' S',EndRep M' S' w' (.returned g) (.ret (.own 0))∧RelH M' S' ⟨[],[.live 8 []]⟩ w'∧Frm M S AH.nil w M' S' ⟨[],[.live 8 []]⟩ w':=by
  intro g w' hg hl hb hs
  obtain ⟨h1,h2⟩:=hh.addTok hg hl hb
  exact ⟨_,S,xZ6V hh.nt hs,h1,h2⟩
 by_cases hm:m=0
 ·subst hm
  refine (xZpU ad w).mono ?_
  rintro e w' ⟨rfl,rfl⟩
  exact fin _ _ (.refl _) (.inl ⟨⟨_,rfl⟩,rfl⟩) (fun b hb=>by cases ad<;>cases hb) ⟨_,_,_,rfl⟩
 ·obtain ⟨ks,x,hx⟩:∃ ks x,cMk prog 44 ks=some (x,8,80):=⟨[0,0,0,0,0,0,0,0],eA3 (xZ2.mk 0 0 [] [] (xZ4.mk 0 0 0 [])),by kernel_rfl⟩
  obtain ⟨e,i,z,hu,hi,hz,q1,q2,q3,q4,hx⟩:=xZoK hx
  simp only [Prod.mk.injEq] at hx
  obtain ⟨-,hs8,hb80⟩:=hx
  have he:e=127:=by
   have:prog.underlying 44=some (.slice 127):=by kernel_rfl
   rw [this] at hu;cases hu;rfl
  subst he
  refine (xZqr i z hu hi hz q3 m (by omega) (by rw [← hb80];omega) (by omega) ad w).mono ?_
  rintro e w' ⟨rfl,rfl⟩
  have hge:=grownCap_ge w m 0 127
  have hle:=grownCap_le_maxLen w m 0 127 (by unfold maxLen;omega)
  have hG:=Grew.drew_alloc w (.cells (#[]++Builtin.zeroCells z.cells m++Builtin.zeroCells z.cells (grownCap w m 0 127 - m)) 127)
  generalize grownCap w m 0 127=G at *
  obtain ⟨q,rfl⟩:∃ q,G=q+1:=⟨G - 1,by omega⟩
  refine fin _ _ hG (.inr ⟨w.heap.size,q,_,127,rfl,fun h=>by have:=hh.sits _ h;omega,xZ3q _ _,⟨Nat.zero_le _,hle,?_,fun i hi=>absurd hi (Nat.not_lt_zero _),fun i hi=>absurd hi (Nat.not_lt_zero _),fun i hi=>absurd hi (Nat.not_lt_zero _)⟩⟩) (fun b hb=>by cases hb;exact Nat.le_refl _) ⟨_,_,_,rfl⟩
  rw [Array.size_append,Array.size_append,size_zeroCells,size_zeroCells,q2,← hs8,Array.size_empty]
  omega
end Go.Proofs.YtahklhniofiofaaGreatDoor.P
set_option linter.unusedVariables false
set_option linter.unusedSimpArgs false
namespace Go.Proofs.YtahklhniofiofaaGreatDoor.P
open Go Go.RowKit Go.Proofs.Tryz
set_option maxHeartbeats 4000000
set_option maxRecDepth 1000000
theorem xZkQ {M:Maps} {S:Nat→Prop} {w:World} {v:Value} {l:List Value} (h:VRep M S w v (.agg (l.map .v))):v=.agg l.toArray:=by
 have key:∀ vs:Array Value,vs.size=(l.map AV.v).length→(∀ i,i < (l.map AV.v).length→VRep M S w (vs.getD i undef) ((l.map AV.v).getD i .any))→vs=l.toArray:=fun vs hn hall=>by
  rw [List.length_map] at hn
  refine Array.ext (by simpa using hn) fun i h1 h2=>?_
  have hi:i < l.length:=by omega
  have q:=hall i (by simpa using hi)
  rw [show (l.map AV.v).getD i .any=.v l[i] by simp [List.getD,hi]] at q
  have:=q.v_eq
  simpa [Array.getD,h1] using this
 cases h with
 | data h=>cases h with | agg vs _ hn hall=>exact congrArg _ (key vs hn fun i hi=>.data (hall i hi))
 | agg vs _ hn hall=>exact congrArg _ (key vs hn hall)
theorem xZfY (w:World) (a b:Obj):Grew w ((w.alloc a).alloc b):=⟨rfl,rfl,rfl,by simp;omega,fun g h=>(xZ2B _ _ g (by simp;omega)).trans (xZ2B _ _ g h)⟩
theorem xZoZ (w:World) (a b:Obj):Grew w ((w.alloc a).alloc b).drew:=⟨rfl,rfl,rfl,by simp;omega,fun g h=>(xZ2B _ _ g (by simp;omega)).trans (xZ2B _ _ g h)⟩
theorem xZgH (l:List UInt8):(bs l).toList=[] ↔ l=[]:=by simp [bs]
theorem xZvX (o vk vn vb:Int) (va na vt:List UInt8) (w:World):
 Calls Tryz.prog 158 #[.agg #[.int .u8 4,.int .u8 o,.string (bs va),.string (bs na),.int .u8 vk,.int .i64 vn,.int .u64 vb,.string (bs vt)]] w fun e w'=>(∃ b,e=.returned (.bool b)∧(b=false ↔ (va=[]∧na=[]∧0=vk∧0=vn∧0=vb∧vt=[])))∧Grew w w':=by
 rw [← xZgH vt,← xZgH va,← xZgH na]
 go_enter Tryz.func158,Tryz.ntmps158
 go_wp2
 all_goals
  go_ret
  refine ⟨⟨_,rfl,?_⟩,xZfY _ _ _⟩
  simp_all
theorem xZvI (o vk vn vb:Int) (va na vt:List UInt8) (w:World):
 Calls Tryz.prog 158 #[.agg #[.int .u8 7,.int .u8 o,.string (bs va),.string (bs na),.int .u8 vk,.int .i64 vn,.int .u64 vb,.string (bs vt)]] w fun e w'=>(∃ b,e=.returned (.bool b)∧(b=false ↔ (0=o∧va=[]∧0=vk∧0=vn∧0=vb∧vt=[])))∧Grew w w':=by
 rw [← xZgH vt,← xZgH va]
 go_enter Tryz.func158,Tryz.ntmps158
 go_wp2
 all_goals
  go_ret
  refine ⟨⟨_,rfl,?_⟩,xZfY _ _ _⟩
  simp_all
theorem xZwo (o vk vn vb:Int) (va na vt:List UInt8) (w:World):
 Calls Tryz.prog 158 #[.agg #[.int .u8 8,.int .u8 o,.string (bs va),.string (bs na),.int .u8 vk,.int .i64 vn,.int .u64 vb,.string (bs vt)]] w fun e w'=>(∃ b,e=.returned (.bool b)∧(b=false ↔ (0=o∧0=vk∧0=vn∧0=vb∧vt=[])))∧Grew w w':=by
 rw [← xZgH vt]
 go_enter Tryz.func158,Tryz.ntmps158
 go_wp2
 go_region_held3 (fun w'=>w'.cell? ⟨w.heap.size,2,none⟩=some (.string (bs va))∧w'.cell? ⟨w.heap.size,3,none⟩=some (.string (bs na))) (go_keep) (fail)
 go_wp2
 all_goals
  go_ret
  refine ⟨⟨_,rfl,?_⟩,xZoZ _ _ _⟩
  simp_all
theorem xZvU (o vk vn vb:Int) (va na vt:List UInt8) (w:World):
 Calls Tryz.prog 158 #[.agg #[.int .u8 9,.int .u8 o,.string (bs va),.string (bs na),.int .u8 vk,.int .i64 vn,.int .u64 vb,.string (bs vt)]] w fun e w'=>(∃ b,e=.returned (.bool b)∧(b=false ↔ (0=o∧va=[]∧na=[])))∧Grew w w':=by
 rw [← xZgH va,← xZgH na]
 go_enter Tryz.func158,Tryz.ntmps158
 go_wp2
 all_goals
  go_ret
  refine ⟨⟨_,rfl,?_⟩,xZfY _ _ _⟩
  simp_all
theorem xZw7 (k:Int) (h4:¬ k=4) (h7:¬ k=7) (h8:¬ k=8) (h9:¬ k=9) (o vk vn vb:Int) (va na vt:List UInt8) (w:World):
 Calls Tryz.prog 158 #[.agg #[.int .u8 k,.int .u8 o,.string (bs va),.string (bs na),.int .u8 vk,.int .i64 vn,.int .u64 vb,.string (bs vt)]] w fun e w'=>(∃ b,e=.returned (.bool b)∧(b=false ↔ (0=o∧va=[]∧na=[]∧0=vk∧0=vn∧0=vb∧vt=[])))∧Grew w w':=by
 rw [← xZgH vt,← xZgH va,← xZgH na]
 go_enter Tryz.func158,Tryz.ntmps158
 go_wp2
 all_goals
  go_ret
  refine ⟨⟨_,rfl,?_⟩,xZfY _ _ _⟩
  simp_all
theorem bf_eq {a b:Bool} {Q:Prop} (h1:a=false ↔ Q) (h2:b=false ↔ Q):b=a:=by cases a<;>cases b<;>simp_all
theorem xZgr (N:Nat):xZbr.Ok prog N:=by
 refine ⟨⟨Tryz.f158,Tryz.func158,by kernel_rfl,by kernel_rfl⟩,fun a r h=>?_⟩
 obtain ⟨n,⟨⟩⟩:=a
 have h:some (moreB n)=some r:=h
 obtain rfl:=Option.some.inj h
 intro M S w vs hh _ hsz hrep
 obtain ⟨v,rfl⟩:∃ v,vs=#[v]:=by
  match vs,hsz with
  | ⟨[v]⟩,_=>exact ⟨v,rfl⟩
 obtain ⟨k,o,va,na,vk,vn,vb,vt⟩:=n
 have h0:VRep M S w v (.agg ([.int .u8 k,.int .u8 o,.string (bs va),.string (bs na),.int .u8 vk,.int .i64 vn,.int .u64 vb,.string (bs vt)].map .v)):=hrep 0 (Nat.zero_lt_one)
 obtain rfl:=xZkQ h0
 have fin:∀ {k:Int} {Q:Prop},(moreB ⟨k,o,va,na,⟨vk,vn,vb,vt⟩⟩=false ↔ Q)→∀ e w',((∃ b,e=.returned (.bool b)∧(b=false ↔ Q))∧Grew w w')→
  ∃ M' S',EndRep M' S' w' e (.ret (.v (.bool (moreB ⟨k,o,va,na,⟨vk,vn,vb,vt⟩⟩))))∧RelH M' S' AH.nil w'∧Frm M S AH.nil w M' S' AH.nil w':=by
  rintro k Q hm e w' ⟨⟨b,rfl,hb⟩,hg⟩
  obtain rfl:=bf_eq hm hb
  exact ⟨M,S,.data (.v _),hh.grew hg,.grew hh hg⟩
 by_cases h4:k=4
 ·subst h4
  exact (xZvX o vk vn vb va na vt w).mono (fin (by simp [moreB,moreZ,eq_comm (a:=(0:Int)),and_assoc]))
 by_cases h7:k=7
 ·subst h7
  exact (xZvI o vk vn vb va na vt w).mono (fin (by simp [moreB,moreZ,eq_comm (a:=(0:Int)),and_assoc]))
 by_cases h8:k=8
 ·subst h8
  exact (xZwo o vk vn vb va na vt w).mono (fin (by simp [moreB,moreZ,eq_comm (a:=(0:Int)),and_assoc]))
 by_cases h9:k=9
 ·subst h9
  exact (xZvU o vk vn vb va na vt w).mono (fin (by simp [moreB,moreZ,eq_comm (a:=(0:Int)),and_assoc]))
 have e4:(k==4)=false:=by simpa using h4
 have e7:(k==7)=false:=by simpa using h7
 have e8:(k==8)=false:=by simpa using h8
 have e9:(k==9)=false:=by simpa using h9
 exact (xZw7 k h4 h7 h8 h9 o vk vn vb va na vt w).mono (fin (by simp only [moreB,e4,e7,e8,e9,cond_false];simp [moreZ,eq_comm (a:=(0:Int)),and_assoc]))
end Go.Proofs.YtahklhniofiofaaGreatDoor.P
namespace Go.Proofs.YtahklhniofiofaaGreatDoor.P
open Go Go.Shelf Go.RowKit Go.Proofs.Tryz
set_option maxHeartbeats 1000000
set_option maxRecDepth 1000000
def bren:Go.Shelf.Ren:=⟨fun | 166=>146 | 167=>145 | 169=>147 | 240=>162 | 276=>174 | n=>n,fun | 0=>0 | 3=>3 | 4=>4 | 5=>5 | 9=>9 | 20=>20 | 31=>201 | 37=>188 | 70=>216 | 72=>218 | 75=>27 | 76=>220 | 80=>94 | 127=>234 | 164=>129 | n=>n,fun n=>n⟩
theorem lays166:Go.Proofs.Lays.n166 Tryz.prog bren:={
 mixed:=by kernel_rfl
 f166:=Tryz.func146.trans (congrArg some (by kernel_rfl))
 f240:=Tryz.func162.trans (congrArg some (by kernel_rfl))
 f276:=Tryz.func174.trans (congrArg some (by kernel_rfl))
 t0:=Tryz.underlying0
 a0:=Tryz.isAgg0
 z0:=Tryz.sizeOf0
 v0:=Tryz.zeroValue0
 t3:=Tryz.underlying3
 a3:=Tryz.isAgg3
 z3:=Tryz.sizeOf3
 v3:=Tryz.zeroValue3
 t4:=Tryz.underlying4
 a4:=Tryz.isAgg4
 z4:=Tryz.sizeOf4
 v4:=Tryz.zeroValue4
 t9:=Tryz.underlying9
 a9:=Tryz.isAgg9
 z9:=Tryz.sizeOf9
 v9:=Tryz.zeroValue9
 t20:=Tryz.underlying20
 a20:=Tryz.isAgg20
 z20:=Tryz.sizeOf20
 v20:=Tryz.zeroValue20
 t37:=Tryz.underlying188
 a37:=Tryz.isAgg188
 z37:=Tryz.sizeOf188
 v37:=Tryz.zeroValue188
 t70:=Tryz.underlying216
 a70:=Tryz.isAgg216
 z70:=Tryz.sizeOf216
 v70:=Tryz.zeroValue216
 t72:=Tryz.underlying218
 a72:=Tryz.isAgg218
 z72:=Tryz.sizeOf218
 v72:=Tryz.zeroValue218
 t75:=Tryz.underlying27
 a75:=Tryz.isAgg27
 z75:=Tryz.sizeOf27
 v75:=Tryz.zeroValue27
 t164:=Tryz.underlying129
 a164:=Tryz.isAgg129
 z164:=Tryz.sizeOf129
 v164:=Tryz.zeroValue129 }
theorem lays167:Go.Proofs.Lays.n167 Tryz.prog bren:={
 mixed:=by kernel_rfl
 f167:=Tryz.func145.trans (congrArg some (by kernel_rfl))
 f240:=Tryz.func162.trans (congrArg some (by kernel_rfl))
 f276:=Tryz.func174.trans (congrArg some (by kernel_rfl))
 t0:=Tryz.underlying0
 a0:=Tryz.isAgg0
 z0:=Tryz.sizeOf0
 v0:=Tryz.zeroValue0
 t4:=Tryz.underlying4
 a4:=Tryz.isAgg4
 z4:=Tryz.sizeOf4
 v4:=Tryz.zeroValue4
 t5:=Tryz.underlying5
 a5:=Tryz.isAgg5
 z5:=Tryz.sizeOf5
 v5:=Tryz.zeroValue5
 t9:=Tryz.underlying9
 a9:=Tryz.isAgg9
 z9:=Tryz.sizeOf9
 v9:=Tryz.zeroValue9
 t20:=Tryz.underlying20
 a20:=Tryz.isAgg20
 z20:=Tryz.sizeOf20
 v20:=Tryz.zeroValue20
 t37:=Tryz.underlying188
 a37:=Tryz.isAgg188
 z37:=Tryz.sizeOf188
 v37:=Tryz.zeroValue188
 t70:=Tryz.underlying216
 a70:=Tryz.isAgg216
 z70:=Tryz.sizeOf216
 v70:=Tryz.zeroValue216
 t72:=Tryz.underlying218
 a72:=Tryz.isAgg218
 z72:=Tryz.sizeOf218
 v72:=Tryz.zeroValue218
 t75:=Tryz.underlying27
 a75:=Tryz.isAgg27
 z75:=Tryz.sizeOf27
 v75:=Tryz.zeroValue27
 t164:=Tryz.underlying129
 a164:=Tryz.isAgg129
 z164:=Tryz.sizeOf129
 v164:=Tryz.zeroValue129 }
theorem lays169:Go.Proofs.Lays.n169 Tryz.prog bren:={
 mixed:=by kernel_rfl
 f169:=Tryz.func147.trans (congrArg some (by kernel_rfl))
 t0:=Tryz.underlying0
 a0:=Tryz.isAgg0
 z0:=Tryz.sizeOf0
 v0:=Tryz.zeroValue0
 t3:=Tryz.underlying3
 a3:=Tryz.isAgg3
 z3:=Tryz.sizeOf3
 v3:=Tryz.zeroValue3
 t9:=Tryz.underlying9
 a9:=Tryz.isAgg9
 z9:=Tryz.sizeOf9
 v9:=Tryz.zeroValue9
 t37:=Tryz.underlying188
 a37:=Tryz.isAgg188
 z37:=Tryz.sizeOf188
 v37:=Tryz.zeroValue188
 t70:=Tryz.underlying216
 a70:=Tryz.isAgg216
 z70:=Tryz.sizeOf216
 v70:=Tryz.zeroValue216
 t72:=Tryz.underlying218
 a72:=Tryz.isAgg218
 z72:=Tryz.sizeOf218
 v72:=Tryz.zeroValue218
 t127:=Tryz.underlying234
 a127:=Tryz.isAgg234
 z127:=Tryz.sizeOf234
 v127:=Tryz.zeroValue234 }
theorem bextra:Builder.Extra Tryz.prog bren:={
 sizeBuilder:=by kernel_rfl
 liesBuilder:=by kernel_rfl
 t5:=Tryz.underlying5
 a5:=Tryz.isAgg5
 z5:=Tryz.sizeOf5
 v5:=Tryz.zeroValue5
 infoByte:=by kernel_rfl
 cellsByte:=by kernel_rfl
 sizeByte:=by kernel_rfl
 neB5:=by decide }
theorem xZmm {α:Type} (x z:α) (r:List α):∀ j,(List.replicate (j+1) z++r).set j x=List.replicate j z++x::r
 | 0=>rfl
 | j+1=>by
   have:=xZmm x z r j
   simp only [List.replicate_succ,List.cons_append,List.set_cons_succ] at this ⊢
   rw [this]
theorem xZuZ (q:Nat):48+UInt8.ofNat (q % 10)=UInt8.ofNat (48+q % 10):=by
 apply UInt8.toNat_inj.1
 simp [UInt8.toNat_add]
theorem xZoN (n:Int) (h1:-4611686018427387904≤n) (h2:n≤4611686018427387904) (w:World):
 Calls Tryz.prog 113 #[.int .i64 n] w fun e w'=>e=.returned (.string (bs (whS n)))∧Below w.heap.size w w':=by
 have hm:max n (-n)=(n.natAbs:Int):=by omega
 have hm2:n.natAbs < 10 ^ 19:=by omega
 obtain ⟨m,hmm⟩:∃ m,n.natAbs=m:=⟨_,rfl⟩
 rw [hmm] at hm hm2
 go_enter Tryz.func113,Tryz.ntmps113
 go_wp2
 have hin:n < 0 ↔ n < 0:=Iff.rfl
 go_loopw [4,5] (fun i x wr=>∃ (j k q:Nat) (tail:List UInt8),j+k=21∧i=.int .i64 j∧x=.int .u64 (q:Int)∧wr.heap[w.heap.size]?=some (.cells (Lib.byteCells (List.replicate j 0++tail)).toArray 214 (0,0))∧Below w.heap.size w wr∧tail.length=k∧dgF 20 m=dgF (20 - k) q++tail∧(k=0∨q≠0)∧q < 10 ^ (19 - k)∧k≤19) (fun i _ _=>(intOf i).toNat)
 case atStart=>
  refine ⟨21,0,m,[],rfl,rfl,rfl,?_,(Below.refl _ w).alloc (Nat.le_refl _) _,rfl,by simp,.inl rfl,hm2,by omega⟩
  rw [heap_alloc_new]
  rfl
 case round=>
  obtain ⟨j,k,q,tail,hjk,rfl,rfl,hh,hb,htl,hdg,hkq,hq,hk19⟩:=hrel
  have hsz:=hb.size
  have hk18:k≤18:=by
   rcases hkq with h | h
   ·omega
   ·by_cases hk:k=19
    ·subst hk;simp at hq;omega
    ·omega
  obtain ⟨p,rfl⟩:∃ p,j=p+2:=⟨j - 2,by omega⟩
  have hlen:(Lib.byteCells (List.replicate (p+2) 0++tail)).length=21:=by rw [Lib.byteCells_length];simp;omega
  have g1:(0:Int)≤((p+1:Nat):Int):=by omega
  have g2:((p+1:Nat):Int) < 21:=by omega
  have g3:p+1 < 21:=by omega
  have g4:(p:Int)+1 < 21:=by omega
  have g5:(p:Int) < 21:=by omega
  have g6:p < 21:=by omega
  have g7:p+1≤21:=by omega
  have g8:p≤21:=by omega
  have c1:∃ v,wr.cell? ⟨w.heap.size,p+1,none⟩=some v:=by
   rw [Lib.cell_of_heap hh];exact ⟨(Lib.byteCells (List.replicate (p+2) 0++tail))[p+1]'(by omega),by simp only [List.getElem?_toArray];exact List.getElem?_eq_getElem _⟩
  obtain ⟨v0,c1⟩:=c1
  have c2:wr.frozen? ⟨w.heap.size,p+1,none⟩=false:=Lib.frozen_of_heap hh (p+1)
  have hq64:q < 18446744073709551616:=Nat.lt_of_lt_of_le hq (Nat.le_trans (Nat.pow_le_pow_right (by decide) (by omega:19 - k≤19)) (by decide))
  have hbl:=fun v=>Joins.block_setCell (i:=p+1) hh v
  have c3:∀ v,(wr.setCell ⟨w.heap.size,p+1,none⟩ v).cell? ⟨w.heap.size,p,none⟩=some (.int .u8 0):=fun v=>by
   rw [Lib.cell_of_heap (hbl v),List.setIfInBounds_toArray,List.getElem?_toArray,List.getElem?_set_ne (by omega)]
   simp [Lib.byteCells,List.getElem?_append]
  have c4:∀ v,(wr.setCell ⟨w.heap.size,p+1,none⟩ v).frozen? ⟨w.heap.size,p,none⟩=false:=fun v=>Lib.frozen_of_heap (hbl v) p
  have hbl2:=fun v v'=>Joins.block_setCell (i:=p) (hbl v) v'
  have hd10:q % 10 < 10:=Nat.mod_lt _ (by decide)
  have s1:(0:Int)≤(p:Int)+2 - 1:=by omega
  have s2:(p:Int)+2 - 1≤21:=by omega
  have s3:(0:Int)≤(p:Int)+2 - 1 - 1:=by omega
  have s4:(p:Int)+2 - 1 - 1≤21:=by omega
  have s5:((p:Int)+2 - 1).toNat=p+1:=by omega
  have s6:((p:Int)+2 - 1 - 1).toNat=p:=by omega
  have s7:¬ (21=p+1):=by omega
  have s8:¬ (21=p):=by omega
  have r1:∀ W,(Instr.sliceAt 214 (.pointer (some ⟨w.heap.size,0,none⟩)) (some (.int .i64 ((p:Int)+2 - 1))) none none).run Tryz.prog W=.ok (.slice (some ⟨w.heap.size,p+1,none⟩) (20 - p) (20 - p)) W:=fun W=>by
   rw [run_sliceAt_array_l (P:=Tryz.prog) W 214 _ (by kernel_rfl) .i64 _ s1 (by exact s2),s5,show Tryz.prog.elem 214=5 from by kernel_rfl,Tryz.sizeOf5,show Tryz.prog.arrayLen 214=21 from by kernel_rfl]
   simp only [Result.andThen,slicedAt,if_neg s7,Addr.add,Nat.mul_one,Nat.zero_add,show 21 - (p+1)=20 - p from by omega,Nat.succ_ne_zero,if_false]
  have r2:∀ W,(Instr.sliceAt 214 (.pointer (some ⟨w.heap.size,0,none⟩)) (some (.int .i64 ((p:Int)+2 - 1 - 1))) none none).run Tryz.prog W=.ok (.slice (some ⟨w.heap.size,p,none⟩) (21 - p) (21 - p)) W:=fun W=>by
   rw [run_sliceAt_array_l (P:=Tryz.prog) W 214 _ (by kernel_rfl) .i64 _ s3 (by exact s4),s6,show Tryz.prog.elem 214=5 from by kernel_rfl,Tryz.sizeOf5,show Tryz.prog.arrayLen 214=21 from by kernel_rfl]
   simp only [Result.andThen,slicedAt,if_neg s8,Addr.add,Nat.mul_one,Nat.zero_add]
   by_cases hp0:p=0
   ·subst hp0;rfl
   ·rw [if_neg hp0]
  obtain ⟨l1,hl1⟩:∃ l,l=UInt8.ofNat (48+q % 10)::tail:=⟨_,rfl⟩
  have hll:l1.length=20 - p:=by rw [hl1];simp;omega
  have hsub:(48+(q:Int) % 10)=((UInt8.ofNat (48+q % 10)).toNat:Int):=by rw [UInt8.toNat_ofNat',Nat.mod_eq_of_lt (by omega)];omega
  have hw1:(wr.setCell ⟨w.heap.size,p+1,none⟩ (.int .u8 (48+(q:Int) % 10))).heap[w.heap.size]?=some (.cells (Lib.byteCells (List.replicate (p+1) 0++l1)).toArray 214 (0,0)):=by
   rw [hbl,hl1,← xZmm (UInt8.ofNat (48+q % 10)) 0 tail (p+1),List.setIfInBounds_toArray,hsub]
   simp only [Lib.byteCells,List.map_set]
  have hw2:((wr.setCell ⟨w.heap.size,p+1,none⟩ (.int .u8 (48+(q:Int) % 10))).setCell ⟨w.heap.size,p,none⟩ (.int .u8 45)).heap[w.heap.size]?=some (.cells (Lib.byteCells (List.replicate p 0++45::l1)).toArray 214 (0,0)):=by
   rw [Joins.block_setCell hw1,← xZmm 45 0 l1 p,List.setIfInBounds_toArray]
   simp only [Lib.byteCells,List.map_set]
   rfl
  have hcv:=fun (W:World) (o:Nat) (l:List UInt8) (cap:Nat) (hW:W.heap[w.heap.size]?=some (.cells (Lib.byteCells (List.replicate o 0++l)).toArray 214 (0,0)))=>run_convert_bytes_back (P:=Tryz.prog) W 188 9 5 ⟨w.heap.size,o,none⟩ cap l (by kernel_rfl) (by kernel_rfl) (by kernel_rfl) (fun i hi=>by
   have ea:(⟨w.heap.size,o,none⟩:Addr).add i=⟨w.heap.size,o+i,none⟩:=by unfold Addr.add;split<;>simp [*]
   rw [ea,Lib.cell_of_heap hW,List.getElem?_toArray]
   simp [Lib.byteCells,List.getElem?_append_right,List.getElem?_eq_getElem hi])
  have cv1:=hcv _ (p+1) l1 (20 - p) hw1
  have cv2:=hcv _ p (45::l1) (21 - p) hw2
  rw [hll] at cv1
  rw [show (45::l1).length=21 - p by simp;omega] at cv2
  have hd2:dgF 20 m=(if q / 10=0 then [] else dgF (19 - k) (q / 10))++l1:=by
   rw [hdg,show 20 - k=(19 - k)+1 by omega,dgF,hl1];simp
  have hhi:(wr.setCell ⟨w.heap.size,p+1,none⟩ (.int .u8 (48+(q:Int) % 10))).heap[w.heap.size]?=some (.cells (Lib.byteCells (List.replicate (p+1) 0++l1)).toArray 214 (0,0))∧l1.length=k+1∧p+1+(k+1)=21∧q < 10 ^ (19 - k)∧l1=UInt8.ofNat (48+q % 10)::tail:=⟨hw1,by omega,by omega,hq,hl1⟩
  clear hjk hkq hq hk19 hdg hcv hw1 hw2 hl1 hsub
  go_wp2
  ·go_ret
   rename_i hq0 hn
   have hq0':q / 10=0:=by have:=beq_iff_eq.1 hq0;omega
   rw [if_pos hq0',List.nil_append,hhi.2.2.2.2,← xZuZ] at hd2
   have e:whS n=45::(48+UInt8.ofNat (q % 10))::tail:=by rw [whS,if_pos hn,hmm,hd2];rfl
   rw [e]
   exact ⟨rfl,(hb.setCell (p:=⟨w.heap.size,p+1,none⟩) (Nat.le_refl _) _).setCell (p:=⟨w.heap.size,p,none⟩) (Nat.le_refl _) _⟩
  ·go_ret
   rename_i hq0 hn
   have hq0':q / 10=0:=by have:=beq_iff_eq.1 hq0;omega
   rw [if_pos hq0',List.nil_append,hhi.2.2.2.2,← xZuZ] at hd2
   have e:whS n=(48+UInt8.ofNat (q % 10))::tail:=by rw [whS,if_neg (by omega),hmm,hd2];rfl
   rw [e]
   exact ⟨rfl,hb.setCell (p:=⟨w.heap.size,p+1,none⟩) (Nat.le_refl _) _⟩
  ·obtain ⟨hw1,hl,hjk,hq,hl1⟩:=hhi
   rename_i hq0
   have hq0':¬ (q / 10=0):=fun e=>by have:=beq_eq_false_iff_ne.1 hq0;omega
   refine ⟨⟨p+1,k+1,q / 10,l1,hjk,?_,?_,hw1,hb.setCell (p:=⟨w.heap.size,p+1,none⟩) (Nat.le_refl _) _,hl,?_,.inr hq0',?_,by omega⟩,by simp only [intOf];omega⟩
   ·rw [show (p:Int)+2 - 1=((p+1:Nat):Int) by omega]
   ·rw [show (q:Int) / 10=((q / 10:Nat):Int) by omega]
   ·rw [hd2,if_neg hq0',show 20 - (k+1)=19 - k by omega]
   ·refine Nat.div_lt_of_lt_mul ?_
    have e:19 - k=19 - (k+1)+1:=by omega
    rw [e,Nat.pow_succ,Nat.mul_comm] at hq
    exact hq
theorem xZng (N:Nat):xZha.Ok prog N:=by
 refine ⟨⟨Tryz.f113,Tryz.func113,by kernel_rfl,by kernel_rfl⟩,fun a r h=>?_⟩
 have h:xZcj N a.1=some r:=h
 unfold xZcj at h
 obtain ⟨h1,h2⟩:=xZ2K h
 obtain rfl:=Option.some.inj h2
 intro M S w vs hh _ hsz hrep
 obtain ⟨v,rfl⟩:∃ v,vs=#[v]:=by
  match vs,hsz with
  | ⟨[v]⟩,_=>exact ⟨v,rfl⟩
 have h0:v=.int .i64 a.1:=VRep.v_eq (hrep 0 (Nat.zero_lt_one))
 subst h0
 obtain ⟨k1,k2⟩:=(Bool.and_eq_true _ _).mp h1
 refine (xZoN a.1 (xZ16.1 k1) (xZ16.1 k2) w).mono ?_
 rintro e w' ⟨rfl,hb⟩
 have hg:Grew w w':=⟨hb.os,hb.tape,hb.output,hb.size,hb.block⟩
 exact ⟨M,S,.data (.v _),hh.grew hg,.grew hh hg⟩
end Go.Proofs.YtahklhniofiofaaGreatDoor.P
namespace Go.Proofs.YtahklhniofiofaaGreatDoor.P
open Go Go.Shelf Go.RowKit Go.Proofs.Tryz
set_option maxHeartbeats 1000000
set_option maxRecDepth 1000000
theorem xZp8 (u:Nat):∀ k,(hxS k u).length=k
 | 0=>rfl
 | k+1=>by simp [hxS,xZp8 u k]
theorem and15 (q:Nat) (h:q < 18446744073709551616):bits .and .u64 (q:Int) 15=((q % 16:Nat):Int):=by
 have:=bits_and_u64_nat q 15 h (by decide)
 rw [show ((15:Nat):Int)=15 from rfl] at this
 rw [this,show q &&& 15=q % 16 from Nat.and_two_pow_sub_one_eq_mod q 4]
theorem xZve {k:Nat} (h:k < 16):({ data:=#[48,49,50,51,52,53,54,55,56,57,97,98,99,100,101,102] }:ByteArray)[k]'h=hexB k:=by
 have:∀ k:Fin 16,({ data:=#[48,49,50,51,52,53,54,55,56,57,97,98,99,100,101,102] }:ByteArray)[k.1]'k.2=hexB k.1:=by decide
 exact this ⟨k,h⟩
theorem xZtZ {α:Type} (a x z:α) (r:List α):∀ j,(a::(List.replicate (j+1) z++r)).set (j+1) x=a::(List.replicate j z++x::r)
 | 0=>rfl
 | j+1=>by
   have:=xZtZ z x z r j
   simp only [List.replicate_succ,List.cons_append,List.set_cons_succ] at this ⊢
   rw [this]
theorem xZpY (u:Nat) (hu:u < 18446744073709551616) (w:World):
 Calls Tryz.prog 114 #[.int .u64 (u:Int)] w fun e w'=>e=.returned (.string (bs (bitS u)))∧Below w.heap.size w w':=by
 go_enter Tryz.func114,Tryz.ntmps114
 go_wp2
 go_loopw [0,4] (fun x i wr=>∃ j k:Nat,j+k=16∧x=.int .u64 ((u / 16 ^ k:Nat):Int)∧i=.int .i64 j∧wr.heap[w.heap.size]?=some (.cells (Lib.byteCells (35::(List.replicate j 0++hxS k u))).toArray 215 (0,0))∧Below w.heap.size w wr) (fun _ i _=>(intOf i).toNat)
 case atStart=>
  refine ⟨16,0,rfl,by simp,rfl,?_,(Below.refl _ w).alloc (Nat.le_refl _) _⟩
  rw [heap_alloc_new]
  rfl
 case round=>
  obtain ⟨j,k,hjk,rfl,rfl,hh,hb⟩:=hrel
  have hsz:=hb.size
  have hlen:(Lib.byteCells (35::(List.replicate j 0++hxS k u))).length=17:=by rw [Lib.byteCells_length];simp [xZp8];omega
  have hq':u / 16 ^ k < 18446744073709551616:=Nat.lt_of_le_of_lt (Nat.div_le_self _ _) hu
  by_cases hj:j=0
  ·subst hj
   obtain rfl:k=16:=by omega
   have hcv:=fun (P:Program) (src dst e:TypeId) hs he hd=>run_convert_bytes_back (P:=P) wr src dst e ⟨w.heap.size,0,none⟩ 17 (bitS u) hs he hd (fun i hi=>by
    have ea:(⟨w.heap.size,0,none⟩:Addr).add i=⟨w.heap.size,i,none⟩:=by simp [Addr.add];exact fun h=>h.symm
    rw [ea,Lib.cell_of_heap hh,List.getElem?_toArray]
    show (Lib.byteCells (bitS u))[i]?=_
    simp [Lib.byteCells,List.getElem?_eq_getElem hi])
   generalize u / 16 ^ 16=q
   have hcv':=hcv Tryz.prog 188 9 5 (by kernel_rfl) (by kernel_rfl) (by kernel_rfl)
   rw [show (bitS u).length=17 by simp [bitS,xZp8]] at hcv'
   clear hcv
   go_wp2
   go_ret
   exact ⟨rfl,hb⟩
  ·obtain ⟨j,rfl⟩:∃ j',j=j'+1:=⟨j - 1,by omega⟩
   have h1:(0:Int) < ((j+1:Nat):Int):=by omega
   have h2:((j+1:Nat):Int) < 17:=by omega
   have h3:j+1 < 17:=by omega
   have c1:∃ v,wr.cell? ⟨w.heap.size,j+1,none⟩=some v:=by
    rw [Lib.cell_of_heap hh];exact ⟨(Lib.byteCells (35::(List.replicate (j+1) 0++hxS k u)))[j+1]'(by omega),by simp only [List.getElem?_toArray];exact List.getElem?_eq_getElem _⟩
   obtain ⟨v0,c1⟩:=c1
   have c2:wr.frozen? ⟨w.heap.size,j+1,none⟩=false:=Lib.frozen_of_heap hh (j+1)
   have hbl:=fun v=>Joins.block_setCell (i:=j+1) hh v
   have hdd:u / 16 ^ k / 16=u / 16 ^ (k+1):=by rw [Nat.div_div_eq_div_mul,Nat.pow_succ]
   have hhx:hexB (u / 16 ^ k % 16)::hxS k u=hxS (k+1) u:=rfl
   generalize u / 16 ^ k=q at *
   have hb15:=and15 q hq'
   have hk1:q % 16 < 16:=by omega
   go_wp2
   refine ⟨⟨j,k+1,by omega,by rw [← hdd];simp,rfl,?_,hb.setCell (p:=⟨w.heap.size,j+1,none⟩) (Nat.le_refl _) _⟩,by simp only [intOf];omega⟩
   rw [hbl,xZve hk1,← hhx,← xZtZ 35 (hexB (q % 16)) 0 (hxS k u) j,List.setIfInBounds_toArray]
   simp only [Lib.byteCells,List.map_set]
theorem xZoR (N:Nat):xZjD.Ok prog N:=by
 refine ⟨⟨Tryz.f114,Tryz.func114,by kernel_rfl,by kernel_rfl⟩,fun a r h=>?_⟩
 have h:xZdV N a.1=some r:=h
 unfold xZdV at h
 obtain ⟨h1,h2⟩:=xZ2K h
 obtain rfl:=Option.some.inj h2
 intro M S w vs hh _ hsz hrep
 obtain ⟨v,rfl⟩:∃ v,vs=#[v]:=by
  match vs,hsz with
  | ⟨[v]⟩,_=>exact ⟨v,rfl⟩
 have h0:v=.int .u64 a.1:=VRep.v_eq (hrep 0 (Nat.zero_lt_one))
 subst h0
 obtain ⟨k1,k2⟩:=(Bool.and_eq_true _ _).mp h1
 obtain ⟨u,hu⟩:∃ u:Nat,a.1=(u:Int):=⟨a.1.toNat,by have:=xZ16.1 k1;omega⟩
 have k3:a.1 < 18446744073709551616:=xZv.1 k2
 rw [hu] at k3 ⊢
 refine (xZpY u (by omega) w).mono ?_
 rintro e w' ⟨rfl,hb⟩
 have hg:Grew w w':=⟨hb.os,hb.tape,hb.output,hb.size,hb.block⟩
 exact ⟨M,S,.data (.v _),hh.grew hg,.grew hh hg⟩
end Go.Proofs.YtahklhniofiofaaGreatDoor.P
namespace Go.Proofs.YtahklhniofiofaaGreatDoor.P
open Go Go.Shelf Go.RowKit Go.Proofs.Tryz
set_option maxHeartbeats 1000000
set_option maxRecDepth 1000000
theorem xZrw (x:List UInt8):(bs x).size=x.length:=by simp [bs,ByteArray.size]
theorem xZvN (x:List UInt8) (c:UInt8):Lib.byteCells x++[Value.int .u8 (c.toNat:Int)]=Lib.byteCells (x++[c]):=by rw [Lib.byteCells_append];rfl
theorem xZwk (c:UInt8):(txC c).length≤3:=by
 unfold txC;split
 ·decide
 ·split<;>simp
theorem lx_le (l:List UInt8):(l.flatMap txC).length≤3 * l.length:=by
 induction l with
 | nil=>exact Nat.zero_le _
 | cons c l ih=>have:=xZwk c;simp only [List.flatMap_cons,List.length_append,List.length_cons];omega
theorem xZvt (c:UInt8):txC c=if c.toNat=39 then [39,39] else if c.toNat < 32∨126 < c.toNat∨c.toNat=92 then [92,hexB (c.toNat / 16),hexB (c.toNat % 16)] else [c]:=by
 unfold txC
 simp only [UInt8.lt_iff_toNat_lt,← UInt8.toNat_inj]
 rfl
theorem xZtC {k:Nat} (h:k < 16):({ data:=#[48,49,50,51,52,53,54,55,56,57,97,98,99,100,101,102] }:ByteArray)[k]'h=hexB k:=by
 have:∀ k:Fin 16,({ data:=#[48,49,50,51,52,53,54,55,56,57,97,98,99,100,101,102] }:ByteArray)[k.1]'k.2=hexB k.1:=by decide
 exact this ⟨k,h⟩
theorem xZgd {w wr:World} {x:List UInt8} (v:Int) (hI:Lib.IsBuilderF 218 5 w.heap.size w.heap.size (Lib.byteCells x) wr) (hb:Below w.heap.size w wr) (hq:x.length≤100000000000):
 Calls Tryz.prog 145 #[.pointer (some ⟨w.heap.size,0,none⟩),.int .u8 v] wr fun e W=>e=.returned .nilIface∧(∀ c:UInt8,v=(c.toNat:Int)→Lib.IsBuilderF 218 5 w.heap.size w.heap.size (Lib.byteCells (x++[c])) W)∧Below w.heap.size w W:=by
 refine (Any.Builder_WriteByte_k lays167 bextra w.heap.size w.heap.size _ v _ hI (by rw [Lib.byteCells_length];omega) hb.size).mono ?_
 rintro e W ⟨rfl,h,b,_⟩
 refine ⟨rfl,fun c hc=>Or.inr ?_,hb.trans b⟩
 subst hc
 rw [← xZvN];exact h
theorem xZv3 (l:List UInt8) (w:World) (hlen:l.length≤10000000000):
 Calls Tryz.prog 115 #[.string (bs l)] w fun e w'=>e=.returned (.string (bs (txS l)))∧Below w.heap.size w w':=by
 have hat:∀ pre c rest,l=pre++c::rest→∃ h:pre.length < (bs l).size,(bs l)[pre.length]'h=c:=fun pre c rest h=>by
  subst h
  refine ⟨by rw [xZrw];simp,?_⟩
  exact (by simp:(pre++c::rest).toArray[pre.length]'(by simp)=c)
 have hn':l.length=(bs l).size:=by rw [xZrw]
 obtain ⟨T,hT⟩:∃ T,T=txS l:=⟨_,rfl⟩
 rw [← hT]
 generalize bs l=B at *
 obtain ⟨n,hn⟩:∃ n,B.size=n:=⟨_,rfl⟩
 rw [hn] at hn'
 go_enter Tryz.func115,Tryz.ntmps115
 go_wp2_with (go_at_call 145;refine (xZgd (x:=[]) 39 (Lib.IsBuilderF.of (Lib.fresh_isBuilder 218 5 w)) ((Below.refl _ w).alloc (Nat.le_refl _) _) (by simp)).mono ?_)
 rintro e W0 ⟨rfl,h0,b0⟩
 have h0:=h0 39 rfl
 go_wp2
 go_loopw [9] (fun i wr=>∃ (pre rest:List UInt8),l=pre++rest∧i=.int .i64 pre.length∧Lib.IsBuilderF 218 5 w.heap.size w.heap.size (Lib.byteCells ([39]++pre.flatMap txC)) wr∧Below w.heap.size w wr) (fun i _=>n - (intOf i).toNat)
 case atStart=>exact ⟨[],l,rfl,rfl,h0,b0⟩
 case round=>
  obtain ⟨pre,rest,hl,rfl,hI,hb⟩:=hrel
  have hsz:=hb.size
  have htx:=lx_le pre
  cases rest with
  | nil=>
    have hc:¬ ((pre.length:Int) < (n:Int)):=by rw [← hn',hl];simp
    rw [List.append_nil] at hl
    have hq:([39]++pre.flatMap txC).length≤100000000000:=by subst hl;simp only [List.length_append,List.length_cons,List.length_nil];omega
    clear hlen hat htx
    subst hl
    go_wp2_with (first | (go_at_call 145;refine (xZgd 39 hI hb hq).mono ?_;rintro e W1 ⟨rfl,h1,b1⟩;have h1:=h1 39 rfl) | (go_at_call 147;refine (Any.Builder_String_any_k lays169 bextra w.heap.size w.heap.size _ _ h1 (by have:=b1.size;omega)).mono ?_;rintro e W2 ⟨rfl,_,b2,_⟩))
    go_ret
    exact ⟨by rw [hT];rfl,b1.trans b2⟩
  | cons c rest=>
    have hlp:pre.length < l.length:=by rw [hl];simp
    have hc:((pre.length:Int) < (n:Int)):=by omega
    have hlt:pre.length < n:=by omega
    obtain ⟨hx1,hx⟩:=hat pre c rest hl
    have hq:([39]++pre.flatMap txC).length≤100000000000 - 10:=by simp only [List.length_append,List.length_cons,List.length_nil];omega
    clear hat
    have hq1:([39]++pre.flatMap txC).length≤100000000000:=by omega
    have hq2:(([39]++pre.flatMap txC)++[92]).length≤100000000000:=by rw [List.length_append];simp only [List.length_cons,List.length_nil];omega
    have hq3:∀ d:UInt8,((([39]++pre.flatMap txC)++[92])++[d]).length≤100000000000:=fun d=>by rw [List.length_append,List.length_append];simp only [List.length_cons,List.length_nil];omega
    have h256:c.toNat < 256:=c.toNat_lt
    have hk1:c.toNat / 16 < 16:=by omega
    have hk2:c.toNat % 16 < 16:=by omega
    go_wp2_with (first
     | (go_at_call 145;refine (xZgd _ hI hb hq1).mono ?_;rintro e W1 ⟨rfl,h1,b1⟩;first | have h1:=h1 92 rfl | have h1:=h1 c rfl)
     | (go_at_call 145;refine (xZgd _ h1 b1 hq2).mono ?_;rintro e W2 ⟨rfl,h2,b2⟩;have h2:=h2 _ rfl)
     | (go_at_call 145;refine (xZgd _ h2 b2 (hq3 _)).mono ?_;rintro e W3 ⟨rfl,h3,b3⟩;have h3:=h3 _ rfl)
     | (go_at_call 146;refine (Any.Builder_WriteString_k lays166 bextra w.heap.size w.heap.size _ _ _ hI (by rw [Lib.byteCells_length];exact Nat.le_trans (Nat.add_le_add hq1 (Nat.le_refl _)) (by decide)) hsz).mono ?_;rintro e W1 ⟨rfl,h1,b1,_⟩))
    all_goals
     refine ⟨⟨pre++[c],rest,by rw [hl];simp,by simp,?_,by first | assumption | exact hb.trans (by assumption)⟩,by simp only [intOf];omega⟩
     rw [show [39]++(pre++[c]).flatMap txC=([39]++pre.flatMap txC)++txC c by simp,xZvt]
     clear hT hl hn' hn hc hlt hlp hx hx1
     try simp only [beq_iff_eq,beq_eq_false_iff_ne,ne_eq] at *
     first
      | (rw [if_pos (by omega)]
         rw [show Lib.strCells { data:=#[39,39] }=Lib.byteCells [39,39] from rfl,← Lib.byteCells_append] at h1
         exact Or.inr h1)
      | (rw [if_neg (by omega),if_pos (by omega)]
         rw [xZtC hk1,xZtC hk2] at h3
         simpa only [List.append_assoc,List.cons_append,List.nil_append] using h3)
      | (rw [if_neg (by omega),if_neg (by omega)];exact h1)
theorem xZo7 (N:Nat):xZjl.Ok prog N:=by
 refine ⟨⟨Tryz.f115,Tryz.func115,by kernel_rfl,by kernel_rfl⟩,fun a r h=>?_⟩
 have h:xZdK N a.1=some r:=h
 unfold xZdK at h
 obtain ⟨h1,h2⟩:=xZ2K h
 obtain rfl:=Option.some.inj h2
 intro M S w vs hh _ hsz hrep
 obtain ⟨v,rfl⟩:∃ v,vs=#[v]:=by
  match vs,hsz with
  | ⟨[v]⟩,_=>exact ⟨v,rfl⟩
 have h0:v=.string (bs a.1):=VRep.v_eq (hrep 0 (Nat.zero_lt_one))
 subst h0
 refine (xZv3 a.1 w (Nat.le_of_ble_eq_true h1)).mono ?_
 rintro e w' ⟨rfl,hb⟩
 have hg:Grew w w':=⟨hb.os,hb.tape,hb.output,hb.size,hb.block⟩
 exact ⟨M,S,.data (.v _),hh.grew hg,.grew hh hg⟩
end Go.Proofs.YtahklhniofiofaaGreatDoor.P
namespace Go.Proofs.YtahklhniofiofaaGreatDoor.P
open Go Go.RowKit Go.Extern.Stop Go.Stop Go.Extern Go.Proofs.Tryz
set_option maxHeartbeats 4000000
set_option maxRecDepth 1000000
theorem xZwn (t:Value) (w:World):
 Calls Tryz.prog 36 #[.nilIface,t] w fun e w'=>e=.returned (.bool false)∧w'=w:=by
 go_enter Tryz.func36,Tryz.ntmps36
 go_wp2
 go_ret
 exact ⟨rfl,rfl⟩
theorem xZs8 (w:World):Calls Tryz.prog 35 #[.nilIface] w fun e w'=>e=.returned (.pointer none)∧Below w.heap.size w w':=by
 go_enter Tryz.func35,Tryz.ntmps35
 go_wp2_with (go_at_call 36;refine (xZwn _ _).mono ?_;rintro e w' ⟨rfl,rfl⟩)
 go_ret
 exact ⟨rfl,(Below.refl _ w).alloc (Nat.le_refl _) _⟩
theorem xZhK (N:Nat):xZdO.Ok prog N:=by
 refine ⟨⟨Tryz.f35,Tryz.func35,by kernel_rfl,by kernel_rfl⟩,fun a r h=>?_⟩
 intro M S w vs hh _ hsz hrep
 obtain ⟨v,rfl⟩:∃ v,vs=#[v]:=by
  match vs,hsz with
  | ⟨[v]⟩,_=>exact ⟨v,rfl⟩
 have h0:v=.nilIface:=VRep.v_eq (hrep 0 (Nat.zero_lt_one))
 subst h0
 refine (xZs8 w).mono ?_
 rintro e w' ⟨rfl,hb⟩
 have hg:Grew w w':=⟨hb.os,hb.tape,hb.output,hb.size,hb.block⟩
 exact ⟨M,S,.data (.v _),hh.grew hg,.grew hh hg⟩
end Go.Proofs.YtahklhniofiofaaGreatDoor.P
namespace Go.Proofs.YtahklhniofiofaaGreatDoor.P
open Go Go.RowKit Go.Extern.Stop Go.Stop Go.Extern Go.Proofs.Tryz
set_option maxHeartbeats 4000000
set_option maxRecDepth 1000000
theorem xZmk (t:Addr) (w:World):(ReflectliteValue.unpack (.iface 128 (.pointer (some t)))).run Tryz.prog w
 = .ok (.agg #[.pointer (some ⟨3,128,none⟩),.pointer (some ⟨w.heap.size,0,none⟩),.int .u64 150]) (w.alloc (.cells #[.pointer (some t)] 128)):=by kernel_rfl
theorem xZpS (a:Addr) (w:World):(ReflectliteValue.methodAny (ReflectliteValue.valueError "reflectlite.Value.Type" 0) (fun t _ _ _=>ReflectliteType.toType t) #[.agg #[.pointer (some ⟨3,128,none⟩),.pointer (some a),.int .u64 150]]).run Tryz.prog w
 = .ok (.iface 160 (.agg #[.pointer (some ⟨3,128,none⟩)])) w:=by kernel_rfl
theorem xZjW (h:Value) (w:World):(Go.method 397 160 (.agg #[h]) "Kind").run Tryz.prog w=.ok (217,h) w:=by kernel_rfl
theorem xZpW (w:World):((ReflectliteType.abiMethod fun t=>(fun a:Nat=>Value.int IntKind.u8 (a:Int)) <$> Rtype.kind t) #[.pointer (some ⟨3,128,none⟩)]).run Tryz.prog w=.ok (.int .u8 22) w:=by kernel_rfl
theorem xZqC (w:World):((ReflectliteType.abiMethod fun t=>(fun a:Nat=>Value.int IntKind.u8 (a:Int)) <$> Rtype.kind t) #[.pointer (some ⟨3,84,none⟩)]).run Tryz.prog w=.ok (.int .u8 22) w:=by kernel_rfl
theorem xZu4 (z:Sem Value) (f:TypeId→Addr→Nat→Nat→Sem Value) (v:Value):
 ReflectliteValue.method z f #[v]=(do match ← ReflectliteValue.parts v with | none=>z | some (t,a,fl)=>f t a fl (fl % 32)):=rfl
theorem xZjx (a:Addr) (w:World):(ReflectliteValue.parts (.agg #[.pointer (some ⟨3,128,none⟩),.pointer (some a),.int .u64 150])).run Tryz.prog w=.ok (some (128,a,150)) w:=by kernel_rfl
theorem xZpt (a p:Addr) (W:World) (ha:W.cell? a=some (.pointer (some p))):
 (ReflectliteValue.method (ReflectliteValue.valueError "reflectlite.Value.IsNil" 0) ReflectliteValue.isNil #[.agg #[.pointer (some ⟨3,128,none⟩),.pointer (some a),.int .u64 150]]).run Tryz.prog W=.ok (.bool false) W:=by
 rw [xZu4]
 simp only [Sem.run_bind,xZjx,Result.andThen]
 simp [ReflectliteValue.isNil,loadVar,isAgg,underlying,Tryz.underlying128,ha,Result.andThen]
theorem xZj1 (h:Value) (w:World):(Go.method 397 160 (.agg #[h]) "Elem").run Tryz.prog w=.ok (229,.agg #[h]) w:=by kernel_rfl
theorem xZec (h:Value) (w:World):(Go.method 397 160 (.agg #[h]) "Implements").run Tryz.prog w=.ok (230,.agg #[h]) w:=by kernel_rfl
theorem xZcs (h:Value) (w:World):(Go.method 397 160 (.agg #[h]) "AssignableTo").run Tryz.prog w=.ok (227,.agg #[h]) w:=by kernel_rfl
theorem xZqM (w:World):(ReflectliteType.method ReflectliteType.elem #[.agg #[.pointer (some ⟨3,128,none⟩)]]).run Tryz.prog w=.ok (.iface 160 (.agg #[.pointer (some ⟨3,84,none⟩)])) w:=by kernel_rfl
theorem xZgW (w:World):(ReflectliteType.relation "Implements" ReflectliteType.implements_ #[.agg #[.pointer (some ⟨3,84,none⟩)],.iface 160 (.agg #[.pointer (some ⟨3,27,none⟩)])]).run Tryz.prog w=.ok (.bool true) w:=by kernel_rfl
theorem xZnU (v:Value) (w:World):(ReflectliteType.typeOf #[.iface 84 v]).run Tryz.prog w=.ok (.iface 160 (.agg #[.pointer (some ⟨3,84,none⟩)])) w:=by kernel_rfl
theorem xZgX (w:World):(ReflectliteType.relation "AssignableTo" ReflectliteType.assignableTo #[.agg #[.pointer (some ⟨3,84,none⟩)],.iface 160 (.agg #[.pointer (some ⟨3,84,none⟩)])]).run Tryz.prog w=.ok (.bool true) w:=by kernel_rfl
theorem xZkP (e:Addr) (w:World):(ReflectliteValue.unpack (.iface 84 (.pointer (some e)))).run Tryz.prog w
 = .ok (.agg #[.pointer (some ⟨3,84,none⟩),.pointer (some ⟨w.heap.size,0,none⟩),.int .u64 150]) (w.alloc (.cells #[.pointer (some e)] 84)):=by kernel_rfl
theorem xZnf (w:World):(Rtype.elem? 128).run Tryz.prog w=.ok (some 84) w:=by kernel_rfl
theorem xZtY (p:Addr) (w:World):(ReflectliteValue.mk 84 p ReflectliteValue.flagAddr).run Tryz.prog w=.ok (.agg #[.pointer (some ⟨3,84,none⟩),.pointer (some p),.int .u64 406]) w:=by kernel_rfl
theorem xZpz (a p:Addr) (W:World) (ha:W.cell? a=some (.pointer (some p))):
 (ReflectliteValue.method (ReflectliteValue.valueError "reflectlite.Value.Elem" 0) ReflectliteValue.elem #[.agg #[.pointer (some ⟨3,128,none⟩),.pointer (some a),.int .u64 150]]).run Tryz.prog W
   = .ok (.agg #[.pointer (some ⟨3,84,none⟩),.pointer (some p),.int .u64 406]) W:=by
 rw [xZu4]
 simp only [Sem.run_bind,xZjx,Result.andThen]
 simp [ReflectliteValue.elem,loadVar,isAgg,underlying,Tryz.underlying128,ha,Result.andThen,xZnf,xZtY]
theorem xZvD (v x:Value):ReflectliteValue.set #[v,x]=(do
 let (some (dst,a,fl),some (src,b,_)):=(← ReflectliteValue.parts v,← ReflectliteValue.parts x)
  | unsupported (.noEntry "extern/(internal/reflectlite.Value).Set.zeroValue")
 if fl / ReflectliteValue.flagAddr % 2==0 then unsupported (.noEntry "extern/(internal/reflectlite.Value).Set.unaddressable")
 let val ← loadVar src b
 if ← Rtype.directlyAssignable dst src then storeVar dst a val
 else if ← Rtype.implements dst src then
  if (← Rtype.kind src)==20 then
   match val with
   | .nilIface=>unsupported (.noEntry "extern/reflectlite: a nil value of one interface type handed on as a value of another")
   | _=>storeVar dst a val
  else storeVar dst a (.iface src val)
 else panicString ("reflectlite.Set: value of type " ++ (← Rtype.spelt src) ++ " is not assignable to type " ++ (← Rtype.spelt dst))
 pure (.tuple #[])):=rfl
theorem xZna (a:Addr) (w:World):(ReflectliteValue.parts (.agg #[.pointer (some ⟨3,84,none⟩),.pointer (some a),.int .u64 406])).run Tryz.prog w=.ok (some (84,a,406)) w:=by kernel_rfl
theorem xZpD (a:Addr) (w:World):(ReflectliteValue.parts (.agg #[.pointer (some ⟨3,84,none⟩),.pointer (some a),.int .u64 150])).run Tryz.prog w=.ok (some (84,a,150)) w:=by kernel_rfl
theorem xZn9 (w:World):(Rtype.directlyAssignable 84 84).run Tryz.prog w=.ok true w:=by kernel_rfl
theorem xZsm (ta b e:Addr) (old:Value) (W:World) (hb:W.cell? b=some (.pointer (some e))) (ht:W.cell? ta=some old) (hf:W.frozen? ta=false):
 (ReflectliteValue.set #[.agg #[.pointer (some ⟨3,84,none⟩),.pointer (some ta),.int .u64 406],.agg #[.pointer (some ⟨3,84,none⟩),.pointer (some b),.int .u64 150]]).run Tryz.prog W
   = .ok (.tuple #[]) (W.setCell ta (.pointer (some e))):=by
 rw [xZvD]
 simp only [Sem.run_bind,xZna,xZpD,Result.andThen]
 simp [ReflectliteValue.flagAddr,loadVar,isAgg,underlying,Tryz.underlying84,hb,Result.andThen,xZn9,storeVar,Value.cells,storeCells,Addr.add]
 rw [run_store Tryz.prog W ta _ _ (by rfl)]
 simp [ht,hf]
set_option maxHeartbeats 4000000 in
theorem xZw5 (e t:Addr) (old:Value) (w:World) (hg:w.cell? ⟨0,0,none⟩=some (.iface 160 (.agg #[.pointer (some ⟨3,27,none⟩)]))) (ht0:w.cell? t=some old) (hf0:w.frozen? t=false):
 Calls Tryz.prog 36 #[.iface 84 (.pointer (some e)),.iface 128 (.pointer (some t))] w fun ev w'=>ev=.returned (.bool true)∧w'=((((w.alloc (.cells #[.pointer (some t)] 128)).alloc (.cells #[.pointer (some ⟨3,128,none⟩),.pointer (some ⟨w.heap.size,0,none⟩),.int .u64 150] 132)).alloc (.cells #[.pointer (some ⟨3,128,none⟩),.pointer (some ⟨w.heap.size,0,none⟩),.int .u64 150] 132)).alloc (.cells #[.pointer (some e)] 84)).setCell t (.pointer (some e)):=by
 have h6:=@run_callFunc_extern Tryz.prog 68 _ (fun args=>ReflectliteValue.unpack (args.getD 0 (.tuple #[]))) Tryz.func68 (by kernel_rfl) (by kernel_rfl) (by kernel_rfl) (by kernel_rfl)
 have h7:=@run_callFunc_extern Tryz.prog 69 _ (ReflectliteValue.methodAny (ReflectliteValue.valueError "reflectlite.Value.Type" 0) (fun t _ _ _=>ReflectliteType.toType t)) Tryz.func69 (by kernel_rfl) (by kernel_rfl) (by kernel_rfl) (by kernel_rfl)
 have h8:=@run_callFunc_extern Tryz.prog 70 _ (ReflectliteValue.method (ReflectliteValue.valueError "reflectlite.Value.IsNil" 0) ReflectliteValue.isNil) Tryz.func70 (by kernel_rfl) (by kernel_rfl) (by kernel_rfl) (by kernel_rfl)
 have h27:=@run_callFunc_extern Tryz.prog 217 _ (ReflectliteType.abiMethod fun t=>do pure (.int .u8 (← Rtype.kind t))) Tryz.func217 (by kernel_rfl) (by kernel_rfl) (by kernel_rfl) (by kernel_rfl)
 have h37:=@run_callFunc_extern Tryz.prog 229 _ (ReflectliteType.method ReflectliteType.elem) Tryz.func229 (by kernel_rfl) (by kernel_rfl) (by kernel_rfl) (by kernel_rfl)
 have h38:=@run_callFunc_extern Tryz.prog 230 _ (ReflectliteType.relation "Implements" ReflectliteType.implements_) Tryz.func230 (by kernel_rfl) (by kernel_rfl) (by kernel_rfl) (by kernel_rfl)
 have h10:=@run_callFunc_extern Tryz.prog 72 _ ReflectliteType.typeOf Tryz.func72 (by kernel_rfl) (by kernel_rfl) (by kernel_rfl) (by kernel_rfl)
 have h35:=@run_callFunc_extern Tryz.prog 227 _ (ReflectliteType.relation "AssignableTo" ReflectliteType.assignableTo) Tryz.func227 (by kernel_rfl) (by kernel_rfl) (by kernel_rfl) (by kernel_rfl)
 have h11:=@run_callFunc_extern Tryz.prog 108 _ (ReflectliteValue.method (ReflectliteValue.valueError "reflectlite.Value.Elem" 0) ReflectliteValue.elem) Tryz.func108 (by kernel_rfl) (by kernel_rfl) (by kernel_rfl) (by kernel_rfl)
 have h12:=@run_callFunc_extern Tryz.prog 109 _ ReflectliteValue.set Tryz.func109 (by kernel_rfl) (by kernel_rfl) (by kernel_rfl) (by kernel_rfl)
 have tO:=xZnU
 have mA:=xZcs
 have a25:=xZgX
 have v25:=xZkP
 have f6:=xZmk
 have f7:=xZpS
 have mK:=xZjW
 have mE:=xZj1
 have mI:=xZec
 have k27:=xZpW
 have k25:=xZqC
 have e27:=xZqM
 have i25:=xZgW
 have n8:=xZpt ⟨w.heap.size,0,none⟩ t ((w.alloc (.cells #[.pointer (some t)] 128)).alloc (.cells #[.pointer (some ⟨3,128,none⟩),.pointer (some ⟨w.heap.size,0,none⟩),.int .u64 150] 132)) (by simp)
 have hlt:0 < w.heap.size:=by
  rcases Nat.lt_or_ge 0 w.heap.size with h | h
  ·exact h
  ·simp [World.cell?,Array.getElem?_eq_none h] at hg
 have hg2:((w.alloc (.cells #[.pointer (some t)] 128)).alloc (.cells #[.pointer (some ⟨3,128,none⟩),.pointer (some ⟨w.heap.size,0,none⟩),.int .u64 150] 132)).cell? ⟨0,0,none⟩=some (.iface 160 (.agg #[.pointer (some ⟨3,27,none⟩)])):=by
  rw [World.cell?_alloc_lt _ _ ⟨0,0,none⟩ (by simp),World.cell?_alloc_lt _ _ ⟨0,0,none⟩ hlt];exact hg
 have htl:t.block < w.heap.size:=by
  rcases Nat.lt_or_ge t.block w.heap.size with h | h
  ·exact h
  ·simp [World.cell?,Array.getElem?_eq_none h] at ht0
 have el:=xZpz ⟨w.heap.size,0,none⟩ t (((w.alloc (.cells #[.pointer (some t)] 128)).alloc (.cells #[.pointer (some ⟨3,128,none⟩),.pointer (some ⟨w.heap.size,0,none⟩),.int .u64 150] 132)).alloc (.cells #[.pointer (some ⟨3,128,none⟩),.pointer (some ⟨w.heap.size,0,none⟩),.int .u64 150] 132)) (by rw [World.cell?_alloc_lt _ _ ⟨w.heap.size,0,none⟩ (by simp;omega)];simp)
 have st:=xZsm t ⟨w.heap.size+1+1+1,0,none⟩ e old ((((w.alloc (.cells #[.pointer (some t)] 128)).alloc (.cells #[.pointer (some ⟨3,128,none⟩),.pointer (some ⟨w.heap.size,0,none⟩),.int .u64 150] 132)).alloc (.cells #[.pointer (some ⟨3,128,none⟩),.pointer (some ⟨w.heap.size,0,none⟩),.int .u64 150] 132)).alloc (.cells #[.pointer (some e)] 84))
  (by rw [World.cell?_alloc_at _ _ _ _ (by simp)];rfl)
  (by rw [World.cell?_alloc_lt _ _ t (by simp;omega),World.cell?_alloc_lt _ _ t (by simp;omega),World.cell?_alloc_lt _ _ t (by simp;omega),World.cell?_alloc_lt _ _ t htl];exact ht0)
  (by rw [World.frozen?_alloc_old _ _ t (by simp;omega),World.frozen?_alloc_old _ _ t (by simp;omega),World.frozen?_alloc_old _ _ t (by simp;omega),World.frozen?_alloc_old _ _ t (Nat.ne_of_lt htl)];exact hf0)
 go_enter Tryz.func36,Tryz.ntmps36
 go_wp2
 refine wp_loop_rounds 1 ?_
 rw [rounds_succ]
 go_wp2
 go_ret
 exact ⟨rfl,rfl⟩
theorem xZsr (p:Addr) (w:World) (hg:w.cell? ⟨0,0,none⟩=some (.iface 160 (.agg #[.pointer (some ⟨3,27,none⟩)]))) (hlt:0 < w.heap.size):Calls Tryz.prog 35 #[.iface 84 (.pointer (some p))] w fun e w'=>e=.returned (.pointer (some p))∧Below w.heap.size w w':=by
 have hgA:(w.alloc (.cells #[.pointer none] 84)).cell? ⟨0,0,none⟩=some (.iface 160 (.agg #[.pointer (some ⟨3,27,none⟩)])):=by
  rw [World.cell?_alloc_lt _ _ ⟨0,0,none⟩ hlt];exact hg
 have htA:(w.alloc (.cells #[.pointer none] 84)).cell? ⟨w.heap.size,0,none⟩=some (.pointer none):=by simp
 have hfA:(w.alloc (.cells #[.pointer none] 84)).frozen? ⟨w.heap.size,0,none⟩=false:=by simp
 go_enter Tryz.func35,Tryz.ntmps35
 go_wp2_with (go_at_call 36;refine (xZw5 _ _ (.pointer none) _ hgA htA hfA).mono ?_;rintro e w' ⟨rfl,rfl⟩)
 go_ret
 refine ⟨rfl,?_⟩
 exact (((((Below.refl _ w).alloc (Nat.le_refl _) _).alloc (by simp) _).alloc (by simp;omega) _).alloc (by simp;omega) _).alloc (by simp;omega) _
theorem xZdu (N:Nat):xZaD.Ok prog N:=by
 refine ⟨⟨Tryz.f35,Tryz.func35,by kernel_rfl,by kernel_rfl⟩,fun a r h=>?_⟩
 obtain ⟨⟨n,p,⟨⟩⟩,⟨⟩⟩:=a
 have h:xZ5e N n p=some r:=h
 obtain rfl:=Option.some.inj h
 intro M S w vs hh hp hsz hrep
 obtain ⟨v,rfl⟩:∃ v,vs=#[v]:=by
  match vs,hsz with
  | ⟨[v]⟩,_=>exact ⟨v,rfl⟩
 obtain ⟨u,hu,h1⟩:=xZjG (hrep 0 (Nat.zero_lt_one))
 have hu:v=.iface 84 u:=hu
 subst hu
 have hq:∃ q,u=.pointer (some q):=by
  cases h1 with | data h1=>cases h1;exact ⟨_,rfl⟩
 obtain ⟨q,rfl⟩:=hq
 obtain ⟨h2,_,h3⟩:=hp _ _ (show envCell prog=some (0,.iface 160 (.agg #[.pointer (some ⟨3,27,none⟩)])) from by kernel_rfl)
 refine (xZsr q w h2 h3).mono ?_
 rintro e w' ⟨rfl,hb⟩
 have hg:Grew w w':=⟨hb.os,hb.tape,hb.output,hb.size,hb.block⟩
 exact ⟨M,S,VRep.grew hh hg h1,hh.grew hg,.grew hh hg⟩
end Go.Proofs.YtahklhniofiofaaGreatDoor.P
namespace Go.Proofs.YtahklhniofiofaaGreatDoor.P
open Go
open Go.Proofs.Tryz
set_option maxRecDepth 1000000
set_option linter.unusedSimpArgs false
set_option linter.unusedVariables false
noncomputable section
noncomputable def xZnk:Fn xZcg:=⟨f86,[],⟨[],[],sbf,bof⟩,fun _=>[],[true],none,0,0,fun _ _=>true,none,[],[]⟩
theorem xZnR:xZnk.Ok prog:=⟨Is.of (by kernel_rfl) (by kernel_rfl),by kernel_rfl,xZ9 sb_ok bo_ok,trivial,trivial,fun _=>by kernel_rfl⟩
theorem xZh9 (N:Nat):xZcg.Ok prog N:=xZnR.give tb_ok hm N N (fun _=>trivial) fun a r s h=>by
 exact s.main [] trivial (.trans (by kernel_rfl) h)
noncomputable def xZb3:Fn xZ11:=⟨f89,[],⟨[],[],sbf,bof⟩,fun _=>[xZ6E],[false],none,1,1,fun _ _=>true,none,[],[]⟩
theorem xZb4:xZb3.Ok prog:=⟨Is.of (by kernel_rfl) (by kernel_rfl),by kernel_rfl,xZ9 sb_ok bo_ok,trivial,trivial,fun _=>by kernel_rfl⟩
theorem xZ1P (N:Nat):xZ11.Ok prog N:=xZb4.give tb_ok hm N N (fun _=>⟨xZ9w N,trivial⟩) fun a r s h=>by
 exact s.main [] trivial (.trans (by kernel_rfl) h)
noncomputable def xZnx:Fn xZ9d:=⟨f87,[],⟨[],[],sbf,bof⟩,fun _=>[],[true],none,0,0,fun _ _=>true,none,[],[]⟩
theorem xZnI:xZnx.Ok prog:=⟨Is.of (by kernel_rfl) (by kernel_rfl),by kernel_rfl,xZ9 sb_ok bo_ok,trivial,trivial,fun _=>by kernel_rfl⟩
theorem xZeo (N:Nat):xZ9d.Ok prog N:=xZnI.give tb_ok hm N N (fun _=>trivial) fun a r s h=>by
 exact s.main [] trivial (.trans (by kernel_rfl) h)
noncomputable def xZoD:Fn xZgh:=⟨f120,[],⟨[],[],sbf,bof⟩,fun _=>[xZcg,xZ9d],[true],none,0,0,fun _ _=>true,none,[],[]⟩
theorem xZoA:xZoD.Ok prog:=⟨Is.of (by kernel_rfl) (by kernel_rfl),by kernel_rfl,xZ9 sb_ok bo_ok,trivial,trivial,fun _=>by kernel_rfl⟩
theorem xZpn (N:Nat):xZgh.Ok prog N:=xZoA.give tb_ok hm N N (fun _=>⟨xZh9 N,xZeo N,trivial⟩) fun a r s h=>by
 exact s.main [] trivial (.trans (by kernel_rfl) h)
noncomputable def xZ9i:Fn xZ38:=⟨f119,[],⟨[],[],sbf,bof⟩,fun _=>[xZgh],[true],none,1,1,fun _ _=>true,none,[],[]⟩
theorem xZ9h:xZ9i.Ok prog:=⟨Is.of (by kernel_rfl) (by kernel_rfl),by kernel_rfl,xZ9 sb_ok bo_ok,trivial,trivial,fun _=>by kernel_rfl⟩
theorem xZ9a (N:Nat):xZ38.Ok prog N:=xZ9h.give tb_ok hm N N (fun _=>⟨xZpn N,trivial⟩) fun a r s h=>by
 have l0:=s.loop 0 xZ1M (xZ4d N) N fun next0 h0=>by
  exact fun c v=>s.seg 0 xZ1M [(0,.of xZ1M next0)] ⟨h0,trivial⟩ (by kernel_rfl) (by kernel_rfl)
 exact s.main [(0,.of xZ1M (xZ7k N))] ⟨l0,trivial⟩ (.trans (by kernel_rfl) h)
noncomputable def xZi2:Fn xZ9U:=⟨f122,[],⟨[],[],sbf,bof⟩,fun _=>[],[true],none,0,0,fun _ _=>true,none,[],[]⟩
theorem xZih:xZi2.Ok prog:=⟨Is.of (by kernel_rfl) (by kernel_rfl),by kernel_rfl,xZ9 sb_ok bo_ok,trivial,trivial,fun _=>by kernel_rfl⟩
theorem xZhv (N:Nat):xZ9U.Ok prog N:=xZih.give tb_ok hm N N (fun _=>trivial) fun a r s h=>by
 exact s.main [] trivial (.trans (by kernel_rfl) h)
noncomputable def xZbG:Fn xZ14:=⟨f121,[],⟨[(24,0)],[],sbf,bof⟩,fun _=>[],[false],none,1,1,fun _ _=>true,none,[],[]⟩
theorem xZbk:xZbG.Ok prog:=⟨Is.of (by kernel_rfl) (by kernel_rfl),by kernel_rfl,xZ9 sb_ok bo_ok,trivial,trivial,fun _=>by kernel_rfl⟩
theorem xZ22 (N:Nat):xZ14.Ok prog N:=xZbk.give tb_ok hm N N (fun _=>trivial) fun a r s h=>by
 exact s.main [] trivial (.trans (by kernel_rfl) h)
noncomputable def xZfp:Fn xZ4w:=⟨f83,[],⟨[],[],sbf,bof⟩,fun _=>[],[true],none,0,0,fun _ _=>true,none,[],[]⟩
theorem xZfc:xZfp.Ok prog:=⟨Is.of (by kernel_rfl) (by kernel_rfl),by kernel_rfl,xZ9 sb_ok bo_ok,trivial,trivial,fun _=>by kernel_rfl⟩
theorem xZaM (N:Nat):xZ4w.Ok prog N:=xZfc.give tb_ok hm N N (fun _=>trivial) fun a r s h=>by
 exact s.main [] trivial (.trans (by kernel_rfl) h)
noncomputable def xZaV:Fn xZ3u:=⟨f90,[],⟨[],[],sbf,bof⟩,fun _=>[xZ38,xZ9U,xZ14,xZ4w,xZ11],[false],none,1,1,fun _ _=>true,none,[],[]⟩
theorem xZb2:xZaV.Ok prog:=⟨Is.of (by kernel_rfl) (by kernel_rfl),by kernel_rfl,xZ9 sb_ok bo_ok,trivial,trivial,fun _=>by kernel_rfl⟩
theorem xZb6 (N:Nat):xZ3u.Ok prog N:=xZb2.give tb_ok hm N N (fun _=>⟨xZ9a N,xZhv N,xZ22 N,xZaM N,xZ1P N,trivial⟩) fun a r s h=>by
 exact s.main [] trivial (.trans (by kernel_rfl) h)
noncomputable def xZ9p:Fn xZ3f:=⟨f119,[],⟨[],[],sbf,bof⟩,fun _=>[xZ9d],[true],none,1,1,fun _ _=>true,none,[],[]⟩
theorem xZ99:xZ9p.Ok prog:=⟨Is.of (by kernel_rfl) (by kernel_rfl),by kernel_rfl,xZ9 sb_ok bo_ok,trivial,trivial,fun _=>by kernel_rfl⟩
theorem xZ9g (N:Nat):xZ3f.Ok prog N:=xZ99.give tb_ok hm N N (fun _=>⟨xZeo N,trivial⟩) fun a r s h=>by
 have l0:=s.loop 0 xZ1G (xZ45 N) N fun next0 h0=>by
  exact fun c v=>s.seg 0 xZ1G [(0,.of xZ1G next0)] ⟨h0,trivial⟩ (by kernel_rfl) (by kernel_rfl)
 exact s.main [(0,.of xZ1G (xZ7y N))] ⟨l0,trivial⟩ (.trans (by kernel_rfl) h)
noncomputable def xZjH:Fn xZ8f:=⟨f78,[],⟨[],[],sbf,bof⟩,fun _=>[],[true],none,0,0,fun _ _=>true,none,[],[]⟩
theorem xZjt:xZjH.Ok prog:=⟨Is.of (by kernel_rfl) (by kernel_rfl),by kernel_rfl,xZ9 sb_ok bo_ok,trivial,trivial,fun _=>by kernel_rfl⟩
theorem xZeV (N:Nat):xZ8f.Ok prog N:=xZjt.give tb_ok hm N N (fun _=>trivial) fun a r s h=>by
 exact s.main [] trivial (.trans (by kernel_rfl) h)
noncomputable def xZ9m:Fn xZ3e:=⟨f91,[],⟨[],[],sbf,bof⟩,fun _=>[xZ3f,xZ11,xZ8f,xZ14],[false],none,1,1,fun _ _=>true,none,[],[]⟩
theorem xZ9n:xZ9m.Ok prog:=⟨Is.of (by kernel_rfl) (by kernel_rfl),by kernel_rfl,xZ9 sb_ok bo_ok,trivial,trivial,fun _=>by kernel_rfl⟩
theorem xZ9b (N:Nat):xZ3e.Ok prog N:=xZ9n.give tb_ok hm N N (fun _=>⟨xZ9g N,xZ1P N,xZeV N,xZ22 N,trivial⟩) fun a r s h=>by
 have l0:=s.loop 0 xZ1L (xZ4b N) N fun next0 h0=>by
  exact fun c v=>s.seg 0 xZ1L [(0,.of xZ1L next0)] ⟨h0,trivial⟩ (by kernel_rfl) (by kernel_rfl)
 exact s.main [(0,.of xZ1L (xZ7l N))] ⟨l0,trivial⟩ (.trans (by kernel_rfl) h)
noncomputable def xZaU:Fn xZ3s:=⟨f118,[(148,.ib)],⟨[],[],sbf,bof⟩,fun _=>[],[true],none,0,0,fun _ _=>true,none,[],[]⟩
theorem xZb5:xZaU.Ok prog:=⟨Is.of (by kernel_rfl) (by kernel_rfl),by kernel_rfl,xZ9 sb_ok bo_ok,trivial,⟨ExtIs.mk' f148 (by kernel_rfl) (by kernel_rfl) (by kernel_rfl) (by kernel_rfl) (by kernel_rfl),trivial⟩,fun _=>by kernel_rfl⟩
theorem xZaX (N:Nat):xZ3s.Ok prog N:=xZb5.give tb_ok hm N N (fun _=>trivial) fun a r s h=>by
 exact s.main [] trivial (.trans (by kernel_rfl) h)
noncomputable def xZea:Fn xZ2L:=⟨f88,[],⟨[],[],sbf,bof⟩,fun _=>[xZ3s],[true],none,0,0,fun _ _=>true,none,[],[]⟩
theorem xZdH:xZea.Ok prog:=⟨Is.of (by kernel_rfl) (by kernel_rfl),by kernel_rfl,xZ9 sb_ok bo_ok,trivial,trivial,fun _=>by kernel_rfl⟩
theorem xZ4V (N:Nat):xZ2L.Ok prog N:=xZdH.give tb_ok hm N N (fun _=>⟨xZaX N,trivial⟩) fun a r s h=>by
 exact s.main [] trivial (.trans (by kernel_rfl) h)
noncomputable def xZkY:Fn xZaq:=⟨f123,[],⟨[],[],sbf,bof⟩,fun _=>[xZ2L],[true],none,0,0,fun _ _=>true,none,[],[]⟩
theorem xZms:xZkY.Ok prog:=⟨Is.of (by kernel_rfl) (by kernel_rfl),by kernel_rfl,xZ9 sb_ok bo_ok,trivial,trivial,fun _=>by kernel_rfl⟩
theorem xZgl (N:Nat):xZaq.Ok prog N:=xZms.give tb_ok hm N N (fun _=>⟨xZ4V N,trivial⟩) fun a r s h=>by
 exact s.main [] trivial (.trans (by kernel_rfl) h)
noncomputable def xZqs:Fn xZhU:=⟨f149,[(163,.fb)],⟨[],[],sbf,bof⟩,fun _=>[],[true],none,0,0,fun _ _=>true,none,[],[]⟩
theorem xZqA:xZqs.Ok prog:=⟨Is.of (by kernel_rfl) (by kernel_rfl),by kernel_rfl,xZ9 sb_ok bo_ok,trivial,⟨ExtIs.mk' f163 (by kernel_rfl) (by kernel_rfl) (by kernel_rfl) (by kernel_rfl) (by kernel_rfl),trivial⟩,fun _=>by kernel_rfl⟩
theorem xZr2 (N:Nat):xZhU.Ok prog N:=xZqA.give tb_ok hm N N (fun _=>trivial) fun a r s h=>by
 exact s.main [] trivial (.trans (by kernel_rfl) h)
noncomputable def xZl3:Fn xZ72:=⟨f124,[],⟨[],[],sbf,bof⟩,fun _=>[xZhU],[true],none,0,0,fun _ _=>true,none,[],[]⟩
theorem xZkK:xZl3.Ok prog:=⟨Is.of (by kernel_rfl) (by kernel_rfl),by kernel_rfl,xZ9 sb_ok bo_ok,trivial,trivial,fun _=>by kernel_rfl⟩
theorem xZdk (N:Nat):xZ72.Ok prog N:=xZkK.give tb_ok hm N N (fun _=>⟨xZr2 N,trivial⟩) fun a r s h=>by
 exact s.main [] trivial (.trans (by kernel_rfl) h)
noncomputable def xZhr:Fn xZa3:=⟨f125,[],⟨[],[],sbf,bof⟩,fun _=>[xZ72],[true],none,0,0,fun _ _=>true,none,[],[]⟩
theorem xZig:xZhr.Ok prog:=⟨Is.of (by kernel_rfl) (by kernel_rfl),by kernel_rfl,xZ9 sb_ok bo_ok,trivial,trivial,fun _=>by kernel_rfl⟩
theorem xZiF (N:Nat):xZa3.Ok prog N:=xZig.give tb_ok hm N N (fun _=>⟨xZdk N,trivial⟩) fun a r s h=>by
 exact s.main [] trivial (.trans (by kernel_rfl) h)
end
end Go.Proofs.YtahklhniofiofaaGreatDoor.P
namespace Go.Proofs.YtahklhniofiofaaGreatDoor.P
open Go
open Go.Proofs.Tryz
set_option maxRecDepth 1000000
set_option linter.unusedSimpArgs false
set_option linter.unusedVariables false
noncomputable section
noncomputable def xZ9u:Fn xZ35:=⟨f92,[],⟨[],[],sbf,bof⟩,fun _=>[xZ11,xZaq,xZ72,xZa3,xZ14],[false],none,1,1,fun _ _=>true,none,[],[]⟩
theorem xZ9k:xZ9u.Ok prog:=⟨Is.of (by kernel_rfl) (by kernel_rfl),by kernel_rfl,xZ9 sb_ok bo_ok,trivial,trivial,fun _=>by kernel_rfl⟩
theorem xZ9l (N:Nat):xZ35.Ok prog N:=xZ9k.give tb_ok hm N N (fun _=>⟨xZ1P N,xZgl N,xZdk N,xZiF N,xZ22 N,trivial⟩) fun a r s h=>by
 have l0:=s.loop 0 xZ1J (xZ4a N) N fun next0 h0=>by
  exact fun c v=>s.seg 0 xZ1J [(0,.of xZ1J next0)] ⟨h0,trivial⟩ (by kernel_rfl) (by kernel_rfl)
 exact s.main [(0,.of xZ1J (xZ7C N))] ⟨l0,trivial⟩ (.trans (by kernel_rfl) h)
noncomputable def xZ8G:Fn xZ2W:=⟨f126,[],⟨[],[],sbf,bof⟩,fun _=>[xZaq],[true,true],none,1,1,fun _ _=>true,none,[],[]⟩
theorem xZ8M:xZ8G.Ok prog:=⟨Is.of (by kernel_rfl) (by kernel_rfl),by kernel_rfl,xZ9 sb_ok bo_ok,trivial,trivial,fun _=>by kernel_rfl⟩
theorem xZ8s (N:Nat):xZ2W.Ok prog N:=xZ8M.give tb_ok hm N N (fun _=>⟨xZgl N,trivial⟩) fun a r s h=>by
 exact s.main [] trivial (.trans (by kernel_rfl) h)
noncomputable def xZiQ:Fn xZa5:=⟨f127,[],⟨[],[],sbf,bof⟩,fun _=>[],[true],none,0,0,fun _ _=>true,none,[],[]⟩
theorem xZhp:xZiQ.Ok prog:=⟨Is.of (by kernel_rfl) (by kernel_rfl),by kernel_rfl,xZ9 sb_ok bo_ok,trivial,trivial,fun _=>by kernel_rfl⟩
theorem xZid (N:Nat):xZa5.Ok prog N:=xZhp.give tb_ok hm N N (fun _=>trivial) fun a r s h=>by
 exact s.main [] trivial (.trans (by kernel_rfl) h)
noncomputable def xZ93:Fn xZ3b:=⟨f93,[],⟨[(52,2),(61,2),(86,2)],[],sbf,bof⟩,fun _=>[xZ6E,xZ2W,xZ11,xZa5,xZ14],[false],none,1,1,fun _ _=>true,none,[],[]⟩
theorem xZ9v:xZ93.Ok prog:=⟨Is.of (by kernel_rfl) (by kernel_rfl),by kernel_rfl,xZ9 sb_ok bo_ok,trivial,trivial,fun _=>by kernel_rfl⟩
theorem xZ9q (N:Nat):xZ3b.Ok prog N:=xZ9v.give tb_ok hm N N (fun _=>⟨xZ9w N,xZ8s N,xZ1P N,xZid N,xZ22 N,trivial⟩) fun a r s h=>by
 have l0:=s.loop 0 xZ1K (xZ47 N) N fun next0 h0=>by
  exact fun c v=>s.seg 0 xZ1K [(0,.of xZ1K next0)] ⟨h0,trivial⟩ (by kernel_rfl) (by kernel_rfl)
 exact s.main [(0,.of xZ1K (xZ7o N))] ⟨l0,trivial⟩ (.trans (by kernel_rfl) h)
noncomputable def xZaY:Fn xZ3r:=⟨f94,[],⟨[],[],sbf,bof⟩,fun _=>[xZ2L,xZ14],[false],none,1,1,fun _ _=>true,none,[],[]⟩
theorem xZaS:xZaY.Ok prog:=⟨Is.of (by kernel_rfl) (by kernel_rfl),by kernel_rfl,xZ9 sb_ok bo_ok,trivial,trivial,fun _=>by kernel_rfl⟩
theorem xZaR (N:Nat):xZ3r.Ok prog N:=xZaS.give tb_ok hm N N (fun _=>⟨xZ4V N,xZ22 N,trivial⟩) fun a r s h=>by
 exact s.main [] trivial (.trans (by kernel_rfl) h)
noncomputable def xZaf:Fn xZ3i:=⟨f51,[],⟨[],[],sbf,bof⟩,fun _=>[xZcg,xZ11,xZ3u,xZ9d,xZ3e,xZ35,xZ3b,xZ3r,xZ2L],[false],none,1,1,fun _ _=>true,none,[],[]⟩
theorem xZaF:xZaf.Ok prog:=⟨Is.of (by kernel_rfl) (by kernel_rfl),by kernel_rfl,xZ9 sb_ok bo_ok,trivial,trivial,fun _=>by kernel_rfl⟩
theorem xZaA (N:Nat):xZ3i.Ok prog N:=xZaF.give tb_ok hm N N (fun _=>⟨xZh9 N,xZ1P N,xZb6 N,xZeo N,xZ9b N,xZ9l N,xZ9q N,xZaR N,xZ4V N,trivial⟩) fun a r s h=>by
 exact s.main [] trivial (.trans (by kernel_rfl) h)
noncomputable def xZoM:Fn xZfG:=⟨f21,[],⟨[],[],sbf,bof⟩,fun _=>[xZ6E,xZ3i],[true,false],none,0,0,fun _ _=>true,none,[],[]⟩
theorem xZoj:xZoM.Ok prog:=⟨Is.of (by kernel_rfl) (by kernel_rfl),by kernel_rfl,xZ9 sb_ok bo_ok,trivial,trivial,fun _=>by kernel_rfl⟩
theorem xZoi (N:Nat):xZfG.Ok prog N:=xZoj.give tb_ok hm N N (fun _=>⟨xZ9w N,xZaA N,trivial⟩) fun a r s h=>by
 have l0:=s.loop 0 xZar (xZgv N) N fun next0 h0=>by
  exact fun c v=>s.seg 0 xZar [(0,.of xZar next0)] ⟨h0,trivial⟩ (by kernel_rfl) (by kernel_rfl)
 exact s.main [(0,.of xZar (xZkR N))] ⟨l0,trivial⟩ (.trans (by kernel_rfl) h)
noncomputable def xZ8p:Fn xZI:=⟨f97,[],⟨[],[],sbf,bof⟩,fun _=>[],[true],none,1,0,fun _ _=>true,none,[],[]⟩
theorem xZ8W:xZ8p.Ok prog:=⟨Is.of (by kernel_rfl) (by kernel_rfl),by kernel_rfl,xZ9 sb_ok bo_ok,trivial,trivial,fun _=>by kernel_rfl⟩
theorem xZ1f (N:Nat):xZI.Ok prog N:=xZ8W.give tb_ok hm N N (fun _=>trivial) fun a r s h=>by
 exact s.main [] trivial (.trans (by kernel_rfl) h)
noncomputable def xZ9y:Fn xZm:=⟨f56,[],⟨[],[],sbf,bof⟩,fun _=>[xZI],[true],none,1,0,fun _ _=>true,none,[],[]⟩
theorem xZ97:xZ9y.Ok prog:=⟨Is.of (by kernel_rfl) (by kernel_rfl),by kernel_rfl,xZ9 sb_ok bo_ok,trivial,trivial,fun _=>by kernel_rfl⟩
theorem xZt (N:Nat):xZm.Ok prog N:=xZ97.give tb_ok hm N N (fun _=>⟨xZ1f N,trivial⟩) fun a r s h=>by
 exact s.main [] trivial (.trans (by kernel_rfl) h)
noncomputable def xZg1:Fn xZ53:=⟨f98,[],⟨[],[],sbf,bof⟩,fun _=>[],[],none,0,0,fun _ _=>true,none,[],[]⟩
theorem xZge:xZg1.Ok prog:=⟨Is.of (by kernel_rfl) (by kernel_rfl),by kernel_rfl,xZ9 sb_ok bo_ok,trivial,trivial,fun _=>by kernel_rfl⟩
theorem xZbz (N:Nat):xZ53.Ok prog N:=xZge.give tb_ok hm N N (fun _=>trivial) fun a r s h=>by
 exact s.main [] trivial (.trans (by kernel_rfl) h)
noncomputable def xZfP:Fn xZ4Y:=⟨f98,[],⟨[],[],sbf,bof⟩,fun _=>[],[],none,0,0,fun _ _=>true,none,[],[]⟩
theorem xZgw:xZfP.Ok prog:=⟨Is.of (by kernel_rfl) (by kernel_rfl),by kernel_rfl,xZ9 sb_ok bo_ok,trivial,trivial,fun _=>by kernel_rfl⟩
theorem xZbu (N:Nat):xZ4Y.Ok prog N:=xZgw.give tb_ok hm N N (fun _=>trivial) fun a r s h=>by
 exact s.main [] trivial (.trans (by kernel_rfl) h)
noncomputable def xZ8r:Fn xZx:=⟨f59,[],⟨[],[],sbf,bof⟩,fun _=>[xZ6E,xZ53,xZ4Y],[],none,1,0,fun _ _=>true,none,[],[]⟩
theorem xZ90:xZ8r.Ok prog:=⟨Is.of (by kernel_rfl) (by kernel_rfl),by kernel_rfl,xZ9 sb_ok bo_ok,trivial,trivial,fun _=>by kernel_rfl⟩
theorem xZY (N:Nat):xZx.Ok prog N:=xZ90.give tb_ok hm N N (fun _=>⟨xZ9w N,xZbz N,xZbu N,trivial⟩) fun a r s h=>by
 exact s.main [] trivial (.trans (by kernel_rfl) h)
noncomputable def xZ8C:Fn xZ1Y:=⟨f57,[],⟨[],[],sbf,bof⟩,fun _=>[xZx],[true],none,1,0,fun _ _=>true,none,[],[]⟩
theorem xZ8Y:xZ8C.Ok prog:=⟨Is.of (by kernel_rfl) (by kernel_rfl),by kernel_rfl,xZ9 sb_ok bo_ok,trivial,trivial,fun _=>by kernel_rfl⟩
theorem xZ4j (N:Nat):xZ1Y.Ok prog N:=xZ8Y.give tb_ok hm N N (fun _=>⟨xZY N,trivial⟩) fun a r s h=>by
 exact s.main [] trivial (.trans (by kernel_rfl) h)
noncomputable def xZ8k:Fn xZ10:=⟨f54,[],⟨[],[],sbf,bof⟩,fun _=>[xZm,xZx],[],none,1,0,fun _ _=>true,none,[],[]⟩
theorem xZ8l:xZ8k.Ok prog:=⟨Is.of (by kernel_rfl) (by kernel_rfl),by kernel_rfl,xZ9 sb_ok bo_ok,trivial,trivial,fun _=>by kernel_rfl⟩
theorem xZ1U (N:Nat):xZ10.Ok prog N:=xZ8l.give tb_ok hm N N (fun _=>⟨xZt N,xZY N,trivial⟩) fun a r s h=>by
 exact s.main [] trivial (.trans (by kernel_rfl) h)
noncomputable def xZ7v:Fn xZF:=⟨f188,[],⟨[],[],sbf,bof⟩,fun _=>[],[true],none,1,0,fun _ _=>true,none,[],[]⟩
theorem xZ7p:xZ7v.Ok prog:=⟨Is.of (by kernel_rfl) (by kernel_rfl),by kernel_rfl,xZ9 sb_ok bo_ok,trivial,trivial,fun _=>by kernel_rfl⟩
theorem xZ1b (N:Nat):xZF.Ok prog N:=xZ7p.give tb_ok hm N N (fun _=>trivial) fun a r s h=>by
 exact s.main [] trivial (.trans (by kernel_rfl) h)
noncomputable def xZ7h:Fn xZ2m:=⟨f175,[],⟨[],[],sbf,bof⟩,fun _=>[],[true],none,1,0,fun _ _=>true,none,[],[]⟩
theorem xZ6O:xZ7h.Ok prog:=⟨Is.of (by kernel_rfl) (by kernel_rfl),by kernel_rfl,xZ9 sb_ok bo_ok,trivial,trivial,fun _=>by kernel_rfl⟩
theorem xZ3S (N:Nat):xZ2m.Ok prog N:=xZ6O.give tb_ok hm N N (fun _=>trivial) fun a r s h=>by
 exact s.main [] trivial (.trans (by kernel_rfl) h)
noncomputable def xZ7q:Fn xZT:=⟨f195,[],⟨[],[],sbf,bof⟩,fun _=>[xZ2m],[],none,1,0,fun _ _=>true,none,[],[]⟩
theorem xZ7D:xZ7q.Ok prog:=⟨Is.of (by kernel_rfl) (by kernel_rfl),by kernel_rfl,xZ9 sb_ok bo_ok,trivial,trivial,fun _=>by kernel_rfl⟩
theorem xZ1D (N:Nat):xZT.Ok prog N:=xZ7D.give tb_ok hm N N (fun _=>⟨xZ3S N,trivial⟩) fun a r s h=>by
 exact s.main [] trivial (.trans (by kernel_rfl) h)
end
end Go.Proofs.YtahklhniofiofaaGreatDoor.P
namespace Go.Proofs.YtahklhniofiofaaGreatDoor.P
open Go
open Go.Proofs.Tryz
set_option maxRecDepth 1000000
set_option linter.unusedSimpArgs false
set_option linter.unusedVariables false
noncomputable section
noncomputable def xZ6D:Fn xZ2d:=⟨f194,[],⟨[],[],sbf,bof⟩,fun _=>[xZF,xZT],[],none,1,0,fun _ _=>true,none,[],[]⟩
theorem xZ6v:xZ6D.Ok prog:=⟨Is.of (by kernel_rfl) (by kernel_rfl),by kernel_rfl,xZ9 sb_ok bo_ok,trivial,trivial,fun _=>by kernel_rfl⟩
theorem xZ63 (N:Nat):xZ2d.Ok prog N:=xZ6v.give tb_ok hm N N (fun _=>⟨xZ1b N,xZ1D N,trivial⟩) fun a r s h=>by
 exact s.main [] trivial (.trans (by kernel_rfl) h)
noncomputable def xZ8H:Fn xZK:=⟨f184,[],⟨[],[],sbf,bof⟩,fun _=>[xZF],[true],none,1,0,fun _ _=>true,none,[],[]⟩
theorem xZ8T:xZ8H.Ok prog:=⟨Is.of (by kernel_rfl) (by kernel_rfl),by kernel_rfl,xZ9 sb_ok bo_ok,trivial,trivial,fun _=>by kernel_rfl⟩
theorem xZ1d (N:Nat):xZK.Ok prog N:=xZ8T.give tb_ok hm N N (fun _=>⟨xZ1b N,trivial⟩) fun a r s h=>by
 exact s.main [] trivial (.trans (by kernel_rfl) h)
noncomputable def xZ9x:Fn xZ39:=⟨f189,[],⟨[],[],sbf,bof⟩,fun _=>[xZ48],[true],none,0,0,fun _ _=>true,none,[],[]⟩
theorem xZ9t:xZ9x.Ok prog:=⟨Is.of (by kernel_rfl) (by kernel_rfl),by kernel_rfl,xZ9 sb_ok bo_ok,trivial,trivial,fun _=>by kernel_rfl⟩
theorem xZ96 (N:Nat):xZ39.Ok prog N:=xZ9t.give tb_ok hm N N (fun _=>⟨xZ7w N,trivial⟩) fun a r s h=>by
 have l2:=s.loop 2 xZ1O (xZ43 N) N fun next2 h2=>by
  exact fun c v=>s.seg 2 xZ1O [(2,.of xZ1O next2)] ⟨h2,trivial⟩ (by kernel_rfl) (by kernel_rfl)
 have l0:=s.loop 0 xZ1E (xZ44 N) N fun next0 h0=>by
  exact fun c v=>s.seg 0 xZ1E [(0,.of xZ1E next0),(2,.of xZ1O (xZ7M N))] ⟨h0,l2,trivial⟩ (by kernel_rfl) (by kernel_rfl)
 exact s.main [(0,.of xZ1E (xZ7N N))] ⟨l0,trivial⟩ (.trans (by kernel_rfl) h)
noncomputable def xZfJ:Fn xZ34:=⟨f185,[],⟨[(6,3)],[],sbf,bof⟩,fun _=>[xZ39],[true],none,0,0,fun _ _=>true,none,[],[]⟩
theorem xZgJ:xZfJ.Ok prog:=⟨Is.of (by kernel_rfl) (by kernel_rfl),by kernel_rfl,xZ9 sb_ok bo_ok,trivial,trivial,fun _=>by kernel_rfl⟩
theorem xZ55 (N:Nat):xZ34.Ok prog N:=xZgJ.give tb_ok hm N N (fun _=>⟨xZ96 N,trivial⟩) fun a r s h=>by
 exact s.main [] trivial (.trans (by kernel_rfl) h)
noncomputable def xZ7A:Fn xZ1I:=⟨f198,[],⟨[],[],sbf,bof⟩,fun _=>[xZF,xZT],[true],none,1,0,fun _ _=>true,none,[],[]⟩
theorem xZ7m:xZ7A.Ok prog:=⟨Is.of (by kernel_rfl) (by kernel_rfl),by kernel_rfl,xZ9 sb_ok bo_ok,trivial,trivial,fun _=>by kernel_rfl⟩
theorem xZ4e (N:Nat):xZ1I.Ok prog N:=xZ7m.give tb_ok hm N N (fun _=>⟨xZ1b N,xZ1D N,trivial⟩) fun a r s h=>by
 exact s.main [] trivial (.trans (by kernel_rfl) h)
noncomputable def xZ7T:Fn xZ2E:=⟨f202,[],⟨[(24,3),(40,3),(51,3),(54,3)],[],sbf,bof⟩,fun _=>[xZK,xZF,xZT,xZ1I],[true],none,1,0,fun _ _=>true,none,[],[]⟩
theorem xZ7S:xZ7T.Ok prog:=⟨Is.of (by kernel_rfl) (by kernel_rfl),by kernel_rfl,xZ9 sb_ok bo_ok,trivial,trivial,fun _=>by kernel_rfl⟩
theorem xZ7j (N:Nat):xZ2E.Ok prog N:=xZ7S.give tb_ok hm N N (fun _=>⟨xZ1d N,xZ1b N,xZ1D N,xZ4e N,trivial⟩) fun a r s h=>by
 exact s.main [] trivial (.trans (by kernel_rfl) h)
noncomputable def xZ8V:Fn xZ2T:=⟨f196,[],⟨[(14,4),(23,4)],[],sbf,bof⟩,fun _=>[xZ2E,xZK,xZ34],[true],none,1,0,fun _ _=>true,none,[],[]⟩
theorem xZ8m:xZ8V.Ok prog:=⟨Is.of (by kernel_rfl) (by kernel_rfl),by kernel_rfl,xZ9 sb_ok bo_ok,trivial,trivial,fun _=>by kernel_rfl⟩
theorem xZ8u (N:Nat):xZ2T.Ok prog N:=xZ8m.give tb_ok hm N N (fun _=>⟨xZ7j N,xZ1d N,xZ55 N,trivial⟩) fun a r s h=>by
 have l0:=s.loop 0 xZ1z (xZ3I N) N fun next0 h0=>by
  exact fun c v=>s.seg 0 xZ1z [(0,.of xZ1z next0)] ⟨h0,trivial⟩ (by kernel_rfl) (by kernel_rfl)
 exact s.main [(0,.of xZ1z (xZ7g N))] ⟨l0,trivial⟩ (.trans (by kernel_rfl) h)
noncomputable def xZiB:Fn xZ4Z:=⟨f143,[],⟨[],[],sbf,bof⟩,fun _=>[],[true],none,0,0,fun _ _=>true,none,[],[]⟩
theorem xZhG:xZiB.Ok prog:=⟨Is.of (by kernel_rfl) (by kernel_rfl),by kernel_rfl,xZ9 sb_ok bo_ok,trivial,trivial,fun _=>by kernel_rfl⟩
theorem xZ9C (N:Nat):xZ4Z.Ok prog N:=xZhG.give tb_ok hm N N (fun _=>trivial) fun a r s h=>by
 exact s.main [] trivial (.trans (by kernel_rfl) h)
noncomputable def xZkO:Fn xZd3:=⟨f197,[],⟨[],[],sbf,bof⟩,fun _=>[xZ4Z],[true],none,0,0,fun _ _=>true,none,[],[]⟩
theorem xZl9:xZkO.Ok prog:=⟨Is.of (by kernel_rfl) (by kernel_rfl),by kernel_rfl,xZ9 sb_ok bo_ok,trivial,trivial,fun _=>by kernel_rfl⟩
theorem xZlR (N:Nat):xZd3.Ok prog N:=xZl9.give tb_ok hm N N (fun _=>⟨xZ9C N,trivial⟩) fun a r s h=>by
 have l0:=s.loop 0 xZ6r (xZe0 N) N fun next0 h0=>by
  exact fun c v=>s.seg 0 xZ6r [(0,.of xZ6r next0)] ⟨h0,trivial⟩ (by kernel_rfl) (by kernel_rfl)
 exact s.main [(0,.of xZ6r (xZhu N))] ⟨l0,trivial⟩ (.trans (by kernel_rfl) h)
noncomputable def xZ9c:Fn xZ23:=⟨f177,[],⟨[(16,4)],[],sbf,bof⟩,fun _=>[xZ2V,xZK,xZ34],[true],none,1,0,fun _ _=>true,none,[],[]⟩
theorem xZ4N:xZ9c.Ok prog:=⟨Is.of (by kernel_rfl) (by kernel_rfl),by kernel_rfl,xZ9 sb_ok bo_ok,trivial,trivial,fun _=>by kernel_rfl⟩
noncomputable def xZ8F:Fn xZ2V:=⟨f183,[],⟨[(16,4)],[],sbf,bof⟩,fun _=>[xZ1C,xZK,xZ34],[true],none,1,0,fun _ _=>true,none,[],[]⟩
theorem xZ4q:xZ8F.Ok prog:=⟨Is.of (by kernel_rfl) (by kernel_rfl),by kernel_rfl,xZ9 sb_ok bo_ok,trivial,trivial,fun _=>by kernel_rfl⟩
noncomputable def xZ7I:Fn xZ1C:=⟨f187,[],⟨[(18,4),(49,4)],[],sbf,bof⟩,fun _=>[xZ2d,xZK,xZ1C,xZ34,xZ23,xZT,xZ2T,xZF,xZd3,xZ1I],[true],none,1,0,fun _ _=>true,none,[],[]⟩
theorem xZ4c:xZ7I.Ok prog:=⟨Is.of (by kernel_rfl) (by kernel_rfl),by kernel_rfl,xZ9 sb_ok bo_ok,trivial,trivial,fun _=>by kernel_rfl⟩
theorem xZ4n:∀ N,xZ23.Ok prog N∧xZ2V.Ok prog N∧xZ1C.Ok prog N
 | 0=>⟨⟨xZ4N.is.enters,fun a r h=>by (have h:none=some r:=h;cases h)⟩,⟨xZ4q.is.enters,fun a r h=>by (have h:none=some r:=h;cases h)⟩,⟨xZ4c.is.enters,fun a r h=>by (have h:none=some r:=h;cases h)⟩⟩
 | N+1=>by
   obtain ⟨h_predtext_parser_or_v927,h_predtext_parser_and_v927,h_predtext_parser_part_v927⟩:=xZ4n N
   refine ⟨?_,?_,?_⟩
   ·exact xZ4N.give tb_ok hm N (N+1) (fun _=>⟨h_predtext_parser_and_v927,xZ1d N,xZ55 N,trivial⟩) fun a r s h=>by
     have l0:=s.loop 0 xZ1N (xZ46 N) N fun next0 h0=>by
      exact fun c v=>s.seg 0 xZ1N [(0,.of xZ1N next0)] ⟨h0,trivial⟩ (by kernel_rfl) (by kernel_rfl)
     exact s.main [(0,.of xZ1N (xZ7G N))] ⟨l0,trivial⟩ (.trans (by kernel_rfl) h)
   ·exact xZ4q.give tb_ok hm N (N+1) (fun _=>⟨h_predtext_parser_part_v927,xZ1d N,xZ55 N,trivial⟩) fun a r s h=>by
     have l0:=s.loop 0 xZ1w (xZ3C N) N fun next0 h0=>by
      exact fun c v=>s.seg 0 xZ1w [(0,.of xZ1w next0)] ⟨h0,trivial⟩ (by kernel_rfl) (by kernel_rfl)
     exact s.main [(0,.of xZ1w (xZ7e N))] ⟨l0,trivial⟩ (.trans (by kernel_rfl) h)
   ·exact xZ4c.give tb_ok hm N (N+1) (fun _=>⟨xZ63 N,xZ1d N,h_predtext_parser_part_v927,xZ55 N,h_predtext_parser_or_v927,xZ1D N,xZ8u N,xZ1b N,xZlR N,xZ4e N,trivial⟩) fun a r s h=>by
     exact s.main [] trivial (.trans (by kernel_rfl) h)
theorem xZ94 (N:Nat):xZ23.Ok prog N:=(xZ4n N).1
noncomputable def xZeI:Fn xZ5n:=⟨f155,[],⟨[],[],sbf,bof⟩,fun _=>[],[true],none,0,0,fun _ _=>true,none,[],[]⟩
theorem xZeQ:xZeI.Ok prog:=⟨Is.of (by kernel_rfl) (by kernel_rfl),by kernel_rfl,xZ9 sb_ok bo_ok,trivial,trivial,fun _=>by kernel_rfl⟩
theorem xZeq (N:Nat):xZ5n.Ok prog N:=xZeQ.give tb_ok hm N N (fun _=>trivial) fun a r s h=>by
 exact s.main [] trivial (.trans (by kernel_rfl) h)
end
end Go.Proofs.YtahklhniofiofaaGreatDoor.P
namespace Go.Proofs.YtahklhniofiofaaGreatDoor.P
open Go
open Go.Proofs.Tryz
set_option maxRecDepth 1000000
set_option linter.unusedSimpArgs false
set_option linter.unusedVariables false
noncomputable section
noncomputable def xZgO:Fn xZ5H:=⟨f82,[],⟨[],[],sbf,bof⟩,fun _=>[],[true],none,0,0,fun _ _=>true,none,[],[]⟩
theorem xZgZ:xZgO.Ok prog:=⟨Is.of (by kernel_rfl) (by kernel_rfl),by kernel_rfl,xZ9 sb_ok bo_ok,trivial,trivial,fun _=>by kernel_rfl⟩
theorem xZcA (N:Nat):xZ5H.Ok prog N:=xZgZ.give tb_ok hm N N (fun _=>trivial) fun a r s h=>by
 exact s.main [] trivial (.trans (by kernel_rfl) h)
noncomputable def xZjp:Fn xZbX:=⟨f84,[],⟨[],[],sbf,bof⟩,fun _=>[xZ5H],[true],none,0,0,fun _ _=>true,none,[],[]⟩
theorem xZk6:xZjp.Ok prog:=⟨Is.of (by kernel_rfl) (by kernel_rfl),by kernel_rfl,xZ9 sb_ok bo_ok,trivial,trivial,fun _=>by kernel_rfl⟩
theorem xZkk (N:Nat):xZbX.Ok prog N:=xZk6.give tb_ok hm N N (fun _=>⟨xZcA N,trivial⟩) fun a r s h=>by
 exact s.main [] trivial (.trans (by kernel_rfl) h)
noncomputable def xZjT:Fn xZ5P:=⟨f48,[],⟨[],[],sbf,bof⟩,fun _=>[xZ5H,xZ4w,xZbX],[true],none,0,0,fun _ _=>true,none,[],[]⟩
theorem xZj6:xZjT.Ok prog:=⟨Is.of (by kernel_rfl) (by kernel_rfl),by kernel_rfl,xZ9 sb_ok bo_ok,trivial,trivial,fun _=>by kernel_rfl⟩
theorem xZbs (N:Nat):xZ5P.Ok prog N:=xZj6.give tb_ok hm N N (fun _=>⟨xZcA N,xZaM N,xZkk N,trivial⟩) fun a r s h=>by
 have l0:=s.loop 0 xZ5G (xZcy N) N fun next0 h0=>by
  exact fun c v=>s.seg 0 xZ5G [(0,.of xZ5G next0)] ⟨h0,trivial⟩ (by kernel_rfl) (by kernel_rfl)
 exact s.main [(0,.of xZ5G (xZgP N))] ⟨l0,trivial⟩ (.trans (by kernel_rfl) h)
noncomputable def xZlN:Fn xZdg:=⟨f144,[],⟨[],[],sbf,bof⟩,fun _=>[],[false],none,0,0,fun _ _=>true,none,[],[]⟩
theorem xZko:xZlN.Ok prog:=⟨Is.of (by kernel_rfl) (by kernel_rfl),by kernel_rfl,xZ9 sb_ok bo_ok,trivial,trivial,fun _=>by kernel_rfl⟩
theorem xZlx (N:Nat):xZdg.Ok prog N:=xZko.give tb_ok hm N N (fun _=>trivial) fun a r s h=>by
 exact s.main [] trivial (.trans (by kernel_rfl) h)
noncomputable def xZcO:Fn xZ4D:=⟨f237,[],⟨[],[],sbf,bof⟩,fun _=>[],[true],none,0,0,fun _ _=>true,none,[],[]⟩
theorem xZcJ:xZcO.Ok prog:=⟨Is.of (by kernel_rfl) (by kernel_rfl),by kernel_rfl,xZ9 sb_ok bo_ok,trivial,trivial,fun _=>by kernel_rfl⟩
theorem xZdl (N:Nat):xZ4D.Ok prog N:=xZcJ.give tb_ok hm N N (fun _=>trivial) fun a r s h=>by
 exact s.main [] trivial (.trans (by kernel_rfl) h)
noncomputable def xZeC:Fn xZ5B:=⟨f238,[],⟨[],[],sbf,bof⟩,fun _=>[],[true],none,0,0,fun _ _=>true,none,[],[]⟩
theorem xZeA:xZeC.Ok prog:=⟨Is.of (by kernel_rfl) (by kernel_rfl),by kernel_rfl,xZ9 sb_ok bo_ok,trivial,trivial,fun _=>by kernel_rfl⟩
theorem xZeJ (N:Nat):xZ5B.Ok prog N:=xZeA.give tb_ok hm N N (fun _=>trivial) fun a r s h=>by
 exact s.main [] trivial (.trans (by kernel_rfl) h)
noncomputable def xZcP:Fn xZ4E:=⟨f239,[],⟨[],[],sbf,bof⟩,fun _=>[],[true],none,0,0,fun _ _=>true,none,[],[]⟩
theorem xZcK:xZcP.Ok prog:=⟨Is.of (by kernel_rfl) (by kernel_rfl),by kernel_rfl,xZ9 sb_ok bo_ok,trivial,trivial,fun _=>by kernel_rfl⟩
theorem xZcZ (N:Nat):xZ4E.Ok prog N:=xZcK.give tb_ok hm N N (fun _=>trivial) fun a r s h=>by
 exact s.main [] trivial (.trans (by kernel_rfl) h)
noncomputable def xZdE:Fn xZ5d:=⟨f240,[],⟨[],[],sbf,bof⟩,fun _=>[],[true],none,0,0,fun _ _=>true,none,[],[]⟩
theorem xZdL:xZdE.Ok prog:=⟨Is.of (by kernel_rfl) (by kernel_rfl),by kernel_rfl,xZ9 sb_ok bo_ok,trivial,trivial,fun _=>by kernel_rfl⟩
theorem xZdz (N:Nat):xZ5d.Ok prog N:=xZdL.give tb_ok hm N N (fun _=>trivial) fun a r s h=>by
 exact s.main [] trivial (.trans (by kernel_rfl) h)
noncomputable def xZjN:Fn xZ7Z:=⟨f112,[],⟨[],[],sbf,bof⟩,fun _=>[xZdg,xZ4D,xZ5B,xZ72,xZ4E,xZ5d],[true],none,0,0,fun _ _=>true,none,[],[]⟩
theorem xZj2:xZjN.Ok prog:=⟨Is.of (by kernel_rfl) (by kernel_rfl),by kernel_rfl,xZ9 sb_ok bo_ok,trivial,trivial,fun _=>by kernel_rfl⟩
theorem xZeS (N:Nat):xZ7Z.Ok prog N:=xZj2.give tb_ok hm N N (fun _=>⟨xZlx N,xZdl N,xZeJ N,xZdk N,xZcZ N,xZdz N,trivial⟩) fun a r s h=>by
 exact s.main [] trivial (.trans (by kernel_rfl) h)
noncomputable def xZfo:Fn xZ5U:=⟨f157,[],⟨[],[],sbf,bof⟩,fun _=>[xZ4Z,xZ5P,xZ7Z],[true],none,0,0,fun _ _=>true,none,[],[]⟩
theorem xZft:xZfo.Ok prog:=⟨Is.of (by kernel_rfl) (by kernel_rfl),by kernel_rfl,xZ9 sb_ok bo_ok,trivial,trivial,fun _=>by kernel_rfl⟩
theorem xZfj (N:Nat):xZ5U.Ok prog N:=xZft.give tb_ok hm N N (fun _=>⟨xZ9C N,xZbs N,xZeS N,trivial⟩) fun a r s h=>by
 exact s.main [] trivial (.trans (by kernel_rfl) h)
noncomputable def xZiJ:Fn xZan:=⟨f156,[],⟨[],[],sbf,bof⟩,fun _=>[xZ5U],[true],none,0,0,fun _ _=>true,none,[],[]⟩
theorem xZhS:xZiJ.Ok prog:=⟨Is.of (by kernel_rfl) (by kernel_rfl),by kernel_rfl,xZ9 sb_ok bo_ok,trivial,trivial,fun _=>by kernel_rfl⟩
theorem xZi1 (N:Nat):xZan.Ok prog N:=xZhS.give tb_ok hm N N (fun _=>⟨xZfj N,trivial⟩) fun a r s h=>by
 exact s.main [] trivial (.trans (by kernel_rfl) h)
noncomputable def xZis:Fn xZaw:=⟨f156,[],⟨[],[],sbf,bof⟩,fun _=>[xZbr],[true],none,0,0,fun _ _=>true,none,[],[]⟩
theorem xZhk:xZis.Ok prog:=⟨Is.of (by kernel_rfl) (by kernel_rfl),by kernel_rfl,xZ9 sb_ok bo_ok,trivial,trivial,fun _=>by kernel_rfl⟩
theorem xZhq (N:Nat):xZaw.Ok prog N:=xZhk.give tb_ok hm N N (fun _=>⟨xZgr N,trivial⟩) fun a r s h=>by
 exact s.main [] trivial (.trans (by kernel_rfl) h)
noncomputable def xZnV:Fn xZeN:=⟨f159,[],⟨[],[],sbf,bof⟩,fun _=>[],[true],none,0,0,fun _ _=>true,none,[],[]⟩
theorem xZnj:xZnV.Ok prog:=⟨Is.of (by kernel_rfl) (by kernel_rfl),by kernel_rfl,xZ9 sb_ok bo_ok,trivial,trivial,fun _=>by kernel_rfl⟩
theorem xZnE (N:Nat):xZeN.Ok prog N:=xZnj.give tb_ok hm N N (fun _=>trivial) fun a r s h=>by
 exact s.main [] trivial (.trans (by kernel_rfl) h)
noncomputable def xZgY:Fn xZ8K:=⟨f160,[],⟨[],[],sbf,bof⟩,fun _=>[],[true],none,0,0,fun _ _=>true,none,[],[]⟩
theorem xZgR:xZgY.Ok prog:=⟨Is.of (by kernel_rfl) (by kernel_rfl),by kernel_rfl,xZ9 sb_ok bo_ok,trivial,trivial,fun _=>by kernel_rfl⟩
theorem xZh0 (N:Nat):xZ8K.Ok prog N:=xZgR.give tb_ok hm N N (fun _=>trivial) fun a r s h=>by
 exact s.main [] trivial (.trans (by kernel_rfl) h)
noncomputable def xZas:Fn xZ1s:=⟨f140,[],⟨[],[],sbf,bof⟩,fun _=>[xZ5n,xZan,xZaw,xZeN,xZ8K,xZ1s],[true],none,1,0,fun _ _=>true,none,[],[]⟩
theorem xZ58:xZas.Ok prog:=⟨Is.of (by kernel_rfl) (by kernel_rfl),by kernel_rfl,xZ9 sb_ok bo_ok,trivial,trivial,fun _=>by kernel_rfl⟩
theorem xZ4Q:∀ N,xZ1s.Ok prog N
 | 0=>⟨xZ58.is.enters,fun a r h=>by (have h:none=some r:=h;cases h)⟩
 | N+1=>by
   obtain h_pred_checker_tree_v739:=xZ4Q N
   ·exact xZ58.give tb_ok hm N (N+1) (fun _=>⟨xZeq N,xZi1 N,xZhq N,xZnE N,xZh0 N,h_pred_checker_tree_v739,trivial⟩) fun a r s h=>by
     have l0:=s.loop 0 xZ1X (xZ4m N) N fun next0 h0=>by
      exact fun c v=>s.seg 0 xZ1X [(0,.of xZ1X next0)] ⟨h0,trivial⟩ (by kernel_rfl) (by kernel_rfl)
     exact s.main [(0,.of xZ1X (xZ8y N))] ⟨l0,trivial⟩ (.trans (by kernel_rfl) h)
theorem xZav (N:Nat):xZ1s.Ok prog N:=(xZ4Q N)
noncomputable def xZlG:Fn xZ9D:=⟨f110,[],⟨[],[],sbf,bof⟩,fun _=>[xZ1s],[true],none,0,0,fun _ _=>true,none,[],[]⟩
theorem xZlX:xZlG.Ok prog:=⟨Is.of (by kernel_rfl) (by kernel_rfl),by kernel_rfl,xZ9 sb_ok bo_ok,trivial,trivial,fun _=>by kernel_rfl⟩
theorem xZcE (N:Nat):xZ9D.Ok prog N:=xZlX.give tb_ok hm N N (fun _=>⟨xZav N,trivial⟩) fun a r s h=>by
 exact s.main [] trivial (.trans (by kernel_rfl) h)
end
end Go.Proofs.YtahklhniofiofaaGreatDoor.P
