/- slices.Grow of nothing, walked. No premise beyond what each theorem says. -/
import Derived.Test.YtmfkphajohcklaaGreatUG3
import Derived.WalkKit
import Derived.Lib.Walk
import Derived.Lib.SliceRun
import Derived.Lib.AppendZerosOnto
import Derived.WalkLawsBesides
import Derived.Deep.RegionHeld3
import Derived.LaidEql
import Derived.Stop.Asserts
import Derived.RowKitTokens
set_option linter.all false
set_option linter.unusedSimpArgs false
set_option linter.unusedVariables false
set_option linter.unusedVariables false
set_option linter.unusedSimpArgs false
namespace Go.Proofs.YtmfkphajohcklaaGreat.U
open Go Go.RowKit Go.Lib Go.Proofs.Tryz
set_option maxHeartbeats 4000000
set_option maxRecDepth 1000000
theorem af8 (a:Option Addr) (w:World):Calls Tryz.prog 194 #[.slice a 0 0,.int .i64 0] w λe w'=>e=.returned (.slice a 0 0)/\w'=w:=by
 go_enter Tryz.func194,Tryz.ntmps194
 go_wp2
 go_ret
 exact⟨rfl,rfl⟩
theorem af9 (i0:TypeInfo) (z:Value) (hu:Tryz.prog.underlying 51=some (.slice 135)) (hi0:Tryz.prog.info? 135=some i0) (hz0:i0.zero=some z) (hs0:0<i0.size) (n:Nat) (h0:0<n) (hbig:n*i0.bytes<=140737488355328) (h63:n<=4611686018427387904) (a:Option Addr) (w:World):
 Calls Tryz.prog 194 #[.slice a 0 0,.int .i64 n] w λe w'=>e=.returned (.slice (some ⟨w.heap.size,0,none⟩) 0 (grownCap w n 0 135))/\
  w'=w.drew.alloc (.cells (#[]++Builtin.zeroCells z.cells n++Builtin.zeroCells z.cells (grownCap w n 0 135-n)) 135):=by
 have h1:¬((n:Int)<0):=by omega
 have h4:(n:Int)>0:=by omega
 have z25:∀w,(Go.sizeOf 135).run Tryz.prog w=.ok i0.size w:=λw=>by simp[Go.sizeOf,typeInfo,hi0]
 have hrz:∀ty,(Builtin.append_ #[51,3] ty #[.slice a 0 0,.int .i64 n]).run Tryz.prog w=
  .ok (.slice (some ⟨w.heap.size,0,none⟩) n (grownCap w n 0 135)) (w.drew.alloc (.cells (#[]++Builtin.zeroCells z.cells n++Builtin.zeroCells z.cells (grownCap w n 0 135-n)) 135)):=λty=>by
  have hold:(Builtin.firstCells i0.size 0 (.slice a 0 0)).run Tryz.prog w.drew=.ok ([]:List Value).toArray w.drew:=by
   cases a with
   | none=>exact run_firstCells_none w.drew i0.size 0 0 0
   | some a=>exact run_firstCells_some w.drew i0.size 0 a 0 0 [] (by simp) (λj v hj=>by cases hj)
  have h:=Lib.run_append_grow_zeros w 51 3 ty 135 i0 z .i64 .i64 hu Tryz.underlying3 hi0 hz0 a 0 0 [] hold n h0 hs0 (by omega) (by omega) (by omega) (by
   rw[Nat.zero_add];exact growslice_fits (by omega) (by omega))
  rw[Nat.zero_add]at h;exact h
 have hGn:n<=grownCap w n 0 135:=grownCap_ge w _ _ _;obtain⟨G,hG⟩:∃G,G=grownCap w n 0 135:=⟨_,rfl⟩
 rw[<- hG]at hrz hGn ⊢;have hG63:G<=9223372036854775807:=by
  have:=grownCap_le_maxLen w n 0 135 (by unfold maxLen;omega);rw[<- hG]at this;unfold maxLen at this;omega
 clear hG
 go_enter Tryz.func194,Tryz.ntmps194
 cases a with
 | none=>
   go_wp2_with (at_builtin;refine Lib.wpList_append_run _ rfl _ _ _ _ rfl _ _ rfl rfl _ _ (hrz _) ?_)
   all_goals (go_ret;exact⟨rfl,rfl⟩)
 | some a=>
   obtain⟨ab,ao,asp⟩:=a
   go_wp2_with (at_builtin;refine Lib.wpList_append_run _ rfl _ _ _ _ rfl _ _ rfl rfl _ _ (hrz _) ?_)
   all_goals (go_ret;exact⟨rfl,rfl⟩)
theorem MF (N:Nat):Fe.Ok prog N:=by
 refine⟨⟨Tryz.f194,Tryz.func194,by kernel_rfl,by kernel_rfl⟩,λa r h=>?_⟩;obtain⟨⟨⟨⟩,n,⟨⟩⟩,⟨⟩,⟨⟩⟩:=a;have h:xK N n=some r:=h;unfold xK at h;obtain⟨hn0,h⟩:=bW h;obtain⟨hnb,h⟩:=bW h;have hn0:=a8.1 hn0;have hnb:=a8.1 hnb;obtain rfl:=Option.some.inj h;intro M S w vs hh _ hsz hrep;obtain⟨v,u,rfl⟩:∃v u,vs=#[v,u]:=by
  match vs,hsz with
  | ⟨[v,u]⟩,_=>exact⟨v,u,rfl⟩
 obtain⟨ad,rfl⟩:∃ad,v=.slice ad 0 0:=by
  have q:am M S w v .emp:=hrep 0 (Nat.zero_lt_succ 1);cases q with
  | data q=>cases q;exact⟨_,rfl⟩
 have e1:u=.int .i64 n:=am.bh (hrep 1 (Nat.lt_succ_self 1));subst e1;obtain⟨m,rfl⟩:∃m:Nat,n=m:=⟨n.toNat,by omega⟩
 have fin:∀(g:Value) (w':World),Grew w w'->b9 S w' g 8 []->(∀b,Value.blk g=some b->w.heap.size<=b)->(∃a n c,g=.slice a n c)->
  ∃M' S',eZ M' S' w' (.returned g) (.ret (.own 0))/\aE M' S' ⟨[],[.live 8 []]⟩ w'/\aU M S AH.nil w M' S' ⟨[],[.live 8 []]⟩ w':=by
  intro g w' hg hl hb hs;obtain⟨h1,h2⟩:=hh.ci hg hl hb;exact⟨_,S,jF hh.nt hs,h1,h2⟩
 by_cases hm:m=0
 ·subst hm;refine(af8 ad w).mono ?_;rintro e w' ⟨rfl,rfl⟩;exact fin _ _ (.refl _) (.inl ⟨⟨_,rfl⟩,rfl⟩) (λb hb=>by cases ad<;>cases hb) ⟨_,_,_,rfl⟩
 ·obtain⟨ks,x,hx⟩:∃ks x,oD prog 51 ks=some (x,8,80):=⟨[0,0,0,0,0,0,0,0],fV (az.mk 0 0 [] [] (bM.mk 0 0 0 [])),by kernel_rfl⟩
  obtain⟨e,i,z,hu,hi,hz,q1,q2,q3,q4,hx⟩:=Pz hx;simp only[Prod.mk.injEq]at hx;obtain⟨-,hs8,Uy⟩:=hx;have he:e=135:=by
   have:prog.underlying 51=some (.slice 135):=by kernel_rfl
   rw[this]at hu;cases hu;rfl
  subst he;refine(af9 i z hu hi hz q3 m (by omega) (by rw[<- Uy];omega) (by omega) ad w).mono ?_;rintro e w' ⟨rfl,rfl⟩;have hge:=grownCap_ge w m 0 135;have hle:=grownCap_le_maxLen w m 0 135 (by unfold maxLen;omega);have hG:=Grew.Jh w (.cells (#[]++Builtin.zeroCells z.cells m++Builtin.zeroCells z.cells (grownCap w m 0 135-m)) 135);generalize grownCap w m 0 135=G at *;obtain⟨q,rfl⟩:∃q,G=q+1:=⟨G-1,by omega⟩
  refine fin _ _ hG (.inr ⟨w.heap.size,q,_,135,rfl,λh=>by have:=hh.sits _ h;omega,fP _ _,⟨Nat.zero_le _,hle,?_,λi hi=>absurd hi (Nat.not_lt_zero _),λi hi=>absurd hi (Nat.not_lt_zero _),λi hi=>absurd hi (Nat.not_lt_zero _)⟩⟩) (λb hb=>by cases hb;exact Nat.le_refl _) ⟨_,_,_,rfl⟩;rw[Array.size_append,Array.size_append,size_zeroCells,size_zeroCells,q2,<- hs8,Array.size_empty];omega
end Go.Proofs.YtmfkphajohcklaaGreat.U
set_option linter.unusedVariables false
set_option linter.unusedSimpArgs false
namespace Go.Proofs.YtmfkphajohcklaaGreat.U
open Go Go.RowKit Go.Proofs.Tryz
set_option maxHeartbeats 4000000
set_option maxRecDepth 1000000
theorem Hk {M:Maps} {S:Nat->Prop} {w:World} {v:Value} {l:List Value} (h:am M S w v (.agg (l.map .v))):v=.agg l.toArray:=by
 have key:∀vs:Array Value,vs.size=(l.map AV.v).length->(∀i,i<(l.map AV.v).length->am M S w (vs.getD i undef) ((l.map AV.v).getD i .any))->vs=l.toArray:=λvs hn hall=>by
  rw[List.length_map]at hn;refine Array.ext (by simpa using hn) λi h1 h2=>?_;have hi:i<l.length:=by omega
  have q:=hall i (by simpa using hi);rw[show(l.map AV.v).getD i .any=.v l[i] by simp[List.getD,hi]]at q;have:=q.bh;simpa[Array.getD,h1]using this
 cases h with
 | data h=>cases h with|agg vs _ hn hall=>exact congrArg _ (key vs hn λi hi=>.data (hall i hi))
 | agg vs _ hn hall=>exact congrArg _ (key vs hn hall)
theorem tH (w:World) (a b:Obj):Grew w ((w.alloc a).alloc b):=⟨rfl,rfl,rfl,by simp;omega,λg h=>(dL _ _ g (by simp;omega)).trans (dL _ _ g h)⟩
theorem afk (w:World) (a b:Obj):Grew w ((w.alloc a).alloc b).drew:=⟨rfl,rfl,rfl,by simp;omega,λg h=>(dL _ _ g (by simp;omega)).trans (dL _ _ g h)⟩
theorem iT (l:List UInt8):(bs l).toList=[]↔l=[]:=by simp[bs]
theorem aiS (o vk vn vb:Int) (va na vt:List UInt8) (w:World):
 Calls Tryz.prog 174 #[.agg #[.int .u8 4,.int .u8 o,.string (bs va),.string (bs na),.int .u8 vk,.int .i64 vn,.int .u64 vb,.string (bs vt)]] w λe w'=>(∃b,e=.returned (.bool b)/\(b=false↔(va=[]/\na=[]/\0=vk/\0=vn/\0=vb/\vt=[])))/\Grew w w':=by
 rw[<- iT vt,<- iT va,<- iT na]
 go_enter Tryz.func174,Tryz.ntmps174
 go_wp2
 all_goals
  go_ret
  refine⟨⟨_,rfl,?_⟩,tH _ _ _⟩;simp_all
theorem aiT (o vk vn vb:Int) (va na vt:List UInt8) (w:World):
 Calls Tryz.prog 174 #[.agg #[.int .u8 7,.int .u8 o,.string (bs va),.string (bs na),.int .u8 vk,.int .i64 vn,.int .u64 vb,.string (bs vt)]] w λe w'=>(∃b,e=.returned (.bool b)/\(b=false↔(0=o/\va=[]/\0=vk/\0=vn/\0=vb/\vt=[])))/\Grew w w':=by
 rw[<- iT vt,<- iT va]
 go_enter Tryz.func174,Tryz.ntmps174
 go_wp2
 all_goals
  go_ret
  refine⟨⟨_,rfl,?_⟩,tH _ _ _⟩;simp_all
theorem aiU (o vk vn vb:Int) (va na vt:List UInt8) (w:World):
 Calls Tryz.prog 174 #[.agg #[.int .u8 8,.int .u8 o,.string (bs va),.string (bs na),.int .u8 vk,.int .i64 vn,.int .u64 vb,.string (bs vt)]] w λe w'=>(∃b,e=.returned (.bool b)/\(b=false↔(0=o/\0=vk/\0=vn/\0=vb/\vt=[])))/\Grew w w':=by
 rw[<- iT vt]
 go_enter Tryz.func174,Tryz.ntmps174
 go_wp2
 go_region_held3 (λw'=>w'.cell? ⟨w.heap.size,2,none⟩=some (.string (bs va))/\w'.cell? ⟨w.heap.size,3,none⟩=some (.string (bs na))) (go_keep) (fail)
 go_wp2
 all_goals
  go_ret
  refine⟨⟨_,rfl,?_⟩,afk _ _ _⟩;simp_all
theorem aiV (o vk vn vb:Int) (va na vt:List UInt8) (w:World):
 Calls Tryz.prog 174 #[.agg #[.int .u8 9,.int .u8 o,.string (bs va),.string (bs na),.int .u8 vk,.int .i64 vn,.int .u64 vb,.string (bs vt)]] w λe w'=>(∃b,e=.returned (.bool b)/\(b=false↔(0=o/\va=[]/\na=[])))/\Grew w w':=by
 rw[<- iT va,<- iT na]
 go_enter Tryz.func174,Tryz.ntmps174
 go_wp2
 all_goals
  go_ret
  refine⟨⟨_,rfl,?_⟩,tH _ _ _⟩;simp_all
theorem aiW (k:Int) (h4:¬k=4) (h7:¬k=7) (h8:¬k=8) (h9:¬k=9) (o vk vn vb:Int) (va na vt:List UInt8) (w:World):
 Calls Tryz.prog 174 #[.agg #[.int .u8 k,.int .u8 o,.string (bs va),.string (bs na),.int .u8 vk,.int .i64 vn,.int .u64 vb,.string (bs vt)]] w λe w'=>(∃b,e=.returned (.bool b)/\(b=false↔(0=o/\va=[]/\na=[]/\0=vk/\0=vn/\0=vb/\vt=[])))/\Grew w w':=by
 rw[<- iT vt,<- iT va,<- iT na]
 go_enter Tryz.func174,Tryz.ntmps174
 go_wp2
 all_goals
  go_ret
  refine⟨⟨_,rfl,?_⟩,tH _ _ _⟩;simp_all
theorem Tk {a b:Bool} {Q:Prop} (h1:a=false↔Q) (h2:b=false↔Q):b=a:=by cases a<;>cases b<;>simp_all
theorem Na (N:Nat):FC.Ok prog N:=by
 refine⟨⟨Tryz.f174,Tryz.func174,by kernel_rfl,by kernel_rfl⟩,λa r h=>?_⟩;obtain⟨n,⟨⟩⟩:=a;have h:some (kh n)=some r:=h;obtain rfl:=Option.some.inj h;intro M S w vs hh _ hsz hrep;obtain⟨v,rfl⟩:∃v,vs=#[v]:=by
  match vs,hsz with
  | ⟨[v]⟩,_=>exact⟨v,rfl⟩
 obtain⟨k,o,va,na,vk,vn,vb,vt⟩:=n;have h0:am M S w v (.agg ([.int .u8 k,.int .u8 o,.string (bs va),.string (bs na),.int .u8 vk,.int .i64 vn,.int .u64 vb,.string (bs vt)].map .v)):=hrep 0 (Nat.zero_lt_one);obtain rfl:=Hk h0;have fin:∀ {k:Int} {Q:Prop},(kh ⟨k,o,va,na,⟨vk,vn,vb,vt⟩⟩=false↔Q)->∀e w',((∃b,e=.returned (.bool b)/\(b=false↔Q))/\Grew w w')->
  ∃M' S',eZ M' S' w' e (.ret (.v (.bool (kh ⟨k,o,va,na,⟨vk,vn,vb,vt⟩⟩))))/\aE M' S' AH.nil w'/\aU M S AH.nil w M' S' AH.nil w':=by
  rintro k Q hm e w' ⟨⟨b,rfl,hb⟩,hg⟩;obtain rfl:=Tk hm hb;exact⟨M,S,.data (.v _),hh.grew hg,.grew hh hg⟩
 by_cases h4:k=4
 ·subst h4;exact(aiS o vk vn vb va na vt w).mono (fin (by simp[kh,ki,eq_comm (a:=(0:Int)),and_assoc]))
 by_cases h7:k=7
 ·subst h7;exact(aiT o vk vn vb va na vt w).mono (fin (by simp[kh,ki,eq_comm (a:=(0:Int)),and_assoc]))
 by_cases h8:k=8
 ·subst h8;exact(aiU o vk vn vb va na vt w).mono (fin (by simp[kh,ki,eq_comm (a:=(0:Int)),and_assoc]))
 by_cases h9:k=9
 ·subst h9;exact(aiV o vk vn vb va na vt w).mono (fin (by simp[kh,ki,eq_comm (a:=(0:Int)),and_assoc]))
 have e4:(k==4)=false:=by simpa using h4
 have e7:(k==7)=false:=by simpa using h7
 have e8:(k==8)=false:=by simpa using h8
 have e9:(k==9)=false:=by simpa using h9
 exact(aiW k h4 h7 h8 h9 o vk vn vb va na vt w).mono (fin (by simp only[kh,e4,e7,e8,e9,cond_false];simp[ki,eq_comm (a:=(0:Int)),and_assoc]))
end Go.Proofs.YtmfkphajohcklaaGreat.U
namespace Go.Proofs.YtmfkphajohcklaaGreat.U
open Go Go.RowKit Go.Extern.Stop Go.Stop Go.Extern Go.Proofs.Tryz
set_option maxHeartbeats 4000000
set_option maxRecDepth 1000000
theorem HG (n p:Int) (h:n≠0) (w:World):Calls Tryz.prog 60 #[.int .i64 n,.int .i64 p] w λe w'=>e=.returned (.iface 175 (.pointer (some ⟨w.heap.size,0,none⟩)))/\w'=w.alloc (.cells #[.int .i64 n,.int .i64 p] 189):=by
 go_enter Tryz.func60,Tryz.ntmps60
 go_wp2
 go_ret
 exact⟨rfl,rfl⟩
end Go.Proofs.YtmfkphajohcklaaGreat.U
namespace Go.Proofs.YtmfkphajohcklaaGreat.U
noncomputable section
open Go
open Go.Proofs.Tryz
set_option maxRecDepth 1000000
set_option linter.unusedSimpArgs false
set_option linter.unusedVariables false
noncomputable section
def ab8:Fn FZ:=⟨f34,[],⟨[],[],au,ar⟩,λ_=>[],[true],none,0,0,λ_ _=>true,none,[],[],[]⟩
theorem ac2:ab8.Ok prog:=⟨Is.of (by kernel_rfl) (by kernel_rfl),by kernel_rfl,ay ax aw,trivial,trivial,λ_=>by kernel_rfl⟩
theorem aco (N:Nat):FZ.Ok prog N:=ac2.give aq hm N N (λ_=>trivial) λa r s h=>by
 exact s.main [] trivial (.trans (by kernel_rfl) h)
def ac9:Fn Gs:=⟨f18,[],⟨[],[],au,ar⟩,λ_=>[FZ],[true],none,0,0,λ_ _=>true,none,[],[],[]⟩
theorem aeb:ac9.Ok prog:=⟨Is.of (by kernel_rfl) (by kernel_rfl),by kernel_rfl,ay ax aw,trivial,trivial,λ_=>by kernel_rfl⟩
theorem adH (N:Nat):Gs.Ok prog N:=aeb.give aq hm N N (λ_=>⟨aco N,trivial⟩) λa r s h=>by
 have l0:=s.loop 0 yM (NQ N) N λac h0=>by
  exact λc v=>s.seg 0 yM [(0,.of yM ac)] ⟨h0,trivial⟩ (by kernel_rfl) (by kernel_rfl)
 exact s.main [(0,.of yM (acF N))] ⟨l0,trivial⟩ (.trans (by kernel_rfl) h)
def adh:Fn zD:=⟨f36,[],⟨[],[],au,ar⟩,λ_=>[],[true],none,0,0,λ_ _=>true,none,[],[],[]⟩
theorem adM:adh.Ok prog:=⟨Is.of (by kernel_rfl) (by kernel_rfl),by kernel_rfl,ay ax aw,trivial,trivial,λ_=>by kernel_rfl⟩
theorem Om (N:Nat):zD.Ok prog N:=adM.give aq hm N N (λ_=>trivial) λa r s h=>by
 exact s.main [] trivial (.trans (by kernel_rfl) h)
def adi:Fn sL:=⟨f35,[],⟨[],[],au,ar⟩,λ_=>[zD],[true],none,0,0,λ_ _=>true,none,[],[],[]⟩
theorem adN:adi.Ok prog:=⟨Is.of (by kernel_rfl) (by kernel_rfl),by kernel_rfl,ay ax aw,trivial,trivial,λ_=>by kernel_rfl⟩
theorem GC (N:Nat):sL.Ok prog N:=adN.give aq hm N N (λ_=>⟨Om N,trivial⟩) λa r s h=>by
 have l0:=s.loop 0 yR (NV N) N λac h0=>by
  exact λc v=>s.seg 0 yR [(0,.of yR ac)] ⟨h0,trivial⟩ (by kernel_rfl) (by kernel_rfl)
 exact s.main [(0,.of yR (acK N))] ⟨l0,trivial⟩ (.trans (by kernel_rfl) h)
def adg:Fn zC:=⟨f19,[],⟨[],[],au,ar⟩,λ_=>[sL],[true],none,0,0,λ_ _=>true,none,[],[],[]⟩
theorem aeg:adg.Ok prog:=⟨Is.of (by kernel_rfl) (by kernel_rfl),by kernel_rfl,ay ax aw,trivial,trivial,λ_=>by kernel_rfl⟩
theorem Ol (N:Nat):zC.Ok prog N:=aeg.give aq hm N N (λ_=>⟨GC N,trivial⟩) λa r s h=>by
 have l0:=s.loop 0 yQ (NU N) N λac h0=>by
  exact λc v=>s.seg 0 yQ [(0,.of yQ ac)] ⟨h0,trivial⟩ (by kernel_rfl) (by kernel_rfl)
 exact s.main [(0,.of yQ (acJ N))] ⟨l0,trivial⟩ (.trans (by kernel_rfl) h)
def ab9:Fn sJ:=⟨f20,[],⟨[],[],au,ar⟩,λ_=>[zD,sJ,sL],[true],none,0,0,λ_ _=>true,none,[],[],[]⟩
theorem N1:ab9.Ok prog:=⟨Is.of (by kernel_rfl) (by kernel_rfl),by kernel_rfl,ay ax aw,trivial,trivial,λ_=>by kernel_rfl⟩
theorem NK:∀N,sJ.Ok prog N
 | 0=>⟨N1.is.enters,λa r h=>by(have h:none=some r:=h;cases h)⟩
 | N+1=>by
   obtain Uq:=NK N
   ·exact N1.give aq hm N (N+1) (λ_=>⟨Om N,Uq,GC N,trivial⟩) λa r s h=>by
     have l0:=s.loop 0 yc (Nr N) N λac h0=>by
      exact λc v=>s.seg 0 yc [(0,.of yc ac)] ⟨h0,trivial⟩ (by kernel_rfl) (by kernel_rfl)
     exact s.main [(0,.of yc (abC N))] ⟨l0,trivial⟩ (.trans (by kernel_rfl) h)
theorem acr (N:Nat):sJ.Ok prog N:=(NK N)
def ada:Fn Gt:=⟨f6,[],⟨[],[],au,ar⟩,λ_=>[Gs,zC,sJ],[true],none,0,0,λ_ _=>true,none,[],[],[]⟩
theorem aec:ada.Ok prog:=⟨Is.of (by kernel_rfl) (by kernel_rfl),by kernel_rfl,ay ax aw,trivial,trivial,λ_=>by kernel_rfl⟩
theorem adI (N:Nat):Gt.Ok prog N:=aec.give aq hm N N (λ_=>⟨adH N,Ol N,acr N,trivial⟩) λa r s h=>by
 have l0:=s.loop 0 yN (NR N) N λac h0=>by
  exact λc v=>s.seg 0 yN [(0,.of yN ac)] ⟨h0,trivial⟩ (by kernel_rfl) (by kernel_rfl)
 exact s.main [(0,.of yN (acG N))] ⟨l0,trivial⟩ (.trans (by kernel_rfl) h)
def aei:Fn GH:=⟨f73,[],⟨[],[],au,ar⟩,λ_=>[],[true],none,0,0,λ_ _=>true,none,[],[],[]⟩
theorem aeM:aei.Ok prog:=⟨Is.of (by kernel_rfl) (by kernel_rfl),by kernel_rfl,ay ax aw,trivial,trivial,λ_=>by kernel_rfl⟩
theorem aes (N:Nat):GH.Ok prog N:=aeM.give aq hm N N (λ_=>trivial) λa r s h=>by
 exact s.main [] trivial (.trans (by kernel_rfl) h)
def aeh:Fn GG:=⟨f53,[],⟨[],[],au,ar⟩,λ_=>[GH],[true],none,0,0,λ_ _=>true,none,[],[],[]⟩
theorem aeL:aeh.Ok prog:=⟨Is.of (by kernel_rfl) (by kernel_rfl),by kernel_rfl,ay ax aw,trivial,trivial,λ_=>by kernel_rfl⟩
theorem aer (N:Nat):GG.Ok prog N:=aeL.give aq hm N N (λ_=>⟨aes N,trivial⟩) λa r s h=>by
 have l0:=s.loop 0 zy (N7 N) N λac h0=>by
  exact λc v=>s.seg 0 zy [(0,.of zy ac)] ⟨h0,trivial⟩ (by kernel_rfl) (by kernel_rfl)
 exact s.main [(0,.of zy (ady N))] ⟨l0,trivial⟩ (.trans (by kernel_rfl) h)
def ab7:Fn FY:=⟨f30,[],⟨[(2000063,10),(2000068,10)],[],au,ar⟩,λ_=>[GG],[true],none,0,0,λ_ _=>true,none,[],[],[]⟩
theorem ac1:ab7.Ok prog:=⟨Is.of (by kernel_rfl) (by kernel_rfl),by kernel_rfl,ay ax aw,trivial,trivial,λ_=>by kernel_rfl⟩
theorem acn (N:Nat):FY.Ok prog N:=ac1.give aq hm N N (λ_=>⟨aer N,trivial⟩) λa r s h=>by
 have l0:=s.loop 0 xZ (Nq N) N λac h0=>by
  exact λc v=>s.seg 0 xZ [(0,.of xZ ac)] ⟨h0,trivial⟩ (by kernel_rfl) (by kernel_rfl)
 exact s.main [(0,.of xZ (abB N))] ⟨l0,trivial⟩ (.trans (by kernel_rfl) h)
def ac8:Fn pF:=⟨f13,[],⟨[],[],au,ar⟩,λ_=>[],[true],none,0,0,λ_ _=>true,none,[],[],[]⟩
theorem aea:ac8.Ok prog:=⟨Is.of (by kernel_rfl) (by kernel_rfl),by kernel_rfl,ay ax aw,trivial,trivial,λ_=>by kernel_rfl⟩
theorem zF (N:Nat):pF.Ok prog N:=aea.give aq hm N N (λ_=>trivial) λa r s h=>by
 exact s.main [] trivial (.trans (by kernel_rfl) h)
def aaf:Fn Fl:=⟨f54,[],⟨[],[],au,ar⟩,λ_=>[pF],[],none,1,1,λ_ _=>true,none,[],[],[]⟩
theorem Z6:aaf.Ok prog:=⟨Is.of (by kernel_rfl) (by kernel_rfl),by kernel_rfl,ay ax aw,trivial,trivial,λ_=>by kernel_rfl⟩
theorem Z2 (N:Nat):Fl.Ok prog N:=Z6.give aq hm N N (λ_=>⟨zF N,trivial⟩) λa r s h=>by
 have l0:=s.loop 0 xE (MI N) N λac h0=>by
  exact λc v=>s.seg 0 xE [(0,.of xE ac)] ⟨h0,trivial⟩ (by kernel_rfl) (by kernel_rfl)
 exact s.main [(0,.of xE (ZT N))] ⟨l0,trivial⟩ (.trans (by kernel_rfl) h)
def ZA:Fn sj:=⟨f31,[],⟨[],[],au,ar⟩,λ_=>[sj,Fl],[true],none,1,1,λ_ _=>true,none,[],[],[]⟩
theorem MB:ZA.Ok prog:=⟨Is.of (by kernel_rfl) (by kernel_rfl),by kernel_rfl,ay ax aw,trivial,trivial,λ_=>by kernel_rfl⟩
theorem MH:∀N,sj.Ok prog N
 | 0=>⟨MB.is.enters,λa r h=>by(have h:none=some r:=h;cases h)⟩
 | N+1=>by
   obtain Um:=MH N
   ·exact MB.give aq hm N (N+1) (λ_=>⟨Um,Z2 N,trivial⟩) λa r s h=>by
     exact s.main [] trivial (.trans (by kernel_rfl) h)
theorem ZF (N:Nat):sj.Ok prog N:=(MH N)
def abW:Fn FK:=⟨f14,[],⟨[],[(55,⟨11,(0:Int),4⟩)],au,ar⟩,λ_=>[FY,sj],[true,true],none,0,0,λ_ _=>true,some bw.cls,[],[],[]⟩
theorem ab1:abW.Ok prog:=⟨Is.of (by kernel_rfl) (by kernel_rfl),by kernel_rfl,ay ax aw,⟨⟨[0],by kernel_rfl⟩,trivial⟩,trivial,λ_=>by kernel_rfl⟩
theorem abN (N:Nat):FK.Ok prog N:=ab1.give aq hm N N (λ_=>⟨acn N,ZF N,trivial⟩) λa r s h=>by
 exact s.main [] trivial (.trans (by kernel_rfl) h)
def Zw:Fn Fc:=⟨f23,[],⟨[],[],au,ar⟩,λ_=>[pF],[true],none,1,0,λ_ _=>true,none,[],[],[]⟩
theorem ZN:Zw.Ok prog:=⟨Is.of (by kernel_rfl) (by kernel_rfl),by kernel_rfl,ay ax aw,trivial,trivial,λ_=>by kernel_rfl⟩
theorem ZL (N:Nat):Fc.Ok prog N:=ZN.give aq hm N N (λ_=>⟨zF N,trivial⟩) λa r s h=>by
 have l0:=s.loop 0 si (Mt N) N λac h0=>by
  have l2:=s.loop 2 xL (Mu N ac) N λaH h2=>by
   exact λc v=>s.seg 2 xL [(0,.of si ac),(2,.of xL aH)] ⟨h0,h2,trivial⟩ (by kernel_rfl) (by kernel_rfl)
  exact λc v=>s.seg 0 si [(0,.of si ac),(2,.of xL (Zn N ac))] ⟨h0,l2,trivial⟩ (by kernel_rfl) (by kernel_rfl)
 exact s.main [(0,.of si (Zv N))] ⟨l0,trivial⟩ (.trans (by kernel_rfl) h)
end
end
end Go.Proofs.YtmfkphajohcklaaGreat.U
namespace Go.Proofs.YtmfkphajohcklaaGreat.U
noncomputable section
open Go
open Go.Proofs.Tryz
set_option maxRecDepth 1000000
set_option linter.unusedSimpArgs false
set_option linter.unusedVariables false
noncomputable section
def aaX:Fn Fz:=⟨f99,[],⟨[],[],au,ar⟩,λ_=>[],[true],none,0,0,λ_ _=>true,none,[],[],[]⟩
theorem aa6:aaX.Ok prog:=⟨Is.of (by kernel_rfl) (by kernel_rfl),by kernel_rfl,ay ax aw,trivial,trivial,λ_=>by kernel_rfl⟩
theorem aa1 (N:Nat):Fz.Ok prog N:=aa6.give aq hm N N (λ_=>trivial) λa r s h=>by
 exact s.main [] trivial (.trans (by kernel_rfl) h)
def abo:Fn sC:=⟨f63,[],⟨[],[],au,ar⟩,λ_=>[Fz],[true],none,0,0,λ_ _=>true,none,[],[],[]⟩
theorem abx:abo.Ok prog:=⟨Is.of (by kernel_rfl) (by kernel_rfl),by kernel_rfl,ay ax aw,trivial,trivial,λ_=>by kernel_rfl⟩
theorem FJ (N:Nat):sC.Ok prog N:=abx.give aq hm N N (λ_=>⟨aa1 N,trivial⟩) λa r s h=>by
 exact s.main [] trivial (.trans (by kernel_rfl) h)
def abn:Fn FH:=⟨f100,[],⟨[],[],au,ar⟩,λ_=>[],[true],none,0,0,λ_ _=>true,none,[],[],[]⟩
theorem abw:abn.Ok prog:=⟨Is.of (by kernel_rfl) (by kernel_rfl),by kernel_rfl,ay ax aw,trivial,trivial,λ_=>by kernel_rfl⟩
theorem abr (N:Nat):FH.Ok prog N:=abw.give aq hm N N (λ_=>trivial) λa r s h=>by
 exact s.main [] trivial (.trans (by kernel_rfl) h)
def aaV:Fn Fy:=⟨f65,[],⟨[],[],au,ar⟩,λ_=>[FH],[true],none,0,0,λ_ _=>true,none,[],[],[]⟩
theorem aa4:aaV.Ok prog:=⟨Is.of (by kernel_rfl) (by kernel_rfl),by kernel_rfl,ay ax aw,trivial,trivial,λ_=>by kernel_rfl⟩
theorem aa0 (N:Nat):Fy.Ok prog N:=aa4.give aq hm N N (λ_=>⟨abr N,trivial⟩) λa r s h=>by
 exact s.main [] trivial (.trans (by kernel_rfl) h)
def aaO:Fn xT:=⟨f101,[],⟨[],[],au,ar⟩,λ_=>[],[true],none,0,0,λ_ _=>true,none,[],[],[]⟩
theorem abd:aaO.Ok prog:=⟨Is.of (by kernel_rfl) (by kernel_rfl),by kernel_rfl,ay ax aw,trivial,trivial,λ_=>by kernel_rfl⟩
theorem M6 (N:Nat):xT.Ok prog N:=abd.give aq hm N N (λ_=>trivial) λa r s h=>by
 exact s.main [] trivial (.trans (by kernel_rfl) h)
def aaB:Fn Fp:=⟨f66,[],⟨[],[],au,ar⟩,λ_=>[xT],[true],none,0,0,λ_ _=>true,none,[],[],[]⟩
theorem aaI:aaB.Ok prog:=⟨Is.of (by kernel_rfl) (by kernel_rfl),by kernel_rfl,ay ax aw,trivial,trivial,λ_=>by kernel_rfl⟩
theorem aaE (N:Nat):Fp.Ok prog N:=aaI.give aq hm N N (λ_=>⟨M6 N,trivial⟩) λa r s h=>by
 exact s.main [] trivial (.trans (by kernel_rfl) h)
def ac6:Fn Gq:=⟨f64,[],⟨[],[],au,ar⟩,λ_=>[],[true],none,0,0,λ_ _=>true,none,[],[],[]⟩
theorem ad8:ac6.Ok prog:=⟨Is.of (by kernel_rfl) (by kernel_rfl),by kernel_rfl,ay ax aw,trivial,trivial,λ_=>by kernel_rfl⟩
theorem adF (N:Nat):Gq.Ok prog N:=ad8.give aq hm N N (λ_=>trivial) λa r s h=>by
 have l0:=s.loop 0 yK (NO N) 8 λac h0=>by
  exact λc v=>s.seg 0 yK [(0,.of yK ac)] ⟨h0,trivial⟩ (by kernel_rfl) (by kernel_rfl)
 exact s.main [(0,.of yK (acD N))] ⟨l0,trivial⟩ (.trans (by kernel_rfl) h)
def ac5:Fn kB:=⟨f44,[],⟨[(15,0)],[],au,ar⟩,λ_=>[Fy,Fp,Gq],[true],none,0,0,λ_ _=>true,none,[],[],[]⟩
theorem ad7:ac5.Ok prog:=⟨Is.of (by kernel_rfl) (by kernel_rfl),by kernel_rfl,ay ax aw,trivial,trivial,λ_=>by kernel_rfl⟩
theorem nP (N:Nat):kB.Ok prog N:=ad7.give aq hm N N (λ_=>⟨aa0 N,aaE N,adF N,trivial⟩) λa r s h=>by
 exact s.main [] trivial (.trans (by kernel_rfl) h)
def XG:Fn EB:=⟨f90,[],⟨[],[],au,ar⟩,λ_=>[kB],[],none,0,1,λ_ _=>true,none,[],[],[]⟩
theorem XK:XG.Ok prog:=⟨Is.of (by kernel_rfl) (by kernel_rfl),by kernel_rfl,ay ax aw,trivial,trivial,λ_=>by kernel_rfl⟩
theorem XI (N:Nat):EB.Ok prog N:=XK.give aq hm N N (λ_=>⟨nP N,trivial⟩) λa r s h=>by
 have l0:=s.loop 0 sR (LD N) N λac h0=>by
  have l2:=s.loop 2 wF (LE N ac) N λaH h2=>by
   exact λc v=>s.seg 2 wF [(0,.of sR ac),(2,.of wF aH)] ⟨h0,h2,trivial⟩ (by kernel_rfl) (by kernel_rfl)
  exact λc v=>s.seg 0 sR [(0,.of sR ac),(2,.of wF (X2 N ac))] ⟨h0,l2,trivial⟩ (by kernel_rfl) (by kernel_rfl)
 exact s.main [(0,.of sR (X1 N))] ⟨l0,trivial⟩ (.trans (by kernel_rfl) h)
def Yj:Fn Ev:=⟨f135,[],⟨[],[],au,ar⟩,λ_=>[kB],[],none,0,1,λ_ _=>true,none,[],[],[]⟩
theorem Yp:Yj.Ok prog:=⟨Is.of (by kernel_rfl) (by kernel_rfl),by kernel_rfl,ay ax aw,trivial,trivial,λ_=>by kernel_rfl⟩
theorem Ym (N:Nat):Ev.Ok prog N:=Yp.give aq hm N N (λ_=>⟨nP N,trivial⟩) λa r s h=>by
 have l0:=s.loop 0 wI (LK N) N λac h0=>by
  exact λc v=>s.seg 0 wI [(0,.of wI ac)] ⟨h0,trivial⟩ (by kernel_rfl) (by kernel_rfl)
 exact s.main [(0,.of wI (YI N))] ⟨l0,trivial⟩ (.trans (by kernel_rfl) h)
def Yi:Fn Eu:=⟨f91,[],⟨[],[],au,ar⟩,λ_=>[Ev],[],none,0,1,λ_ _=>true,none,[],[],[]⟩
theorem Yo:Yi.Ok prog:=⟨Is.of (by kernel_rfl) (by kernel_rfl),by kernel_rfl,ay ax aw,trivial,trivial,λ_=>by kernel_rfl⟩
theorem Yl (N:Nat):Eu.Ok prog N:=Yo.give aq hm N N (λ_=>⟨Ym N,trivial⟩) λa r s h=>by
 have l2:=s.loop 2 wH (LJ N) N λaH h2=>by
  exact λc v=>s.seg 2 wH [(2,.of wH aH)] ⟨h2,trivial⟩ (by kernel_rfl) (by kernel_rfl)
 have l0:=s.loop 0 wG (LI N) N λac h0=>by
  exact λc v=>s.seg 0 wG [(0,.of wG ac),(2,.of wH (YH N))] ⟨h0,l2,trivial⟩ (by kernel_rfl) (by kernel_rfl)
 exact s.main [(0,.of wG (YG N))] ⟨l0,trivial⟩ (.trans (by kernel_rfl) h)
def aap:Fn xM:=⟨f136,[],⟨[],[],au,ar⟩,λ_=>[sC],[true],none,0,0,λ_ _=>true,none,[],[],[]⟩
theorem aat:aap.Ok prog:=⟨Is.of (by kernel_rfl) (by kernel_rfl),by kernel_rfl,ay ax aw,trivial,trivial,λ_=>by kernel_rfl⟩
theorem MV (N:Nat):xM.Ok prog N:=aat.give aq hm N N (λ_=>⟨FJ N,trivial⟩) λa r s h=>by
 exact s.main [] trivial (.trans (by kernel_rfl) h)
def ZJ:Fn xC:=⟨f137,[],⟨[],[],au,ar⟩,λ_=>[],[true],none,1,0,λ_ _=>true,none,[],[],[]⟩
theorem ZS:ZJ.Ok prog:=⟨Is.of (by kernel_rfl) (by kernel_rfl),by kernel_rfl,ay ax aw,trivial,trivial,λ_=>by kernel_rfl⟩
theorem MG (N:Nat):xC.Ok prog N:=ZS.give aq hm N N (λ_=>trivial) λa r s h=>by
 exact s.main [] trivial (.trans (by kernel_rfl) h)
def XF:Fn EA:=⟨f92,[],⟨[],[],au,ar⟩,λ_=>[xM,xC],[],none,0,1,λ_ _=>true,none,[],[],[]⟩
theorem XJ:XF.Ok prog:=⟨Is.of (by kernel_rfl) (by kernel_rfl),by kernel_rfl,ay ax aw,trivial,trivial,λ_=>by kernel_rfl⟩
theorem XH (N:Nat):EA.Ok prog N:=XJ.give aq hm N N (λ_=>⟨MV N,MG N,trivial⟩) λa r s h=>by
 have l0:=s.loop 0 wE (LC N) N λac h0=>by
  exact λc v=>s.seg 0 wE [(0,.of wE ac)] ⟨h0,trivial⟩ (by kernel_rfl) (by kernel_rfl)
 exact s.main [(0,.of wE (X0 N))] ⟨l0,trivial⟩ (.trans (by kernel_rfl) h)
end
end
end Go.Proofs.YtmfkphajohcklaaGreat.U
