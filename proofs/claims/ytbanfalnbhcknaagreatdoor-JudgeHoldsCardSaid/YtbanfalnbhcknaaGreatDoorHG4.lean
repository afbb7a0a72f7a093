/- bind.Last, walked: the range over slices.Backward. No premise beyond what each theorem says. -/
import Derived.Test.YtbanfalnbhcknaaGreatDoorHG3
import Derived.RangeFuncNested
import Derived.RangeFuncBound
import Derived.RangeFuncCalls
import Derived.RangeFuncLeaves
import Derived.RangeFuncBox
import Derived.Shelf.Abstract
import Derived.WalkKit
import Derived.OwnWalkIn
import Derived.TacticsInMore
import Derived.LoopNIn
import Derived.LoopIn
import Derived.Test.YtbanfalnbhcknaaGreatDoorHA4
import Derived.Laws.Cover2
set_option linter.all false
set_option linter.unusedSimpArgs false
set_option linter.unusedVariables false
namespace Go.Proofs.YtbanfalnbhcknaaGreatDoor.H
open Go
section
open Go Go.RowKit Go.Shelf Go.Proofs Go.Proofs.Tryz
attribute [local go_sem] Oper.semAt_some
set_option maxRecDepth 1000000
set_option maxHeartbeats 4000000
theorem bs_tl (l:List UInt8):(bs l).toList=l:=by simp [bs]
structure BPr where
 v:List UInt8
 t:Int
 s:Int
 q:Int
 ty:List UInt8
 ua:Option Addr
 ul:Nat
 uc:Nat
def BPr.ev (p:BPr):Array Value:=#[.int .i64 p.t,.int .i64 p.s,.int .i64 p.q,.string (bs p.ty),.slice p.ua p.ul p.uc]
def BPr.raw (p:BPr):Array Value:=#[.string (bs p.v),.int .i64 p.t,.int .i64 p.s,.int .i64 p.q,.string (bs p.ty),.slice p.ua p.ul p.uc]
instance:Inhabited BPr:=⟨⟨[],0,0,0,[],none,0,0⟩⟩
def bwd (zs:List BPr) (k:Nat):List (Int×BPr):=(List.range k).map fun j=>(((zs.length - 1 - j:Nat):Int),zs[zs.length - 1 - j]!)
theorem xZfC (zs:List BPr) (k:Nat):bwd zs (k+1)=bwd zs k++[(((zs.length - 1 - k:Nat):Int),zs[zs.length - 1 - k]!)]:=by simp [bwd,List.range_succ]
theorem xZlD (zs:List BPr) (k:Nat):(bwd zs k).length=k:=by simp [bwd]
def Lie (W:World) (b off:Nat) (zs:List BPr):Prop:=∀ i,i < zs.length→∀ j,j < 6→W.cell? ⟨b,off+i * 6+j,none⟩=zs[i]!.raw[j]?
theorem xZpv (F:Fence) (n:Nat) (h7:F.fn 232) (hro:F.round=none) (hn:1≤n) (l Bs n₀ b off cap:Nat) (zs:List BPr) (hz:zs.length≤1000000) (hb:b < n₀) (J Jx:List (Int×BPr)→World→Prop)
 (hY:∀ pre x W,J pre W→pre.length < zs.length→YieldAt F (n - 1) Tryz.prog l #[.int .i64 x.1,.agg x.2.raw] W fun e W'=>
   (e=.returned (.bool true)∧J (pre++[x]) W'∧Below n₀ W W')∨(e=.returned (.bool false)∧Jx (pre++[x]) W'))
 (W:World) (hBs:W.cell? ⟨Bs,0,none⟩=some (.slice (some ⟨b,off,none⟩) zs.length cap)) (hc:Lie W b off zs) (h0:J [] W) (hBl:Bs < n₀):
 CallsIn F n Tryz.prog 232 #[.func (.yield l) #[] #[],.pointer (some ⟨Bs,0,none⟩)] W fun e W'=>(∃ v,e=.returned v)∧
  ((∃ ys,ys=bwd zs zs.length∧J ys W')∨(∃ pre,(∃ k,k≤zs.length∧pre=bwd zs k)∧Jx pre W')):=by
 have hlen:(zs.length:Int)≤1000000:=by omega
 obtain ⟨m,hm⟩:∃ m,zs.length=m:=⟨_,rfl⟩
 rw [hm] at hBs hz hlen
 refine callsIn_of_wp Tryz.func232 rfl h7 ?_ hro
 simp only [Tryz.ntmps232,List.size_toArray,List.length_cons,List.length_nil,Nat.reduceAdd,Nat.reduceSub,Array.replicate_succ,Array.replicate_zero,List.push_toArray,List.append_toArray,List.nil_append,List.cons_append]
 gi_wp2
 gi_loopw [3] (fun i wr=>∃ k:Nat,k≤m∧i=.int .i64 ((m:Int) - 1 - k)∧J (bwd zs k) wr∧Below n₀ W wr)
  (fun i _=>(intOf i+1).toNat)
 case atStart=>exact ⟨0,Nat.zero_le _,by simp,h0,Below.refl _ _⟩
 case round=>
  obtain ⟨k,hk,rfl,hJs,hnx⟩:=hrel
  by_cases hlt:k < m
  ·obtain ⟨i,hi⟩:∃ i:Nat,(m:Int) - 1 - k=(i:Int):=⟨m - 1 - k,by omega⟩
   have hi2:i < m:=by omega
   have hi3:zs.length - 1 - k=i:=by omega
   have hcs:wr.cell? ⟨Bs,0,none⟩=some (.slice (some ⟨b,off,none⟩) m cap):=(hnx.cell (p:=⟨Bs,0,none⟩) hBl).trans hBs
   have hcx:∀ j,j < 6→wr.cell? ⟨b,off+i * 6+j,none⟩=zs[i]!.raw[j]?:=fun j hj=>(hnx.cell (p:=⟨b,off+i * 6+j,none⟩) hb).trans (hc i (by omega) j hj)
   have c0:=hcx 0 (by omega)
   have c1:=hcx 1 (by omega)
   have c2:=hcx 2 (by omega)
   have c3:=hcx 3 (by omega)
   have c4:=hcx 4 (by omega)
   have c5:=hcx 5 (by omega)
   obtain ⟨fn,tmps,assign,body,hy,hR⟩:=hY _ ((i:Int),zs[i]!) wr hJs (by rw [xZlD];omega)
   dsimp only at hy
   generalize hzi:zs[i]! = z at *
   simp only [BPr.raw,List.getElem?_toArray,List.getElem?_cons_zero,List.getElem?_cons_succ] at c0 c1 c2 c3 c4 c5 hy
   rw [hi]
   rw [Nat.add_zero] at c0
   have hi0:(0:Int)≤(i:Int):=by omega
   have hi4:(i:Int) < (m:Int):=by omega
   clear hcx
   gi_wp2
   refine hR.mono ?_
   rintro e W3 (⟨rfl,hJ3,hk3⟩ | ⟨rfl,hJx3⟩)
   ·gi_wp2
    go_roundw
    case rel=>exact ⟨k+1,by omega,by congr 1;omega,by rw [xZfC,hi3,hzi];exact hJ3,hnx.trans hk3⟩
    case measure=>simp [intOf]
   ·gi_wp2
    refine bodyPost_ret (results_none rfl _ _ _) rfl ?_
    exact ⟨⟨_,rfl⟩,.inr ⟨_,⟨k+1,by omega,by rw [xZfC,hi3,hzi]⟩,hJx3⟩⟩
  ·obtain rfl:k=m:=by omega
   gi_wp2
   go_end0
   exact ⟨⟨_,rfl⟩,.inl ⟨_,rfl,by rw [hm];exact hJs⟩⟩
theorem xZnm (F:Fence) (n:Nat) (h7:F.fn 232) (hro:F.round=none) (l Bs cap:Nat) (a:Option Addr) (J:List (Int×BPr)→World→Prop) (W:World) (hBs:W.cell? ⟨Bs,0,none⟩=some (.slice a 0 cap)) (h0:J [] W):
 CallsIn F n Tryz.prog 232 #[.func (.yield l) #[] #[],.pointer (some ⟨Bs,0,none⟩)] W fun e W'=>(∃ v,e=.returned v)∧J [] W':=by
 refine callsIn_of_wp Tryz.func232 rfl h7 ?_ hro
 simp only [Tryz.ntmps232,List.size_toArray,List.length_cons,List.length_nil,Nat.reduceAdd,Nat.reduceSub,Array.replicate_succ,Array.replicate_zero,List.push_toArray,List.append_toArray,List.nil_append,List.cons_append]
 gi_wp2
 gi_loopw [3] (fun i wr=>i=.int .i64 (-1)∧J [] wr) (fun _ _=>0)
 case atStart=>exact ⟨rfl,h0⟩
 case round=>
  obtain ⟨rfl,hJs⟩:=hrel
  gi_wp2
  go_end0
  exact ⟨⟨_,rfl⟩,hJs⟩
theorem xZra (F:Fence) (n:Nat) (h5:F.fn 231) (hro:F.round=none) (v:Value) (w:World) (hv:v.oneCell'=true):
 CallsIn F n Tryz.prog 231 #[v] w fun e w'=>e=.returned (.func (.func 232) #[] #[.pointer (some ⟨w.heap.size,0,none⟩)])∧w'=w.alloc (.cells #[v] 37):=by
 refine callsIn_of_wp Tryz.func231 rfl h5 ?_ hro
 simp only [Tryz.ntmps231,List.size_toArray,List.length_cons,List.length_nil,Nat.reduceAdd,Nat.reduceSub,Array.replicate_succ,Array.replicate_zero,List.push_toArray,List.append_toArray,List.nil_append,List.cons_append]
 gi_wp2
 go_ret
 exact ⟨rfl,rfl⟩
def Sl (n₀:Nat) (W:World) (sv:Value) (zs:List BPr):Prop:=(zs=[]∧∃ a cap,sv=.slice a 0 cap)∨∃ b off cap,sv=.slice (some ⟨b,off,none⟩) zs.length cap∧b < n₀∧Lie W b off zs
theorem Sl.below {n₀:Nat} {A B:World} (h:Below n₀ A B) {sv:Value} {zs:List BPr}:Sl n₀ A sv zs→Sl n₀ B sv zs
 | .inl e=>.inl e
 | .inr ⟨b,off,cap,e,hb,hc⟩=>.inr ⟨b,off,cap,e,hb,fun i hi j hj=>(h.cell (p:=⟨b,off+i * 6+j,none⟩) hb).trans (hc i hi j hj)⟩
theorem Sl.mono' {n₀ n₁:Nat} {W:World} {sv:Value} {zs:List BPr} (h:n₀≤n₁):Sl n₀ W sv zs→Sl n₁ W sv zs
 | .inl e=>.inl e
 | .inr ⟨b,off,cap,e,hb,hc⟩=>.inr ⟨b,off,cap,e,by omega,hc⟩
theorem xZlB (F:Fence) (n:Nat) (h7:F.fn 232) (hro:F.round=none) (hn:1≤n) (Bs n₀:Nat) (sv:Value) (zs:List BPr) (hz:zs.length≤1000000) (w:World) (hBs:Bs < w.heap.size) (hn₀:n₀≤w.heap.size) (hBn:Bs < n₀)
 (hc:w.cell? ⟨Bs,0,none⟩=some sv) (hI:Sl n₀ w sv zs):
 SeqStopsK F n Tryz.prog 232 #[.pointer (some ⟨Bs,0,none⟩)] (fun x:Int×BPr=>#[Value.int .i64 x.1,Value.agg x.2.raw]) (Below n₀) (fun ys=>ys=bwd zs zs.length)
  (fun pre=>∃ k,k≤zs.length∧pre=bwd zs k) zs.length w:=fun l J Jx W hW _ _ hY h0=>by
 have hc':=(hW.cell (p:=⟨Bs,0,none⟩) hBs).trans hc
 rcases hI.below (hW.mono hn₀) with ⟨rfl,a,cap,rfl⟩ | ⟨b,off,cap,rfl,hb,hcs⟩
 ·exact (xZnm F n h7 hro l Bs cap a J W hc' h0).mono fun e W' ⟨he,hj⟩=>⟨he,.inl ⟨_,rfl,hj⟩⟩
 ·exact xZpv F n h7 hro hn l Bs n₀ b off cap zs hz hb J Jx hY W hc' hcs h0 hBn
def Blk (W:World) (B:Nat) (c:Array Value) (t:TypeId):Prop:=W.heap[B]?=some (.cells c t (0,0))
theorem Blk.lt {W:World} {B:Nat} {c:Array Value} {t:TypeId} (h:Blk W B c t):B < W.heap.size:=(Array.getElem?_eq_some_iff.1 h).1
theorem Blk.cell {W:World} {B:Nat} {c:Array Value} {t:TypeId} (h:Blk W B c t) (i:Nat):W.cell? ⟨B,i,none⟩=c[i]?:=by simp [World.cell?,show W.heap[B]?=_ from h]
theorem Blk.frozen {W:World} {B:Nat} {c:Array Value} {t:TypeId} (h:Blk W B c t) (i:Nat):W.frozen? ⟨B,i,none⟩=false:=by simp [World.frozen?,show W.heap[B]?=_ from h]
theorem Blk.kept {W W':World} {row:Option Nat} {B:Nat} {c:Array Value} {t:TypeId} (h:Blk W B c t) (hg:W.grownBy W' row) (hne:some B≠row):Blk W' B c t:=(hg.block B h.lt hne).trans h
theorem Blk.alloc {W:World} {B:Nat} {c:Array Value} {t:TypeId} (h:Blk W B c t) (o:Obj):Blk (W.alloc o) B c t:=h.kept (World.grownBy_alloc W o none) (by simp)
theorem xZlC {β:Type} (B:Nat) (t:TypeId) (f:β→Array Value):Own (fun s W=>Blk W B (f s) t):=fun s X Y row hs hg hrow=>
 hs.kept hg (fun e'=>by obtain ⟨o,ho,hc⟩:=hrow B e'.symm;rw [show X.heap[B]?=_ from hs] at ho;cases ho;cases hc)
theorem Blk.other {W:World} {B B':Nat} {c:Array Value} {t:TypeId} (h:Blk W B c t) (hne:B≠B') (i:Nat) (u:Value):Blk (W.setCell ⟨B',i,none⟩ u) B c t:=(Below.heap_setCell W ⟨B',i,none⟩ u B hne).trans h
theorem Blk.set {W:World} {B:Nat} {c:Array Value} {t:TypeId} (h:Blk W B c t) (i:Nat) (u:Value):Blk (W.setCell ⟨B,i,none⟩ u) B (c.setIfInBounds i u) t:=by
 obtain ⟨hlt,hk⟩:=Array.getElem?_eq_some_iff.1 h
 show (W.heap.modify B _)[B]?=_
 rw [Array.getElem?_eq_getElem (by rw [Array.size_modify];exact hlt),Array.getElem_modify_self,hk]
 rfl
theorem Boxed.othB {W:World} {B B':Nat} {v:Value} {t:TypeId} (h:Boxed W B t v) (hne:B≠B') (i:Nat) (u:Value):Boxed (W.setCell ⟨B',i,none⟩ u) B t v:=(Below.heap_setCell W ⟨B',i,none⟩ u B hne).trans h
def zev:Array Value:=#[.int .i64 0,.int .i64 0,.int .i64 0,.string ⟨#[]⟩,.slice none 0 0]
def LastR (zs:List BPr) (nm:List UInt8) (e:Ending):Prop:=(e=.returned (.tuple #[.agg zev,.bool false])∧∀ x∈bwd zs zs.length,x.2.v≠nm)∨∃ k x,k < zs.length∧bwd zs (k+1)=bwd zs k++[x]∧x.2.v=nm∧(∀ y∈bwd zs k,y.2.v≠nm)∧e=.returned (.tuple #[.agg x.2.ev,.bool true])
theorem res2 {tmps:Array Value} {W:World} {B1 B2:Nat} {ev:Array Value} {b:Bool} (h4:tmps.getD 4 undef=.pointer (some ⟨B1,0,none⟩)) (h5:tmps.getD 5 undef=.pointer (some ⟨B2,0,none⟩)) (q1:Blk W B1 ev 41) (hs:ev.size=5) (q2:Boxed W B2 4 (.bool b)):
 (results Tryz.f230 tmps).run Tryz.prog W=.ok (.tuple #[.agg ev,.bool b]) W:=by
 have l1:=xZcE (P:=Tryz.prog) (ty:=41) (n:=5) (ag:=true) (by kernel_rfl) (w:=W) (g:=B1) (o:=0) q1 (by omega)
 have l2:=xZcE (P:=Tryz.prog) (ty:=4) (n:=1) (ag:=false) (by kernel_rfl) (w:=W) (g:=B2) (o:=0) q2 (by simp)
 have e1:ev.extract 0 (0+5)=ev:=by rw [Nat.zero_add,← hs];simp
 rw [e1] at l1
 have a1:(asAddr (.pointer (some ⟨B1,0,none⟩))).run Tryz.prog W=.ok ⟨B1,0,none⟩ W:=rfl
 have a2:(asAddr (.pointer (some ⟨B2,0,none⟩))).run Tryz.prog W=.ok ⟨B2,0,none⟩ W:=rfl
 simp only [if_true,Bool.false_eq_true,if_false] at l1 l2
 simp only [Array.getD_eq_getD_getElem?] at h4 h5
 simp only [results,show Tryz.f230.results=#[.cell 4 41,.cell 5 4] from rfl]
 simp [Sem.run_bind,Result.andThen,h4,h5,a1,a2,l1,l2]
theorem xZrc {W:World} {B:Nat} {a b c d e a' b' c' d' e':Value} {t:TypeId} (h:Blk W B #[a,b,c,d,e] t):Blk (((((W.setCell ⟨B,0,none⟩ a').setCell ⟨B,1,none⟩ b').setCell ⟨B,2,none⟩ c').setCell ⟨B,3,none⟩ d').setCell ⟨B,4,none⟩ e') B #[a',b',c',d',e'] t:=by
 have:=((((h.set 0 a').set 1 b').set 2 c').set 3 d').set 4 e'
 simpa using this
theorem xZrd {W:World} {B B':Nat} {a' b' c' d' e' v:Value} {t:TypeId} (h:Boxed W B' t v) (hne:B'≠B):Boxed (((((W.setCell ⟨B,0,none⟩ a').setCell ⟨B,1,none⟩ b').setCell ⟨B,2,none⟩ c').setCell ⟨B,3,none⟩ d').setCell ⟨B,4,none⟩ e') B' t v:=
 Boxed.othB (Boxed.othB (Boxed.othB (Boxed.othB (Boxed.othB h hne 0 a') hne 1 b') hne 2 c') hne 3 d') hne 4 e'
theorem xZsi {n₀:Nat} {w W:World} {B:Nat} {a' b' c' d' e':Value} (h:Below n₀ w W) (hB:n₀≤B):Below n₀ w (((((W.setCell ⟨B,0,none⟩ a').setCell ⟨B,1,none⟩ b').setCell ⟨B,2,none⟩ c').setCell ⟨B,3,none⟩ d').setCell ⟨B,4,none⟩ e'):=
 ((((h.setCell (p:=⟨B,0,none⟩) hB _).setCell (p:=⟨B,1,none⟩) hB _).setCell (p:=⟨B,2,none⟩) hB _).setCell (p:=⟨B,3,none⟩) hB _).setCell (p:=⟨B,4,none⟩) hB _
theorem kp_ev {W:World} {B B':Nat} {a' b' c' d' e' v:Value}:KeepsOthers W ((((((W.setCell ⟨B,0,none⟩ a').setCell ⟨B,1,none⟩ b').setCell ⟨B,2,none⟩ c').setCell ⟨B,3,none⟩ d').setCell ⟨B,4,none⟩ e').setCell ⟨B',0,none⟩ v):=
 (((((KeepsOthers.setCell _ _ _).trans (KeepsOthers.setCell _ _ _)).trans (KeepsOthers.setCell _ _ _)).trans (KeepsOthers.setCell _ _ _)).trans (KeepsOthers.setCell _ _ _)).trans (KeepsOthers.setCell _ _ _)
theorem xZse (F:Fence) (n:Nat) (h0:F.fn 230) (h1':F.fn 231) (h2:F.fn 232) (hro:F.round=none) (hn:6≤n) (sv:Value) (hv:sv.oneCell'=true) (nm:List UInt8) (zs:List BPr) (hz:zs.length≤1000000) (w:World) (hL:Sl w.heap.size w sv zs):
 CallsIn F n Tryz.prog 230 #[sv,.string (bs nm)] w fun e W'=>LastR zs nm e∧Below w.heap.size w W':=by
 have h1:1≤n:=by omega
 refine callsIn_of_wp_marks Tryz.func230 rfl h0 ?_ hro
 simp only [Tryz.ntmps230,List.size_toArray,List.length_cons,List.length_nil,Nat.reduceAdd,Nat.reduceSub,Array.replicate_succ,Array.replicate_zero,List.push_toArray,List.append_toArray,List.nil_append,List.cons_append]
 gi_wp2_with (gi_at_call 231;refine (xZra F (n - 1) h1' hro _ _ hv).mono ?_;rintro e w' ⟨rfl,rfl⟩)
 have bN:=(((Boxed.new w 9 (.string (bs nm))).alloc (.cells zev 41)).alloc (.cells #[.bool false] 4)).alloc (.cells #[sv] 37)
 have bE:Blk ((((w.alloc (.cells #[.string (bs nm)] 9)).alloc (.cells zev 41)).alloc (.cells #[.bool false] 4)).alloc (.cells #[sv] 37)) (w.heap.size+1) zev 41:=by
  have:=((show Blk ((w.alloc (.cells #[.string (bs nm)] 9)).alloc (.cells zev 41)) (w.alloc (.cells #[.string (bs nm)] 9)).heap.size zev 41 from World.alloc_heap_new _ _).alloc (.cells #[.bool false] 4)).alloc (.cells #[sv] 37)
  simpa using this
 have bB:=(Boxed.new ((w.alloc (.cells #[.string (bs nm)] 9)).alloc (.cells zev 41)) 4 (.bool false)).alloc (.cells #[sv] 37)
 have bS:=Boxed.new (((w.alloc (.cells #[.string (bs nm)] 9)).alloc (.cells zev 41)).alloc (.cells #[.bool false] 4)) 37 sv
 simp only [World.size_alloc] at bB bS
 have hB0:Below w.heap.size w ((((w.alloc (.cells #[.string (bs nm)] 9)).alloc (.cells zev 41)).alloc (.cells #[.bool false] 4)).alloc (.cells #[sv] 37)):=((((Below.refl _ w).alloc (Nat.le_refl _) _).alloc (by simp) _).alloc (by simp;omega) _).alloc (by simp;omega) _
 have hsz:((((w.alloc (.cells #[.string (bs nm)] 9)).alloc (.cells zev 41)).alloc (.cells #[.bool false] 4)).alloc (.cells #[sv] 37)).heap.size=w.heap.size+4:=by simp
 simp only [zev] at bN bE bB bS hB0 hsz
 obtain ⟨W0,hW0⟩:∃ W0,(((w.alloc (.cells #[.string (bs nm)] 9)).alloc (.cells #[.int .i64 0,.int .i64 0,.int .i64 0,.string ⟨#[]⟩,.slice none 0 0] 41)).alloc (.cells #[.bool false] 4)).alloc (.cells #[sv] 37)=W0:=⟨_,rfl⟩
 rw [hW0] at bN bE bB bS hB0 hsz ⊢
 clear hW0
 refine wpIn_rangeFunc_ownH hro h1 (gf:=232) (lb:=#[.pointer (some ⟨w.heap.size+1+1+1,0,none⟩)]) rfl h2 (enters_of Tryz.func232 (by kernel_rfl) rfl)
  (xZlB F (n - 1) h2 hro (by omega) (w.heap.size+1+1+1) (w.heap.size+4) sv zs hz W0 (by omega) (by omega) (by omega) bS.cell ((hL.below hB0).mono' (by omega))) belowK_t (belowK_b (by omega)) (Below.refl _ _) (fun _=>rfl)
  (fun pre W=>((Boxed W w.heap.size 9 (.string (bs nm))∧Blk W (w.heap.size+1) zev 41)∧Boxed W (w.heap.size+1+1) 4 (.bool false))∧(Below w.heap.size w W∧(Boxed W (w.heap.size+1+1+1) 37 sv∧∀ x∈pre,x.2.v≠nm)))
  (fun c pre W=>∃ pre' x,(Blk W (w.heap.size+1) x.2.ev 41∧Boxed W (w.heap.size+1+1) 4 (.bool true))∧(Below w.heap.size w W∧(c=.ret∧pre=pre'++[x]∧x.2.v=nm∧∀ y∈pre',y.2.v≠nm)))
  ?_ ?_ ⟨⟨⟨bN,bE⟩,bB⟩,hB0,bS,fun x hx=>by cases hx⟩
  (fun x a' W=>∃ Bx,w.heap.size+4≤Bx∧Blk W Bx x.2.raw 68∧a'={ tmps:=#[sv,.string (bs nm),undef,.pointer (some ⟨w.heap.size,0,none⟩),.pointer (some ⟨w.heap.size+1,0,none⟩),.pointer (some ⟨w.heap.size+1+1,0,none⟩),undef,.pointer (some ⟨Bx,0,none⟩),sv,.func (.func 232) #[] #[.pointer (some ⟨w.heap.size+1+1+1,0,none⟩)],.int .i64 x.1,.agg x.2.raw,undef,undef,undef,undef,undef,undef,undef],defers:=[] })
  (fun x a' _ X Y row hs hg hr=>by obtain ⟨Bx,h1,h2,h3⟩:=hs;exact ⟨Bx,h1,xZlC Bx 68 (fun (_:Unit)=>x.2.raw) () X Y row h2 hg (fun r e=>(hr r e).2),h3⟩)
  ?assign ?body ?done ?stop
 ·exact OwnFrom.and (OwnFrom.and (OwnFrom.and (Own.from (boxed_own _ _ _) _) (Own.from (xZlC _ _ _) _)) (Own.from (boxed_own _ _ _) _)) (OwnFrom.and (ownFrom_below (Nat.le_refl _) (by omega)) (OwnFrom.and (Own.from (boxed_own _ _ _) _) (ownFrom_pure _ _)))
 ·intro c s A B row hs hg hr
  obtain ⟨pre',x,⟨q1,q2⟩,q3,q4⟩:=hs
  exact ⟨pre',x,⟨xZlC _ _ (fun (_:Unit)=>x.2.ev) () A B row q1 hg (fun r e=>(hr r e).2),boxed_own _ _ (fun (_:Unit)=>Value.bool true) () A B row q2 hg (fun r e=>(hr r e).2)⟩,ownFrom_below (Nat.le_refl _) (by omega) () A B row q3 hg hr,q4⟩
 case assign=>
  rintro l pre x W K ⟨⟨⟨i1,i2⟩,i3⟩,i4,i6,i5⟩ hK
  simp only [BPr.raw]
  gi_wp2
  exact hK _ _ ((KeepsOthers.alloc _ _).from _) ((Below.refl _ W).alloc (by have:=i6.lt;omega) _) ⟨⟨⟨i1.alloc _,i2.alloc _⟩,i3.alloc _⟩,i4.alloc i4.size _,i6.alloc _,i5⟩ ⟨W.heap.size,by have:=i6.lt;omega,by simp only [BPr.raw];exact World.alloc_heap_new W _,rfl⟩
 case body=>
  rintro l pre x a' W hl ⟨r,hr⟩ ⟨⟨⟨i1,i2⟩,i3⟩,i4,i6,i5⟩ ⟨Bx,hBx,bX,rfl⟩ hlt
  have cN:=i1.cell
  have x0:=bX.cell 0
  have x1:=bX.cell 1
  have x2:=bX.cell 2
  have x3:=bX.cell 3
  have x4:=bX.cell 4
  have x5:=bX.cell 5
  simp only [BPr.raw,List.getElem?_toArray,List.getElem?_cons_zero,List.getElem?_cons_succ] at x0 x1 x2 x3 x4 x5
  have f0:=i2.frozen 0
  have f1:=i2.frozen 1
  have f2:=i2.frozen 2
  have f3:=i2.frozen 3
  have f4:=i2.frozen 4
  have fB:=i3.frozen
  have e0:=i2.cell 0
  have e1:=i2.cell 1
  have e2:=i2.cell 2
  have e3:=i2.cell 3
  have e4:=i2.cell 4
  simp only [zev,List.getElem?_toArray,List.getElem?_cons_zero,List.getElem?_cons_succ] at e0 e1 e2 e3 e4
  have cB:=i3.cell
  by_cases hx:x.2.v=nm
  ·gi_wp2
   exact ⟨kp_ev.from _,pre,x,⟨(xZrc i2).other (by omega) 0 _,(xZrd i3 (by omega)).set _⟩,(xZsi i4 (by omega)).setCell (p:=⟨w.heap.size+1+1,0,none⟩) (by simp;omega) _,rfl,rfl,hx,i5⟩
  ·have hb:((bs x.2.v).toList==(bs nm).toList)=false:=by rw [bs_tl,bs_tl];simpa using hx
   have hb2:(x.2.v==nm)=false:=by simpa using hx
   gi_wp2
   exact ⟨(KeepsOthers.refl _).from _,Below.refl _ _,⟨⟨⟨i1,i2⟩,i3⟩,i4,i6,fun y hy=>by
    rcases List.mem_append.1 hy with hy | hy
    ·exact i5 y hy
    ·rw [List.mem_singleton.1 hy];exact hx⟩⟩
 case done=>
  rintro D ys W hD rfl ⟨⟨⟨i1,i2⟩,i3⟩,i4,i6,i5⟩ hK
  have e0:=i2.cell 0
  have e1:=i2.cell 1
  have e2:=i2.cell 2
  have e3:=i2.cell 3
  have e4:=i2.cell 4
  simp only [zev,List.getElem?_toArray,List.getElem?_cons_zero,List.getElem?_cons_succ] at e0 e1 e2 e3 e4
  have cB:=i3.cell
  have fB:=i3.frozen
  have f0:=i2.frozen 0
  have f1:=i2.frozen 1
  have f2:=i2.frozen 2
  have f3:=i2.frozen 3
  have f4:=i2.frozen 4
  gi_wp2
  have hK6:=(kp_ev (W:=W) (B:=w.heap.size+1) (B':=w.heap.size+1+1) (a':=.int .i64 0) (b':=.int .i64 0) (c':=.int .i64 0) (d':=.string ⟨#[]⟩) (e':=.slice none 0 0) (v:=.bool false)).same D _ hK rfl
  refine ⟨by simp,.inl ⟨_,_,rfl,run_takeDeferred hK6,?_⟩⟩
  have hDn:w.heap.size+4≤D:=by omega
  have k1:=((xZrc (a':=.int .i64 0) (b':=.int .i64 0) (c':=.int .i64 0) (d':=.string ⟨#[]⟩) (e':=.slice none 0 0) i2).other (B':=w.heap.size+1+1) (by omega) 0 (.bool false)).kept (grownBy_putObj' _ D (.deferred none)) (by intro e;cases e;omega)
  have k2:=((xZrd (B:=w.heap.size+1) (a':=.int .i64 0) (b':=.int .i64 0) (c':=.int .i64 0) (d':=.string ⟨#[]⟩) (e':=.slice none 0 0) i3 (by omega)).set (.bool false)).kept (grownBy_putObj' _ D (.deferred none)) (by intro e;cases e;omega)
  refine ⟨_,res2 rfl rfl k1 rfl k2,.inl ⟨rfl,i5⟩,?_⟩
  exact ((xZsi i4 (by omega)).setCell (p:=⟨w.heap.size+1+1,0,none⟩) (by simp;omega) _).trans (belowK_b (w:=w) (Nat.le_refl _) _ D _ _ (by omega) hK6 rfl rfl)
 case stop=>
  rintro D c pre W hD hp ⟨pre',x,⟨q1,q2⟩,q3,rfl,rfl,q5,q6⟩ hK
  have e0:=q1.cell 0
  have e1:=q1.cell 1
  have e2:=q1.cell 2
  have e3:=q1.cell 3
  have e4:=q1.cell 4
  simp only [BPr.ev,List.getElem?_toArray,List.getElem?_cons_zero,List.getElem?_cons_succ] at e0 e1 e2 e3 e4
  have cB:=q2.cell
  gi_wp2
  refine ⟨by simp,.inl ⟨_,_,rfl,run_takeDeferred hK,?_⟩⟩
  have k1:=q1.kept (grownBy_putObj' W D (.deferred none)) (by intro e;cases e;omega)
  have k2:=q2.kept (grownBy_putObj' W D (.deferred none)) (by intro e;cases e;omega)
  obtain ⟨k,hk,hp⟩:=hp
  have hk1:0 < k:=by
   rcases Nat.eq_zero_or_pos k with rfl | h
   ·simp [bwd] at hp
   ·exact h
  obtain ⟨m,rfl⟩:∃ m,k=m+1:=⟨k - 1,by omega⟩
  have hp2:=hp
  rw [xZfC] at hp2
  have:=List.append_inj' hp2 rfl
  refine ⟨_,res2 rfl rfl k1 rfl k2,.inr ⟨m,x,by omega,by rw [← hp,this.1],q5,fun y hy=>q6 y (by rw [this.1];exact hy),rfl⟩,?_⟩
  exact q3.trans (belowK_b (w:=w) (Nat.le_refl _) W D _ _ (by omega) hK rfl rfl)
theorem xZe9 {name:List UInt8}:∀ {l:List xZ4},(∀ p∈l,p.Var≠name)→lastB l name=(⟨0,0,0,[],[]⟩,false)
 | [],_=>rfl
 | p::l,h=>by
   rw [lastB,xZe9 fun q hq=>h q (List.mem_cons_of_mem _ hq)]
   have:(p.Var==name)=false:=by simpa using h p (List.mem_cons_self ..)
   simp only [this,cond_false]
theorem xZmj {name:List UInt8} {p:xZ4} {b:List xZ4} (hp:p.Var=name) (hb:∀ q∈b,q.Var≠name):∀ a:List xZ4,lastB (a++p::b) name=(p.E,true)
 | []=>by
   show lastB (p::b) name=_
   rw [lastB,xZe9 hb]
   have:(p.Var==name)=true:=by simpa using hp
   simp only [this,cond_true]
 | x::a=>by
   rw [List.cons_append,lastB,xZmj hp hb a]
def slp:Value→Option Addr×Nat×Nat
 | .slice a n c=>(a,n,c)
 | _=>(none,0,0)
theorem xZpg {S:Nat→Prop} {w:World} {v:Value} {k:Nat} {xs:List AV} (h:DRep S w v (.sl k xs)):v=.slice (slp v).1 (slp v).2.1 (slp v).2.2:=by cases h<;>rfl
def rawP (p:xZ4) (v:Value):BPr:=⟨p.Var,p.E.Time,p.E.Source,p.E.Seq,p.E.Type_,(slp v).1,(slp v).2.1,(slp v).2.2⟩
theorem v_rep {S:Nat→Prop} {w:World} {v x:Value} (h:DRep S w v (.v x)):v=x:=by cases h;rfl
theorem xZtL {S:Nat→Prop} {w:World} {v:Value} {l:List xZ4} (hs:∀ g,S g→g < w.heap.size) (h:DRep S w v (.sl 6 (l.map eA1))):
 ∃ zs:List BPr,zs.length=l.length∧v.oneCell'=true∧Sl w.heap.size w v zs∧∀ i (hi:i < l.length),∃ u:Value,zs[i]! = rawP l[i] u∧DRep S w (.slice (slp u).1 (slp u).2.1 (slp u).2.2) ((eA1 l[i]).cells.getD 5 .any):=by
 generalize hx:l.map eA1=xs at h
 cases h with
 | sl0 a cap=>
   cases l with
   | nil=>exact ⟨[],rfl,rfl,.inl ⟨rfl,a,cap,rfl⟩,fun i hi=>absurd hi (by simp)⟩
   | cons=>cases hx
 | sl g o cap k _ c T fz hc hS hg hb hk h1 h=>
   have hl:xs.length=l.length:=by rw [← hx,List.length_map]
   have hxi:∀ i (hi:i < l.length),xs.getD i .any=eA1 l[i]:=fun i hi=>by rw [← hx];simp [List.getD,hi]
   have hu:∀ i (hi:i < l.length) j,j < 6→DRep S w (c.getD (o+i * 6+j) undef) ((eA1 l[i]).cells.getD j .any):=fun i hi j hj=>by
    have:=h i (by omega) j hj
    rwa [hxi i hi] at this
   have hz:∀ i (hi:i < l.length),(l.zipIdx.map fun p=>rawP p.1 (c.getD (o+p.2 * 6+5) undef))[i]! = rawP l[i] (c.getD (o+i * 6+5) undef):=fun i hi=>by
    rw [List.getElem!_eq_getElem?_getD,List.getElem?_map,List.getElem?_zipIdx,List.getElem?_eq_getElem hi];simp
   refine ⟨l.zipIdx.map fun p=>rawP p.1 (c.getD (o+p.2 * 6+5) undef),by simp,rfl,.inr ⟨g,o,cap,by simp [hl],hs g hS,fun i hi j hj=>?_⟩,fun i hi=>⟨_,hz i hi,?_⟩⟩
   ·have hi:i < l.length:=by simpa using hi
    rw [hz i hi,cell_of_row w g _ c T fz hg]
    have hsz:o+i * 6+j < c.size:=by omega
    have key:∀ v,c.getD (o+i * 6+j) undef=v→c[o+i * 6+j]?=some v:=fun v hv=>by
     rw [Array.getElem?_eq_getElem hsz];simpa [Array.getD,hsz] using hv
    have d:=hu i hi
    rcases (show j=0∨j=1∨j=2∨j=3∨j=4∨j=5 by omega) with rfl | rfl | rfl | rfl | rfl | rfl
    ·exact key _ (v_rep (d 0 (by omega)))
    ·exact key _ (v_rep (d 1 (by omega)))
    ·exact key _ (v_rep (d 2 (by omega)))
    ·exact key _ (v_rep (d 3 (by omega)))
    ·exact key _ (v_rep (d 4 (by omega)))
    ·exact key _ (xZpg (d 5 (by omega)))
   ·have:=hu i hi 5 (by omega)
    have e:=xZpg this
    rw [← e];exact this
theorem xZf8 (N:Nat):xZbZ.Ok prog N:=by
 refine ⟨⟨Tryz.f230,Tryz.func230,by kernel_rfl,by kernel_rfl⟩,fun a r h=>?_⟩
 have h:xZ6k N a.1 a.2.1=some r:=h
 unfold xZ6k at h
 obtain ⟨h1,h2⟩:=xZ1a h
 have h1:a.1.length≤1000000:=Nat.le_of_ble_eq_true h1
 obtain rfl:=Option.some.inj h2
 intro M S w vs hh _ hsz hrep
 obtain ⟨v,u,rfl⟩:∃ v u,vs=#[v,u]:=by
  match vs,hsz with
  | ⟨[v,u]⟩,_=>exact ⟨v,u,rfl⟩
 have h0:DRep S w v (.sl 6 (a.1.map eA1)):=xZ28 (hrep 0 (Nat.zero_lt_succ 1)) rfl
 have hu:u=.string (bs a.2.1):=VRep.v_eq (hrep 1 (Nat.lt_succ_self 1))
 subst hu
 obtain ⟨zs,z1,z2,z3,z4⟩:=xZtL hh.sits h0
 have hr:=callsIn_wide.1 (xZse Fence.wide 6 trivial trivial trivial rfl (Nat.le_refl _) v z2 a.2.1 zs (by omega) w z3)
 refine hr.mono ?_
 rintro e w' ⟨hl,hb⟩
 have hg:Grew w w':=⟨hb.os,hb.tape,hb.output,hb.size,hb.block⟩
 have hvar:∀ i (hi:i < a.1.length),zs[i]!.v=a.1[i].Var:=fun i hi=>by obtain ⟨u,e,_⟩:=z4 i hi;rw [e];rfl
 rcases hl with ⟨rfl,hn⟩ | ⟨k,x,hk,hx,hv,hy,rfl⟩
 ·have:lastB a.1 a.2.1=(⟨0,0,0,[],[]⟩,false):=xZe9 fun p hp=>by
   obtain ⟨i,hi,rfl⟩:=List.getElem_of_mem hp
   have:=hn (((zs.length - 1 - (zs.length - 1 - i):Nat):Int),zs[zs.length - 1 - (zs.length - 1 - i)]!) (by
    simp only [bwd,List.mem_map,List.mem_range]
    exact ⟨zs.length - 1 - i,by omega,rfl⟩)
   rw [show zs.length - 1 - (zs.length - 1 - i)=i by omega] at this
   rw [← hvar i hi];exact this
  rw [this]
  refine ⟨M,S,.data (.tup _ _ rfl fun i hi=>?_),hh.grew hg,.grew hh hg⟩
  match i,hi with
  | 0,_=>
    refine .agg _ _ rfl fun i hi=>?_
    match i,hi with
    | 0,_=>exact .v _
    | 1,_=>exact .v _
    | 2,_=>exact .v _
    | 3,_=>exact .v _
    | 4,_=>exact .sl0 _ _ _
  | 1,_=>exact .v _
 ·rw [xZfC] at hx
  have hx:=List.append_cancel_left hx
  simp only [List.cons.injEq,and_true] at hx
  subst hx
  simp only at hv ⊢
  have hi:zs.length - 1 - k < a.1.length:=by omega
  generalize hm:zs.length - 1 - k=i at hv hi ⊢
  obtain ⟨u,e1,e2⟩:=z4 i hi
  have:lastB a.1 a.2.1=(a.1[i].E,true):=by
   have hs:a.1=a.1.take i++a.1[i]::a.1.drop (i+1):=by simp
   refine (fun hb'=>?_) (show ∀ q∈a.1.drop (i+1),q.Var≠a.2.1 from fun q hq=>?_)
   ·have:=xZmj (show a.1[i].Var=a.2.1 by rw [← hvar i hi];exact hv) hb' (a.1.take i)
    rw [← hs] at this
    exact this
   obtain ⟨j,hj,rfl⟩:=List.getElem_of_mem hq
   have hj:i+1+j < a.1.length:=by simp at hj;omega
   rw [List.getElem_drop,← hvar _ hj]
   have:=hy (((zs.length - 1 - (zs.length - 1 - (i+1+j)):Nat):Int),zs[zs.length - 1 - (zs.length - 1 - (i+1+j))]!) (by
    simp only [bwd,List.mem_map,List.mem_range]
    exact ⟨zs.length - 1 - (i+1+j),by omega,rfl⟩)
   rw [show zs.length - 1 - (zs.length - 1 - (i+1+j))=i+1+j by omega] at this
   exact this
  rw [this,e1]
  refine ⟨M,S,.data (.tup _ _ rfl fun i hi=>?_),hh.grew hg,.grew hh hg⟩
  match i,hi with
  | 0,_=>
    refine .agg _ _ rfl fun i hi=>?_
    match i,hi with
    | 0,_=>exact .v _
    | 1,_=>exact .v _
    | 2,_=>exact .v _
    | 3,_=>exact .v _
    | 4,_=>exact DRep.mono (fun _ h=>h) (fun g hg=>hb.block g (hh.sits g hg)) e2
  | 1,_=>exact .v _
end
section
open Go Go.RowKit Go.Proofs.Tryz
attribute [-go_sem] binOp_float_cmp_neq binOp_float_cmp_leq binOp_float_cmp_gtr binOp_float_cmp_geq
set_option maxRecDepth 1000000
set_option maxHeartbeats 4000000
theorem xZi5 (w:World) (n:Nat):(callFunc 223 #[.float .f64 n]).run Tryz.prog w=.ok (.value (.int .u64 n)) w:=by
 obtain ⟨fn,h1,h2,h3,h4,h5⟩:=(ExtIs.mk' (P:=Tryz.prog) (f:=223) (e:=Extern.MathFloatBits.float64bits) Tryz.f223 (by kernel_rfl) (by kernel_rfl) (by kernel_rfl) (by kernel_rfl) (by kernel_rfl)).prf
 exact run_callFunc_extern h1 h2 h3 h4 h5 _ w
theorem xZhT (n:Int) (w:World):Calls Tryz.prog 242 #[.int .i64 n] w fun e w'=>e=.returned (.int .u64 (FloatKind.f64.nearest n))∧w'=w:=by
 have hx:=xZi5
 have hq:∀ w:World,(convert 3 241 (.int .i64 n)).run Tryz.prog w=.ok (.float .f64 (FloatKind.f64.nearest n)) w:=fun w=>by rfl
 go_enter Tryz.func242,Tryz.ntmps242
 go_wp2
 go_ret
 exact ⟨rfl,rfl⟩
theorem xZiS (N:Nat):xZdB.Ok prog N:=by
 refine ⟨⟨Tryz.f242,Tryz.func242,by kernel_rfl,by kernel_rfl⟩,fun a r h=>?_⟩
 obtain ⟨x,⟨⟩⟩:=a
 have h:some (((FloatKind.f64.nearest x:Nat):Int))=some r:=h
 obtain rfl:=Option.some.inj h
 intro M S w vs hh _ hsz hrep
 obtain ⟨v,rfl⟩:∃ v,vs=#[v]:=by
  match vs,hsz with
  | ⟨[v]⟩,_=>exact ⟨v,rfl⟩
 have vr:∀ {v x:Value},DRep S w v (.v x)→v=x:=fun h=>by cases h;rfl
 have h0:DRep S w v (.v (.int .i64 x)):=xZ28 (hrep 0 (by show 0 < 1;omega)) rfl
 obtain rfl:=vr h0
 refine (xZhT x w).mono ?_
 rintro e w' ⟨rfl,rfl⟩
 exact ⟨M,S,.data (.v _),hh.grew (.refl _),.grew hh (.refl _)⟩
end
section
open Go Go.RowKit Go.Proofs.Tryz
attribute [-go_sem] binOp_float_cmp_neq binOp_float_cmp_leq binOp_float_cmp_gtr binOp_float_cmp_geq
set_option maxRecDepth 1000000
set_option maxHeartbeats 4000000
theorem xZll (w:World) (n:Int):(callFunc 164 #[.int .u64 n]).run Tryz.prog w=.ok (.value (.float .f64 n.toNat)) w:=by
 obtain ⟨fn,h1,h2,h3,h4,h5⟩:=(ExtIs.mk' (P:=Tryz.prog) (f:=164) (e:=Extern.MathFloatBits.float64frombits) Tryz.f164 (by kernel_rfl) (by kernel_rfl) (by kernel_rfl) (by kernel_rfl) (by kernel_rfl)).prf
 exact run_callFunc_extern h1 h2 h3 h4 h5 _ w
theorem xZlm (w:World) (n:Nat):(callFunc 223 #[.float .f64 n]).run Tryz.prog w=.ok (.value (.int .u64 n)) w:=by
 obtain ⟨fn,h1,h2,h3,h4,h5⟩:=(ExtIs.mk' (P:=Tryz.prog) (f:=223) (e:=Extern.MathFloatBits.float64bits) Tryz.f223 (by kernel_rfl) (by kernel_rfl) (by kernel_rfl) (by kernel_rfl) (by kernel_rfl)).prf
 exact run_callFunc_extern h1 h2 h3 h4 h5 _ w
theorem xZg8 (u:Int) (w:World):Calls Tryz.prog 139 #[.int .u64 u] w fun e w'=>e=.returned (.float .f64 u.toNat)∧w'=w:=by
 have hx:=xZll
 go_enter Tryz.func139,Tryz.ntmps139
 go_wp2
 go_ret
 exact ⟨rfl,rfl⟩
theorem xZkX (u:Int) (w:World):Calls Tryz.prog 101 #[.int .u64 u] w fun e w'=>e=.returned (.int .u64 (clF u))∧w'=w:=by
 obtain ⟨c,hc⟩:∃ c,fcmpB .neq .f64 u.toNat u.toNat=c:=⟨_,rfl⟩
 have hq:∀ w:World,(binOp .neq 241 (.float .f64 u.toNat) (.float .f64 u.toNat)).run Tryz.prog w=.ok (.bool c) w:=fun w=>by rw [← hc];rfl
 cases c
 ·have:clF u=u:=by unfold clF;rw [hc];rfl
  rw [this]
  go_enter Tryz.func101,Tryz.ntmps101
  go_wp2_with (go_at_call 139;refine (xZg8 _ _).mono ?_;rintro e w' ⟨rfl,rfl⟩)
  go_ret
  exact ⟨rfl,rfl⟩
 ·have:clF u=9221120237041090560:=by unfold clF;rw [hc];rfl
  rw [this]
  go_enter Tryz.func101,Tryz.ntmps101
  go_wp2_with (go_at_call 139;refine (xZg8 _ _).mono ?_;rintro e w' ⟨rfl,rfl⟩)
  go_ret
  exact ⟨rfl,rfl⟩
theorem xZgZ (n:Nat) (w:World):Calls Tryz.prog 241 #[.float .f64 n] w fun e w'=>e=.returned (.int .u64 (clF n))∧w'=w:=by
 have hx:=xZlm
 go_enter Tryz.func241,Tryz.ntmps241
 go_wp2_with (go_at_call 101;refine (xZkX _ _).mono ?_;rintro e w' ⟨rfl,rfl⟩)
 go_ret
 exact ⟨rfl,rfl⟩
theorem xZne (a b:Int) (w:World):Calls Tryz.prog 238 #[.int .u64 a,.int .u64 b] w fun e w'=>e=.returned (.int .u64 (rAdd a b))∧(w'=w∨w'=w.drew):=by
 cases hr:FloatKind.f64.format.add a.toNat b.toNat with
 | some c=>
   have hq:∀ w:World,(binOp .add 241 (.float .f64 a.toNat) (.float .f64 b.toNat)).run Tryz.prog w=.ok (.float .f64 c) w:=fun w=>by
    simp [binOp,Op.floatArith,hr]
   have:rAdd a b=clF c:=by unfold rAdd;rw [hr]
   rw [this]
   go_enter Tryz.func238,Tryz.ntmps238
   go_wp2_with (first | (go_at_call 139;refine (xZg8 _ _).mono ?_;rintro e w' ⟨rfl,rfl⟩) | (go_at_call 241;refine (xZgZ _ _).mono ?_;rintro e w' ⟨rfl,rfl⟩))
   go_ret
   exact ⟨rfl,.inl rfl⟩
 | none=>
   have hq:∀ w:World,(binOp .add 241 (.float .f64 a.toNat) (.float .f64 b.toNat)).run Tryz.prog w=.ok (.float .f64 (Question.cut (.nanBits .f64 a.toNat b.toNat) (w.tape w.drawn (.nanBits .f64 a.toNat b.toNat)))) w.drew:=fun w=>by
    simp [binOp,Op.floatArith,hr]
    intro h;simp [Question.forced] at h
   have:rAdd a b=9221120237041090560:=by unfold rAdd;rw [hr]
   rw [this]
   have hcl:∀ t:Nat,clF ((Question.cut (.nanBits .f64 a.toNat b.toNat) t:Nat):Int)=9221120237041090560:=fun t=>by
    unfold clF
    rw [if_pos]
    simp only [fcmpB,Int.toNat_natCast,Question.cut]
    have:=xZo0 (u:=(t % 2) * 2 ^ 63+0x7ff0000000000000+1+(t / 2) % (2 ^ 52 - 1)) (by
     rcases Nat.mod_two_eq_zero_or_one t with h | h<;>rw [h]<;>omega)
    show (Ieee.double.order _ _ != some .eq)=true
    rw [this];rfl
   go_enter Tryz.func238,Tryz.ntmps238
   go_wp2_with (first | (go_at_call 139;refine (xZg8 _ _).mono ?_;rintro e w' ⟨rfl,rfl⟩) | (go_at_call 241;refine (xZgZ _ _).mono ?_;rintro e w' ⟨rfl,rfl⟩))
   go_ret
   exact ⟨rfl,.inr rfl⟩
theorem xZh3 (N:Nat):xZdz.Ok prog N:=by
 refine ⟨⟨Tryz.f238,Tryz.func238,by kernel_rfl,by kernel_rfl⟩,fun a r h=>?_⟩
 obtain ⟨x,y,⟨⟩⟩:=a
 have h:some (rAdd x y)=some r:=h
 obtain rfl:=Option.some.inj h
 intro M S w vs hh _ hsz hrep
 obtain ⟨v,u,rfl⟩:∃ v u,vs=#[v,u]:=by
  match vs,hsz with
  | ⟨[v,u]⟩,_=>exact ⟨v,u,rfl⟩
 have vr:∀ {v x:Value},DRep S w v (.v x)→v=x:=fun h=>by cases h;rfl
 have h0:DRep S w v (.v (.int .u64 x)):=xZ28 (hrep 0 (by show 0 < 2;omega)) rfl
 obtain rfl:=vr h0
 have h1:DRep S w u (.v (.int .u64 y)):=xZ28 (hrep 1 (by show 1 < 2;omega)) rfl
 obtain rfl:=vr h1
 have hd:Grew w w.drew:=⟨rfl,rfl,rfl,Nat.le_refl _,fun _ _=>rfl⟩
 refine (xZne x y w).mono ?_
 rintro e w' ⟨rfl,rfl | rfl⟩
 ·exact ⟨M,S,.data (.v _),hh.grew (.refl _),.grew hh (.refl _)⟩
 ·exact ⟨M,S,.data (.v _),hh.grew hd,.grew hh hd⟩
end
end Go.Proofs.YtbanfalnbhcknaaGreatDoor.H
