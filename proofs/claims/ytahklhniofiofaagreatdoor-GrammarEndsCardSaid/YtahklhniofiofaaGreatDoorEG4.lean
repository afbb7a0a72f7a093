/- predtext.Parse, walked: it defers, and recovers what its parser gives up with. No premise beyond what each theorem says. -/
import Derived.Test.YtahklhniofiofaaGreatDoorEG3
import Derived.Tactics
import Derived.Tactics2
import Derived.Defers
import Derived.Recover
import Derived.WalkKit
import Derived.Deep.RegionHeld3
import Derived.Test.YtahklhniofiofaaGreatDoorEA3
set_option linter.all false
set_option linter.unusedSimpArgs false
set_option linter.unusedVariables false
set_option linter.unusedVariables false
set_option linter.unusedSimpArgs false
namespace Go.Proofs.YtahklhniofiofaaGreatDoor.E
open Go Go.RowKit Go.Proofs.Tryz
set_option maxHeartbeats 4000000
set_option maxRecDepth 1000000
theorem xZpR (w:World):(Instr.typeAssert .nilIface 20 252 true).run Tryz.prog w=.ok (.tuple #[.agg #[.int .i64 0,.int .i64 0],.bool false]) w:=by
 obtain ⟨z,hz⟩:∃ z,cTa Tryz.prog 252=some z:=⟨.agg [.v (.int .i64 0),.v (.int .i64 0)],by kernel_rfl⟩
 obtain ⟨⟨d,hd,hn⟩,i,zv,hi,hzv,rfl⟩:=xZak hz
 have hv:(zeroValue 252).run Tryz.prog w=.ok (.agg #[.int .i64 0,.int .i64 0]) w:=Tryz.zeroValue252 w
 simp only [Instr.typeAssert,Sem.run_bind,run_underlying hd,Result.andThen_ok]
 cases d<;>first | exact absurd rfl (hn _) | (simp only [if_true,Sem.run_bind,Sem.run_pure,hv,Result.andThen_ok])
theorem xZqa (x:Value) (w:World):(Instr.typeAssert (.iface 252 x) 20 252 true).run Tryz.prog w=.ok (.tuple #[x,.bool true]) w:=by
 obtain ⟨z,hz⟩:∃ z,cTa Tryz.prog 252=some z:=⟨.agg [.v (.int .i64 0),.v (.int .i64 0)],by kernel_rfl⟩
 obtain ⟨⟨d,hd,hn⟩,i,zv,hi,hzv,rfl⟩:=xZak hz
 simp only [Instr.typeAssert,Sem.run_bind,run_underlying hd,Result.andThen_ok]
 cases d<;>first | exact absurd rfl (hn _) | rfl | simp [Sem.run_bind,Sem.run_pure]
theorem xZeT (p q r:Addr) (w:World):CallsD Tryz.prog 176 #[.pointer (some p),.pointer (some q),.pointer (some r)] .returning w fun e u' w'=>
 e=.returned (.tuple #[])∧u'=.returning∧w'=w.alloc (.cells #[.int .i64 0,.int .i64 0] 252):=by
 refine callsD_of_wpS Tryz.func176 rfl fun c₀ cs hu=>?_
 simp only [Tryz.ntmps176,List.size_toArray,List.length_cons,List.length_nil,Nat.reduceAdd,Nat.reduceSub,Array.replicate_succ,
  Array.replicate_zero,List.push_toArray,List.append_toArray,List.nil_append,List.cons_append]
 apply wpS_seq
 apply wpS_region
 simp [wpOpsS,go_sem,recoverD,hu,Exit.thenS,xZpR]
 refine wpS_of_wp ?_
 go_wp2
 exact ⟨rfl,_,(by rw [← hu]),_,results_none rfl _ _ _,rfl,rfl,rfl⟩
theorem xZjB {w W:World} {x y:Int} {a b c:Value} {g:Nat} {ta tb tc:TypeId} (h0:w.heap[g]?=some (.cells #[a] ta (0,0))) (h1:w.heap[g+1]?=some (.cells #[b] tb (0,0))) (h2:w.heap[g+2]?=some (.cells #[c] tc (0,0)))
 (hW:W=(w.alloc (.cells #[.int .i64 x,.int .i64 y] 252)).alloc (.cells #[.int .i64 x,.int .i64 y] 87)):
 Grew w W∧W.heap[w.heap.size+1]?=some (.cells #[.int .i64 x,.int .i64 y] 87 (0,0))∧w.heap.size+1 < W.heap.size∧
  W.cell? ⟨g,0,none⟩=some a∧W.cell? ⟨g+1,0,none⟩=some b∧W.cell? ⟨g+2,0,none⟩=some c∧W.frozen? ⟨g,0,none⟩=false∧W.frozen? ⟨g+1,0,none⟩=false∧W.frozen? ⟨g+2,0,none⟩=false:=by
 subst hW
 have hG:=xZcu w (.cells #[.int .i64 x,.int .i64 y] 252) (.cells #[.int .i64 x,.int .i64 y] 87)
 have hH:((w.alloc (.cells #[.int .i64 x,.int .i64 y] 252)).alloc (.cells #[.int .i64 x,.int .i64 y] 87)).heap[w.heap.size+1]?=some (.cells #[.int .i64 x,.int .i64 y] 87 (0,0)):=by
  rw [show w.heap.size+1=(w.alloc (.cells #[.int .i64 x,.int .i64 y] 252)).heap.size by simp]
  exact xZ3w _ _
 have hl:∀ {i:Nat} {o:Obj},w.heap[i]?=some o→i < w.heap.size:=fun h=>(Array.getElem?_eq_some_iff.1 h).1
 have k0:=(hG.old g (hl h0)).trans h0
 have k1:=(hG.old (g+1) (hl h1)).trans h1
 have k2:=(hG.old (g+2) (hl h2)).trans h2
 generalize (w.alloc (.cells #[.int .i64 x,.int .i64 y] 252)).alloc (.cells #[.int .i64 x,.int .i64 y] 87)=W at *
 refine ⟨hG,hH,(Array.getElem?_eq_some_iff.1 hH).1,?_,?_,?_,?_,?_,?_⟩<;>simp [World.cell?,World.frozen?,k0,k1,k2]
theorem xZd7 (g:Nat) (x y:Int) (hx:x≠0) (a b c:Value) (ta tb tc:TypeId) (older:List PanicEntry) (w:World) (h0:w.heap[g]?=some (.cells #[a] ta (0,0))) (h1:w.heap[g+1]?=some (.cells #[b] tb (0,0))) (h2:w.heap[g+2]?=some (.cells #[c] tc (0,0))):
 CallsD Tryz.prog 176 #[.pointer (some ⟨g,0,none⟩),.pointer (some ⟨g+1,0,none⟩),.pointer (some ⟨g+2,0,none⟩)] (.panicking ({ v:=.iface 252 (.agg #[.int .i64 x,.int .i64 y]),recovered:=false }::older)) w fun e u' w'=>
 e=.returned (.tuple #[])∧u'=.panicking ({ v:=.iface 252 (.agg #[.int .i64 x,.int .i64 y]),recovered:=true }::older)∧
  ∃ W h,Grew w W∧w.heap.size≤h∧W.heap[h]?=some (.cells #[.int .i64 x,.int .i64 y] 87 (0,0))∧h < W.heap.size∧
   w'=((W.setCell ⟨g,0,none⟩ (.slice none 0 0)).setCell ⟨g+1,0,none⟩ (.int .i64 0)).setCell ⟨g+2,0,none⟩ (.iface 84 (.pointer (some ⟨h,0,none⟩))):=by
 have g2:g+2 < w.heap.size:=(Array.getElem?_eq_some_iff.1 h2).1
 refine callsD_of_wpS Tryz.func176 rfl fun c₀ cs hu=>?_
 simp only [Tryz.ntmps176,List.size_toArray,List.length_cons,List.length_nil,Nat.reduceAdd,Nat.reduceSub,Array.replicate_succ,
  Array.replicate_zero,List.push_toArray,List.append_toArray,List.nil_append,List.cons_append]
 apply wpS_seq
 apply wpS_region
 simp [wpOpsS,go_sem,recoverD,hu,Exit.thenS,xZqa]
 refine wpS_of_wp ?_
 go_wp2_with (go_at_call 23;refine (xZdQ _ _ hx _).mono ?_;rintro e W ⟨rfl,hW⟩;obtain ⟨hG,hH,hs,c0,c1,c2,f0,f1,f2⟩:=xZjB h0 h1 h2 hW;clear hW)
 exact ⟨rfl,_,rfl,_,results_none rfl _ _ _,rfl,rfl,_,hG,w.heap.size+1,by omega,hH,hs,rfl⟩
structure PS (w0:World) (S0:Nat→Prop) (l:List xZ0) (a e:Int) (w:World) (S:Nat→Prop):Prop where
 os:w.os=w0.os
 tape:w.tape=w0.tape
 output:w.output=w0.output
 old:∀ i,i < w0.heap.size→w.heap[i]?=w0.heap[i]?
 size:w0.heap.size+4≤w.heap.size
 sub:∀ i,S0 i→S i
 sits0:∀ i,S0 i→i < w0.heap.size
 news:∀ i,S i→S0 i∨w0.heap.size+4≤i
 sits:∀ i,S i→i < w.heap.size
 box:∃ vl T,w.heap[w0.heap.size+3]?=some (.cells #[vl,.int .i64 a,.int .i64 e] T (0,0))∧DRep S w vl (.sl 7 (l.map eA0))
 prot:∀ i v,envCell Tryz.prog=some (i,v)→w0.cell? ⟨i,0,none⟩=some v∧i < w0.heap.size
def psH (l:List xZ0) (a e:Int):AH:=⟨[[.sl 7 (l.map eA0),.v (.int .i64 a),.v (.int .i64 e)]],[]⟩
def psN:Maps:=⟨0,0,fun _=>0,fun _=>undef⟩
def psM (g:Nat):Maps:=⟨1,0,fun _=>g,fun _=>undef⟩
theorem xZhR {M:Maps} {S:Nat→Prop} {w:World} {v:Value} {k:Nat} {xs:List AV} (h:VRep M S w v (.sl k xs)):DRep S w v (.sl k xs):=by
 cases h with
 | data h=>exact h
section
variable {w0:World} {S0:Nat→Prop} {l:List xZ0} {a e:Int} {w:World} {S:Nat→Prop}
theorem PS.rel (h:PS w0 S0 l a e w S):RelH (psM (w0.heap.size+3)) S (psH l a e) w where
 nb:=rfl
 nt:=rfl
 sits:=h.sits
 box b hb:=by
  obtain rfl:b=0:=by simp [psH] at hb;exact hb
  obtain ⟨vl,T,h1,h2⟩:=h.box
  refine ⟨fun hs=>?_,_,T,h1,rfl,fun i hi=>?_⟩
  ·rcases h.news _ hs with h3 | h3
   ·have:=h.sits0 _ h3
    simp only [psM] at this;omega
   ·simp only [psM] at h3;omega
  ·match i,hi with
   | 0,_=>exact ⟨rfl,.data h2⟩
   | 1,_=>exact ⟨rfl,.data (.v _)⟩
   | 2,_=>exact ⟨rfl,.data (.v _)⟩
 buf t ht:=by cases ht
 bb b b' hb hb' _:=by simp [psH] at hb hb';omega
 tt t t' g h1:=by cases h1.1
 bt b t g _ h1:=by cases h1.1
theorem PS.ft (h:PS w0 S0 l a e w S) {g:Nat}:foot (psM (w0.heap.size+3)) (psH l a e) g ↔ g=w0.heap.size+3:=by
 constructor
 ·rintro (⟨b,_,rfl⟩ | ⟨t,ht,_⟩)
  ·rfl
  ·cases ht
 ·rintro rfl;exact .inl ⟨0,by simp [psH],rfl⟩
theorem PS.pr (h:PS w0 S0 l a e w S):Prot Tryz.prog (psM (w0.heap.size+3)) (psH l a e) w:=by
 intro i v hi
 obtain ⟨h1,h3⟩:=h.prot i v hi
 refine ⟨?_,fun hf=>?_,?_⟩
 ·rw [← h1];simp only [World.cell?,h.old i h3]
 ·have:=h.ft.1 hf;omega
 ·have:=h.size;omega
theorem PS.call (h:PS w0 S0 l a e w S) {M':Maps} {S':Nat→Prop} {l':List xZ0} {a' e':Int} {w':World} (hh:RelH M' S' (psH l' a' e') w') (hf:Frm (psM (w0.heap.size+3)) S (psH l a e) w M' S' (psH l' a' e') w'):
 PS w0 S0 l' a' e' w' S'∧∀ i,i < w.heap.size→i≠w0.heap.size+3→w'.heap[i]?=w.heap[i]?:=by
 have hb0:M'.box 0=w0.heap.size+3:=hf.le.box 0 (by simp [psM])
 have hsame:∀ i,i < w.heap.size→i≠w0.heap.size+3→w'.heap[i]?=w.heap[i]?:=fun i hi hn=>hf.old i hi fun hft=>hn (h.ft.1 hft)
 have hsz:=h.size
 obtain ⟨hun,c,T,h1,h2,h3⟩:=hh.box 0 (by simp [psH])
 rw [hb0] at hun h1
 refine ⟨⟨hf.os.trans h.os,hf.tape.trans h.tape,hf.output.trans h.output,fun i hi=>(hsame i (by omega) (by omega)).trans (h.old i hi),Nat.le_trans hsz hf.size,fun i hi=>hf.sub i (h.sub i hi),h.sits0,fun i hi=>?_,hh.sits,?_,h.prot⟩,hsame⟩
 ·rcases hf.news i hi with h4 | h4 | h4
  ·exact h.news i h4
  ·exact absurd (h.ft.1 h4 ▸ hi) hun
  ·right;omega
 ·have hc:c.size=3:=h2
  obtain ⟨x,y,z,rfl⟩:∃ x y z,c=#[x,y,z]:=by
   match c,hc with
   | ⟨[x,y,z]⟩,_=>exact ⟨x,y,z,rfl⟩
  have q0:VRep M' S' w' x (.sl 7 (l'.map eA0)):=(h3 0 (by simp [psH])).2
  have q1:y=.int .i64 a':=VRep.v_eq (h3 1 (by simp [psH])).2
  have q2:z=.int .i64 e':=VRep.v_eq (h3 2 (by simp [psH])).2
  subst q1;subst q2
  exact ⟨x,T,h1,xZhR q0⟩
theorem PS.pure (h:PS w0 S0 l a e w S) {M':Maps} {S':Nat→Prop} {w':World} (hh:RelH M' S' AH.nil w') (hf:Frm psN S AH.nil w M' S' AH.nil w'):
 PS w0 S0 l a e w' S'∧∀ i,i < w.heap.size→w'.heap[i]?=w.heap[i]?:=by
 have nof:∀ i,¬ Go.Proofs.YtahklhniofiofaaGreatDoor.E.foot psN AH.nil i:=fun i hi=>by
  rcases hi with ⟨b,hb,_⟩ | ⟨t,ht,_⟩
  ·simp [AH.nil] at hb
  ·simp [AH.nil] at ht
 have hsame:∀ i,i < w.heap.size→w'.heap[i]?=w.heap[i]?:=fun i hi=>hf.old i hi (nof i)
 have hsz:=h.size
 obtain ⟨vl,T,h1,h2⟩:=h.box
 refine ⟨⟨hf.os.trans h.os,hf.tape.trans h.tape,hf.output.trans h.output,fun i hi=>(hsame i (by omega)).trans (h.old i hi),Nat.le_trans hsz hf.size,fun i hi=>hf.sub i (h.sub i hi),h.sits0,fun i hi=>?_,hh.sits,⟨vl,T,(hsame _ (by omega)).trans h1,h2.mono hf.sub hf.stab⟩,h.prot⟩,hsame⟩
 rcases hf.news i hi with h4 | h4 | h4
 ·exact h.news i h4
 ·exact absurd h4 (nof i)
 ·right;omega
theorem PS.upd (h:PS w0 S0 l a e w S) {w':World} (ho:w'.os=w.os) (ht:w'.tape=w.tape) (hu:w'.output=w.output) (hz:w.heap.size≤w'.heap.size) (hs:∀ i,i < w.heap.size→(i < w0.heap.size∨w0.heap.size+3≤i)→w'.heap[i]?=w.heap[i]?):PS w0 S0 l a e w' S:=by
 have hsz:=h.size
 obtain ⟨vl,T,h1,h2⟩:=h.box
 have hst:∀ g,S g→w'.heap[g]?=w.heap[g]?:=fun g hg=>hs g (h.sits g hg) (by
  rcases h.news g hg with h3 | h3
  ·exact .inl (h.sits0 g h3)
  ·right;omega)
 exact ⟨ho.trans h.os,ht.trans h.tape,hu.trans h.output,fun i hi=>(hs i (by omega) (.inl hi)).trans (h.old i hi),Nat.le_trans hsz hz,h.sub,h.sits0,h.news,fun i hi=>Nat.lt_of_lt_of_le (h.sits i hi) hz,⟨vl,T,(hs _ (by omega) (.inr (Nat.le_refl _))).trans h1,h2.mono (fun _ h=>h) hst⟩,h.prot⟩
theorem PS.rel0 (h:PS w0 S0 l a e w S):RelH psN S AH.nil w where
 nb:=rfl
 nt:=rfl
 sits:=h.sits
 box b hb:=by cases hb
 buf t ht:=by cases ht
 bb b b' hb _ _:=by cases hb
 tt t t' g h1:=by cases h1.1
 bt b t g hb:=by cases hb
theorem PS.pr0 (h:PS w0 S0 l a e w S):Prot Tryz.prog psN AH.nil w:=by
 intro i v hi
 obtain ⟨h1,h2,h3⟩:=h.pr i v hi
 refine ⟨h1,fun hf=>?_,h3⟩
 rcases hf with ⟨b,hb,_⟩ | ⟨t,ht,_⟩
 ·cases hb
 ·cases ht
theorem xZfT (N:Nat) (h:PS w0 S0 l a e w S) {x:Int×List xZ0×Int×Int} (hx:xZj N l a e=some x):
 Calls Tryz.prog 175 #[.pointer (some ⟨w0.heap.size+3,0,none⟩)] w fun r w'=>r=.returned (.int .i64 x.1)∧∃ S',PS w0 S0 x.2.1 x.2.2.1 x.2.2.2 w' S'∧∀ i,i < w.heap.size→i≠w0.heap.size+3→w'.heap[i]?=w.heap[i]?:=by
 have hc:=(xZ3E N).res (((),()),((l,a,e,()),()),()) x hx
 refine (hc (psM (w0.heap.size+3)) S w #[.pointer (some ⟨w0.heap.size+3,0,none⟩)] h.rel h.pr rfl fun i hi=>?_).mono ?_
 ·match i,hi with
  | 0,_=>exact .ptr 0 0 (Nat.zero_lt_one)
 ·rintro r w' ⟨M',S',hend,hh,hf⟩
  have hv:EndRep M' S' w' r (.ret (.v (.int .i64 x.1))):=hend
  obtain ⟨h1,h2⟩:=h.call hh hf
  cases r with
  | returned v=>exact ⟨congrArg _ (VRep.v_eq hv),S',h1,h2⟩
  | panicked _=>exact hv.elim
  | outgrown=>exact hv.elim
theorem or_at (N:Nat) (h:PS w0 S0 l a e w S) {r:(Int×Int×List xZ0×Int×Int)⊕(List xZ2×List xZ0×Int×Int)} (hx:xZS N 0 l a e=some r):
 Calls Tryz.prog 177 #[.pointer (some ⟨w0.heap.size+3,0,none⟩),.int .i64 0] w fun en w'=>∃ S',(match r with
  | .inl x=>en=.panicked [{ v:=.iface 252 (.agg #[.int .i64 x.1,.int .i64 x.2.1]),recovered:=false }]∧PS w0 S0 x.2.2.1 x.2.2.2.1 x.2.2.2.2 w' S'
  | .inr x=>∃ v,en=.returned v∧DRep S' w' v (.sl 8 (x.1.map eA3))∧PS w0 S0 x.2.1 x.2.2.1 x.2.2.2 w' S')∧∀ i,i < w.heap.size→i≠w0.heap.size+3→w'.heap[i]?=w.heap[i]?:=by
 have hc:=(xZ8s N).res (((),0,()),((l,a,e,()),()),()) r hx
 refine (hc (psM (w0.heap.size+3)) S w #[.pointer (some ⟨w0.heap.size+3,0,none⟩),.int .i64 0] h.rel h.pr rfl fun i hi=>?_).mono ?_
 ·match i,hi with
  | 0,_=>exact .ptr 0 0 (Nat.zero_lt_one)
  | 1,_=>exact .data (.v _)
 ·rintro en w' ⟨M',S',hend,hh,hf⟩
  match r,hend,hh,hf with
  | .inl x,hend,hh,hf=>
    obtain ⟨h1,h2⟩:=h.call hh hf
    have hv:EndRep M' S' w' en (.pan (.ifc 252 (.agg ([.int .i64 x.1,.int .i64 x.2.1].map .v)))):=hend
    refine ⟨S',⟨?_,h1⟩,h2⟩
    cases en with
    | panicked ch=>
      obtain ⟨v,rfl,hv⟩:=hv
      cases hv with
      | data hv=>cases hv with | ifc _ u _ hu=>rw [xZgi (M:=psN) (.data hu)]
      | ifc _ u _ hu=>rw [xZgi hu]
    | returned _=>exact hv.elim
    | outgrown=>exact hv.elim
  | .inr x,hend,hh,hf=>
    obtain ⟨h1,h2⟩:=h.call hh hf
    have hv:EndRep M' S' w' en (.ret (.sl 8 (x.1.map eA3))):=hend
    cases en with
    | returned v=>exact ⟨S',⟨v,rfl,xZhR hv,h1⟩,h2⟩
    | panicked _=>exact hv.elim
    | outgrown=>exact hv.elim
theorem xZi7 (N:Nat) (h:PS w0 S0 l a e w S) {ns:List xZ2} {v:Value} (hv:DRep S w v (.sl 8 (ns.map eA3))) {c:Int} (hx:xZ3k N ns=some c):
 Calls Tryz.prog 110 #[v] w fun en w'=>en=.returned (.int .i64 c)∧∃ S',PS w0 S0 l a e w' S'∧(∀ i,i < w.heap.size→w'.heap[i]?=w.heap[i]?)∧DRep S' w' v (.sl 8 (ns.map eA3)):=by
 have hc:=(xZab N).res (ns,()) c hx
 refine (hc psN S w #[v] h.rel0 h.pr0 rfl fun i hi=>?_).mono ?_
 ·match i,hi with
  | 0,_=>exact .data hv
 ·rintro en w' ⟨M',S',hend,hh,hf⟩
  have hq:EndRep M' S' w' en (.ret (.v (.int .i64 c))):=hend
  obtain ⟨h1,h2⟩:=h.pure hh hf
  cases en with
  | returned u=>exact ⟨congrArg _ (VRep.v_eq hq),S',h1,h2,hv.mono hf.sub hf.stab⟩
  | panicked _=>exact hq.elim
  | outgrown=>exact hq.elim
theorem xZfD {M:Maps} {ad:Option Addr} {n cap:Nat} (hh:RelH M S0 AH.nil w0) (hp:Prot Tryz.prog M AH.nil w0) (hv:DRep S0 w0 (.slice ad n cap) (.sl 7 (l.map eA0))) (T1 T2 T3 T4:TypeId):
 PS w0 S0 l a e ((((w0.alloc (.cells #[.slice none 0 0] T1)).alloc (.cells #[.int .i64 0] T2)).alloc (.cells #[.nilIface] T3)).alloc (.cells #[.slice ad n cap,.int .i64 a,.int .i64 e] T4)) S0:=by
 have hG:Grew w0 ((((w0.alloc (.cells #[.slice none 0 0] T1)).alloc (.cells #[.int .i64 0] T2)).alloc (.cells #[.nilIface] T3)).alloc (.cells #[.slice ad n cap,.int .i64 a,.int .i64 e] T4)):=
  ⟨rfl,rfl,rfl,by simp;omega,fun g hg=>(xZ2K _ _ g (by simp;omega)).trans ((xZ2K _ _ g (by simp;omega)).trans ((xZ2K _ _ g (by simp;omega)).trans (xZ2K _ _ g hg)))⟩
 refine ⟨rfl,rfl,rfl,hG.old,by simp,fun _ h=>h,hh.sits,fun i hi=>.inl hi,fun i hi=>Nat.lt_of_lt_of_le (hh.sits i hi) hG.size,⟨_,T4,?_,hv.mono (fun _ h=>h) fun g hg=>hG.old g (hh.sits g hg)⟩,fun i v hi=>⟨(hp i v hi).1,(hp i v hi).2.2⟩⟩
 rw [show w0.heap.size+3=(((w0.alloc (.cells #[.slice none 0 0] T1)).alloc (.cells #[.int .i64 0] T2)).alloc (.cells #[.nilIface] T3)).heap.size by simp]
 exact xZ3w _ _
end
theorem xZ3L {w:World} {g:Nat} {v:Value} {T:TypeId} (h:w.heap[g]?=some (.cells #[v] T (0,0))):w.cell? ⟨g,0,none⟩=some v∧w.frozen? ⟨g,0,none⟩=false:=by
 constructor<;>simp [World.cell?,World.frozen?,h]
theorem xZ52 {w w':World} {g i:Nat} (h:w'.heap[g]?=w.heap[g]?):w'.cell? ⟨g,i,none⟩=w.cell? ⟨g,i,none⟩:=by simp only [World.cell?,h]
theorem xZ9R (w0:World) (v1 v2 v3:Value) (c:Array Value) (T1 T2 T3 T4:TypeId):
 let W:=(((w0.alloc (.cells #[v1] T1)).alloc (.cells #[v2] T2)).alloc (.cells #[v3] T3)).alloc (.cells c T4)
 W.heap[w0.heap.size]?=some (.cells #[v1] T1 (0,0))∧W.heap[w0.heap.size+1]?=some (.cells #[v2] T2 (0,0))∧W.heap[w0.heap.size+2]?=some (.cells #[v3] T3 (0,0))∧W.heap.size=w0.heap.size+4:=by
 refine ⟨?_,?_,?_,by simp⟩
 ·exact (xZ2K _ _ _ (by simp;omega)).trans ((xZ2K _ _ _ (by simp;omega)).trans ((xZ2K _ _ _ (by simp)).trans (xZ3w _ _)))
 ·rw [show w0.heap.size+1=(w0.alloc (.cells #[v1] T1)).heap.size by simp]
  exact (xZ2K _ _ _ (by simp)).trans ((xZ2K _ _ _ (by simp)).trans (xZ3w _ _))
 ·rw [show w0.heap.size+2=((w0.alloc (.cells #[v1] T1)).alloc (.cells #[v2] T2)).heap.size by simp]
  exact (xZ2K _ _ _ (by simp)).trans (xZ3w _ _)
theorem xZ7X {W:World} {g i:Nat} {u v x:Value} (h:i≠g∧i≠g+1∧i≠g+2):(((W.setCell ⟨g,0,none⟩ u).setCell ⟨g+1,0,none⟩ v).setCell ⟨g+2,0,none⟩ x).heap[i]?=W.heap[i]?:=by
 rw [heap_setCell_other _ _ _ _ h.2.2,heap_setCell_other _ _ _ _ h.2.1,heap_setCell_other _ _ _ _ h.1]
theorem xZ9S {W:World} {g:Nat} {u v x a b c:Value} {ta tb tc:TypeId} (h0:W.heap[g]?=some (.cells #[a] ta (0,0))) (h1:W.heap[g+1]?=some (.cells #[b] tb (0,0))) (h2:W.heap[g+2]?=some (.cells #[c] tc (0,0))):
 let V:=((W.setCell ⟨g,0,none⟩ u).setCell ⟨g+1,0,none⟩ v).setCell ⟨g+2,0,none⟩ x
 V.cell? ⟨g,0,none⟩=some u∧V.cell? ⟨g+1,0,none⟩=some v∧V.cell? ⟨g+2,0,none⟩=some x:=by
 have k0:(((W.setCell ⟨g,0,none⟩ u).setCell ⟨g+1,0,none⟩ v).setCell ⟨g+2,0,none⟩ x).heap[g]?=some (.cells #[u] ta (0,0)):=by
  rw [heap_setCell_other _ _ _ _ (show g≠g+2 by omega),heap_setCell_other _ _ _ _ (show g≠g+1 by omega),heap_setCell_same _ _ _ _ _ _ h0];rfl
 have k1:(((W.setCell ⟨g,0,none⟩ u).setCell ⟨g+1,0,none⟩ v).setCell ⟨g+2,0,none⟩ x).heap[g+1]?=some (.cells #[v] tb (0,0)):=by
  rw [heap_setCell_other _ _ _ _ (show g+1≠g+2 by omega),heap_setCell_same _ _ _ _ _ _ (by rw [heap_setCell_other _ _ _ _ (show g+1≠g by omega)];exact h1)];rfl
 have k2:(((W.setCell ⟨g,0,none⟩ u).setCell ⟨g+1,0,none⟩ v).setCell ⟨g+2,0,none⟩ x).heap[g+2]?=some (.cells #[x] tc (0,0)):=by
  rw [heap_setCell_same _ _ _ _ _ _ (by rw [heap_setCell_other _ _ _ _ (show g+2≠g+1 by omega),heap_setCell_other _ _ _ _ (show g+2≠g by omega)];exact h2)];rfl
 exact ⟨(xZ3L k0).1,(xZ3L k1).1,(xZ3L k2).1⟩
theorem xZhm (N:Nat) {M:Maps} {S0:Nat→Prop} {w0:World} {l:List xZ0} {a e:Int} {ad:Option Addr} {cap:Nat} (hh:RelH M S0 AH.nil w0) (hp:Prot Tryz.prog M AH.nil w0) (hv:DRep S0 w0 (.slice ad l.length cap) (.sl 7 (l.map eA0)))
 (ha:¬ a < 0) (hb:¬ a > (l.length:Int)) {x:Int×List xZ0×Int×Int} (hx:xZj N l a e=some x) {y:Int×Int×List xZ0×Int×Int} (hy:xZS N 0 x.2.1 x.2.2.1 x.2.2.2=some (.inl y)) (hy0:y.1≠0):
 Calls Tryz.prog 164 #[.slice ad l.length cap,.int .i64 a,.int .i64 e] w0 fun en w'=>∃ h S',en=.returned (.tuple #[.slice none 0 0,.int .i64 0,.iface 84 (.pointer (some ⟨h,0,none⟩))])∧w0.heap.size≤h∧w'.heap[h]?=some (.cells #[.int .i64 y.1,.int .i64 y.2.1] 87 (0,0))∧h < w'.heap.size∧PS w0 S0 y.2.2.1 y.2.2.2.1 y.2.2.2.2 w' S':=by
 have hmf:∀ (fn:Go.Fn) (first cap:Array Value) (w:World),(Instr.makeFunc fn first cap).run Tryz.prog w=.ok (.func fn first cap) w:=fun _ _ _ _=>rfl
 go_enter_defers Tryz.func164,Tryz.ntmps164
 go_wp2_with (first
  | (go_at_call 175;refine (xZfT N (xZfD (a:=a) (e:=e) hh hp hv _ _ _ _) hx).mono ?_;rintro r1 w3 ⟨rfl,S3,hps3,hk3⟩)
  | (go_at_call 177;refine (or_at N hps3 hy).mono ?_;rintro r2 w4 ⟨S4,⟨rfl,hps4⟩,hk4⟩))
 obtain ⟨s0,s1,s2,s3⟩:=xZ9R w0 (.slice none 0 0) (.int .i64 0) .nilIface #[.slice ad l.length cap,.int .i64 a,.int .i64 e] 44 3 27 250
 have z3:=hps3.size
 have z4:=hps4.size
 have k0:=(hk4 _ (by omega) (by omega)).trans ((hk3 w0.heap.size (by omega) (by omega)).trans s0)
 have k1:=(hk4 _ (by omega) (by omega)).trans ((hk3 (w0.heap.size+1) (by omega) (by omega)).trans s1)
 have k2:=(hk4 _ (by omega) (by omega)).trans ((hk3 (w0.heap.size+2) (by omega) (by omega)).trans s2)
 refine leaves_cons (f:=176) (args:=#[.pointer (some ⟨w0.heap.size,0,none⟩),.pointer (some ⟨w0.heap.size+1,0,none⟩),.pointer (some ⟨w0.heap.size+2,0,none⟩)]) (by simp) (by simp [go_sem]) ?_
 refine (xZd7 w0.heap.size y.1 y.2.1 hy0 _ _ _ _ _ _ [] w4 k0 k1 k2).mono ?_
 rintro e2 u' w5 ⟨rfl,rfl,W,h,hG,g1,g2,g3,rfl⟩
 have m0:=(hG.old _ (by omega)).trans k0
 have m1:=(hG.old _ (by omega)).trans k1
 have m2:=(hG.old _ (by omega)).trans k2
 obtain ⟨c0,c1,c2⟩:=xZ9S (u:=.slice none 0 0) (v:=.int .i64 0) (x:=.iface 84 (.pointer (some ⟨h,0,none⟩))) m0 m1 m2
 have hz:=hG.size
 simp [Leaves,settle,results,Tryz.results164,go_sem,c0,c1,c2]
 exact ⟨by omega,(xZ7X ⟨by omega,by omega,by omega⟩).trans g2,g3,S4,hps4.upd hG.os hG.tape hG.output (by simpa using hz) fun i hi hn=>(xZ7X ⟨by omega,by omega,by omega⟩).trans (hG.old i hi)⟩
theorem xZoi {S:Nat→Prop} {w:World} {v:Value} {k:Nat} {xs:List AV} (h:DRep S w v (.sl k xs)):∃ p n c,v=.slice p n c:=by cases h<;>exact ⟨_,_,_,rfl⟩
theorem xZhW {w0 w2 w3 w4:World} {S0 S3 S4:Nat→Prop} {l3 l4:List xZ0} {a3 e3 a4 e4:Int} {v:Value} {xs:List AV} {v1 v2 v3:Value} {T1 T2 T3:TypeId} (s0:w2.heap[w0.heap.size]?=some (.cells #[v1] T1 (0,0))) (s1:w2.heap[w0.heap.size+1]?=some (.cells #[v2] T2 (0,0))) (s2:w2.heap[w0.heap.size+2]?=some (.cells #[v3] T3 (0,0))) (s3:w2.heap.size=w0.heap.size+4)
 (h3:PS w0 S0 l3 a3 e3 w3 S3) (k3:∀ i,i < w2.heap.size→i≠w0.heap.size+3→w3.heap[i]?=w2.heap[i]?) (h4:PS w0 S0 l4 a4 e4 w4 S4) (k4:∀ i,i < w3.heap.size→i≠w0.heap.size+3→w4.heap[i]?=w3.heap[i]?) (hv:DRep S4 w4 v (.sl 8 xs)):
 w4.cell? ⟨w0.heap.size,0,none⟩=some v1∧w4.frozen? ⟨w0.heap.size,0,none⟩=false∧PS w0 S0 l4 a4 e4 (w4.setCell ⟨w0.heap.size,0,none⟩ v) S4∧DRep S4 (w4.setCell ⟨w0.heap.size,0,none⟩ v) v (.sl 8 xs)∧
  (w4.setCell ⟨w0.heap.size,0,none⟩ v).cell? ⟨w0.heap.size,0,none⟩=some v∧
  (w4.setCell ⟨w0.heap.size,0,none⟩ v).heap[w0.heap.size]?=some (.cells #[v] T1 (0,0))∧(w4.setCell ⟨w0.heap.size,0,none⟩ v).heap[w0.heap.size+1]?=some (.cells #[v2] T2 (0,0))∧(w4.setCell ⟨w0.heap.size,0,none⟩ v).heap[w0.heap.size+2]?=some (.cells #[v3] T3 (0,0)):=by
 have z3:=h3.size
 have z4:=h4.size
 have k0:=(k4 _ (by omega) (by omega)).trans ((k3 w0.heap.size (by omega) (by omega)).trans s0)
 have k1:=(k4 _ (by omega) (by omega)).trans ((k3 (w0.heap.size+1) (by omega) (by omega)).trans s1)
 have k2:=(k4 _ (by omega) (by omega)).trans ((k3 (w0.heap.size+2) (by omega) (by omega)).trans s2)
 obtain ⟨c0,f0⟩:=xZ3L k0
 have hs:∀ i,i < w4.heap.size→(i < w0.heap.size∨w0.heap.size+3≤i)→(w4.setCell ⟨w0.heap.size,0,none⟩ v).heap[i]?=w4.heap[i]?:=fun i _ h=>heap_setCell_other _ _ _ _ (show i≠w0.heap.size by omega)
 have m0:(w4.setCell ⟨w0.heap.size,0,none⟩ v).heap[w0.heap.size]?=some (.cells #[v] T1 (0,0)):=by rw [heap_setCell_same _ _ _ _ _ _ k0];rfl
 refine ⟨c0,f0,h4.upd rfl rfl rfl (by simp) hs,hv.mono (fun _ h=>h) fun g hg=>hs g (h4.sits g hg) ?_,(xZ3L m0).1,m0,?_,?_⟩
 ·rcases h4.news g hg with h | h
  ·exact .inl (h4.sits0 g h)
  ·right;omega
 ·rw [heap_setCell_other _ _ _ _ (show w0.heap.size+1≠w0.heap.size by omega)];exact k1
 ·rw [heap_setCell_other _ _ _ _ (show w0.heap.size+2≠w0.heap.size by omega)];exact k2
theorem xZi2 {w W:World} {x y:Int} {a b c:Value} {g:Nat} {ta tb tc:TypeId} (h0:w.heap[g]?=some (.cells #[a] ta (0,0))) (h1:w.heap[g+1]?=some (.cells #[b] tb (0,0))) (h2:w.heap[g+2]?=some (.cells #[c] tc (0,0)))
 (hW:W=w.alloc (.cells #[.int .i64 x,.int .i64 y] 87)):
 Grew w W∧W.heap[w.heap.size]?=some (.cells #[.int .i64 x,.int .i64 y] 87 (0,0))∧w.heap.size < W.heap.size∧
  (W.cell? ⟨g,0,none⟩=some a∧W.cell? ⟨g+1,0,none⟩=some b∧W.cell? ⟨g+2,0,none⟩=some c∧W.frozen? ⟨g,0,none⟩=false∧W.frozen? ⟨g+1,0,none⟩=false∧W.frozen? ⟨g+2,0,none⟩=false)∧
  W.heap[g]?=some (.cells #[a] ta (0,0))∧W.heap[g+1]?=some (.cells #[b] tb (0,0))∧W.heap[g+2]?=some (.cells #[c] tc (0,0)):=by
 subst hW
 have hl:∀ {i:Nat} {o:Obj},w.heap[i]?=some o→i < w.heap.size:=fun h=>(Array.getElem?_eq_some_iff.1 h).1
 have hG:=Grew.alloc w (.cells #[.int .i64 x,.int .i64 y] 87)
 have k0:=(hG.old g (hl h0)).trans h0
 have k1:=(hG.old (g+1) (hl h1)).trans h1
 have k2:=(hG.old (g+2) (hl h2)).trans h2
 exact ⟨hG,xZ3w _ _,by simp,⟨(xZ3L k0).1,(xZ3L k1).1,(xZ3L k2).1,(xZ3L k0).2,(xZ3L k1).2,(xZ3L k2).2⟩,k0,k1,k2⟩
theorem xZhO (N:Nat) {M:Maps} {S0:Nat→Prop} {w0:World} {l:List xZ0} {a e:Int} {ad:Option Addr} {cap:Nat} (hh:RelH M S0 AH.nil w0) (hp:Prot Tryz.prog M AH.nil w0) (hv:DRep S0 w0 (.slice ad l.length cap) (.sl 7 (l.map eA0)))
 (ha:¬ a < 0) (hb:¬ a > (l.length:Int)) {x:Int×List xZ0×Int×Int} (hx:xZj N l a e=some x) {y:List xZ2×List xZ0×Int×Int} (hy:xZS N 0 x.2.1 x.2.2.1 x.2.2.2=some (.inr y)) {c:Int} (hc:xZ3k N y.1=some c) (hc0:c≠0):
 Calls Tryz.prog 164 #[.slice ad l.length cap,.int .i64 a,.int .i64 e] w0 fun en w'=>∃ h S',en=.returned (.tuple #[.slice none 0 0,.int .i64 0,.iface 84 (.pointer (some ⟨h,0,none⟩))])∧w0.heap.size≤h∧w'.heap[h]?=some (.cells #[.int .i64 c,.int .i64 x.1] 87 (0,0))∧h < w'.heap.size∧PS w0 S0 y.2.1 y.2.2.1 y.2.2.2 w' S':=by
 have hmf:∀ (fn:Go.Fn) (first cap:Array Value) (w:World),(Instr.makeFunc fn first cap).run Tryz.prog w=.ok (.func fn first cap) w:=fun _ _ _ _=>rfl
 obtain ⟨s0,s1,s2,s3⟩:=xZ9R w0 (.slice none 0 0) (.int .i64 0) .nilIface #[.slice ad l.length cap,.int .i64 a,.int .i64 e] 44 3 27 250
 go_enter_defers Tryz.func164,Tryz.ntmps164
 go_wp2_with (first
  | (go_at_call 175;refine (xZfT N (xZfD (a:=a) (e:=e) hh hp hv _ _ _ _) hx).mono ?_;rintro r1 w3 ⟨rfl,S3,hps3,hk3⟩)
  | (go_at_call 177;refine (or_at N hps3 hy).mono ?_;rintro r2 w4 ⟨S4,⟨v,rfl,hv4,hps4⟩,hk4⟩;obtain ⟨b1,b2,b3,rfl⟩:=xZoi hv4;obtain ⟨c0,f0,hps5,hv5,c05,k50,k51,k52⟩:=xZhW s0 s1 s2 s3 hps3 hk3 hps4 hk4 hv4)
  | (go_at_call 110;refine (xZi7 N hps5 hv5 hc).mono ?_;rintro r3 w6 ⟨rfl,S6,hps6,hk6,hv6⟩)
  | (go_at_call 23;refine (xZdQ _ _ hc0 _).mono ?_;rintro r4 W ⟨rfl,hW⟩;obtain ⟨hG,hH,hsz,⟨n0,n1,n2,q0,q1,q2⟩,r0,r1,r2⟩:=xZi2 ((hk6 _ (by have:=hps5.size;omega)).trans k50) ((hk6 _ (by have:=hps5.size;omega)).trans k51) ((hk6 _ (by have:=hps5.size;omega)).trans k52) hW;clear hW))
 refine leaves_cons (f:=176) (args:=#[.pointer (some ⟨w0.heap.size,0,none⟩),.pointer (some ⟨w0.heap.size+1,0,none⟩),.pointer (some ⟨w0.heap.size+2,0,none⟩)]) (by simp) (by simp [go_sem]) ?_
 refine (xZeT _ _ _ _).mono ?_
 rintro e2 u' w5 ⟨rfl,rfl,rfl⟩
 obtain ⟨c0,c1,c2⟩:=xZ9S (u:=.slice none 0 0) (v:=.int .i64 0) (x:=.iface 84 (.pointer (some ⟨w6.heap.size,0,none⟩))) r0 r1 r2
 have z6:=hps6.size
 have hz:=hG.size
 have kk:∀ i,i < W.heap.size→((((W.setCell ⟨w0.heap.size,0,none⟩ (.slice none 0 0)).setCell ⟨w0.heap.size+1,0,none⟩ (.int .i64 0)).setCell ⟨w0.heap.size+2,0,none⟩ (.iface 84 (.pointer (some ⟨w6.heap.size,0,none⟩)))).alloc (.cells #[.int .i64 0,.int .i64 0] 252)).heap[i]?=(((W.setCell ⟨w0.heap.size,0,none⟩ (.slice none 0 0)).setCell ⟨w0.heap.size+1,0,none⟩ (.int .i64 0)).setCell ⟨w0.heap.size+2,0,none⟩ (.iface 84 (.pointer (some ⟨w6.heap.size,0,none⟩)))).heap[i]?:=fun i hi=>xZ2K _ _ i (by simpa using hi)
 have c0':=c0
 rw [← xZ52 (kk w0.heap.size (by omega))] at c0
 rw [← xZ52 (kk (w0.heap.size+1) (by omega))] at c1
 rw [← xZ52 (kk (w0.heap.size+2) (by omega))] at c2
 simp [Leaves,settle,results,Tryz.results164,go_sem,c0,c1,c2]
 exact ⟨by omega,(kk _ (by omega)).trans ((xZ7X ⟨by omega,by omega,by omega⟩).trans hH),by omega,S6,hps6.upd hG.os hG.tape hG.output (by simp;omega) fun i hi hn=>(kk i (by omega)).trans ((xZ7X ⟨by omega,by omega,by omega⟩).trans (hG.old i hi))⟩
theorem xZh8 {w0 w5 w6:World} {S0 S5 S6:Nat→Prop} {l5 l6:List xZ0} {a5 e5 a6 e6:Int} {v v2 v3:Value} {T1 T2 T3:TypeId} (h5:PS w0 S0 l5 a5 e5 w5 S5) (h6:PS w0 S0 l6 a6 e6 w6 S6) (k6:∀ i,i < w5.heap.size→w6.heap[i]?=w5.heap[i]?)
 (k50:w5.heap[w0.heap.size]?=some (.cells #[v] T1 (0,0))) (k51:w5.heap[w0.heap.size+1]?=some (.cells #[v2] T2 (0,0))) (k52:w5.heap[w0.heap.size+2]?=some (.cells #[v3] T3 (0,0))):
 (w6.cell? ⟨w0.heap.size,0,none⟩=some v∧w6.cell? ⟨w0.heap.size+1,0,none⟩=some v2∧w6.cell? ⟨w0.heap.size+2,0,none⟩=some v3∧w6.frozen? ⟨w0.heap.size,0,none⟩=false∧w6.frozen? ⟨w0.heap.size+1,0,none⟩=false∧w6.frozen? ⟨w0.heap.size+2,0,none⟩=false)∧
   w6.cell? ⟨w0.heap.size+3,1,none⟩=some (.int .i64 a6)∧w6.heap[w0.heap.size]?=some (.cells #[v] T1 (0,0))∧w6.heap[w0.heap.size+1]?=some (.cells #[v2] T2 (0,0))∧w6.heap[w0.heap.size+2]?=some (.cells #[v3] T3 (0,0)):=by
 have z5:=h5.size
 have m0:=(k6 _ (by omega)).trans k50
 have m1:=(k6 _ (by omega)).trans k51
 have m2:=(k6 _ (by omega)).trans k52
 obtain ⟨vl,T,hb,_⟩:=h6.box
 exact ⟨⟨(xZ3L m0).1,(xZ3L m1).1,(xZ3L m2).1,(xZ3L m0).2,(xZ3L m1).2,(xZ3L m2).2⟩,by simp [World.cell?,hb],m0,m1,m2⟩
theorem xZec {w:World} {p:Addr} {u v:Value} (h:w.cell? p=some u):(w.setCell p v).drew.cell? p=some v:=by
 have:(w.setCell p v).cell? p=some v:=by simp [World.cell?_setCell_same,h]
 exact this
theorem xZ4Q {w:World} {p q:Addr} {u v:Value} (hn:q≠p) (h:w.drew.cell? p=some v):(w.setCell q u).drew.cell? p=some v:=by
 have:(w.setCell q u).cell? p=w.cell? p:=World.cell?_setCell_other w q p u hn
 exact this.trans h
theorem xZmY (N:Nat) {M:Maps} {S0:Nat→Prop} {w0:World} {l:List xZ0} {a e:Int} {ad:Option Addr} {cap:Nat} (hh:RelH M S0 AH.nil w0) (hp:Prot Tryz.prog M AH.nil w0) (hv:DRep S0 w0 (.slice ad l.length cap) (.sl 7 (l.map eA0)))
 (ha:¬ a < 0) (hb:¬ a > (l.length:Int)) {x:Int×List xZ0×Int×Int} (hx:xZj N l a e=some x) {y:List xZ2×List xZ0×Int×Int} (hy:xZS N 0 x.2.1 x.2.2.1 x.2.2.2=some (.inr y)) (hc:xZ3k N y.1=some 0):
 Calls Tryz.prog 164 #[.slice ad l.length cap,.int .i64 a,.int .i64 e] w0 fun en w'=>∃ v S',en=.returned (.tuple #[v,.int .i64 y.2.2.1,.nilIface])∧DRep S' w' v (.sl 8 (y.1.map eA3))∧PS w0 S0 y.2.1 y.2.2.1 y.2.2.2 w' S':=by
 have hmf:∀ (fn:Go.Fn) (first cap:Array Value) (w:World),(Instr.makeFunc fn first cap).run Tryz.prog w=.ok (.func fn first cap) w:=fun _ _ _ _=>rfl
 obtain ⟨s0,s1,s2,s3⟩:=xZ9R w0 (.slice none 0 0) (.int .i64 0) .nilIface #[.slice ad l.length cap,.int .i64 a,.int .i64 e] 44 3 27 250
 go_enter_defers Tryz.func164,Tryz.ntmps164
 go_wp2_with (first
  | (go_at_call 175;refine (xZfT N (xZfD (a:=a) (e:=e) hh hp hv _ _ _ _) hx).mono ?_;rintro r1 w3 ⟨rfl,S3,hps3,hk3⟩)
  | (go_at_call 177;refine (or_at N hps3 hy).mono ?_;rintro r2 w4 ⟨S4,⟨v,rfl,hv4,hps4⟩,hk4⟩;obtain ⟨b1,b2,b3,rfl⟩:=xZoi hv4;obtain ⟨c0,f0,hps5,hv5,c05,k50,k51,k52⟩:=xZhW s0 s1 s2 s3 hps3 hk3 hps4 hk4 hv4)
  | (go_at_call 110;refine (xZi7 N hps5 hv5 hc).mono ?_;rintro r3 w6 ⟨rfl,S6,hps6,hk6,hv6⟩;obtain ⟨⟨n0,n1,n2,q0,q1,q2⟩,nb,r0,r1,r2⟩:=xZh8 hps5 hps6 hk6 k50 k51 k52))
 go_region_held3 (fun w'=>w'.cell? ⟨w0.heap.size,0,none⟩=some (.slice b1 b2 b3)∧w'.cell? ⟨w0.heap.size+3,1,none⟩=some (.int .i64 y.2.2.1)) (first | exact ⟨xZec n0,xZ4Q (by simp) nb⟩ | exact ⟨xZ4Q (by simp) (xZec n0),xZ4Q (by simp) (xZ4Q (by simp) nb)⟩ | exact ⟨xZ4Q (by simp) (xZ4Q (by simp) (xZec n0)),xZ4Q (by simp) (xZ4Q (by simp) (xZ4Q (by simp) nb))⟩ | go_keep) (fail)
 all_goals go_wp2
 refine leaves_cons (f:=176) (args:=#[.pointer (some ⟨w0.heap.size,0,none⟩),.pointer (some ⟨w0.heap.size+1,0,none⟩),.pointer (some ⟨w0.heap.size+2,0,none⟩)]) (by simp) (by simp [go_sem]) ?_
 refine (xZeT _ _ _ _).mono ?_
 rintro e2 u' w7 ⟨rfl,rfl,rfl⟩
 obtain ⟨c0,c1,c2⟩:=xZ9S (u:=.slice b1 b2 b3) (v:=.int .i64 y.2.2.1) (x:=.nilIface) r0 r1 r2
 have z6:=hps6.size
 have kk:∀ i,i < w6.heap.size→((((w6.setCell ⟨w0.heap.size,0,none⟩ (.slice b1 b2 b3)).setCell ⟨w0.heap.size+1,0,none⟩ (.int .i64 y.2.2.1)).setCell ⟨w0.heap.size+2,0,none⟩ .nilIface).drew.alloc (.cells #[.int .i64 0,.int .i64 0] 252)).heap[i]?=(((w6.setCell ⟨w0.heap.size,0,none⟩ (.slice b1 b2 b3)).setCell ⟨w0.heap.size+1,0,none⟩ (.int .i64 y.2.2.1)).setCell ⟨w0.heap.size+2,0,none⟩ .nilIface).heap[i]?:=fun i hi=>xZ2K _ _ i (by simpa using hi)
 have hd:DRep S6 _ (.slice b1 b2 b3) (.sl 8 (y.1.map eA3)):=hv6
 have hall:∀ i,i < w6.heap.size→(i < w0.heap.size∨w0.heap.size+3≤i)→((((w6.setCell ⟨w0.heap.size,0,none⟩ (.slice b1 b2 b3)).setCell ⟨w0.heap.size+1,0,none⟩ (.int .i64 y.2.2.1)).setCell ⟨w0.heap.size+2,0,none⟩ .nilIface).drew.alloc (.cells #[.int .i64 0,.int .i64 0] 252)).heap[i]?=w6.heap[i]?:=fun i hi hn=>(kk i hi).trans (xZ7X ⟨by omega,by omega,by omega⟩)
 have hps7:=hps6.upd (w':=(((w6.setCell ⟨w0.heap.size,0,none⟩ (.slice b1 b2 b3)).setCell ⟨w0.heap.size+1,0,none⟩ (.int .i64 y.2.2.1)).setCell ⟨w0.heap.size+2,0,none⟩ .nilIface).drew.alloc (.cells #[.int .i64 0,.int .i64 0] 252)) rfl rfl rfl (by simp) hall
 have hd7:=hv6.mono (fun _ h=>h) fun g hg=>hall g (hps6.sits g hg) (by
  rcases hps6.news g hg with h | h
  ·exact .inl (hps6.sits0 g h)
  ·right;omega)
 rw [← xZ52 (kk w0.heap.size (by omega))] at c0
 rw [← xZ52 (kk (w0.heap.size+1) (by omega))] at c1
 rw [← xZ52 (kk (w0.heap.size+2) (by omega))] at c2
 generalize (((w6.setCell ⟨w0.heap.size,0,none⟩ (.slice b1 b2 b3)).setCell ⟨w0.heap.size+1,0,none⟩ (.int .i64 y.2.2.1)).setCell ⟨w0.heap.size+2,0,none⟩ .nilIface).drew.alloc (.cells #[.int .i64 0,.int .i64 0] 252)=V at *
 simp [Leaves,settle,results,Tryz.results164,go_sem,c0,c1,c2]
 exact ⟨S6,hd7,hps7⟩
theorem xZgd {w0 W:World} (hW:W=(((w0.alloc (.cells #[.slice none 0 0] 44)).alloc (.cells #[.int .i64 0] 3)).alloc (.cells #[.nilIface] 27)).alloc (.cells #[.int .i64 2,.int .i64 0] 87)):
 Grew w0 W∧W.heap[w0.heap.size+3]?=some (.cells #[.int .i64 2,.int .i64 0] 87 (0,0))∧W.heap.size=w0.heap.size+4∧
  (W.cell? ⟨w0.heap.size,0,none⟩=some (.slice none 0 0)∧W.cell? ⟨w0.heap.size+1,0,none⟩=some (.int .i64 0)∧W.cell? ⟨w0.heap.size+2,0,none⟩=some .nilIface∧W.frozen? ⟨w0.heap.size,0,none⟩=false∧W.frozen? ⟨w0.heap.size+1,0,none⟩=false∧W.frozen? ⟨w0.heap.size+2,0,none⟩=false)∧
  W.heap[w0.heap.size]?=some (.cells #[.slice none 0 0] 44 (0,0))∧W.heap[w0.heap.size+1]?=some (.cells #[.int .i64 0] 3 (0,0))∧W.heap[w0.heap.size+2]?=some (.cells #[.nilIface] 27 (0,0)):=by
 subst hW
 obtain ⟨s0,s1,s2,s3⟩:=xZ9R w0 (.slice none 0 0) (.int .i64 0) .nilIface #[.int .i64 2,.int .i64 0] 44 3 27 87
 refine ⟨⟨rfl,rfl,rfl,by simp;omega,fun g hg=>(xZ2K _ _ g (by simp;omega)).trans ((xZ2K _ _ g (by simp;omega)).trans ((xZ2K _ _ g (by simp;omega)).trans (xZ2K _ _ g hg)))⟩,?_,s3,⟨(xZ3L s0).1,(xZ3L s1).1,(xZ3L s2).1,(xZ3L s0).2,(xZ3L s1).2,(xZ3L s2).2⟩,s0,s1,s2⟩
 rw [show w0.heap.size+3=(((w0.alloc (.cells #[.slice none 0 0] 44)).alloc (.cells #[.int .i64 0] 3)).alloc (.cells #[.nilIface] 27)).heap.size by simp]
 exact xZ3w _ _
theorem xZjF {w0:World} {n:Nat} {a e:Int} {ad:Option Addr} {cap:Nat} (hb:a < 0∨(¬ a < 0∧a > (n:Int))):
 Calls Tryz.prog 164 #[.slice ad n cap,.int .i64 a,.int .i64 e] w0 fun en w'=>en=.returned (.tuple #[.slice none 0 0,.int .i64 0,.iface 84 (.pointer (some ⟨w0.heap.size+3,0,none⟩))])∧w'.heap[w0.heap.size+3]?=some (.cells #[.int .i64 2,.int .i64 0] 87 (0,0))∧w0.heap.size+3 < w'.heap.size∧Grew w0 w':=by
 rcases hb with ha | ⟨ha,hb⟩
 all_goals
  go_enter_defers Tryz.func164,Tryz.ntmps164
  go_wp2_with (go_at_call 23;refine (xZdQ 2 0 (by decide) _).mono ?_;rintro r4 W ⟨rfl,hW⟩;obtain ⟨hG,hH,hsz,⟨n0,n1,n2,q0,q1,q2⟩,r0,r1,r2⟩:=xZgd hW;clear hW)
  obtain ⟨c0,c1,c2⟩:=xZ9S (u:=.slice none 0 0) (v:=.int .i64 0) (x:=.iface 84 (.pointer (some ⟨w0.heap.size+3,0,none⟩))) r0 r1 r2
  have kk:∀ i,i≠w0.heap.size∧i≠w0.heap.size+1∧i≠w0.heap.size+2→_:=fun i hi=>xZ7X (W:=W) (u:=.slice none 0 0) (v:=.int .i64 0) (x:=.iface 84 (.pointer (some ⟨w0.heap.size+3,0,none⟩))) hi
  simp [bodyPostD,Leaves,settle,results,Tryz.results164,go_sem,c0,c1,c2]
  exact ⟨(kk _ (by omega)).trans hH,by omega,hG.os,hG.tape,hG.output,by simp;omega,fun i hi=>(kk i (by omega)).trans (hG.old i hi)⟩
theorem xZle {M:Maps} {S S':Nat→Prop} {w w':World} (hh:RelH M S AH.nil w) (ho:w'.os=w.os) (ht:w'.tape=w.tape) (hu:w'.output=w.output) (old:∀ i,i < w.heap.size→w'.heap[i]?=w.heap[i]?) (hz:w.heap.size≤w'.heap.size) (sub:∀ i,S i→S' i) (news:∀ i,S' i→S i∨w.heap.size≤i) (sits:∀ i,S' i→i < w'.heap.size):
 RelH M S' AH.nil w'∧Frm M S AH.nil w M S' AH.nil w':=
 ⟨⟨hh.nb,hh.nt,sits,(fun b hb=>by cases hb),(fun t ht=>by cases ht),(fun b b' hb=>by cases hb),(fun t t' g h=>by cases h.1),(fun b t g hb=>by cases hb)⟩,
  ⟨hh.nb,hh.nt,ho,ht,hu,hz,sub,fun g hg=>old g (hh.sits g hg),fun g hg _=>old g hg,.refl M,fun g hg=>(news g hg).imp_right .inr,(fun g hf=>by
   rcases hf with ⟨b,hb,_⟩ | ⟨t,ht,_⟩
   ·cases hb
   ·cases ht)⟩⟩
theorem xZoO {S:Nat→Prop} {w:World} {v:Value} {k:Nat} {xs:List AV} (h:DRep S w v (.sl k xs)):∃ ad cap,v=.slice ad xs.length cap:=by cases h<;>exact ⟨_,_,rfl⟩
def errAV (x p:Int):AV:=.tup [.sl 8 [],.v (.int .i64 0),.ifc 84 (.dptr [.v (.int .i64 x),.v (.int .i64 p)])]
theorem xZja {M:Maps} {S S':Nat→Prop} {w w':World} {x p:Int} {h:Nat} (hh:RelH M S AH.nil w) (ho:w'.os=w.os) (ht:w'.tape=w.tape) (hu:w'.output=w.output) (old:∀ i,i < w.heap.size→w'.heap[i]?=w.heap[i]?) (hz:w.heap.size≤w'.heap.size) (sub:∀ i,S i→S' i) (news:∀ i,S' i→S i∨w.heap.size≤i) (sits:∀ i,S' i→i < w'.heap.size)
 (h1:w.heap.size≤h) (h2:w'.heap[h]?=some (.cells #[.int .i64 x,.int .i64 p] 87 (0,0))) (h3:h < w'.heap.size):
 ∃ M' S',EndRep M' S' w' (.returned (.tuple #[.slice none 0 0,.int .i64 0,.iface 84 (.pointer (some ⟨h,0,none⟩))])) (.ret (errAV x p))∧RelH M' S' AH.nil w'∧Frm M S AH.nil w M' S' AH.nil w':=by
 obtain ⟨q1,q2⟩:=xZle (S':=fun i=>S' i∨i=h) hh ho ht hu old hz (fun i hi=>.inl (sub i hi)) (fun i hi=>hi.elim (news i) fun e=>.inr (e ▸ h1)) (fun i hi=>hi.elim (sits i) fun e=>e ▸ h3)
 refine ⟨M,_,.data (.tup _ _ rfl fun i hi=>?_),q1,q2⟩
 match i,hi with
 | 0,_=>exact .sl0 none 0 8
 | 1,_=>exact .v _
 | 2,_=>
   refine .ifc _ _ _ (.dptr h 0 _ _ _ (0,0) (.inr rfl) h2 (Nat.le_refl 2) (fun j hj=>?_) fun j hj=>?_)
   ·match j,hj with
    | 0,_=>rfl
    | 1,_=>rfl
   ·match j,hj with
    | 0,_=>exact .v _
    | 1,_=>exact .v _
theorem xZcV (N:Nat):xZ9H.Ok prog N:=by
 refine ⟨⟨Tryz.f164,Tryz.func164,by kernel_rfl,by kernel_rfl⟩,fun a r h=>?_⟩
 obtain ⟨l,a,e,⟨⟩⟩:=a
 have h:xZ3e N l a e=some r:=h
 intro M S w vs hh hp hsz hrep
 obtain ⟨v,u,t,rfl⟩:∃ v u t,vs=#[v,u,t]:=by
  match vs,hsz with
  | ⟨[v,u,t]⟩,_=>exact ⟨v,u,t,rfl⟩
 have e0:DRep S w v (.sl 7 (l.map eA0)):=xZhR (hrep 0 (by decide:0 < 3))
 have e1:u=.int .i64 a:=VRep.v_eq (hrep 1 (by decide:1 < 3))
 have e2:t=.int .i64 e:=VRep.v_eq (hrep 2 (by decide:2 < 3))
 subst e1;subst e2
 obtain ⟨ad,cap,hvv⟩:=xZoO e0
 rw [List.length_map] at hvv
 subst hvv
 have bad:(a < 0∨(¬ a < 0∧a > (l.length:Int)))→r=.inr ([],0,2,0)→Calls prog 164 #[.slice ad l.length cap,.int .i64 a,.int .i64 e] w fun en w'=>∃ M' S',EndRep M' S' w' en (.ret (errAV 2 0))∧RelH M' S' AH.nil w'∧Frm M S AH.nil w M' S' AH.nil w':=fun hb _=>by
  refine (xZjF hb).mono ?_
  rintro en w' ⟨rfl,h2,h3,hG⟩
  exact xZja hh hG.os hG.tape hG.output hG.old hG.size (fun _ h=>h) (fun _ h=>.inl h) (fun i hi=>Nat.lt_of_lt_of_le (hh.sits i hi) hG.size) (by omega) h2 h3
 unfold xZ3e at h
 by_cases ha:a < 0
 ·rw [show ltB a 0=true from xZ18.2 ha,cond_true] at h
  cases h
  exact bad (.inl ha) rfl
 rw [show ltB a 0=false by rw [Bool.eq_false_iff];exact fun h=>ha (xZ18.1 h),cond_false] at h
 by_cases hb:a > (l.length:Int)
 ·rw [show ltB (l.length:Int) a=true from xZ18.2 hb,cond_true] at h
  cases h
  exact bad (.inr ⟨ha,hb⟩) rfl
 rw [show ltB (l.length:Int) a=false by rw [Bool.eq_false_iff];exact fun h=>hb (xZ18.1 h),cond_false] at h
 obtain ⟨x,hx,h⟩:=Option.bind_eq_some_iff.1 h
 obtain ⟨y,hy,h⟩:=Option.bind_eq_some_iff.1 h
 cases y with
 | inl y=>
   simp only [Sum.elim_inl] at h
   obtain ⟨hy0,h⟩:=xZ2U h
   cases h
   refine (xZhm N hh hp e0 ha hb hx hy (by simpa using hy0)).mono ?_
   rintro en w' ⟨h,S',rfl,h1,h2,h3,ps⟩
   exact xZja hh ps.os ps.tape ps.output ps.old (by have:=ps.size;omega) ps.sub (fun i hi=>(ps.news i hi).imp_right fun h=>by omega) ps.sits h1 h2 h3
 | inr y=>
   simp only [Sum.elim_inr] at h
   obtain ⟨c,hc,h⟩:=Option.bind_eq_some_iff.1 h
   by_cases hc0:c=0
   ·subst hc0
    rw [show ((0:Int) != 0)=false from rfl,cond_false] at h
    cases h
    refine (xZmY N hh hp e0 ha hb hx hy hc).mono ?_
    rintro en w' ⟨v,S',rfl,hd,ps⟩
    obtain ⟨q1,q2⟩:=xZle hh ps.os ps.tape ps.output ps.old (by have:=ps.size;omega) ps.sub (fun i hi=>(ps.news i hi).imp_right fun h=>by omega) ps.sits
    refine ⟨M,S',.data (.tup _ _ rfl fun i hi=>?_),q1,q2⟩
    match i,hi with
    | 0,_=>exact hd
    | 1,_=>exact .v _
    | 2,_=>exact .v _
   ·rw [show (c != 0)=true by simpa using hc0,cond_true] at h
    cases h
    refine (xZhO N hh hp e0 ha hb hx hy hc hc0).mono ?_
    rintro en w' ⟨h,S',rfl,h1,h2,h3,ps⟩
    exact xZja hh ps.os ps.tape ps.output ps.old (by have:=ps.size;omega) ps.sub (fun i hi=>(ps.news i hi).imp_right fun h=>by omega) ps.sits h1 h2 h3
end Go.Proofs.YtahklhniofiofaaGreatDoor.E
namespace Go.Proofs.YtahklhniofiofaaGreatDoor.E
open Go
open Go.Proofs.Tryz
set_option maxRecDepth 1000000
set_option linter.unusedSimpArgs false
set_option linter.unusedVariables false
noncomputable section
noncomputable def xZ7r:Fn xZ30:=⟨f150,[],⟨[(48,5)],[],sbf,bof⟩,fun _=>[xZ26,xZ10,xZm,xZ9H,xZ4I,xZ4T],[true],none,1,0,fun _ _=>true,none,[],[]⟩
theorem xZ7D:xZ7r.Ok prog:=⟨Is.of (by kernel_rfl) (by kernel_rfl),by kernel_rfl,xZe sb_ok bo_ok,trivial,trivial,fun _=>by kernel_rfl⟩
theorem xZ7o (N:Nat):xZ30.Ok prog N:=xZ7D.give tb_ok hm N N (fun _=>⟨xZ4d N,xZ23 N,xZr N,xZcV N,xZ9w N,xZ9N N,trivial⟩) fun a r s h=>by
 exact s.main [] trivial (.trans (by kernel_rfl) h)
noncomputable def xZ6l:Fn xZ1F:=⟨f55,[],⟨[],[],sbf,bof⟩,fun _=>[xZx],[true],none,1,0,fun _ _=>true,none,[],[]⟩
theorem xZ67:xZ6l.Ok prog:=⟨Is.of (by kernel_rfl) (by kernel_rfl),by kernel_rfl,xZe sb_ok bo_ok,trivial,trivial,fun _=>by kernel_rfl⟩
theorem xZ3P (N:Nat):xZ1F.Ok prog N:=xZ67.give tb_ok hm N N (fun _=>⟨xZY N,trivial⟩) fun a r s h=>by
 exact s.main [] trivial (.trans (by kernel_rfl) h)
noncomputable def xZ5K:Fn xZ2n:=⟨f165,[],⟨[],[],sbf,bof⟩,fun _=>[xZ1F,xZm,xZK,xZ10],[true,true],none,1,0,fun _ _=>true,none,[],[]⟩
theorem xZ5M:xZ5K.Ok prog:=⟨Is.of (by kernel_rfl) (by kernel_rfl),by kernel_rfl,xZe sb_ok bo_ok,trivial,trivial,fun _=>by kernel_rfl⟩
theorem xZ5O (N:Nat):xZ2n.Ok prog N:=xZ5M.give tb_ok hm N N (fun _=>⟨xZ3P N,xZr N,xZ1h N,xZ23 N,trivial⟩) fun a r s h=>by
 exact s.main [] trivial (.trans (by kernel_rfl) h)
noncomputable def xZ6C:Fn xZ2H:=⟨f151,[],⟨[(30,5)],[],sbf,bof⟩,fun _=>[xZm,xZ2n],[true],none,1,0,fun _ _=>true,none,[],[]⟩
theorem xZ6s:xZ6C.Ok prog:=⟨Is.of (by kernel_rfl) (by kernel_rfl),by kernel_rfl,xZe sb_ok bo_ok,trivial,trivial,fun _=>by kernel_rfl⟩
theorem xZ6u (N:Nat):xZ2H.Ok prog N:=xZ6s.give tb_ok hm N N (fun _=>⟨xZr N,xZ5O N,trivial⟩) fun a r s h=>by
 exact s.main [] trivial (.trans (by kernel_rfl) h)
noncomputable def xZ5U:Fn xZ1t:=⟨f128,[],⟨[],[],sbf,bof⟩,fun _=>[],[],none,2,1,fun _ _=>true,none,[],[]⟩
theorem xZ5R:xZ5U.Ok prog:=⟨Is.of (by kernel_rfl) (by kernel_rfl),by kernel_rfl,xZe sb_ok bo_ok,trivial,trivial,fun _=>by kernel_rfl⟩
theorem xZ3C (N:Nat):xZ1t.Ok prog N:=xZ5R.give tb_ok hm N N (fun _=>trivial) fun a r s h=>by
 exact s.main [] trivial (.trans (by kernel_rfl) h)
noncomputable def xZ7h:Fn xZ1l:=⟨f53,[],⟨[],[],sbf,bof⟩,fun _=>[xZ2Y],[true],none,1,0,fun _ _=>true,none,[],[]⟩
theorem xZ4c:xZ7h.Ok prog:=⟨Is.of (by kernel_rfl) (by kernel_rfl),by kernel_rfl,xZe sb_ok bo_ok,trivial,trivial,fun _=>by kernel_rfl⟩
noncomputable def xZ7O:Fn xZ2Y:=⟨f95,[],⟨[(24,5)],[],sbf,bof⟩,fun _=>[xZ2p,xZK,xZ1t,xZm],[true],none,1,0,fun _ _=>true,none,[],[]⟩
theorem xZ4h:xZ7O.Ok prog:=⟨Is.of (by kernel_rfl) (by kernel_rfl),by kernel_rfl,xZe sb_ok bo_ok,trivial,trivial,fun _=>by kernel_rfl⟩
noncomputable def xZ64:Fn xZ2p:=⟨f96,[],⟨[],[],sbf,bof⟩,fun _=>[xZ32],[true],none,1,0,fun _ _=>true,none,[],[]⟩
theorem xZ3M:xZ64.Ok prog:=⟨Is.of (by kernel_rfl) (by kernel_rfl),by kernel_rfl,xZe sb_ok bo_ok,trivial,trivial,fun _=>by kernel_rfl⟩
noncomputable def xZ7l:Fn xZ32:=⟨f95,[],⟨[(24,5)],[],sbf,bof⟩,fun _=>[xZ2W,xZK,xZ1t,xZm],[true],none,1,0,fun _ _=>true,none,[],[]⟩
theorem xZ4e:xZ7l.Ok prog:=⟨Is.of (by kernel_rfl) (by kernel_rfl),by kernel_rfl,xZe sb_ok bo_ok,trivial,trivial,fun _=>by kernel_rfl⟩
noncomputable def xZ7n:Fn xZ2W:=⟨f129,[],⟨[],[],sbf,bof⟩,fun _=>[xZm,xZ30,xZK,xZ2H,xZx,xZ1l,xZ10],[true],none,1,0,fun _ _=>true,none,[],[]⟩
theorem xZ4b:xZ7n.Ok prog:=⟨Is.of (by kernel_rfl) (by kernel_rfl),by kernel_rfl,xZe sb_ok bo_ok,trivial,trivial,fun _=>by kernel_rfl⟩
theorem xZ3Z:∀ N,xZ1l.Ok prog N∧xZ2Y.Ok prog N∧xZ2p.Ok prog N∧xZ32.Ok prog N∧xZ2W.Ok prog N
 | 0=>⟨⟨xZ4c.is.enters,fun a r h=>by (have h:none=some r:=h;cases h)⟩,⟨xZ4h.is.enters,fun a r h=>by (have h:none=some r:=h;cases h)⟩,⟨xZ3M.is.enters,fun a r h=>by (have h:none=some r:=h;cases h)⟩,⟨xZ4e.is.enters,fun a r h=>by (have h:none=some r:=h;cases h)⟩,⟨xZ4b.is.enters,fun a r h=>by (have h:none=some r:=h;cases h)⟩⟩
 | N+1=>by
   obtain ⟨h_grammar_reader_body_v927,h_grammar_reader_list_v946,h_grammar_reader_branch_v927,h_grammar_reader_list_v624,h_grammar_reader_item_v927⟩:=xZ3Z N
   refine ⟨?_,?_,?_,?_,?_⟩
   ·exact xZ4c.give tb_ok hm N (N+1) (fun _=>⟨h_grammar_reader_list_v946,trivial⟩) fun a r s h=>by
     exact s.main [] trivial (.trans (by kernel_rfl) h)
   ·exact xZ4h.give tb_ok hm N (N+1) (fun _=>⟨h_grammar_reader_branch_v927,xZ1h N,xZ3C N,xZr N,trivial⟩) fun a r s h=>by
     have l0:=s.loop 0 xZ1H (xZ3G N) N fun next0 h0=>by
      exact fun c v=>s.seg 0 xZ1H [(0,.of xZ1H next0)] ⟨h0,trivial⟩ (by kernel_rfl) (by kernel_rfl)
     exact s.main [(0,.of xZ1H (xZ6c N))] ⟨l0,trivial⟩ (.trans (by kernel_rfl) h)
   ·exact xZ3M.give tb_ok hm N (N+1) (fun _=>⟨h_grammar_reader_list_v624,trivial⟩) fun a r s h=>by
     exact s.main [] trivial (.trans (by kernel_rfl) h)
   ·exact xZ4e.give tb_ok hm N (N+1) (fun _=>⟨h_grammar_reader_item_v927,xZ1h N,xZ3C N,xZr N,trivial⟩) fun a r s h=>by
     have l0:=s.loop 0 xZ1G (xZ3K N) N fun next0 h0=>by
      exact fun c v=>s.seg 0 xZ1G [(0,.of xZ1G next0)] ⟨h0,trivial⟩ (by kernel_rfl) (by kernel_rfl)
     exact s.main [(0,.of xZ1G (xZ6i N))] ⟨l0,trivial⟩ (.trans (by kernel_rfl) h)
   ·exact xZ4b.give tb_ok hm N (N+1) (fun _=>⟨xZr N,xZ7o N,xZ1h N,xZ6u N,xZY N,h_grammar_reader_body_v927,xZ23 N,trivial⟩) fun a r s h=>by
     exact s.main [] trivial (.trans (by kernel_rfl) h)
theorem xZ7C (N:Nat):xZ1l.Ok prog N:=(xZ3Z N).1
noncomputable def xZfq:Fn xZ6n:=⟨f46,[],⟨[],[],sbf,bof⟩,fun _=>[],[true],none,0,0,fun _ _=>true,none,[],[]⟩
theorem xZg6:xZfq.Ok prog:=⟨Is.of (by kernel_rfl) (by kernel_rfl),by kernel_rfl,xZe sb_ok bo_ok,trivial,trivial,fun _=>by kernel_rfl⟩
theorem xZa9 (N:Nat):xZ6n.Ok prog N:=xZg6.give tb_ok hm N N (fun _=>trivial) fun a r s h=>by
 exact s.main [] trivial (.trans (by kernel_rfl) h)
noncomputable def xZ7k:Fn xZ2V:=⟨f58,[],⟨[],[],sbf,bof⟩,fun _=>[xZ6n,xZm,xZx],[true],none,1,0,fun _ _=>true,none,[],[]⟩
theorem xZ7G:xZ7k.Ok prog:=⟨Is.of (by kernel_rfl) (by kernel_rfl),by kernel_rfl,xZe sb_ok bo_ok,trivial,trivial,fun _=>by kernel_rfl⟩
theorem xZ7J (N:Nat):xZ2V.Ok prog N:=xZ7G.give tb_ok hm N N (fun _=>⟨xZa9 N,xZr N,xZY N,trivial⟩) fun a r s h=>by
 have l0:=s.loop 0 xZ1z (xZ3F N) N fun next0 h0=>by
  exact fun c v=>s.seg 0 xZ1z [(0,.of xZ1z next0)] ⟨h0,trivial⟩ (by kernel_rfl) (by kernel_rfl)
 exact s.main [(0,.of xZ1z (xZ6k N))] ⟨l0,trivial⟩ (.trans (by kernel_rfl) h)
end
end Go.Proofs.YtahklhniofiofaaGreatDoor.E
namespace Go.Proofs.YtahklhniofiofaaGreatDoor.E
open Go
open Go.Proofs.Tryz
set_option maxRecDepth 1000000
set_option linter.unusedSimpArgs false
set_option linter.unusedVariables false
noncomputable section
noncomputable def xZH:Fn xZ3:=⟨fB22,[],⟨[],[],sbf,bof⟩,fun _=>[xZ1l,xZ10,xZ1F,xZm,xZ26,xZ2V,xZx],[true,false],none,1,0,(fun e H=>match lk e 2,lk e 3,H.box with | .ptr 1 0,.ptr 2 0,_::[_,_,_,_]::[_]::_=>true | _,_,_=>false),none,[],[]⟩
theorem xZ2f:xZH.Ok0 prog:=⟨by kernel_rfl,xZe sb_ok bo_ok,trivial,trivial,fun _=>by kernel_rfl⟩
theorem xZ5C (N:Nat):∀ f,conOk prog N (xZH.con f):=fun _=>⟨xZ7C N,xZ23 N,xZ3P N,xZr N,xZ4d N,xZ7J N,xZY N,trivial⟩
end
end Go.Proofs.YtahklhniofiofaaGreatDoor.E
set_option linter.unusedVariables false
set_option linter.unusedSimpArgs false
namespace Go.Proofs.YtahklhniofiofaaGreatDoor.E
open Go Go.RowKit Go.Proofs.Tryz
set_option maxHeartbeats 4000000
set_option maxRecDepth 1000000
theorem xZlH {P:Program} {ds:List Deferred} {b:Frame} {k:List Item} {a:Act} {w:World} {R:Array Value→Ending→World→Prop} {ops:Array Oper} {id:Nat} {a':Act} {w':World}
 (h:wpOps P ops (fun e a2 w2=>e=.normal∧a2=a'∧w2=w') (List.range ops.size) a w) (hf:Fin' P ds b k a' w' R):Fin' P ds b (.code (.region id ops false)::k) a w R:=
 Fin'.step (fun cs=>step_region) (fun cs=>by
  obtain ⟨e,a2,w2,⟨rfl,rfl,rfl⟩,har⟩:=wp_ops _ a w h b k cs
  obtain ⟨e,w',fr,r,c,x⟩:=hf cs
  exact ⟨e,w',fr,r,c.of_steps har,x⟩)
def gpA:Array Oper:=#[⟨some 2,.alloc 25,0, "grammar.go:176",#[],none⟩,⟨some 3,.alloc 27,0, "grammar.go:176",#[],none⟩]
def gpB:Array Oper:=#[⟨some 4,.makeFunc (.func 52) #[] #[.tmp 2,.tmp 3],1, "grammar.go:177",#[],none⟩,⟨none,.defer ⟨.value (.tmp 4),#[],#[]⟩,0, "grammar.go:177",#[⟨0,.data⟩],none⟩]
noncomputable def gpR:Code:=match f22.body with
 | some (.seq _ (.seq _ r))=>r
 | _=>.skip
theorem xZp6:f22.body=some (.seq (.region 0 gpA false) (.seq (.region 1 gpB false) gpR)):=by kernel_rfl
theorem gp_A (tm:Array Value) (w:World):wpOps Tryz.prog gpA (fun e a2 w2=>e=.normal∧a2=⟨(tm.setIfInBounds 2 (.pointer (some ⟨w.heap.size,0,none⟩))).setIfInBounds 3 (.pointer (some ⟨w.heap.size+1,0,none⟩)),[]⟩∧
 w2=(w.alloc (.cells #[.slice none 0 0,.int .i64 0,.string ⟨#[]⟩,.int .u8 0] 25)).alloc (.cells #[.nilIface] 27)) (List.range gpA.size) ⟨tm,[]⟩ w:=by
 have z1:(zeroValue 25).run Tryz.prog w=.ok (.agg #[.slice none 0 0,.int .i64 0,.string ⟨#[]⟩,.int .u8 0]) w:=Tryz.zeroValue25 w
 simp [gpA,wpOps,go_sem,z1,List.range,List.range.loop]
theorem gp_B (tm:Array Value) (w:World) (p q:Value) (h4:4 < tm.size) (h2:tm.getD 2 undef=p) (h3:tm.getD 3 undef=q):wpOps Tryz.prog gpB (fun e a2 w2=>e=.normal∧a2=⟨tm.setIfInBounds 4 (.func (.func 52) #[] #[p,q]),[⟨.fn (.func 52) #[p,q],#[]⟩]⟩∧w2=w) (List.range gpB.size) ⟨tm,[]⟩ w:=by
 have hmf:∀ (fn:Go.Fn) (first cap:Array Value) (w:World),(Instr.makeFunc fn first cap).run Tryz.prog w=.ok (.func fn first cap) w:=fun _ _ _ _=>rfl
 simp [gpB,wpOps,go_sem,hmf,List.range,List.range.loop,h2,h3]
 refine .inl (.inl ?_)
 simp [h4,go_sem,Oper.upon]
theorem xZoQ (w:World):(Instr.typeAssert .nilIface 20 84 true).run Tryz.prog w=.ok (.tuple #[.pointer none,.bool false]) w:=by
 obtain ⟨z,hz⟩:∃ z,cTa Tryz.prog 84=some z:=⟨.v (.pointer none),by kernel_rfl⟩
 obtain ⟨⟨d,hd,hn⟩,i,zv,hi,hzv,rfl⟩:=xZak hz
 have hv:(zeroValue 84).run Tryz.prog w=.ok (.pointer none) w:=Tryz.zeroValue84 w
 simp only [Instr.typeAssert,Sem.run_bind,run_underlying hd,Result.andThen_ok]
 cases d<;>first | exact absurd rfl (hn _) | (simp only [if_true,Sem.run_bind,Sem.run_pure,hv,Result.andThen_ok])
theorem xZom (x:Value) (w:World):(Instr.typeAssert (.iface 84 x) 20 84 true).run Tryz.prog w=.ok (.tuple #[x,.bool true]) w:=by
 obtain ⟨z,hz⟩:∃ z,cTa Tryz.prog 84=some z:=⟨.v (.pointer none),by kernel_rfl⟩
 obtain ⟨⟨d,hd,hn⟩,i,zv,hi,hzv,rfl⟩:=xZak hz
 simp only [Instr.typeAssert,Sem.run_bind,run_underlying hd,Result.andThen_ok]
 cases d<;>first | exact absurd rfl (hn _) | rfl | simp [Sem.run_bind,Sem.run_pure]
theorem xZhk (p q:Addr) (w:World):CallsD Tryz.prog 52 #[.pointer (some p),.pointer (some q)] .returning w fun e u' w'=>
 e=.returned (.tuple #[])∧u'=.returning∧w'=w:=by
 refine callsD_of_wpS Tryz.func52 rfl fun c₀ cs hu=>?_
 simp only [Tryz.ntmps52,List.size_toArray,List.length_cons,List.length_nil,Nat.reduceAdd,Nat.reduceSub,Array.replicate_succ,
  Array.replicate_zero,List.push_toArray,List.append_toArray,List.nil_append,List.cons_append]
 apply wpS_seq
 apply wpS_region
 simp [wpOpsS,go_sem,recoverD,hu,Exit.thenS,xZoQ]
 refine wpS_of_wp ?_
 go_wp2
 exact ⟨rfl,_,(by rw [← hu]),_,results_none rfl _ _ _,rfl,rfl,rfl⟩
theorem xZcD (g g':Nat) (x:Value) (a b c d e:Value) (ta tb:TypeId) (older:List PanicEntry) (w:World) (h0:w.heap[g]?=some (.cells #[a,b,c,d] ta (0,0))) (h1:w.heap[g']?=some (.cells #[e] tb (0,0))) (hne:g≠g'):
 CallsD Tryz.prog 52 #[.pointer (some ⟨g,0,none⟩),.pointer (some ⟨g',0,none⟩)] (.panicking ({ v:=.iface 84 x,recovered:=false }::older)) w fun en u' w'=>
 en=.returned (.tuple #[])∧u'=.panicking ({ v:=.iface 84 x,recovered:=true }::older)∧
  w'.os=w.os∧w'.tape=w.tape∧w'.output=w.output∧w'.heap.size=w.heap.size∧(∀ i,i≠g→i≠g'→w'.heap[i]?=w.heap[i]?)∧
  w'.heap[g]?=some (.cells #[.slice none 0 0,.int .i64 0,.string ⟨#[]⟩,.int .u8 0] ta (0,0))∧w'.heap[g']?=some (.cells #[.iface 84 x] tb (0,0)):=by
 have g0:g < w.heap.size:=(Array.getElem?_eq_some_iff.1 h0).1
 have g1:g' < w.heap.size:=(Array.getElem?_eq_some_iff.1 h1).1
 have c0:w.cell? ⟨g,0,none⟩=some a:=by simp [World.cell?,h0]
 have c1:w.cell? ⟨g,1,none⟩=some b:=by simp [World.cell?,h0]
 have c2:w.cell? ⟨g,2,none⟩=some c:=by simp [World.cell?,h0]
 have c3:w.cell? ⟨g,3,none⟩=some d:=by simp [World.cell?,h0]
 have c4:w.cell? ⟨g',0,none⟩=some e:=by simp [World.cell?,h1]
 have f0:w.frozen? ⟨g,0,none⟩=false:=by simp [World.frozen?,h0]
 have f1:w.frozen? ⟨g,1,none⟩=false:=by simp [World.frozen?,h0]
 have f2:w.frozen? ⟨g,2,none⟩=false:=by simp [World.frozen?,h0]
 have f3:w.frozen? ⟨g,3,none⟩=false:=by simp [World.frozen?,h0]
 have f4:w.frozen? ⟨g',0,none⟩=false:=by simp [World.frozen?,h1]
 refine callsD_of_wpS Tryz.func52 rfl fun c₀ cs hu=>?_
 simp only [Tryz.ntmps52,List.size_toArray,List.length_cons,List.length_nil,Nat.reduceAdd,Nat.reduceSub,Array.replicate_succ,
  Array.replicate_zero,List.push_toArray,List.append_toArray,List.nil_append,List.cons_append]
 apply wpS_seq
 apply wpS_region
 simp [wpOpsS,go_sem,recoverD,hu,Exit.thenS,xZom]
 refine wpS_of_wp ?_
 go_wp2
 refine ⟨rfl,_,rfl,_,results_none rfl _ _ _,rfl,rfl,rfl,rfl,rfl,by simp,fun i hi hi'=>?_,?_,?_⟩
 ·rw [heap_setCell_other _ _ _ _ hi',heap_setCell_other _ _ _ _ hi,heap_setCell_other _ _ _ _ hi,heap_setCell_other _ _ _ _ hi,heap_setCell_other _ _ _ _ hi]
 ·rw [heap_setCell_other _ _ _ _ hne,heap_setCell_same _ _ _ _ _ _ (heap_setCell_same _ _ _ _ _ _ (heap_setCell_same _ _ _ _ _ _ (heap_setCell_same _ _ _ _ _ _ h0)))];rfl
 ·rw [heap_setCell_same _ _ _ _ _ _ (by rw [heap_setCell_other _ _ _ _ (Ne.symm hne),heap_setCell_other _ _ _ _ (Ne.symm hne),heap_setCell_other _ _ _ _ (Ne.symm hne),heap_setCell_other _ _ _ _ (Ne.symm hne)];exact h1)];rfl
theorem xZk4 {Hin H' H1:AH} {e r:AE} {M0 M1:Maps} {S0 S1:Nat→Prop} {w0 w':World} {en:Ending} (hp:PostQ0 Hin e H' r H1) (hend:EndRep M1 S1 w' en r) (hh1:RelH M1 S1 H1 w') (hf1:Frm M0 S0 Hin w0 M1 S1 H1 w'):
 ∃ M' S',EndRep M' S' w' en e∧RelH M' S' H' w'∧Frm M0 S0 Hin w0 M' S' H' w'∧∀ b,b < H1.box.length→¬ S' (M1.box b):=by
 obtain ⟨fs,rb,rt,kb,kt,hle,hre⟩:=hp
 obtain ⟨S2,hh2,hf2⟩:=RelH.freezes (H:=H1) fs (S:=S1) (buf:=H1.buf) hh1
 obtain ⟨hh3,hfoot⟩:=RelH.ren (H:=frzH H1 fs) hh2 hle
 refine ⟨M1.ren rb rt,S2,?_,hh3,xZhV hf1 hf2 kb kt hfoot,fun b hb=>(hh2.box b hb).un⟩
 cases en with
 | returned v=>
   cases r with
   | ret x=>
     cases e with
     | ret y=>exact xZbC (H:=frzH H1 fs) hh2 (VRep.mono hf2.sub hf2.stab hf2.le hend) hre
     | pan y=>exact hre.elim
   | pan x=>exact hend.elim
 | panicked ch=>
   cases r with
   | ret x=>exact hend.elim
   | pan x=>
     cases e with
     | ret y=>exact hre.elim
     | pan y=>
       obtain ⟨v,hv,hx⟩:=hend
       exact ⟨v,hv,xZbC (H:=frzH H1 fs) hh2 (VRep.mono hf2.sub hf2.stab hf2.le hx) hre⟩
 | outgrown=>cases r<;>exact hend.elim
theorem xZk8 {Hin H' H1:AH} {e r:AE} {M0 M1:Maps} {S0 S1:Nat→Prop} {w0 w':World} {en:Ending} (hq:PostW Hin e H' r H1) (hend:EndRep M1 S1 w' en r) (hh1:RelH M1 S1 H1 w') (hf1:Frm M0 S0 Hin w0 M1 S1 H1 w'):
 ∃ M' S',EndRep M' S' w' en e∧RelH M' S' H' w'∧Frm M0 S0 Hin w0 M' S' H' w'∧((∃ p,r=.pan p)→∀ b,b < H1.box.length→¬ S' (M1.box b)):=by
 obtain ⟨e2,H2,hq,hl1,hl2⟩:=hq
 have key:(∃ M' S',EndRep M' S' w' en e2∧RelH M' S' H2 w'∧Frm M0 S0 Hin w0 M' S' H2 w'∧((∃ p,r=.pan p)→∀ b,b < H1.box.length→¬ S' (M1.box b))):=by
  rcases hq with hq | ⟨rfl,m,hq⟩
  ·obtain ⟨M',S',k1,k2,k3,k4⟩:=xZk4 hq hend hh1 hf1
   exact ⟨M',S',k1,k2,k3,fun _=>k4⟩
  ·cases en with
   | returned v=>
     obtain ⟨h1,h2,h3⟩:=xZ9v hh1 (xZf0 hend) m
     obtain ⟨M',S',k1,k2,k3⟩:=xZcq hq (en:=.returned v) h3 h1 (hf1.trans h2)
     exact ⟨M',S',k1,k2,k3,fun ⟨p,hp⟩=>by cases hp⟩
   | panicked ch=>exact hend.elim
   | outgrown=>exact hend.elim
 obtain ⟨M',S',k1,k2,k3,k4⟩:=key
 exact ⟨M',S',xZgR k1 hl1,k2.lw hl2,k3.lwR hl2,k4⟩
theorem xZhN {M0 M:Maps} {S0 S:Nat→Prop} {Hin H:AH} {w0 w w':World} {g g':Nat} (hh:RelH M S H w) (hf:Frm M0 S0 Hin w0 M S H w) (ho:w'.os=w.os) (ht:w'.tape=w.tape) (hu:w'.output=w.output) (hz:w'.heap.size=w.heap.size)
 (hk:∀ i,i≠g→i≠g'→w'.heap[i]?=w.heap[i]?) (s1:¬ S g) (s2:¬ S g') (f1:¬ foot M H g) (f2:¬ foot M H g') (n1:w0.heap.size≤g) (n2:w0.heap.size≤g'):
 RelH M S H w'∧Frm M0 S0 Hin w0 M S H w'∧∀ i,S i→w'.heap[i]?=w.heap[i]?:=by
 have hs:∀ i,S i→w'.heap[i]?=w.heap[i]?:=fun i hi=>hk i (fun e=>s1 (e ▸ hi)) (fun e=>s2 (e ▸ hi))
 have hft:∀ i,foot M H i→w'.heap[i]?=w.heap[i]?:=fun i hi=>hk i (fun e=>f1 (e ▸ hi)) (fun e=>f2 (e ▸ hi))
 refine ⟨hh.keep (by omega) hs hft,⟨hf.wnb,hf.wnt,ho.trans hf.os,ht.trans hf.tape,hu.trans hf.output,by rw [hz];exact hf.size,hf.sub,fun i hi=>(hs i (hf.sub i hi)).trans (hf.stab i hi),fun i hi hn=>(hk i (by omega) (by omega)).trans (hf.old i hi hn),hf.le,hf.news,hf.newf⟩,hs⟩
noncomputable def gpS:SC:=match bd prog fB22 with
 | .seq _ b=>b
 | c=>c
theorem xZnP:comp prog false gpR=some gpS:=by kernel_rfl
def gpP:List AV:=[.emp,.v (.int .i64 0),.v (.string ⟨#[]⟩),.v (.int .u8 0)]
def gpE:List AV:=[.v .nilIface]
abbrev gpIn (y:List xZ0) (y2 y3:Int):xZ3.A:=(((),()),((y,y2,y3,()),()),())
noncomputable def gpEnv (y:List xZ0) (y2 y3:Int):SE T:=(4,.raw .any)::(3,.ptr 2 0)::(2,.ptr 1 0)::argE (xZ3.inn (gpIn y y2 y3)).1
noncomputable def gpHeap (y:List xZ0) (y2 y3:Int):BH T:=⟨(xZ3.inn (gpIn y y2 y3)).2.box++[gpP.map cbv1]++[gpE.map cbv1],(xZ3.inn (gpIn y y2 y3)).2.buf⟩
theorem xZqL (N:Nat) (y:List xZ0) (y2 y3:Int) {x:xZ3.R} (hx:xZf N y y2 y3=some x):
 sx (xZH.set prog N []) 995 [.c gpS] (gpEnv y y2 y3) (gpHeap y y2 y3)=some x:=.trans (by kernel_rfl) hx
theorem xZqO:idsOk [] gpS=true:=by kernel_rfl
def gpQ (y:List xZ0) (y2 y3:Int) (x:xZ3.R) (t:List AV) (e:AE) (H:AH):Prop:=PostW ((xZ3.inn (gpIn y y2 y3)).2.av tb) (aeA ((xZ3.o.enc x).1.av tb)) ((xZ3.o.enc x).2.av tb) e H∧((∃ p,e=.pan p)→t.getD 2 .any=.ptr 1 0∧t.getD 3 .any=.ptr 2 0∧(H.box.getD 1 []).length=4∧(H.box.getD 2 []).length=1)
noncomputable def gpX (y:List xZ0) (y2 y3:Int) (x:xZ3.R) (d:Deferred):Ctx:=⟨prog,22,f22,resOf prog fB22,(gpHeap y y2 y3).av tb,gpQ y y2 y3 x,[d]⟩
theorem gp_ok (y:List xZ0) (y2 y3:Int) (x:xZ3.R) (d:Deferred):(gpX y y2 y3 x d).ok:=⟨func22,by kernel_rfl,hm⟩
theorem gp_kt {e:SE T} {H:BH T} {t:List AV} (hr:RelE tb e t 34) (h:xZH.kt e H=true):t.getD 2 .any=.ptr 1 0∧t.getD 3 .any=.ptr 2 0∧((H.av tb).box.getD 1 []).length=4∧((H.av tb).box.getD 2 []).length=1:=by
 obtain ⟨hb,hbuf⟩:=H
 simp only [xZH] at h
 split at h
 ·rename_i h2 h3
  exact ⟨by rw [hr.get,h2];rfl,by rw [hr.get,h3];rfl,rfl,rfl⟩
 ·cases h
theorem gp_sx (N:Nat) (y:List xZ0) (y2 y3:Int) (x:xZ3.R) (d:Deferred):SxOk (gpX y y2 y3 x d) (stkO [] gpS) (xZH.set prog N []) x:=
 ⟨tb_ok,rfl,rfl,.inl rfl,⟨_,by kernel_rfl,by kernel_rfl,fun t a H hk _ hp=>⟨hp,fun hpan=>by
   obtain ⟨e,Hb,h1,rfl,h2⟩:=hk hpan
   exact gp_kt h1 h2⟩⟩,fun f=>xZeo (xZ5C N f),(xZ2f).hint,(xZ2f).mks,(xZ2f).ex,(fun id L hL=>by cases hL),.inl rfl⟩
theorem xZmk (N:Nat) (y:List xZ0) (y2 y3:Int) (x:xZ3.R) (d:Deferred) (hx:xZf N y y2 y3=some x) {t:List AV} (ht:RelE tb (gpEnv y y2 y3) t 34):go (gpX y y2 y3 x d) [.c gpS] t ((gpHeap y y2 y3).av tb):=
 sx_ok (gp_sx N y y2 y3 x d) 995 _ _ _ _ ht (xZif xZqO) (xZqL N y y2 y3 hx)
theorem xZqV {y:List xZ0} {y2 y3:Int}:RelE tb (gpEnv y y2 y3) (putT (putT (putT (SE.av tb 34 (argE (xZ3.inn (gpIn y y2 y3)).1)) (some 2) (.ptr 1 0)) (some 3) (.ptr 2 0)) (some 4) .any) 34:=by
 have h0:RelE tb (argE (xZ3.inn (gpIn y y2 y3)).1) (SE.av tb 34 (argE (xZ3.inn (gpIn y y2 y3)).1)) 34:=RelE.of (ks:=[0]) rfl rfl
 exact ((h0.put (d:=some 2) rfl (.ptr 1 0)).put (d:=some 3) rfl (.ptr 2 0)).put (d:=some 4) rfl (.raw .any)
theorem xZmV {M:Maps} {S:Nat→Prop} {w:World} {v:Value} (hv:VRep M S w v (.ptr 0 0)) (y:List xZ0) (y2 y3:Int):RelT M S w (SE.av tb 34 (argE (xZ3.inn (gpIn y y2 y3)).1)) (#[v]++Array.replicate 33 undef):=by
 have h0:RelE tb (argE (xZ3.inn (gpIn y y2 y3)).1) (SE.av tb 34 (argE (xZ3.inn (gpIn y y2 y3)).1)) 34:=RelE.of (ks:=[0]) rfl rfl
 generalize SE.av tb 34 (argE (xZ3.inn (gpIn y y2 y3)).1)=t at *
 refine ⟨by rw [h0.len];simp,fun i hi=>?_⟩
 rw [h0.get]
 cases i with
 | zero=>
   show VRep M S w ((#[v]++Array.replicate 33 undef).getD 0 undef) (.ptr 0 0)
   have e:(#[v]++Array.replicate 33 undef).getD 0 undef=v:=by simp [Array.getD]
   rw [e];exact hv
 | succ i=>
   show VRep M S w _ .any
   exact .data (.any _)
abbrev gpHin (y:List xZ0) (y2 y3:Int):AH:=(xZ3.inn (gpIn y y2 y3)).2.av tb
def gpW (w:World):World:=(w.alloc (.cells #[.slice none 0 0,.int .i64 0,.string ⟨#[]⟩,.int .u8 0] 25)).alloc (.cells #[.nilIface] 27)
def gpM (M:Maps) (w:World):Maps:=(M.addBox w.heap.size).addBox (w.heap.size+1)
theorem xZi4 {M:Maps} {S:Nat→Prop} {w:World} {y:List xZ0} {y2 y3:Int} (hh:RelH M S (gpHin y y2 y3) w):
 RelH (gpM M w) S ((gpHeap y y2 y3).av tb) (gpW w)∧Frm M S (gpHin y y2 y3) w (gpM M w) S ((gpHeap y y2 y3).av tb) (gpW w)∧(gpM M w).box 1=w.heap.size∧(gpM M w).box 2=w.heap.size+1∧(gpM M w).nb=3:=by
 have hnb:M.nb=1:=hh.nb
 have g1:=Grew.alloc w (.cells #[.slice none 0 0,.int .i64 0,.string ⟨#[]⟩,.int .u8 0] 25)
 have b1:(w.alloc (.cells #[.slice none 0 0,.int .i64 0,.string ⟨#[]⟩,.int .u8 0] 25)).heap[w.heap.size]?=some (.cells #[.slice none 0 0,.int .i64 0,.string ⟨#[]⟩,.int .u8 0] 25 (0,0)):=xZ3w _ _
 have r1:=hh.addBox g1 (Nat.le_refl _) b1 (cs:=gpP) rfl rfl (fun i hi=>by
  match i,hi with
  | 0,_=>exact .data (.emp none)
  | 1,_=>exact .data (.v _)
  | 2,_=>exact .data (.v _)
  | 3,_=>exact .data (.v _))
 have f1:=Frm.addBox (cs:=gpP) hh g1 (Nat.le_refl _)
 have hz:(w.alloc (.cells #[.slice none 0 0,.int .i64 0,.string ⟨#[]⟩,.int .u8 0] 25)).heap.size=w.heap.size+1:=by simp
 have g2:=Grew.alloc (w.alloc (.cells #[.slice none 0 0,.int .i64 0,.string ⟨#[]⟩,.int .u8 0] 25)) (.cells #[.nilIface] 27)
 have b2:(gpW w).heap[w.heap.size+1]?=some (.cells #[.nilIface] 27 (0,0)):=by rw [← hz];exact xZ3w _ _
 have r2:=r1.addBox g2 (g:=w.heap.size+1) (by rw [hz];exact Nat.le_refl _) b2 (cs:=gpE) rfl rfl (fun i hi=>by
  match i,hi with
  | 0,_=>exact .data (.v _))
 have f2:=Frm.addBox (cs:=gpE) (g:=w.heap.size+1) r1 g2 (by rw [hz];exact Nat.le_refl _)
 refine ⟨r2,f1.trans f2,?_,?_,?_⟩
 ·simp [gpM,Maps.addBox,hnb]
 ·simp [gpM,Maps.addBox,hnb]
 ·simp [gpM,Maps.addBox,hnb]
theorem xZqI (N:Nat) {M:Maps} {S:Nat→Prop} {w:World} {y:List xZ0} {y2 y3:Int} {x:xZ3.R} {v:Value} (hx:xZf N y y2 y3=some x) (hh:RelH M S (gpHin y y2 y3) w) (hp:Prot prog M (gpHin y y2 y3) w) (hv:VRep M S w v (.ptr 0 0)) {b:Frame} (hb:b.fn=22) (hbk:b.kind=.normal):
 Fin' prog [⟨.fn (.func 52) #[.pointer (some ⟨w.heap.size,0,none⟩),.pointer (some ⟨w.heap.size+1,0,none⟩)],#[]⟩] b [.code (.seq (.region 0 gpA false) (.seq (.region 1 gpB false) gpR))] ⟨#[v]++Array.replicate 33 undef,[]⟩ w (Post (gpQ y y2 y3 x) ((gpHeap y y2 y3).av tb) (gpM M w) S (gpW w)):=by
 obtain ⟨r1,f1,e1,e2,e3⟩:=xZi4 hh
 have ht0:=(xZmV hv y y2 y3).mono f1
 have hp1:=hp.frm f1
 have p1:VRep (gpM M w) S (gpW w) (.pointer (some ⟨w.heap.size,0,none⟩)) (.ptr 1 0):=by
  have:=VRep.ptr (M:=gpM M w) (S:=S) (w:=gpW w) 1 0 (by omega)
  rwa [e1] at this
 have p2:VRep (gpM M w) S (gpW w) (.pointer (some ⟨w.heap.size+1,0,none⟩)) (.ptr 2 0):=by
  have:=VRep.ptr (M:=gpM M w) (S:=S) (w:=gpW w) 2 0 (by omega)
  rwa [e2] at this
 have ht1:=RelT.put (a:=⟨#[v]++Array.replicate 33 undef,[]⟩) ht0 (some 2) p1
 have ht2:=RelT.put (a:=Act.put ⟨#[v]++Array.replicate 33 undef,[]⟩ (some 2) (.pointer (some ⟨w.heap.size,0,none⟩))) ht1 (some 3) p2
 have hrun:=xZmk N y y2 y3 x ⟨.fn (.func 52) #[.pointer (some ⟨w.heap.size,0,none⟩),.pointer (some ⟨w.heap.size+1,0,none⟩)],#[]⟩ hx xZqV
 have hsz:(#[v]++Array.replicate 33 undef).size=34:=by simp
 generalize (#[v]++Array.replicate 33 undef)=tm at *
 generalize SE.av tb 34 (argE (xZ3.inn (gpIn y y2 y3)).1)=t0 at *
 refine Fin'.step (fun cs=>step_seq) (xZlH (gp_A tm w) (Fin'.step (fun cs=>step_seq) (xZlH (gp_B _ _ (.pointer (some ⟨w.heap.size,0,none⟩)) (.pointer (some ⟨w.heap.size+1,0,none⟩)) ?_ ?_ ?_) ?_)))
 ·simp [hsz]
 ·simp [hsz,Array.getD]
 ·simp [hsz,Array.getD]
 ·have ht3:=RelT.put (a:=Act.put (Act.put ⟨tm,[]⟩ (some 2) (.pointer (some ⟨w.heap.size,0,none⟩))) (some 3) (.pointer (some ⟨w.heap.size+1,0,none⟩))) ht2 (some 4) (v:=.func (.func 52) #[] #[.pointer (some ⟨w.heap.size,0,none⟩),.pointer (some ⟨w.heap.size+1,0,none⟩)]) (r:=.any) (.data (.any _))
  exact xZaF hrun (gp_ok y y2 y3 x _) (gpM M w) S (gpW w) hp1 (gpM M w) S ⟨((tm.setIfInBounds 2 (.pointer (some ⟨w.heap.size,0,none⟩))).setIfInBounds 3 (.pointer (some ⟨w.heap.size+1,0,none⟩))).setIfInBounds 4 (.func (.func 52) #[] #[.pointer (some ⟨w.heap.size,0,none⟩),.pointer (some ⟨w.heap.size+1,0,none⟩)]),[⟨.fn (.func 52) #[.pointer (some ⟨w.heap.size,0,none⟩),.pointer (some ⟨w.heap.size+1,0,none⟩)],#[]⟩]⟩ (gpW w) [.code gpR] (.code false xZnP .nil) (Frm.refl r1) ht3 r1 rfl b hb hbk
theorem xZpb {M:Maps} {S:Nat→Prop} {w:World} {v:Value} {t:TypeId} {a:AV} {cs:List AV} (ha:a=.dptr cs) (h:VRep M S w v (.ifc t a)):∃ u,v=.iface t u∧DRep S w u a:=by
 cases h with
 | data h=>cases h with | ifc _ u _ h=>exact ⟨u,rfl,h⟩
 | ifc _ u _ h=>subst ha;cases h with | data h=>exact ⟨u,rfl,h⟩
theorem xZlz {M:Maps} {S:Nat→Prop} {w:World} {v:Value} {b o:Nat} (h:VRep M S w v (.ptr b o)):v=.pointer (some ⟨M.box b,o,none⟩):=by
 cases h with
 | data h=>cases h
 | ptr=>rfl
theorem xZju (tm:Array Value) (w:World) (g g':Nat) (a b c d e:Value) (ta tb':TypeId) (h2:tm.getD 2 undef=.pointer (some ⟨g,0,none⟩)) (h3:tm.getD 3 undef=.pointer (some ⟨g',0,none⟩)) (h0:w.heap[g]?=some (.cells #[a,b,c,d] ta (0,0))) (h1:w.heap[g']?=some (.cells #[e] tb' (0,0))):
 (results f22 tm).run prog w=.ok (.tuple #[.agg #[a,b,c,d],e]) w:=by
 have c0:w.cell? ⟨g,0,none⟩=some a:=by simp [World.cell?,h0]
 have c1:w.cell? ⟨g,1,none⟩=some b:=by simp [World.cell?,h0]
 have c2:w.cell? ⟨g,2,none⟩=some c:=by simp [World.cell?,h0]
 have c3:w.cell? ⟨g,3,none⟩=some d:=by simp [World.cell?,h0]
 have c4:w.cell? ⟨g',0,none⟩=some e:=by simp [World.cell?,h1]
 rw [Array.getD_eq_getD_getElem?] at h2 h3
 simp [results,Tryz.results22,go_sem,h2,h3,c0,c1,c2,c3,c4]
theorem xZ5S (N:Nat):xZp.Ok prog N:=by
 refine ⟨⟨f22,func22,by kernel_rfl,by kernel_rfl⟩,fun a r h=>?_⟩
 obtain ⟨⟨⟨⟩,⟨⟩⟩,⟨⟨y,y2,y3,⟨⟩⟩,⟨⟩⟩,⟨⟩⟩:=a
 have h:xZ13 N y y2 y3=some r:=h
 obtain ⟨x,hx,h⟩:=Option.bind_eq_some_iff.1 h
 intro M S w vs hh hp hsz hrep cs
 obtain ⟨v0,rfl⟩:∃ v,vs=#[v]:=by
  match vs,hsz with
  | ⟨[v]⟩,_=>exact ⟨v,rfl⟩
 have hv:VRep M S w v0 (.ptr 0 0):=hrep 0 (by decide:0 < 1)
 have hh:RelH M S (gpHin y y2 y3) w:=hh
 have hp:Prot prog M (gpHin y y2 y3) w:=hp
 have hfin:=xZqI N hx hh hp hv (b:={ (default:Frame) with fn:=22,kind:=.normal }) rfl rfl cs
 obtain ⟨e,w',fr,⟨t,r',Hf,Mf,Sf,⟨hq,hkt⟩,hT,hend,hhf,hff⟩,hcm,hfn,hlv⟩:=hfin
 have henter:Frame.enter prog 22 #[v0] .normal=({ (default:Frame) with fn:=22,kind:=.normal }:Frame).at ⟨#[v0]++Array.replicate 33 undef,[]⟩ [.code (.seq (.region 0 gpA false) (.seq (.region 1 gpB false) gpR))]:=by
  simp [Frame.enter,Frame.at,Tryz.func22,Tryz.ntmps22,xZp6]
 show ∃ e w' fr,_∧Comes prog (lone (Frame.enter prog 22 #[v0] .normal) cs w) (lone fr cs w') e∧_∧_
 rw [henter]
 obtain ⟨r1,f1,e1,e2,e3⟩:=xZi4 hh
 have hall:=f1.trans hff
 obtain ⟨M',S',k1,k2,k3,k4⟩:=xZk8 hq hend hhf hall
 have hfn':prog.funcs[fr.fn]?=some f22:=by rw [hfn];exact func22
 cases x with
 | inl p=>
   obtain rfl:r=.inl p:=(Option.some.inj h).symm
   cases e with
   | returned v=>
     obtain ⟨hm1,hd,hk,fn,hf1,hres⟩:=hlv
     obtain rfl:fn=f22:=Option.some.inj (hf1.symm.trans hfn')
     have hL:Leaves prog f22 fr.tmps (fun e w'=>∃ M' S',EndRep M' S' w' e (aeA ((xZp.o.enc (.inl p)).1.av tb))∧RelH M' S' ((xZp.o.enc (.inl p)).2.av tb) w'∧Frm M S (gpHin y y2 y3) w M' S' ((xZp.o.enc (.inl p)).2.av tb) w') _ .returning w':=
      leaves_cons (f:=52) (args:=#[.pointer (some ⟨w.heap.size,0,none⟩),.pointer (some ⟨w.heap.size+1,0,none⟩)]) (fv:=.func 52) (cap:=#[.pointer (some ⟨w.heap.size,0,none⟩),.pointer (some ⟨w.heap.size+1,0,none⟩)]) (dargs:=#[]) (ds:=[]) (by simp) (by simp [go_sem]) ((xZhk _ _ w').mono (by
       rintro e2 u' w2 ⟨rfl,rfl,rfl⟩
       exact ⟨v,hres,M',S',k1,k2,k3⟩))
     obtain ⟨e',w2,fr',hR,hs,hfn2,hl⟩:=leaves_steps _ .returning w' fr cs hm1 hd rfl hfn' hk hL
     exact ⟨e',w2,fr',hR,Comes.of_steps hcm hs,hfn2.trans hfn,hl⟩
   | panicked ch=>exact (show False from k1).elim
   | outgrown=>exact hlv.elim
 | inr f=>
   obtain ⟨c,at_,l,i,e0⟩:=f
   obtain rfl:r=.inr (⟨[],0,[],0⟩,c,at_,l,i,e0):=(Option.some.inj h).symm
   cases e with
   | returned v=>exact (show False from k1).elim
   | outgrown=>exact hlv.elim
   | panicked ch=>
     obtain ⟨v,rfl,hvv⟩:=(show ∃ v,ch=[{ v,recovered:=false }]∧VRep M' S' w' v (.ifc 84 (.dptr [.v (.int .i64 c),.v (.int .i64 at_)])) from k1)
     obtain ⟨u,rfl,hu⟩:=xZpb rfl hvv
     obtain ⟨hm1,hd,hk,fn,hf1⟩:=hlv
     cases r' with
     | ret z=>exact (show False from hend).elim
     | pan z=>
     obtain ⟨kt2,kt3,kl1,kl2⟩:=hkt ⟨z,rfl⟩
     have hl2:2 < t.length:=by
      rcases Nat.lt_or_ge 2 t.length with hlt | hge
      ·exact hlt
      ·simp [List.getD,List.getElem?_eq_none hge] at kt2
     have hl3:3 < t.length:=by
      rcases Nat.lt_or_ge 3 t.length with hlt | hge
      ·exact hlt
      ·simp [List.getD,List.getElem?_eq_none hge] at kt3
     have v2:=hT.2 2 hl2
     have v3:=hT.2 3 hl3
     rw [kt2] at v2
     rw [kt3] at v3
     have v2:=xZlz v2
     have v3:=xZlz v3
     have m1:Mf.box 1=w.heap.size:=(hff.le.box 1 (by omega)).trans e1
     have m2:Mf.box 2=w.heap.size+1:=(hff.le.box 2 (by omega)).trans e2
     rw [m1] at v2
     rw [m2] at v3
     have hb3:3≤Hf.box.length:=by rw [← hhf.nb,← e3];exact hff.le.nb
     obtain ⟨c1,T1,q1,q2,_⟩:=(hhf.box 1 (by omega)).at_
     obtain ⟨c2,T2,q3,q4,_⟩:=(hhf.box 2 (by omega)).at_
     rw [m1] at q1
     rw [m2] at q3
     obtain ⟨x0,x1,x2,x3,rfl⟩:∃ x0 x1 x2 x3,c1=#[x0,x1,x2,x3]:=by
      match c1,q2.trans kl1 with
      | ⟨[x0,x1,x2,x3]⟩,_=>exact ⟨x0,x1,x2,x3,rfl⟩
     obtain ⟨x4,rfl⟩:∃ x4,c2=#[x4]:=by
      match c2,q4.trans kl2 with
      | ⟨[x4]⟩,_=>exact ⟨x4,rfl⟩
     have s1:¬ S' w.heap.size:=m1 ▸ k4 ⟨z,rfl⟩ 1 (by omega)
     have s2:¬ S' (w.heap.size+1):=m2 ▸ k4 ⟨z,rfl⟩ 2 (by omega)
     have hM0:M.box 0 < w.heap.size:=by
      obtain ⟨_,_,hq,_⟩:=(hh.box 0 (by decide:0 < 1)).at_
      exact (Array.getElem?_eq_some_iff.1 hq).1
     have hM1:M'.box 0=M.box 0:=k3.le.box 0 (by rw [hh.nb];exact (by decide:0 < 1))
     have hft:∀ g,w.heap.size≤g→¬ foot M' ((xZ3.o.enc (.inr (c,at_,l,i,e0))).2.av tb) g:=fun g hg hf=>by
      rcases hf with ⟨b,hb,hbe⟩ | ⟨t,ht,_⟩
      ·obtain rfl:b=0:=by have:b < 1:=hb;omega
       omega
      ·cases ht
     have hL:Leaves prog f22 fr.tmps (fun e w'=>∃ M' S',EndRep M' S' w' e (aeA ((xZp.o.enc (.inr (⟨[],0,[],0⟩,c,at_,l,i,e0))).1.av tb))∧RelH M' S' ((xZp.o.enc (.inr (⟨[],0,[],0⟩,c,at_,l,i,e0))).2.av tb) w'∧Frm M S (gpHin y y2 y3) w M' S' ((xZp.o.enc (.inr (⟨[],0,[],0⟩,c,at_,l,i,e0))).2.av tb) w') _ (.panicking [{ v:=.iface 84 u,recovered:=false }]) w':=
      leaves_cons (f:=52) (args:=#[.pointer (some ⟨w.heap.size,0,none⟩),.pointer (some ⟨w.heap.size+1,0,none⟩)]) (fv:=.func 52) (cap:=#[.pointer (some ⟨w.heap.size,0,none⟩),.pointer (some ⟨w.heap.size+1,0,none⟩)]) (dargs:=#[]) (ds:=[]) (by simp) (by simp [go_sem]) ((xZcD w.heap.size (w.heap.size+1) u x0 x1 x2 x3 x4 T1 T2 [] w' q1 q3 (by omega)).mono (by
       rintro e2 u' w2 ⟨rfl,rfl,ho,ht,hu',hz,hk',hg,hg'⟩
       obtain ⟨n1,n2,n3⟩:=xZhN k2 k3 ho ht hu' hz hk' s1 s2 (hft _ (Nat.le_refl _)) (hft _ (Nat.le_succ _)) (Nat.le_refl _) (Nat.le_succ _)
       refine ⟨_,xZju fr.tmps w2 _ _ _ _ _ _ _ _ _ v2 v3 hg hg',M',S',?_,n1,n2⟩
       have hu2:=hu.mono (fun _ h=>h) n3
       show VRep M' S' w2 _ (.tup [_,.ifc 84 (.dptr [.v (.int .i64 c),.v (.int .i64 at_)])])
       refine .data (.tup _ _ rfl fun i hi=>?_)
       match i,hi with
       | 0,_=>
         refine .agg _ _ rfl fun j hj=>?_
         match j,hj with
         | 0,_=>exact .sl0 none 0 _
         | 1,_=>exact .v _
         | 2,_=>exact .v _
         | 3,_=>exact .v _
       | 1,_=>exact .ifc _ _ _ hu2))
     obtain ⟨e',w2,fr',hR,hs,hfn2,hl⟩:=leaves_steps _ _ w' fr cs hm1 hd rfl hfn' hk hL
     exact ⟨e',w2,fr',hR,Comes.of_steps hcm hs,hfn2.trans hfn,hl⟩
end Go.Proofs.YtahklhniofiofaaGreatDoor.E
namespace Go.Proofs.YtahklhniofiofaaGreatDoor.E
open Go
open Go.Proofs.Tryz
set_option maxRecDepth 1000000
set_option linter.unusedSimpArgs false
set_option linter.unusedVariables false
noncomputable section
noncomputable def xZbP:Fn xZ3r:=⟨f76,[],⟨[],[],sbf,bof⟩,fun _=>[],[true],none,0,0,fun _ _=>true,none,[],[]⟩
theorem xZbY:xZbP.Ok prog:=⟨Is.of (by kernel_rfl) (by kernel_rfl),by kernel_rfl,xZe sb_ok bo_ok,trivial,trivial,fun _=>by kernel_rfl⟩
theorem xZ5G (N:Nat):xZ3r.Ok prog N:=xZbY.give tb_ok hm N N (fun _=>trivial) fun a r s h=>by
 exact s.main [] trivial (.trans (by kernel_rfl) h)
noncomputable def xZaT:Fn xZ4H:=⟨f79,[],⟨[],[],sbf,bof⟩,fun _=>[xZ3r],[true],none,0,0,fun _ _=>true,none,[],[]⟩
theorem xZaR:xZaT.Ok prog:=⟨Is.of (by kernel_rfl) (by kernel_rfl),by kernel_rfl,xZe sb_ok bo_ok,trivial,trivial,fun _=>by kernel_rfl⟩
theorem xZaO (N:Nat):xZ4H.Ok prog N:=xZaR.give tb_ok hm N N (fun _=>⟨xZ5G N,trivial⟩) fun a r s h=>by
 exact s.main [] trivial (.trans (by kernel_rfl) h)
noncomputable def xZbi:Fn xZ55:=⟨f116,[],⟨[],[],sbf,bof⟩,fun _=>[],[true],none,0,0,fun _ _=>true,none,[],[]⟩
theorem xZbe:xZbi.Ok prog:=⟨Is.of (by kernel_rfl) (by kernel_rfl),by kernel_rfl,xZe sb_ok bo_ok,trivial,trivial,fun _=>by kernel_rfl⟩
theorem xZbj (N:Nat):xZ55.Ok prog N:=xZbe.give tb_ok hm N N (fun _=>trivial) fun a r s h=>by
 exact s.main [] trivial (.trans (by kernel_rfl) h)
noncomputable def xZbt:Fn xZ59:=⟨f80,[],⟨[],[],sbf,bof⟩,fun _=>[xZ3r,xZ55,xZ5x,xZ8M],[true],none,0,0,fun _ _=>true,none,[],[]⟩
theorem xZbc:xZbt.Ok prog:=⟨Is.of (by kernel_rfl) (by kernel_rfl),by kernel_rfl,xZe sb_ok bo_ok,trivial,trivial,fun _=>by kernel_rfl⟩
theorem xZbw (N:Nat):xZ59.Ok prog N:=xZbc.give tb_ok hm N N (fun _=>⟨xZ5G N,xZbj N,xZ9C N,xZab N,trivial⟩) fun a r s h=>by
 exact s.main [] trivial (.trans (by kernel_rfl) h)
noncomputable def xZc1:Fn xZ4l:=⟨f41,[],⟨[],[],sbf,bof⟩,fun _=>[],[true],none,0,0,fun _ _=>true,none,[],[]⟩
theorem xZbQ:xZc1.Ok prog:=⟨Is.of (by kernel_rfl) (by kernel_rfl),by kernel_rfl,xZe sb_ok bo_ok,trivial,trivial,fun _=>by kernel_rfl⟩
theorem xZ96 (N:Nat):xZ4l.Ok prog N:=xZbQ.give tb_ok hm N N (fun _=>trivial) fun a r s h=>by
 exact s.main [] trivial (.trans (by kernel_rfl) h)
noncomputable def xZbR:Fn xZ5F:=⟨f81,[],⟨[],[],sbf,bof⟩,fun _=>[xZ4l],[true],none,0,0,fun _ _=>true,none,[],[]⟩
theorem xZbT:xZbR.Ok prog:=⟨Is.of (by kernel_rfl) (by kernel_rfl),by kernel_rfl,xZe sb_ok bo_ok,trivial,trivial,fun _=>by kernel_rfl⟩
theorem xZc2 (N:Nat):xZ5F.Ok prog N:=xZbT.give tb_ok hm N N (fun _=>⟨xZ96 N,trivial⟩) fun a r s h=>by
 exact s.main [] trivial (.trans (by kernel_rfl) h)
noncomputable def xZbX:Fn xZ4r:=⟨f43,[],⟨[],[],sbf,bof⟩,fun _=>[xZ3r],[true],none,0,0,fun _ _=>true,none,[],[]⟩
theorem xZc4:xZbX.Ok prog:=⟨Is.of (by kernel_rfl) (by kernel_rfl),by kernel_rfl,xZe sb_ok bo_ok,trivial,trivial,fun _=>by kernel_rfl⟩
theorem xZ99 (N:Nat):xZ4r.Ok prog N:=xZc4.give tb_ok hm N N (fun _=>⟨xZ5G N,trivial⟩) fun a r s h=>by
 exact s.main [] trivial (.trans (by kernel_rfl) h)
noncomputable def xZfK:Fn xZ6j:=⟨f47,[],⟨[],[],sbf,bof⟩,fun _=>[xZ4H,xZ59,xZ5F,xZ4r,xZ6j],[true,true],none,0,0,fun _ _=>true,none,[],[]⟩
theorem xZco:xZfK.Ok prog:=⟨Is.of (by kernel_rfl) (by kernel_rfl),by kernel_rfl,xZe sb_ok bo_ok,trivial,trivial,fun _=>by kernel_rfl⟩
theorem xZbE:∀ N,xZ6j.Ok prog N
 | 0=>⟨xZco.is.enters,fun a r h=>by (have h:none=some r:=h;cases h)⟩
 | N+1=>by
   obtain h_shape_tree:=xZbE N
   ·exact xZco.give tb_ok hm N (N+1) (fun _=>⟨xZaO N,xZbw N,xZc2 N,xZ99 N,h_shape_tree,trivial⟩) fun a r s h=>by
     have l1:=s.loop 1 xZ5X (xZaS N) N fun next1 h1=>by
      exact fun c v=>s.seg 1 xZ5X [(1,.of xZ5X next1)] ⟨h1,trivial⟩ (by kernel_rfl) (by kernel_rfl)
     exact s.main [(1,.of xZ5X (xZeq N))] ⟨l1,trivial⟩ (.trans (by kernel_rfl) h)
theorem xZfu (N:Nat):xZ6j.Ok prog N:=(xZbE N)
noncomputable def xZfg:Fn xZ5t:=⟨f19,[],⟨[],[],sbf,bof⟩,fun _=>[xZ6j,xZ5x,xZ6n],[true],none,0,0,fun _ _=>true,none,[],[]⟩
theorem xZeW:xZfg.Ok prog:=⟨Is.of (by kernel_rfl) (by kernel_rfl),by kernel_rfl,xZe sb_ok bo_ok,trivial,trivial,fun _=>by kernel_rfl⟩
theorem xZ9r (N:Nat):xZ5t.Ok prog N:=xZeW.give tb_ok hm N N (fun _=>⟨xZfu N,xZ9C N,xZa9 N,trivial⟩) fun a r s h=>by
 exact s.main [] trivial (.trans (by kernel_rfl) h)
noncomputable def xZd3:Fn xZ5f:=⟨f9,[],⟨[],[],sbf,bof⟩,fun _=>[xZcK,xZp,xZ5t,xZ63],[true,false],none,0,0,fun _ _=>true,none,[],[]⟩
theorem xZd6:xZd3.Ok prog:=⟨Is.of (by kernel_rfl) (by kernel_rfl),by kernel_rfl,xZe sb_ok bo_ok,trivial,trivial,fun _=>by kernel_rfl⟩
theorem xZa4 (N:Nat):xZ5f.Ok prog N:=xZd6.give tb_ok hm N N (fun _=>⟨xZiB N,xZ5S N,xZ9r N,xZ80 N,trivial⟩) fun a r s h=>by
 exact s.main [] trivial (.trans (by kernel_rfl) h)
noncomputable def xZfS:Fn xZav:=⟨f161,[],⟨[],[],sbf,bof⟩,fun _=>[],[true],none,0,0,fun _ _=>true,none,[],[]⟩
theorem xZg7:xZfS.Ok prog:=⟨Is.of (by kernel_rfl) (by kernel_rfl),by kernel_rfl,xZe sb_ok bo_ok,trivial,trivial,fun _=>by kernel_rfl⟩
theorem xZfR (N:Nat):xZav.Ok prog N:=xZg7.give tb_ok hm N N (fun _=>trivial) fun a r s h=>by
 exact s.main [] trivial (.trans (by kernel_rfl) h)
noncomputable def xZeM:Fn xZ76:=⟨f77,[],⟨[],[],sbf,bof⟩,fun _=>[xZ7d,xZdu,xZeJ,xZeL],[true],none,0,0,fun _ _=>true,none,[],[]⟩
theorem xZeB:xZeM.Ok prog:=⟨Is.of (by kernel_rfl) (by kernel_rfl),by kernel_rfl,xZe sb_ok bo_ok,trivial,trivial,fun _=>by kernel_rfl⟩
theorem xZbI (N:Nat):xZ76.Ok prog N:=xZeB.give tb_ok hm N N (fun _=>⟨xZbM N,xZhd N,xZjs N,xZiM N,trivial⟩) fun a r s h=>by
 exact s.main [] trivial (.trans (by kernel_rfl) h)
noncomputable def xZ8u:Fn xZ1I:=⟨f111,[],⟨[],[],sbf,bof⟩,fun _=>[xZ3v,xZ1Z,xZ4X,xZ76],[true],none,1,0,fun _ _=>true,none,[],[]⟩
theorem xZ4N:xZ8u.Ok prog:=⟨Is.of (by kernel_rfl) (by kernel_rfl),by kernel_rfl,xZe sb_ok bo_ok,trivial,trivial,fun _=>by kernel_rfl⟩
noncomputable def xZ9g:Fn xZ3v:=⟨f141,[],⟨[],[],sbf,bof⟩,fun _=>[xZ1Z],[true],none,1,0,fun _ _=>true,none,[],[]⟩
theorem xZ4Y:xZ9g.Ok prog:=⟨Is.of (by kernel_rfl) (by kernel_rfl),by kernel_rfl,xZe sb_ok bo_ok,trivial,trivial,fun _=>by kernel_rfl⟩
noncomputable def xZ7P:Fn xZ1Z:=⟨f142,[],⟨[],[],sbf,bof⟩,fun _=>[xZav,xZ1I],[true],none,1,0,fun _ _=>true,none,[],[]⟩
theorem xZ4j:xZ7P.Ok prog:=⟨Is.of (by kernel_rfl) (by kernel_rfl),by kernel_rfl,xZe sb_ok bo_ok,trivial,trivial,fun _=>by kernel_rfl⟩
theorem xZ4A:∀ N,xZ1I.Ok prog N∧xZ3v.Ok prog N∧xZ1Z.Ok prog N
 | 0=>⟨⟨xZ4N.is.enters,fun a r h=>by (have h:none=some r:=h;cases h)⟩,⟨xZ4Y.is.enters,fun a r h=>by (have h:none=some r:=h;cases h)⟩,⟨xZ4j.is.enters,fun a r h=>by (have h:none=some r:=h;cases h)⟩⟩
 | N+1=>by
   obtain ⟨h_pred_printer_tree_v501,h_pred_printer_two_v304,h_pred_printer_within_v996⟩:=xZ4A N
   refine ⟨?_,?_,?_⟩
   ·exact xZ4N.give tb_ok hm N (N+1) (fun _=>⟨h_pred_printer_two_v304,h_pred_printer_within_v996,xZ8T N,xZbI N,trivial⟩) fun a r s h=>by
     exact s.main [] trivial (.trans (by kernel_rfl) h)
   ·exact xZ4Y.give tb_ok hm N (N+1) (fun _=>⟨h_pred_printer_within_v996,trivial⟩) fun a r s h=>by
     exact s.main [] trivial (.trans (by kernel_rfl) h)
   ·exact xZ4j.give tb_ok hm N (N+1) (fun _=>⟨xZfR N,h_pred_printer_tree_v501,trivial⟩) fun a r s h=>by
     exact s.main [] trivial (.trans (by kernel_rfl) h)
theorem xZ8G (N:Nat):xZ1I.Ok prog N:=(xZ4A N).1
noncomputable def xZgo:Fn xZao:=⟨f75,[],⟨[],[],sbf,bof⟩,fun _=>[xZ8M,xZ1I],[true],none,0,0,fun _ _=>true,none,[],[]⟩
theorem xZfG:xZgo.Ok prog:=⟨Is.of (by kernel_rfl) (by kernel_rfl),by kernel_rfl,xZe sb_ok bo_ok,trivial,trivial,fun _=>by kernel_rfl⟩
theorem xZfL (N:Nat):xZao.Ok prog N:=xZfG.give tb_ok hm N N (fun _=>⟨xZab N,xZ8G N,trivial⟩) fun a r s h=>by
 exact s.main [] trivial (.trans (by kernel_rfl) h)
noncomputable def xZbV:Fn xZ5E:=⟨f42,[],⟨[],[],sbf,bof⟩,fun _=>[xZao],[true],none,0,0,fun _ _=>true,none,[],[]⟩
theorem xZbS:xZbV.Ok prog:=⟨Is.of (by kernel_rfl) (by kernel_rfl),by kernel_rfl,xZe sb_ok bo_ok,trivial,trivial,fun _=>by kernel_rfl⟩
theorem xZc5 (N:Nat):xZ5E.Ok prog N:=xZbS.give tb_ok hm N N (fun _=>⟨xZfL N,trivial⟩) fun a r s h=>by
 exact s.main [] trivial (.trans (by kernel_rfl) h)
end
end Go.Proofs.YtahklhniofiofaaGreatDoor.E
namespace Go.Proofs.YtahklhniofiofaaGreatDoor.E
open Go
open Go.Proofs.Tryz
set_option maxRecDepth 1000000
set_option linter.unusedSimpArgs false
set_option linter.unusedVariables false
noncomputable section
noncomputable def xZdE:Fn xZ5Z:=⟨f45,[],⟨[],[],sbf,bof⟩,fun _=>[xZ7b,xZ76],[true],none,0,0,fun _ _=>true,none,[],[]⟩
theorem xZeg:xZdE.Ok prog:=⟨Is.of (by kernel_rfl) (by kernel_rfl),by kernel_rfl,xZe sb_ok bo_ok,trivial,trivial,fun _=>by kernel_rfl⟩
theorem xZb1 (N:Nat):xZ5Z.Ok prog N:=xZeg.give tb_ok hm N N (fun _=>⟨xZbG N,xZbI N,trivial⟩) fun a r s h=>by
 exact s.main [] trivial (.trans (by kernel_rfl) h)
noncomputable def xZbg:Fn xZ5a:=⟨f44,[],⟨[],[],sbf,bof⟩,fun _=>[xZ5Z],[true],none,0,0,fun _ _=>true,none,[],[]⟩
theorem xZbo:xZbg.Ok prog:=⟨Is.of (by kernel_rfl) (by kernel_rfl),by kernel_rfl,xZe sb_ok bo_ok,trivial,trivial,fun _=>by kernel_rfl⟩
theorem xZbu (N:Nat):xZ5a.Ok prog N:=xZbo.give tb_ok hm N N (fun _=>⟨xZb1 N,trivial⟩) fun a r s h=>by
 exact s.main [] trivial (.trans (by kernel_rfl) h)
noncomputable def xZ9X:Fn xZ2h:=⟨f40,[],⟨[],[],sbf,bof⟩,fun _=>[xZ4l,xZ5E,xZ2h,xZ4r,xZ5a],[true],none,3,0,fun _ _=>true,none,[],[]⟩
theorem xZ5H:xZ9X.Ok prog:=⟨Is.of (by kernel_rfl) (by kernel_rfl),by kernel_rfl,xZe sb_ok bo_ok,trivial,trivial,fun _=>by kernel_rfl⟩
theorem xZ5w:∀ N,xZ2h.Ok prog N
 | 0=>⟨xZ5H.is.enters,fun a r h=>by (have h:none=some r:=h;cases h)⟩
 | N+1=>by
   obtain h_shape_Print_L1_v949:=xZ5w N
   ·exact xZ5H.give tb_ok hm N (N+1) (fun _=>⟨xZ96 N,xZc5 N,h_shape_Print_L1_v949,xZ99 N,xZbu N,trivial⟩) fun a r s h=>by
     have l0:=s.loop 0 xZ2x (xZ50 N) N fun next0 h0=>by
      exact fun c v=>s.seg 0 xZ2x [(0,.of xZ2x next0)] ⟨h0,trivial⟩ (by kernel_rfl) (by kernel_rfl)
     exact s.main [(0,.of xZ2x (xZ9e N))] ⟨l0,trivial⟩ (.trans (by kernel_rfl) h)
theorem xZa0 (N:Nat):xZ2h.Ok prog N:=(xZ5w N)
noncomputable def xZeR:Fn xZ70:=⟨f18,[],⟨[],[],sbf,bof⟩,fun _=>[xZ5t,xZ2h,xZ5Z,xZ6n],[true],none,0,0,fun _ _=>true,some EqR.bytes,[],[]⟩
theorem xZev:xZeR.Ok prog:=⟨Is.of (by kernel_rfl) (by kernel_rfl),by kernel_rfl,xZe sb_ok bo_ok,trivial,trivial,fun _=>by kernel_rfl⟩
theorem xZbD (N:Nat):xZ70.Ok prog N:=xZev.give tb_ok hm N N (fun _=>⟨xZ9r N,xZa0 N,xZb1 N,xZa9 N,trivial⟩) fun a r s h=>by
 exact s.main [] trivial (.trans (by kernel_rfl) h)
noncomputable def xZe3:Fn xZ5N:=⟨f14,[],⟨[],[],sbf,bof⟩,fun _=>[],[true],none,0,0,fun _ _=>true,none,[],[]⟩
theorem xZe9:xZe3.Ok prog:=⟨Is.of (by kernel_rfl) (by kernel_rfl),by kernel_rfl,xZe sb_ok bo_ok,trivial,trivial,fun _=>by kernel_rfl⟩
theorem xZaQ (N:Nat):xZ5N.Ok prog N:=xZe9.give tb_ok hm N N (fun _=>trivial) fun a r s h=>by
 exact s.main [] trivial (.trans (by kernel_rfl) h)
noncomputable def xZg9:Fn xZ92:=⟨f15,[],⟨[],[],sbf,bof⟩,fun _=>[xZaY],[true],none,0,0,fun _ _=>true,none,[],[]⟩
theorem xZfp:xZg9.Ok prog:=⟨Is.of (by kernel_rfl) (by kernel_rfl),by kernel_rfl,xZe sb_ok bo_ok,trivial,trivial,fun _=>by kernel_rfl⟩
theorem xZcw (N:Nat):xZ92.Ok prog N:=xZfp.give tb_ok hm N N (fun _=>⟨xZeu N,trivial⟩) fun a r s h=>by
 exact s.main [] trivial (.trans (by kernel_rfl) h)
noncomputable def xZen:Fn xZ5T:=⟨f14,[],⟨[],[],sbf,bof⟩,fun _=>[xZ8K],[true],none,0,0,fun _ _=>true,none,[],[]⟩
theorem xZdY:xZen.Ok prog:=⟨Is.of (by kernel_rfl) (by kernel_rfl),by kernel_rfl,xZe sb_ok bo_ok,trivial,trivial,fun _=>by kernel_rfl⟩
theorem xZaP (N:Nat):xZ5T.Ok prog N:=xZdY.give tb_ok hm N N (fun _=>⟨xZaG N,trivial⟩) fun a r s h=>by
 exact s.main [] trivial (.trans (by kernel_rfl) h)
noncomputable def xZgs:Fn xZ8S:=⟨f15,[],⟨[],[],sbf,bof⟩,fun _=>[xZ8K],[true],none,0,0,fun _ _=>true,none,[],[]⟩
theorem xZg0:xZgs.Ok prog:=⟨Is.of (by kernel_rfl) (by kernel_rfl),by kernel_rfl,xZe sb_ok bo_ok,trivial,trivial,fun _=>by kernel_rfl⟩
theorem xZcg (N:Nat):xZ8S.Ok prog N:=xZg0.give tb_ok hm N N (fun _=>⟨xZaG N,trivial⟩) fun a r s h=>by
 exact s.main [] trivial (.trans (by kernel_rfl) h)
noncomputable def xZf2:Fn xZ9x:=⟨f8,[],⟨[],[],sbf,bof⟩,fun _=>[xZ5f,xZ70,xZ5N,xZ92,xZ5T,xZ8S],[true],none,0,0,fun _ _=>true,none,[],[]⟩
theorem xZfm:xZf2.Ok prog:=⟨Is.of (by kernel_rfl) (by kernel_rfl),by kernel_rfl,xZe sb_ok bo_ok,trivial,trivial,fun _=>by kernel_rfl⟩
theorem xZeK (N:Nat):xZ9x.Ok prog N:=xZfm.give tb_ok hm N N (fun _=>⟨xZa4 N,xZbD N,xZaQ N,xZcw N,xZaP N,xZcg N,trivial⟩) fun a r s h=>by
 have h:(bif Nat.ble 300 N then some true else none)=some r:=h
 cases hb:Nat.ble 300 N with
 | false=>rw [hb] at h;cases h
 | true=>
   have hl:=Nat.le_of_ble_eq_true hb
   obtain ⟨n,rfl⟩:∃ n,N=n+300:=⟨N - 300,by omega⟩
   exact s.main [] trivial (.trans (by kernel_rfl) h)
end
end Go.Proofs.YtahklhniofiofaaGreatDoor.E
namespace Go.Proofs.YtahklhniofiofaaGreatDoor.E
open Go
open Go.Proofs.Tryz
set_option maxRecDepth 1000000
set_option linter.unusedSimpArgs false
set_option linter.unusedVariables false
noncomputable section
end
end Go.Proofs.YtahklhniofiofaaGreatDoor.E
namespace Go.Proofs.YtahklhniofiofaaGreatDoor.E
open Go
open Go.Proofs.Tryz
set_option maxRecDepth 1000000
set_option linter.unusedSimpArgs false
set_option linter.unusedVariables false
noncomputable section
end
end Go.Proofs.YtahklhniofiofaaGreatDoor.E
namespace Go.Proofs.YtahklhniofiofaaGreatDoor.E
open Go
open Go.Proofs.Tryz
set_option maxRecDepth 1000000
set_option linter.unusedSimpArgs false
set_option linter.unusedVariables false
noncomputable section
end
end Go.Proofs.YtahklhniofiofaaGreatDoor.E
namespace Go.Proofs.YtahklhniofiofaaGreatDoor.E
open Go
open Go.Proofs.Tryz
set_option maxRecDepth 1000000
set_option linter.unusedSimpArgs false
set_option linter.unusedVariables false
noncomputable section
noncomputable def xZ8C:Fn xZ3m:=⟨f117,[],⟨[],[],sbf,bof⟩,fun _=>[],[true],none,0,0,fun _ _=>true,none,[],[]⟩
theorem xZ8E:xZ8C.Ok prog:=⟨Is.of (by kernel_rfl) (by kernel_rfl),by kernel_rfl,xZe sb_ok bo_ok,trivial,trivial,fun _=>by kernel_rfl⟩
theorem xZ8z (N:Nat):xZ3m.Ok prog N:=xZ8E.give tb_ok hm N N (fun _=>trivial) fun a r s h=>by
 have l0:=s.loop 0 xZ1Y (xZ4g N) N fun next0 h0=>by
  exact fun c v=>s.seg 0 xZ1Y [(0,.of xZ1Y next0)] ⟨h0,trivial⟩ (by kernel_rfl) (by kernel_rfl)
 exact s.main [(0,.of xZ1Y (xZ7p N))] ⟨l0,trivial⟩ (.trans (by kernel_rfl) h)
noncomputable def xZh9:Fn xZb9:=⟨f85,[],⟨[],[],sbf,bof⟩,fun _=>[xZ3m],[true],none,0,0,fun _ _=>true,none,[],[]⟩
theorem xZhD:xZh9.Ok prog:=⟨Is.of (by kernel_rfl) (by kernel_rfl),by kernel_rfl,xZe sb_ok bo_ok,trivial,trivial,fun _=>by kernel_rfl⟩
theorem xZhe (N:Nat):xZb9.Ok prog N:=xZhD.give tb_ok hm N N (fun _=>⟨xZ8z N,trivial⟩) fun a r s h=>by
 exact s.main [] trivial (.trans (by kernel_rfl) h)
noncomputable def xZg4:Fn xZan:=⟨f50,[],⟨[],[],sbf,bof⟩,fun _=>[xZb9],[true],none,0,0,fun _ _=>true,none,[],[]⟩
theorem xZfC:xZg4.Ok prog:=⟨Is.of (by kernel_rfl) (by kernel_rfl),by kernel_rfl,xZe sb_ok bo_ok,trivial,trivial,fun _=>by kernel_rfl⟩
theorem xZfJ (N:Nat):xZan.Ok prog N:=xZfC.give tb_ok hm N N (fun _=>⟨xZhe N,trivial⟩) fun a r s h=>by
 exact s.main [] trivial (.trans (by kernel_rfl) h)
noncomputable def xZ4W:Fn xZ1B:=⟨f49,[],⟨[],[],sbf,bof⟩,fun _=>[xZan],[true],none,0,0,fun _ _=>true,none,[],[]⟩
theorem xZ4J:xZ4W.Ok prog:=⟨Is.of (by kernel_rfl) (by kernel_rfl),by kernel_rfl,xZe sb_ok bo_ok,trivial,trivial,fun _=>by kernel_rfl⟩
theorem xZ4G (N:Nat):xZ1B.Ok prog N:=xZ4J.give tb_ok hm N N (fun _=>⟨xZfJ N,trivial⟩) fun a r s h=>by
 have l0:=s.loop 0 xZW (xZ2v N) N fun next0 h0=>by
  exact fun c v=>s.seg 0 xZW [(0,.of xZW next0)] ⟨h0,trivial⟩ (by kernel_rfl) (by kernel_rfl)
 exact s.main [(0,.of xZW (xZ4w N))] ⟨l0,trivial⟩ (.trans (by kernel_rfl) h)
noncomputable def xZgf:Fn xZaj:=⟨f20,[],⟨[],[],sbf,bof⟩,fun _=>[xZ1B],[true],none,0,0,fun _ _=>true,none,[],[]⟩
theorem xZfA:xZgf.Ok prog:=⟨Is.of (by kernel_rfl) (by kernel_rfl),by kernel_rfl,xZe sb_ok bo_ok,trivial,trivial,fun _=>by kernel_rfl⟩
theorem xZgm (N:Nat):xZaj.Ok prog N:=xZfA.give tb_ok hm N N (fun _=>⟨xZ4G N,trivial⟩) fun a r s h=>by
 exact s.main [] trivial (.trans (by kernel_rfl) h)
end
end Go.Proofs.YtahklhniofiofaaGreatDoor.E
namespace Go.Proofs.YtahklhniofiofaaGreatDoor.E
open Go
open Go.Proofs.Tryz
set_option maxRecDepth 1000000
set_option linter.unusedSimpArgs false
set_option linter.unusedVariables false
noncomputable section
noncomputable def xZaU:Fn xZ71:=⟨f6,[],⟨[],[],sbf,bof⟩,fun _=>[xZ9x,xZ5f,xZ5t,xZ5N,xZ70,xZaj,xZ5T,xZ92,xZ8S],[true],none,0,0,fun _ _=>true,none,[],[107,201]⟩
theorem xZaX:xZaU.Ok prog:=⟨Is.of (by kernel_rfl) (by kernel_rfl),by kernel_rfl,xZe sb_ok bo_ok,trivial,trivial,fun _=>by kernel_rfl⟩
theorem xZay (N:Nat):xZ71.Ok prog N:=xZaX.give tb_ok hm N N (fun _=>⟨xZeK N,xZa4 N,xZ9r N,xZaQ N,xZbD N,xZgm N,xZaP N,xZcw N,xZcg N,trivial⟩) fun a r s h=>by
 have lj1:=s.jn 1000201 xZ5B (xZ5y N) [] trivial (by kernel_rfl) (fun x=>by kernel_rfl)
 have lj2:=s.jn 1000201 xZ5l (xZ5r N) [] trivial (by kernel_rfl) (fun x=>by kernel_rfl)
 have l0:=s.loop 0 xZ37 (xZ5J N) N fun next0 h0=>by
  exact fun c v=>s.seg 0 xZ37 [(0,.of xZ37 next0),(1000201,.of xZ5B (xZ5y N)),(1000201,.of xZ5l (xZ5r N))] ⟨h0,lj1,lj2,trivial⟩ (by kernel_rfl) (by kernel_rfl)
 have lj0:=s.jn 1000107 xZ5n (xZ5o N) [(0,.of xZ37 (xZ9Y N))] ⟨l0,trivial⟩ (by kernel_rfl) (fun x=>by kernel_rfl)
 have lj4:=s.jn 1000201 xZ5k (xZ5q N) [] trivial (by kernel_rfl) (fun x=>by kernel_rfl)
 have lj7:=s.jn 1000201 xZ5s (xZ5m N) [] trivial (by kernel_rfl) (fun x=>by kernel_rfl)
 have l0v1:=s.loop 0 xZ2z (xZ4Z N) N fun next0v1 h0v1=>by
  exact fun c v=>s.seg 0 xZ2z [(0,.of xZ2z next0v1),(1000201,.of xZ5k (xZ5q N)),(1000201,.of xZ5s (xZ5m N))] ⟨h0v1,lj4,lj7,trivial⟩ (by kernel_rfl) (by kernel_rfl)
 have lj3:=s.jn 1000107 xZ5u (xZ5j N) [(0,.of xZ2z (xZ9h N))] ⟨l0v1,trivial⟩ (by kernel_rfl) (fun x=>by kernel_rfl)
 exact s.main [(1000107,.of xZ5n (xZ5o N)),(1000107,.of xZ5u (xZ5j N))] ⟨lj0,lj3,trivial⟩ (.trans (by kernel_rfl) h)
end
end Go.Proofs.YtahklhniofiofaaGreatDoor.E
