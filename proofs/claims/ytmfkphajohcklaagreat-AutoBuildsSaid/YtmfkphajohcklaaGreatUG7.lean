/- predtext.Parse, walked: it defers, and recovers what its parser gives up with. No premise beyond what each theorem says. -/
import Derived.Test.YtmfkphajohcklaaGreatUG6
import Derived.Test.YtmfkphajohcklaaGreatUA4
import Derived.Tactics
import Derived.Tactics2
import Derived.Defers
import Derived.Recover
import Derived.WalkKit
import Derived.Deep.RegionHeld3
set_option linter.all false
set_option linter.unusedSimpArgs false
set_option linter.unusedVariables false
set_option linter.unusedVariables false
set_option linter.unusedSimpArgs false
namespace Go.Proofs.YtmfkphajohcklaaGreat.U
open Go Go.RowKit Go.Proofs.Tryz
set_option maxHeartbeats 4000000
set_option maxRecDepth 1000000
theorem ajN (w:World):(Instr.typeAssert .nilIface 20 263 true).run Tryz.prog w=.ok (.tuple #[.agg #[.int .i64 0,.int .i64 0],.bool false]) w:=by
 obtain⟨z,hz⟩:∃z,jU Tryz.prog 263=some z:=⟨.agg [.v (.int .i64 0),.v (.int .i64 0)],by kernel_rfl⟩
 obtain⟨⟨d,hd,hn⟩,i,zv,hi,hzv,rfl⟩:=pX hz;have hv:(zeroValue 263).run Tryz.prog w=.ok (.agg #[.int .i64 0,.int .i64 0]) w:=Tryz.zeroValue263 w;simp only[Instr.typeAssert,Sem.run_bind,run_underlying hd,Result.andThen_ok];cases d<;>first|exact absurd rfl (hn _)|(simp only[if_true,Sem.run_bind,Sem.run_pure,hv,Result.andThen_ok])
theorem ajM (x:Value) (w:World):(Instr.typeAssert (.iface 263 x) 20 263 true).run Tryz.prog w=.ok (.tuple #[x,.bool true]) w:=by
 obtain⟨z,hz⟩:∃z,jU Tryz.prog 263=some z:=⟨.agg [.v (.int .i64 0),.v (.int .i64 0)],by kernel_rfl⟩
 obtain⟨⟨d,hd,hn⟩,i,zv,hi,hzv,rfl⟩:=pX hz;simp only[Instr.typeAssert,Sem.run_bind,run_underlying hd,Result.andThen_ok];cases d<;>first|exact absurd rfl (hn _)|rfl|simp[Sem.run_bind,Sem.run_pure]
theorem OI (p q r:Addr) (w:World):CallsD Tryz.prog 178 #[.pointer (some p),.pointer (some q),.pointer (some r)] .returning w λe u' w'=>
 e=.returned (.tuple #[])/\u'=.returning/\w'=w.alloc (.cells #[.int .i64 0,.int .i64 0] 263):=by
 refine callsD_of_wpS Tryz.func178 rfl λc₀ cs hu=>?_;simp only[Tryz.ntmps178,List.size_toArray,List.length_cons,List.length_nil,Nat.reduceAdd,Nat.reduceSub,Array.replicate_succ,
  Array.replicate_zero,List.push_toArray,List.append_toArray,List.nil_append,List.cons_append]
 apply wpS_seq;apply wpS_region;simp[wpOpsS,go_sem,recoverD,hu,Exit.thenS,ajN];refine wpS_of_wp ?_
 go_wp2
 exact⟨rfl,_,(by rw[<- hu]),_,results_none rfl _ _ _,rfl,rfl,rfl⟩
theorem afr {w W:World} {x y:Int} {a b c:Value} {g:Nat} {ta tb tc:TypeId} (h0:w.heap[g]?=some (.cells #[a] ta (0,0))) (h1:w.heap[g+1]?=some (.cells #[b] tb (0,0))) (h2:w.heap[g+2]?=some (.cells #[c] tc (0,0)))
 (hW:W=(w.alloc (.cells #[.int .i64 x,.int .i64 y] 263)).alloc (.cells #[.int .i64 x,.int .i64 y] 189)):
 Grew w W/\W.heap[w.heap.size+1]?=some (.cells #[.int .i64 x,.int .i64 y] 189 (0,0))/\w.heap.size+1<W.heap.size/\
  W.cell? ⟨g,0,none⟩=some a/\W.cell? ⟨g+1,0,none⟩=some b/\W.cell? ⟨g+2,0,none⟩=some c/\W.frozen? ⟨g,0,none⟩=false/\W.frozen? ⟨g+1,0,none⟩=false/\W.frozen? ⟨g+2,0,none⟩=false:=by
 subst hW;have hG:=tH w (.cells #[.int .i64 x,.int .i64 y] 263) (.cells #[.int .i64 x,.int .i64 y] 189);have hH:((w.alloc (.cells #[.int .i64 x,.int .i64 y] 263)).alloc (.cells #[.int .i64 x,.int .i64 y] 189)).heap[w.heap.size+1]?=some (.cells #[.int .i64 x,.int .i64 y] 189 (0,0)):=by
  rw[show w.heap.size+1=(w.alloc (.cells #[.int .i64 x,.int .i64 y] 263)).heap.size by simp];exact fP _ _
 have hl:∀ {i:Nat} {o:Obj},w.heap[i]?=some o->i<w.heap.size:=λh=>(Array.getElem?_eq_some_iff.1 h).1
 have k0:=(hG.old g (hl h0)).trans h0;have k1:=(hG.old (g+1) (hl h1)).trans h1;have k2:=(hG.old (g+2) (hl h2)).trans h2;generalize (w.alloc (.cells #[.int .i64 x,.int .i64 y] 263)).alloc (.cells #[.int .i64 x,.int .i64 y] 189)=W at *;refine⟨hG,hH,(Array.getElem?_eq_some_iff.1 hH).1,?_,?_,?_,?_,?_,?_⟩<;>simp[World.cell?,World.frozen?,k0,k1,k2]
theorem abu (g:Nat) (x y:Int) (hx:x≠0) (a b c:Value) (ta tb tc:TypeId) (older:List PanicEntry) (w:World) (h0:w.heap[g]?=some (.cells #[a] ta (0,0))) (h1:w.heap[g+1]?=some (.cells #[b] tb (0,0))) (h2:w.heap[g+2]?=some (.cells #[c] tc (0,0))):
 CallsD Tryz.prog 178 #[.pointer (some ⟨g,0,none⟩),.pointer (some ⟨g+1,0,none⟩),.pointer (some ⟨g+2,0,none⟩)] (.panicking ({ v:=.iface 263 (.agg #[.int .i64 x,.int .i64 y]),recovered:=false }::older)) w λe u' w'=>
 e=.returned (.tuple #[])/\u'=.panicking ({ v:=.iface 263 (.agg #[.int .i64 x,.int .i64 y]),recovered:=true }::older)/\
  ∃W h,Grew w W/\w.heap.size<=h/\W.heap[h]?=some (.cells #[.int .i64 x,.int .i64 y] 189 (0,0))/\h<W.heap.size/\
   w'=((W.setCell ⟨g,0,none⟩ (.slice none 0 0)).setCell ⟨g+1,0,none⟩ (.int .i64 0)).setCell ⟨g+2,0,none⟩ (.iface 175 (.pointer (some ⟨h,0,none⟩))):=by
 have g2:g+2<w.heap.size:=(Array.getElem?_eq_some_iff.1 h2).1;refine callsD_of_wpS Tryz.func178 rfl λc₀ cs hu=>?_;simp only[Tryz.ntmps178,List.size_toArray,List.length_cons,List.length_nil,Nat.reduceAdd,Nat.reduceSub,Array.replicate_succ,
  Array.replicate_zero,List.push_toArray,List.append_toArray,List.nil_append,List.cons_append]
 apply wpS_seq;apply wpS_region;simp[wpOpsS,go_sem,recoverD,hu,Exit.thenS,ajM];refine wpS_of_wp ?_
 go_wp2_with (go_at_call 60;refine(HG _ _ hx _).mono ?_;rintro e W ⟨rfl,hW⟩;obtain⟨hG,hH,hs,c0,c1,c2,f0,f1,f2⟩:=afr h0 h1 h2 hW;clear hW)
 exact⟨rfl,_,rfl,_,results_none rfl _ _ _,rfl,rfl,_,hG,w.heap.size+1,by omega,hH,hs,rfl⟩
structure PS (w0:World) (S0:Nat->Prop) (l:List aC) (a e:Int) (w:World) (S:Nat->Prop):Prop where
 os:w.os=w0.os
 tape:w.tape=w0.tape
 output:w.output=w0.output
 old:∀i,i<w0.heap.size->w.heap[i]?=w0.heap[i]?
 size:w0.heap.size+4<=w.heap.size
 sub:∀i,S0 i->S i
 nA:∀i,S0 i->i<w0.heap.size
 news:∀i,S i->S0 i\/w0.heap.size+4<=i
 sits:∀i,S i->i<w.heap.size
 box:∃vl T,w.heap[w0.heap.size+3]?=some (.cells #[vl,.int .i64 a,.int .i64 e] T (0,0))/\aO S w vl (.sl 7 (l.map jl))
 vG:∀i v,uD Tryz.prog=some (i,v)->w0.cell? ⟨i,0,none⟩=some v/\i<w0.heap.size
def gU (l:List aC) (a e:Int):AH:=⟨[[.sl 7 (l.map jl),.v (.int .i64 a),.v (.int .i64 e)]],[]⟩
def pf:Maps:=⟨0,0,λ_=>0,λ_=>undef⟩
def ko (g:Nat):Maps:=⟨1,0,λ_=>g,λ_=>undef⟩
theorem HT {M:Maps} {S:Nat->Prop} {w:World} {v:Value} {k:Nat} {xs:List AV} (h:am M S w v (.sl k xs)):aO S w v (.sl k xs):=by
 cases h with
 | data h=>exact h
section
variable {w0:World} {S0:Nat->Prop} {l:List aC} {a e:Int} {w:World} {S:Nat->Prop}
theorem PS.rel (h:PS w0 S0 l a e w S):aE (ko (w0.heap.size+3)) S (gU l a e) w where
 nb:=rfl
 nt:=rfl
 sits:=h.sits
 box b hb:=by
  obtain rfl:b=0:=by simp[gU]at hb;exact hb
  obtain⟨vl,T,h1,h2⟩:=h.box;refine⟨λhs=>?_,_,T,h1,rfl,λi hi=>?_⟩
  ·rcases h.news _ hs with h3|h3
   ·have:=h.nA _ h3;simp only[ko]at this;omega
   ·simp only[ko]at h3;omega
  ·match i,hi with
   | 0,_=>exact⟨rfl,.data h2⟩
   | 1,_=>exact⟨rfl,.data (.v _)⟩
   | 2,_=>exact⟨rfl,.data (.v _)⟩
 buf t ht:=by cases ht
 bb b b' hb hb' _:=by simp[gU]at hb hb';omega
 tt t t' g h1:=by cases h1.1
 bt b t g _ h1:=by cases h1.1
theorem PS.ft (h:PS w0 S0 l a e w S) {g:Nat}:foot (ko (w0.heap.size+3)) (gU l a e) g↔g=w0.heap.size+3:=by
 constructor
 ·rintro(⟨b,_,rfl⟩|⟨t,ht,_⟩)
  ·rfl
  ·cases ht
 ·rintro rfl;exact .inl ⟨0,by simp[gU],rfl⟩
theorem PS.pr (h:PS w0 S0 l a e w S):cY Tryz.prog (ko (w0.heap.size+3)) (gU l a e) w:=by
 intro i v hi;obtain⟨h1,h3⟩:=h.vG i v hi;refine⟨?_,λhf=>?_,?_⟩
 ·rw[<- h1];simp only[World.cell?,h.old i h3]
 ·have:=h.ft.1 hf;omega
 ·have:=h.size;omega
theorem PS.call (h:PS w0 S0 l a e w S) {M':Maps} {S':Nat->Prop} {l':List aC} {a' e':Int} {w':World} (hh:aE M' S' (gU l' a' e') w') (hf:aU (ko (w0.heap.size+3)) S (gU l a e) w M' S' (gU l' a' e') w'):
 PS w0 S0 l' a' e' w' S'/\∀i,i<w.heap.size->i≠w0.heap.size+3->w'.heap[i]?=w.heap[i]?:=by
 have hb0:M'.box 0=w0.heap.size+3:=hf.le.box 0 (by simp[ko]);have hsame:∀i,i<w.heap.size->i≠w0.heap.size+3->w'.heap[i]?=w.heap[i]?:=λi hi hn=>hf.old i hi λhft=>hn (h.ft.1 hft)
 have hsz:=h.size;obtain⟨hun,c,T,h1,h2,h3⟩:=hh.box 0 (by simp[gU]);rw[hb0]at hun h1;refine⟨⟨hf.os.trans h.os,hf.tape.trans h.tape,hf.output.trans h.output,λi hi=>(hsame i (by omega) (by omega)).trans (h.old i hi),Nat.le_trans hsz hf.size,λi hi=>hf.sub i (h.sub i hi),h.nA,λi hi=>?_,hh.sits,?_,h.vG⟩,hsame⟩
 ·rcases hf.news i hi with h4|h4|h4
  ·exact h.news i h4
  ·exact absurd (h.ft.1 h4▸hi) hun
  ·right;omega
 ·have hc:c.size=3:=h2;obtain⟨x,y,z,rfl⟩:∃x y z,c=#[x,y,z]:=by
   match c,hc with
   | ⟨[x,y,z]⟩,_=>exact⟨x,y,z,rfl⟩
  have q0:am M' S' w' x (.sl 7 (l'.map jl)):=(h3 0 (by simp[gU])).2;have q1:y=.int .i64 a':=am.bh (h3 1 (by simp[gU])).2;have q2:z=.int .i64 e':=am.bh (h3 2 (by simp[gU])).2;subst q1;subst q2;exact⟨x,T,h1,HT q0⟩
theorem PS.pure (h:PS w0 S0 l a e w S) {M':Maps} {S':Nat->Prop} {w':World} (hh:aE M' S' AH.nil w') (hf:aU pf S AH.nil w M' S' AH.nil w'):
 PS w0 S0 l a e w' S'/\∀i,i<w.heap.size->w'.heap[i]?=w.heap[i]?:=by
 have nof:∀i,¬Go.Proofs.YtmfkphajohcklaaGreat.U.foot pf AH.nil i:=λi hi=>by
  rcases hi with⟨b,hb,_⟩|⟨t,ht,_⟩
  ·simp[AH.nil]at hb
  ·simp[AH.nil]at ht
 have hsame:∀i,i<w.heap.size->w'.heap[i]?=w.heap[i]?:=λi hi=>hf.old i hi (nof i)
 have hsz:=h.size;obtain⟨vl,T,h1,h2⟩:=h.box;refine⟨⟨hf.os.trans h.os,hf.tape.trans h.tape,hf.output.trans h.output,λi hi=>(hsame i (by omega)).trans (h.old i hi),Nat.le_trans hsz hf.size,λi hi=>hf.sub i (h.sub i hi),h.nA,λi hi=>?_,hh.sits,⟨vl,T,(hsame _ (by omega)).trans h1,h2.mono hf.sub hf.cv⟩,h.vG⟩,hsame⟩;rcases hf.news i hi with h4|h4|h4
 ·exact h.news i h4
 ·exact absurd h4 (nof i)
 ·right;omega
theorem PS.upd (h:PS w0 S0 l a e w S) {w':World} (ho:w'.os=w.os) (ht:w'.tape=w.tape) (hu:w'.output=w.output) (hz:w.heap.size<=w'.heap.size) (hs:∀i,i<w.heap.size->(i<w0.heap.size\/w0.heap.size+3<=i)->w'.heap[i]?=w.heap[i]?):PS w0 S0 l a e w' S:=by
 have hsz:=h.size;obtain⟨vl,T,h1,h2⟩:=h.box;have hst:∀g,S g->w'.heap[g]?=w.heap[g]?:=λg hg=>hs g (h.sits g hg) (by
  rcases h.news g hg with h3|h3
  ·exact .inl (h.nA g h3)
  ·right;omega)
 exact⟨ho.trans h.os,ht.trans h.tape,hu.trans h.output,λi hi=>(hs i (by omega) (.inl hi)).trans (h.old i hi),Nat.le_trans hsz hz,h.sub,h.nA,h.news,λi hi=>Nat.lt_of_lt_of_le (h.sits i hi) hz,⟨vl,T,(hs _ (by omega) (.inr (Nat.le_refl _))).trans h1,h2.mono (λ_ h=>h) hst⟩,h.vG⟩
theorem PS.WM (h:PS w0 S0 l a e w S):aE pf S AH.nil w where
 nb:=rfl
 nt:=rfl
 sits:=h.sits
 box b hb:=by cases hb
 buf t ht:=by cases ht
 bb b b' hb _ _:=by cases hb
 tt t t' g h1:=by cases h1.1
 bt b t g hb:=by cases hb
theorem PS.WK (h:PS w0 S0 l a e w S):cY Tryz.prog pf AH.nil w:=by
 intro i v hi;obtain⟨h1,h2,h3⟩:=h.pr i v hi;refine⟨h1,λhf=>?_,h3⟩;rcases hf with⟨b,hb,_⟩|⟨t,ht,_⟩
 ·cases hb
 ·cases ht
theorem Hn (N:Nat) (h:PS w0 S0 l a e w S) {x:Int×List aC×Int×Int} (hx:nJ N l a e=some x):
 Calls Tryz.prog 177 #[.pointer (some ⟨w0.heap.size+3,0,none⟩)] w λr w'=>r=.returned (.int .i64 x.1)/\∃S',PS w0 S0 x.2.1 x.2.2.1 x.2.2.2 w' S'/\∀i,i<w.heap.size->i≠w0.heap.size+3->w'.heap[i]?=w.heap[i]?:=by
 have hc:=(Mo N).res (((),()),((l,a,e,()),()),()) x hx;refine(hc (ko (w0.heap.size+3)) S w #[.pointer (some ⟨w0.heap.size+3,0,none⟩)] h.rel h.pr rfl λi hi=>?_).mono ?_
 ·match i,hi with
  | 0,_=>exact .ptr 0 0 (Nat.zero_lt_one)
 ·rintro r w' ⟨M',S',hend,hh,hf⟩;have hv:eZ M' S' w' r (.ret (.v (.int .i64 x.1))):=hend;obtain⟨h1,h2⟩:=h.call hh hf;cases r with
  | returned v=>exact⟨congrArg _ (am.bh hv),S',h1,h2⟩
  | panicked _=>exact hv.elim
  | outgrown=>exact hv.elim
theorem Cw (N:Nat) (h:PS w0 S0 l a e w S) {r:(Int×Int×List aC×Int×Int)⊕(List az×List aC×Int×Int)} (hx:px N 0 l a e=some r):
 Calls Tryz.prog 179 #[.pointer (some ⟨w0.heap.size+3,0,none⟩),.int .i64 0] w λen w'=>∃S',(match r with
  | .inl x=>en=.panicked [{ v:=.iface 263 (.agg #[.int .i64 x.1,.int .i64 x.2.1]),recovered:=false }]/\PS w0 S0 x.2.2.1 x.2.2.2.1 x.2.2.2.2 w' S'
  | .inr x=>∃v,en=.returned v/\aO S' w' v (.sl 8 (x.1.map fV))/\PS w0 S0 x.2.1 x.2.2.1 x.2.2.2 w' S')/\∀i,i<w.heap.size->i≠w0.heap.size+3->w'.heap[i]?=w.heap[i]?:=by
 have hc:=(Z3 N).res (((),0,()),((l,a,e,()),()),()) r hx;refine(hc (ko (w0.heap.size+3)) S w #[.pointer (some ⟨w0.heap.size+3,0,none⟩),.int .i64 0] h.rel h.pr rfl λi hi=>?_).mono ?_
 ·match i,hi with
  | 0,_=>exact .ptr 0 0 (Nat.zero_lt_one)
  | 1,_=>exact .data (.v _)
 ·rintro en w' ⟨M',S',hend,hh,hf⟩
  match r,hend,hh,hf with
  | .inl x,hend,hh,hf=>
    obtain⟨h1,h2⟩:=h.call hh hf;have hv:eZ M' S' w' en (.bS (.aG 263 (.agg ([.int .i64 x.1,.int .i64 x.2.1].map .v)))):=hend;refine⟨S',⟨?_,h1⟩,h2⟩;cases en with
    | panicked ch=>
      obtain⟨v,rfl,hv⟩:=hv;cases hv with
      | data hv=>cases hv with|aG _ u _ hu=>rw[Hk (M:=pf) (.data hu)]
      | aG _ u _ hu=>rw[Hk hu]
    | returned _=>exact hv.elim
    | outgrown=>exact hv.elim
  | .inr x,hend,hh,hf=>
    obtain⟨h1,h2⟩:=h.call hh hf;have hv:eZ M' S' w' en (.ret (.sl 8 (x.1.map fV))):=hend;cases en with
    | returned v=>exact⟨S',⟨v,rfl,HT hv,h1⟩,h2⟩
    | panicked _=>exact hv.elim
    | outgrown=>exact hv.elim
theorem PB (N:Nat) (h:PS w0 S0 l a e w S) {ns:List az} {v:Value} (hv:aO S w v (.sl 8 (ns.map fV))) {c:Int} (hx:sN N ns=some c):
 Calls Tryz.prog 158 #[v] w λen w'=>en=.returned (.int .i64 c)/\∃S',PS w0 S0 l a e w' S'/\(∀i,i<w.heap.size->w'.heap[i]?=w.heap[i]?)/\aO S' w' v (.sl 8 (ns.map fV)):=by
 have hc:=(adK N).res (ns,()) c hx;refine(hc pf S w #[v] h.WM h.WK rfl λi hi=>?_).mono ?_
 ·match i,hi with
  | 0,_=>exact .data hv
 ·rintro en w' ⟨M',S',hend,hh,hf⟩;have hq:eZ M' S' w' en (.ret (.v (.int .i64 c))):=hend;obtain⟨h1,h2⟩:=h.pure hh hf;cases en with
  | returned u=>exact⟨congrArg _ (am.bh hq),S',h1,h2,hv.mono hf.sub hf.cv⟩
  | panicked _=>exact hq.elim
  | outgrown=>exact hq.elim
theorem Ho {M:Maps} {ad:Option Addr} {n cap:Nat} (hh:aE M S0 AH.nil w0) (hp:cY Tryz.prog M AH.nil w0) (hv:aO S0 w0 (.slice ad n cap) (.sl 7 (l.map jl))) (T1 T2 T3 T4:TypeId):
 PS w0 S0 l a e ((((w0.alloc (.cells #[.slice none 0 0] T1)).alloc (.cells #[.int .i64 0] T2)).alloc (.cells #[.nilIface] T3)).alloc (.cells #[.slice ad n cap,.int .i64 a,.int .i64 e] T4)) S0:=by
 have hG:Grew w0 ((((w0.alloc (.cells #[.slice none 0 0] T1)).alloc (.cells #[.int .i64 0] T2)).alloc (.cells #[.nilIface] T3)).alloc (.cells #[.slice ad n cap,.int .i64 a,.int .i64 e] T4)):=
  ⟨rfl,rfl,rfl,by simp;omega,λg hg=>(dL _ _ g (by simp;omega)).trans ((dL _ _ g (by simp;omega)).trans ((dL _ _ g (by simp;omega)).trans (dL _ _ g hg)))⟩
 refine⟨rfl,rfl,rfl,hG.old,by simp,λ_ h=>h,hh.sits,λi hi=>.inl hi,λi hi=>Nat.lt_of_lt_of_le (hh.sits i hi) hG.size,⟨_,T4,?_,hv.mono (λ_ h=>h) λg hg=>hG.old g (hh.sits g hg)⟩,λi v hi=>⟨(hp i v hi).1,(hp i v hi).2.2⟩⟩;rw[show w0.heap.size+3=(((w0.alloc (.cells #[.slice none 0 0] T1)).alloc (.cells #[.int .i64 0] T2)).alloc (.cells #[.nilIface] T3)).heap.size by simp];exact fP _ _
end
theorem dx {w:World} {g:Nat} {v:Value} {T:TypeId} (h:w.heap[g]?=some (.cells #[v] T (0,0))):w.cell? ⟨g,0,none⟩=some v/\w.frozen? ⟨g,0,none⟩=false:=by
 constructor<;>simp[World.cell?,World.frozen?,h]
theorem pG {w w':World} {g i:Nat} (h:w'.heap[g]?=w.heap[g]?):w'.cell? ⟨g,i,none⟩=w.cell? ⟨g,i,none⟩:=by simp only[World.cell?,h]
theorem zX (w0:World) (v1 v2 v3:Value) (c:Array Value) (T1 T2 T3 T4:TypeId):
 let W:=(((w0.alloc (.cells #[v1] T1)).alloc (.cells #[v2] T2)).alloc (.cells #[v3] T3)).alloc (.cells c T4)
 W.heap[w0.heap.size]?=some (.cells #[v1] T1 (0,0))/\W.heap[w0.heap.size+1]?=some (.cells #[v2] T2 (0,0))/\W.heap[w0.heap.size+2]?=some (.cells #[v3] T3 (0,0))/\W.heap.size=w0.heap.size+4:=by
 refine⟨?_,?_,?_,by simp⟩
 ·exact(dL _ _ _ (by simp;omega)).trans ((dL _ _ _ (by simp;omega)).trans ((dL _ _ _ (by simp)).trans (fP _ _)))
 ·rw[show w0.heap.size+1=(w0.alloc (.cells #[v1] T1)).heap.size by simp];exact(dL _ _ _ (by simp)).trans ((dL _ _ _ (by simp)).trans (fP _ _))
 ·rw[show w0.heap.size+2=((w0.alloc (.cells #[v1] T1)).alloc (.cells #[v2] T2)).heap.size by simp];exact(dL _ _ _ (by simp)).trans (fP _ _)
theorem pR {W:World} {g i:Nat} {u v x:Value} (h:i≠g/\i≠g+1/\i≠g+2):(((W.setCell ⟨g,0,none⟩ u).setCell ⟨g+1,0,none⟩ v).setCell ⟨g+2,0,none⟩ x).heap[i]?=W.heap[i]?:=by
 rw[heap_setCell_other _ _ _ _ h.2.2,heap_setCell_other _ _ _ _ h.2.1,heap_setCell_other _ _ _ _ h.1]
theorem zY {W:World} {g:Nat} {u v x a b c:Value} {ta tb tc:TypeId} (h0:W.heap[g]?=some (.cells #[a] ta (0,0))) (h1:W.heap[g+1]?=some (.cells #[b] tb (0,0))) (h2:W.heap[g+2]?=some (.cells #[c] tc (0,0))):
 let V:=((W.setCell ⟨g,0,none⟩ u).setCell ⟨g+1,0,none⟩ v).setCell ⟨g+2,0,none⟩ x
 V.cell? ⟨g,0,none⟩=some u/\V.cell? ⟨g+1,0,none⟩=some v/\V.cell? ⟨g+2,0,none⟩=some x:=by
 have k0:(((W.setCell ⟨g,0,none⟩ u).setCell ⟨g+1,0,none⟩ v).setCell ⟨g+2,0,none⟩ x).heap[g]?=some (.cells #[u] ta (0,0)):=by
  rw[heap_setCell_other _ _ _ _ (show g≠g+2 by omega),heap_setCell_other _ _ _ _ (show g≠g+1 by omega),heap_setCell_same _ _ _ _ _ _ h0];rfl
 have k1:(((W.setCell ⟨g,0,none⟩ u).setCell ⟨g+1,0,none⟩ v).setCell ⟨g+2,0,none⟩ x).heap[g+1]?=some (.cells #[v] tb (0,0)):=by
  rw[heap_setCell_other _ _ _ _ (show g+1≠g+2 by omega),heap_setCell_same _ _ _ _ _ _ (by rw[heap_setCell_other _ _ _ _ (show g+1≠g by omega)];exact h1)];rfl
 have k2:(((W.setCell ⟨g,0,none⟩ u).setCell ⟨g+1,0,none⟩ v).setCell ⟨g+2,0,none⟩ x).heap[g+2]?=some (.cells #[x] tc (0,0)):=by
  rw[heap_setCell_same _ _ _ _ _ _ (by rw[heap_setCell_other _ _ _ _ (show g+2≠g+1 by omega),heap_setCell_other _ _ _ _ (show g+2≠g by omega)];exact h2)];rfl
 exact⟨(dx k0).1,(dx k1).1,(dx k2).1⟩
theorem aeW (N:Nat) {M:Maps} {S0:Nat->Prop} {w0:World} {l:List aC} {a e:Int} {ad:Option Addr} {cap:Nat} (hh:aE M S0 AH.nil w0) (hp:cY Tryz.prog M AH.nil w0) (hv:aO S0 w0 (.slice ad l.length cap) (.sl 7 (l.map jl)))
 (ha:¬a<0) (hb:¬a>(l.length:Int)) {x:Int×List aC×Int×Int} (hx:nJ N l a e=some x) {y:Int×Int×List aC×Int×Int} (hy:px N 0 x.2.1 x.2.2.1 x.2.2.2=some (.inl y)) (hy0:y.1≠0):
 Calls Tryz.prog 169 #[.slice ad l.length cap,.int .i64 a,.int .i64 e] w0 λen w'=>∃h S',en=.returned (.tuple #[.slice none 0 0,.int .i64 0,.iface 175 (.pointer (some ⟨h,0,none⟩))])/\w0.heap.size<=h/\w'.heap[h]?=some (.cells #[.int .i64 y.1,.int .i64 y.2.1] 189 (0,0))/\h<w'.heap.size/\PS w0 S0 y.2.2.1 y.2.2.2.1 y.2.2.2.2 w' S':=by
 have hmf:∀(fn:Go.Fn) (first cap:Array Value) (w:World),(Instr.makeFunc fn first cap).run Tryz.prog w=.ok (.func fn first cap) w:=λ_ _ _ _=>rfl
 go_enter_defers Tryz.func169,Tryz.ntmps169
 go_wp2_with (first
  | (go_at_call 177;refine(Hn N (Ho (a:=a) (e:=e) hh hp hv _ _ _ _) hx).mono ?_;rintro r1 w3 ⟨rfl,S3,lC,hk3⟩)
  | (go_at_call 179;refine(Cw N lC hy).mono ?_;rintro r2 w4 ⟨S4,⟨rfl,oO⟩,hk4⟩))
 obtain⟨s0,s1,s2,s3⟩:=zX w0 (.slice none 0 0) (.int .i64 0) .nilIface #[.slice ad l.length cap,.int .i64 a,.int .i64 e] 51 3 116 261;have z3:=lC.size;have z4:=oO.size;have k0:=(hk4 _ (by omega) (by omega)).trans ((hk3 w0.heap.size (by omega) (by omega)).trans s0);have k1:=(hk4 _ (by omega) (by omega)).trans ((hk3 (w0.heap.size+1) (by omega) (by omega)).trans s1);have k2:=(hk4 _ (by omega) (by omega)).trans ((hk3 (w0.heap.size+2) (by omega) (by omega)).trans s2);refine leaves_cons (f:=178) (args:=#[.pointer (some ⟨w0.heap.size,0,none⟩),.pointer (some ⟨w0.heap.size+1,0,none⟩),.pointer (some ⟨w0.heap.size+2,0,none⟩)]) (by simp) (by simp[go_sem]) ?_;refine(abu w0.heap.size y.1 y.2.1 hy0 _ _ _ _ _ _ [] w4 k0 k1 k2).mono ?_;rintro e2 u' w5 ⟨rfl,rfl,W,h,hG,g1,g2,g3,rfl⟩;have m0:=(hG.old _ (by omega)).trans k0;have m1:=(hG.old _ (by omega)).trans k1;have m2:=(hG.old _ (by omega)).trans k2;obtain⟨c0,c1,c2⟩:=zY (u:=.slice none 0 0) (v:=.int .i64 0) (x:=.iface 175 (.pointer (some ⟨h,0,none⟩))) m0 m1 m2;have hz:=hG.size;simp[Leaves,settle,results,Tryz.results169,go_sem,c0,c1,c2];exact⟨by omega,(pR ⟨by omega,by omega,by omega⟩).trans g2,g3,S4,oO.upd hG.os hG.tape hG.output (by simpa using hz) λi hi hn=>(pR ⟨by omega,by omega,by omega⟩).trans (hG.old i hi)⟩
theorem RM {S:Nat->Prop} {w:World} {v:Value} {k:Nat} {xs:List AV} (h:aO S w v (.sl k xs)):∃p n c,v=.slice p n c:=by cases h<;>exact⟨_,_,_,rfl⟩
theorem PO {w0 w2 w3 w4:World} {S0 S3 S4:Nat->Prop} {l3 l4:List aC} {a3 e3 a4 e4:Int} {v:Value} {xs:List AV} {v1 v2 v3:Value} {T1 T2 T3:TypeId} (s0:w2.heap[w0.heap.size]?=some (.cells #[v1] T1 (0,0))) (s1:w2.heap[w0.heap.size+1]?=some (.cells #[v2] T2 (0,0))) (s2:w2.heap[w0.heap.size+2]?=some (.cells #[v3] T3 (0,0))) (s3:w2.heap.size=w0.heap.size+4)
 (h3:PS w0 S0 l3 a3 e3 w3 S3) (k3:∀i,i<w2.heap.size->i≠w0.heap.size+3->w3.heap[i]?=w2.heap[i]?) (h4:PS w0 S0 l4 a4 e4 w4 S4) (k4:∀i,i<w3.heap.size->i≠w0.heap.size+3->w4.heap[i]?=w3.heap[i]?) (hv:aO S4 w4 v (.sl 8 xs)):
 w4.cell? ⟨w0.heap.size,0,none⟩=some v1/\w4.frozen? ⟨w0.heap.size,0,none⟩=false/\PS w0 S0 l4 a4 e4 (w4.setCell ⟨w0.heap.size,0,none⟩ v) S4/\aO S4 (w4.setCell ⟨w0.heap.size,0,none⟩ v) v (.sl 8 xs)/\
  (w4.setCell ⟨w0.heap.size,0,none⟩ v).cell? ⟨w0.heap.size,0,none⟩=some v/\
  (w4.setCell ⟨w0.heap.size,0,none⟩ v).heap[w0.heap.size]?=some (.cells #[v] T1 (0,0))/\(w4.setCell ⟨w0.heap.size,0,none⟩ v).heap[w0.heap.size+1]?=some (.cells #[v2] T2 (0,0))/\(w4.setCell ⟨w0.heap.size,0,none⟩ v).heap[w0.heap.size+2]?=some (.cells #[v3] T3 (0,0)):=by
 have z3:=h3.size;have z4:=h4.size;have k0:=(k4 _ (by omega) (by omega)).trans ((k3 w0.heap.size (by omega) (by omega)).trans s0);have k1:=(k4 _ (by omega) (by omega)).trans ((k3 (w0.heap.size+1) (by omega) (by omega)).trans s1);have k2:=(k4 _ (by omega) (by omega)).trans ((k3 (w0.heap.size+2) (by omega) (by omega)).trans s2);obtain⟨c0,f0⟩:=dx k0;have hs:∀i,i<w4.heap.size->(i<w0.heap.size\/w0.heap.size+3<=i)->(w4.setCell ⟨w0.heap.size,0,none⟩ v).heap[i]?=w4.heap[i]?:=λi _ h=>heap_setCell_other _ _ _ _ (show i≠w0.heap.size by omega)
 have m0:(w4.setCell ⟨w0.heap.size,0,none⟩ v).heap[w0.heap.size]?=some (.cells #[v] T1 (0,0)):=by rw[heap_setCell_same _ _ _ _ _ _ k0];rfl
 refine⟨c0,f0,h4.upd rfl rfl rfl (by simp) hs,hv.mono (λ_ h=>h) λg hg=>hs g (h4.sits g hg) ?_,(dx m0).1,m0,?_,?_⟩
 ·rcases h4.news g hg with h|h
  ·exact .inl (h4.nA g h)
  ·right;omega
 ·rw[heap_setCell_other _ _ _ _ (show w0.heap.size+1≠w0.heap.size by omega)];exact k1
 ·rw[heap_setCell_other _ _ _ _ (show w0.heap.size+2≠w0.heap.size by omega)];exact k2
theorem ae4 {w W:World} {x y:Int} {a b c:Value} {g:Nat} {ta tb tc:TypeId} (h0:w.heap[g]?=some (.cells #[a] ta (0,0))) (h1:w.heap[g+1]?=some (.cells #[b] tb (0,0))) (h2:w.heap[g+2]?=some (.cells #[c] tc (0,0)))
 (hW:W=w.alloc (.cells #[.int .i64 x,.int .i64 y] 189)):
 Grew w W/\W.heap[w.heap.size]?=some (.cells #[.int .i64 x,.int .i64 y] 189 (0,0))/\w.heap.size<W.heap.size/\
  (W.cell? ⟨g,0,none⟩=some a/\W.cell? ⟨g+1,0,none⟩=some b/\W.cell? ⟨g+2,0,none⟩=some c/\W.frozen? ⟨g,0,none⟩=false/\W.frozen? ⟨g+1,0,none⟩=false/\W.frozen? ⟨g+2,0,none⟩=false)/\
  W.heap[g]?=some (.cells #[a] ta (0,0))/\W.heap[g+1]?=some (.cells #[b] tb (0,0))/\W.heap[g+2]?=some (.cells #[c] tc (0,0)):=by
 subst hW;have hl:∀ {i:Nat} {o:Obj},w.heap[i]?=some o->i<w.heap.size:=λh=>(Array.getElem?_eq_some_iff.1 h).1
 have hG:=Grew.alloc w (.cells #[.int .i64 x,.int .i64 y] 189);have k0:=(hG.old g (hl h0)).trans h0;have k1:=(hG.old (g+1) (hl h1)).trans h1;have k2:=(hG.old (g+2) (hl h2)).trans h2;exact⟨hG,fP _ _,by simp,⟨(dx k0).1,(dx k1).1,(dx k2).1,(dx k0).2,(dx k1).2,(dx k2).2⟩,k0,k1,k2⟩
theorem aff (N:Nat) {M:Maps} {S0:Nat->Prop} {w0:World} {l:List aC} {a e:Int} {ad:Option Addr} {cap:Nat} (hh:aE M S0 AH.nil w0) (hp:cY Tryz.prog M AH.nil w0) (hv:aO S0 w0 (.slice ad l.length cap) (.sl 7 (l.map jl)))
 (ha:¬a<0) (hb:¬a>(l.length:Int)) {x:Int×List aC×Int×Int} (hx:nJ N l a e=some x) {y:List az×List aC×Int×Int} (hy:px N 0 x.2.1 x.2.2.1 x.2.2.2=some (.inr y)) {c:Int} (hc:sN N y.1=some c) (hc0:c≠0):
 Calls Tryz.prog 169 #[.slice ad l.length cap,.int .i64 a,.int .i64 e] w0 λen w'=>∃h S',en=.returned (.tuple #[.slice none 0 0,.int .i64 0,.iface 175 (.pointer (some ⟨h,0,none⟩))])/\w0.heap.size<=h/\w'.heap[h]?=some (.cells #[.int .i64 c,.int .i64 x.1] 189 (0,0))/\h<w'.heap.size/\PS w0 S0 y.2.1 y.2.2.1 y.2.2.2 w' S':=by
 have hmf:∀(fn:Go.Fn) (first cap:Array Value) (w:World),(Instr.makeFunc fn first cap).run Tryz.prog w=.ok (.func fn first cap) w:=λ_ _ _ _=>rfl
 obtain⟨s0,s1,s2,s3⟩:=zX w0 (.slice none 0 0) (.int .i64 0) .nilIface #[.slice ad l.length cap,.int .i64 a,.int .i64 e] 51 3 116 261
 go_enter_defers Tryz.func169,Tryz.ntmps169
 go_wp2_with (first
  | (go_at_call 177;refine(Hn N (Ho (a:=a) (e:=e) hh hp hv _ _ _ _) hx).mono ?_;rintro r1 w3 ⟨rfl,S3,lC,hk3⟩)
  | (go_at_call 179;refine(Cw N lC hy).mono ?_;rintro r2 w4 ⟨S4,⟨v,rfl,hv4,oO⟩,hk4⟩;obtain⟨b1,b2,b3,rfl⟩:=RM hv4;obtain⟨c0,f0,mW,hv5,Tm,q9,ra,rd⟩:=PO s0 s1 s2 s3 lC hk3 oO hk4 hv4)
  | (go_at_call 158;refine(PB N mW hv5 hc).mono ?_;rintro r3 w6 ⟨rfl,S6,jZ,hk6,hv6⟩)
  | (go_at_call 60;refine(HG _ _ hc0 _).mono ?_;rintro r4 W ⟨rfl,hW⟩;obtain⟨hG,hH,hsz,⟨n0,n1,n2,q0,q1,q2⟩,r0,r1,r2⟩:=ae4 ((hk6 _ (by have:=mW.size;omega)).trans q9) ((hk6 _ (by have:=mW.size;omega)).trans ra) ((hk6 _ (by have:=mW.size;omega)).trans rd) hW;clear hW))
 refine leaves_cons (f:=178) (args:=#[.pointer (some ⟨w0.heap.size,0,none⟩),.pointer (some ⟨w0.heap.size+1,0,none⟩),.pointer (some ⟨w0.heap.size+2,0,none⟩)]) (by simp) (by simp[go_sem]) ?_;refine(OI _ _ _ _).mono ?_;rintro e2 u' w5 ⟨rfl,rfl,rfl⟩;obtain⟨c0,c1,c2⟩:=zY (u:=.slice none 0 0) (v:=.int .i64 0) (x:=.iface 175 (.pointer (some ⟨w6.heap.size,0,none⟩))) r0 r1 r2;have z6:=jZ.size;have hz:=hG.size;have kk:∀i,i<W.heap.size->((((W.setCell ⟨w0.heap.size,0,none⟩ (.slice none 0 0)).setCell ⟨w0.heap.size+1,0,none⟩ (.int .i64 0)).setCell ⟨w0.heap.size+2,0,none⟩ (.iface 175 (.pointer (some ⟨w6.heap.size,0,none⟩)))).alloc (.cells #[.int .i64 0,.int .i64 0] 263)).heap[i]?=(((W.setCell ⟨w0.heap.size,0,none⟩ (.slice none 0 0)).setCell ⟨w0.heap.size+1,0,none⟩ (.int .i64 0)).setCell ⟨w0.heap.size+2,0,none⟩ (.iface 175 (.pointer (some ⟨w6.heap.size,0,none⟩)))).heap[i]?:=λi hi=>dL _ _ i (by simpa using hi)
 have c0':=c0;rw[<- pG (kk w0.heap.size (by omega))]at c0;rw[<- pG (kk (w0.heap.size+1) (by omega))]at c1;rw[<- pG (kk (w0.heap.size+2) (by omega))]at c2;simp[Leaves,settle,results,Tryz.results169,go_sem,c0,c1,c2];exact⟨by omega,(kk _ (by omega)).trans ((pR ⟨by omega,by omega,by omega⟩).trans hH),by omega,S6,jZ.upd hG.os hG.tape hG.output (by simp;omega) λi hi hn=>(kk i (by omega)).trans ((pR ⟨by omega,by omega,by omega⟩).trans (hG.old i hi))⟩
theorem aep {w0 w5 w6:World} {S0 S5 S6:Nat->Prop} {l5 l6:List aC} {a5 e5 a6 e6:Int} {v v2 v3:Value} {T1 T2 T3:TypeId} (h5:PS w0 S0 l5 a5 e5 w5 S5) (h6:PS w0 S0 l6 a6 e6 w6 S6) (k6:∀i,i<w5.heap.size->w6.heap[i]?=w5.heap[i]?)
 (q9:w5.heap[w0.heap.size]?=some (.cells #[v] T1 (0,0))) (ra:w5.heap[w0.heap.size+1]?=some (.cells #[v2] T2 (0,0))) (rd:w5.heap[w0.heap.size+2]?=some (.cells #[v3] T3 (0,0))):
 (w6.cell? ⟨w0.heap.size,0,none⟩=some v/\w6.cell? ⟨w0.heap.size+1,0,none⟩=some v2/\w6.cell? ⟨w0.heap.size+2,0,none⟩=some v3/\w6.frozen? ⟨w0.heap.size,0,none⟩=false/\w6.frozen? ⟨w0.heap.size+1,0,none⟩=false/\w6.frozen? ⟨w0.heap.size+2,0,none⟩=false)/\
   w6.cell? ⟨w0.heap.size+3,1,none⟩=some (.int .i64 a6)/\w6.heap[w0.heap.size]?=some (.cells #[v] T1 (0,0))/\w6.heap[w0.heap.size+1]?=some (.cells #[v2] T2 (0,0))/\w6.heap[w0.heap.size+2]?=some (.cells #[v3] T3 (0,0)):=by
 have z5:=h5.size;have m0:=(k6 _ (by omega)).trans q9;have m1:=(k6 _ (by omega)).trans ra;have m2:=(k6 _ (by omega)).trans rd;obtain⟨vl,T,hb,_⟩:=h6.box;exact⟨⟨(dx m0).1,(dx m1).1,(dx m2).1,(dx m0).2,(dx m1).2,(dx m2).2⟩,by simp[World.cell?,hb],m0,m1,m2⟩
theorem He {w:World} {p:Addr} {u v:Value} (h:w.cell? p=some u):(w.setCell p v).drew.cell? p=some v:=by
 have:(w.setCell p v).cell? p=some v:=by simp[World.cell?_setCell_same,h]
 exact this
theorem kG {w:World} {p q:Addr} {u v:Value} (hn:q≠p) (h:w.drew.cell? p=some v):(w.setCell q u).drew.cell? p=some v:=by
 have:(w.setCell q u).cell? p=w.cell? p:=World.cell?_setCell_other w q p u hn;exact this.trans h
theorem ahc (N:Nat) {M:Maps} {S0:Nat->Prop} {w0:World} {l:List aC} {a e:Int} {ad:Option Addr} {cap:Nat} (hh:aE M S0 AH.nil w0) (hp:cY Tryz.prog M AH.nil w0) (hv:aO S0 w0 (.slice ad l.length cap) (.sl 7 (l.map jl)))
 (ha:¬a<0) (hb:¬a>(l.length:Int)) {x:Int×List aC×Int×Int} (hx:nJ N l a e=some x) {y:List az×List aC×Int×Int} (hy:px N 0 x.2.1 x.2.2.1 x.2.2.2=some (.inr y)) (hc:sN N y.1=some 0):
 Calls Tryz.prog 169 #[.slice ad l.length cap,.int .i64 a,.int .i64 e] w0 λen w'=>∃v S',en=.returned (.tuple #[v,.int .i64 y.2.2.1,.nilIface])/\aO S' w' v (.sl 8 (y.1.map fV))/\PS w0 S0 y.2.1 y.2.2.1 y.2.2.2 w' S':=by
 have hmf:∀(fn:Go.Fn) (first cap:Array Value) (w:World),(Instr.makeFunc fn first cap).run Tryz.prog w=.ok (.func fn first cap) w:=λ_ _ _ _=>rfl
 obtain⟨s0,s1,s2,s3⟩:=zX w0 (.slice none 0 0) (.int .i64 0) .nilIface #[.slice ad l.length cap,.int .i64 a,.int .i64 e] 51 3 116 261
 go_enter_defers Tryz.func169,Tryz.ntmps169
 go_wp2_with (first
  | (go_at_call 177;refine(Hn N (Ho (a:=a) (e:=e) hh hp hv _ _ _ _) hx).mono ?_;rintro r1 w3 ⟨rfl,S3,lC,hk3⟩)
  | (go_at_call 179;refine(Cw N lC hy).mono ?_;rintro r2 w4 ⟨S4,⟨v,rfl,hv4,oO⟩,hk4⟩;obtain⟨b1,b2,b3,rfl⟩:=RM hv4;obtain⟨c0,f0,mW,hv5,Tm,q9,ra,rd⟩:=PO s0 s1 s2 s3 lC hk3 oO hk4 hv4)
  | (go_at_call 158;refine(PB N mW hv5 hc).mono ?_;rintro r3 w6 ⟨rfl,S6,jZ,hk6,hv6⟩;obtain⟨⟨n0,n1,n2,q0,q1,q2⟩,nb,r0,r1,r2⟩:=aep mW jZ hk6 q9 ra rd))
 go_region_held3 (λw'=>w'.cell? ⟨w0.heap.size,0,none⟩=some (.slice b1 b2 b3)/\w'.cell? ⟨w0.heap.size+3,1,none⟩=some (.int .i64 y.2.2.1)) (first|exact⟨He n0,kG (by simp) nb⟩|exact⟨kG (by simp) (He n0),kG (by simp) (kG (by simp) nb)⟩|exact⟨kG (by simp) (kG (by simp) (He n0)),kG (by simp) (kG (by simp) (kG (by simp) nb))⟩|go_keep) (fail)
 all_goals go_wp2
 refine leaves_cons (f:=178) (args:=#[.pointer (some ⟨w0.heap.size,0,none⟩),.pointer (some ⟨w0.heap.size+1,0,none⟩),.pointer (some ⟨w0.heap.size+2,0,none⟩)]) (by simp) (by simp[go_sem]) ?_;refine(OI _ _ _ _).mono ?_;rintro e2 u' w7 ⟨rfl,rfl,rfl⟩;obtain⟨c0,c1,c2⟩:=zY (u:=.slice b1 b2 b3) (v:=.int .i64 y.2.2.1) (x:=.nilIface) r0 r1 r2;have z6:=jZ.size;have kk:∀i,i<w6.heap.size->((((w6.setCell ⟨w0.heap.size,0,none⟩ (.slice b1 b2 b3)).setCell ⟨w0.heap.size+1,0,none⟩ (.int .i64 y.2.2.1)).setCell ⟨w0.heap.size+2,0,none⟩ .nilIface).drew.alloc (.cells #[.int .i64 0,.int .i64 0] 263)).heap[i]?=(((w6.setCell ⟨w0.heap.size,0,none⟩ (.slice b1 b2 b3)).setCell ⟨w0.heap.size+1,0,none⟩ (.int .i64 y.2.2.1)).setCell ⟨w0.heap.size+2,0,none⟩ .nilIface).heap[i]?:=λi hi=>dL _ _ i (by simpa using hi)
 have hd:aO S6 _ (.slice b1 b2 b3) (.sl 8 (y.1.map fV)):=hv6;have hall:∀i,i<w6.heap.size->(i<w0.heap.size\/w0.heap.size+3<=i)->((((w6.setCell ⟨w0.heap.size,0,none⟩ (.slice b1 b2 b3)).setCell ⟨w0.heap.size+1,0,none⟩ (.int .i64 y.2.2.1)).setCell ⟨w0.heap.size+2,0,none⟩ .nilIface).drew.alloc (.cells #[.int .i64 0,.int .i64 0] 263)).heap[i]?=w6.heap[i]?:=λi hi hn=>(kk i hi).trans (pR ⟨by omega,by omega,by omega⟩)
 have UQ:=jZ.upd (w':=(((w6.setCell ⟨w0.heap.size,0,none⟩ (.slice b1 b2 b3)).setCell ⟨w0.heap.size+1,0,none⟩ (.int .i64 y.2.2.1)).setCell ⟨w0.heap.size+2,0,none⟩ .nilIface).drew.alloc (.cells #[.int .i64 0,.int .i64 0] 263)) rfl rfl rfl (by simp) hall;have hd7:=hv6.mono (λ_ h=>h) λg hg=>hall g (jZ.sits g hg) (by
  rcases jZ.news g hg with h|h
  ·exact .inl (jZ.nA g h)
  ·right;omega)
 rw[<- pG (kk w0.heap.size (by omega))]at c0;rw[<- pG (kk (w0.heap.size+1) (by omega))]at c1;rw[<- pG (kk (w0.heap.size+2) (by omega))]at c2;generalize (((w6.setCell ⟨w0.heap.size,0,none⟩ (.slice b1 b2 b3)).setCell ⟨w0.heap.size+1,0,none⟩ (.int .i64 y.2.2.1)).setCell ⟨w0.heap.size+2,0,none⟩ .nilIface).drew.alloc (.cells #[.int .i64 0,.int .i64 0] 263)=V at *;simp[Leaves,settle,results,Tryz.results169,go_sem,c0,c1,c2];exact⟨S6,hd7,UQ⟩
theorem adr {w0 W:World} (hW:W=(((w0.alloc (.cells #[.slice none 0 0] 51)).alloc (.cells #[.int .i64 0] 3)).alloc (.cells #[.nilIface] 116)).alloc (.cells #[.int .i64 2,.int .i64 0] 189)):
 Grew w0 W/\W.heap[w0.heap.size+3]?=some (.cells #[.int .i64 2,.int .i64 0] 189 (0,0))/\W.heap.size=w0.heap.size+4/\
  (W.cell? ⟨w0.heap.size,0,none⟩=some (.slice none 0 0)/\W.cell? ⟨w0.heap.size+1,0,none⟩=some (.int .i64 0)/\W.cell? ⟨w0.heap.size+2,0,none⟩=some .nilIface/\W.frozen? ⟨w0.heap.size,0,none⟩=false/\W.frozen? ⟨w0.heap.size+1,0,none⟩=false/\W.frozen? ⟨w0.heap.size+2,0,none⟩=false)/\
  W.heap[w0.heap.size]?=some (.cells #[.slice none 0 0] 51 (0,0))/\W.heap[w0.heap.size+1]?=some (.cells #[.int .i64 0] 3 (0,0))/\W.heap[w0.heap.size+2]?=some (.cells #[.nilIface] 116 (0,0)):=by
 subst hW;obtain⟨s0,s1,s2,s3⟩:=zX w0 (.slice none 0 0) (.int .i64 0) .nilIface #[.int .i64 2,.int .i64 0] 51 3 116 189;refine⟨⟨rfl,rfl,rfl,by simp;omega,λg hg=>(dL _ _ g (by simp;omega)).trans ((dL _ _ g (by simp;omega)).trans ((dL _ _ g (by simp;omega)).trans (dL _ _ g hg)))⟩,?_,s3,⟨(dx s0).1,(dx s1).1,(dx s2).1,(dx s0).2,(dx s1).2,(dx s2).2⟩,s0,s1,s2⟩;rw[show w0.heap.size+3=(((w0.alloc (.cells #[.slice none 0 0] 51)).alloc (.cells #[.int .i64 0] 3)).alloc (.cells #[.nilIface] 116)).heap.size by simp];exact fP _ _
theorem afE {w0:World} {n:Nat} {a e:Int} {ad:Option Addr} {cap:Nat} (hb:a<0\/(¬a<0/\a>(n:Int))):
 Calls Tryz.prog 169 #[.slice ad n cap,.int .i64 a,.int .i64 e] w0 λen w'=>en=.returned (.tuple #[.slice none 0 0,.int .i64 0,.iface 175 (.pointer (some ⟨w0.heap.size+3,0,none⟩))])/\w'.heap[w0.heap.size+3]?=some (.cells #[.int .i64 2,.int .i64 0] 189 (0,0))/\w0.heap.size+3<w'.heap.size/\Grew w0 w':=by
 rcases hb with ha|⟨ha,hb⟩
 all_goals
  go_enter_defers Tryz.func169,Tryz.ntmps169
  go_wp2_with (go_at_call 60;refine(HG 2 0 (by decide) _).mono ?_;rintro r4 W ⟨rfl,hW⟩;obtain⟨hG,hH,hsz,⟨n0,n1,n2,q0,q1,q2⟩,r0,r1,r2⟩:=adr hW;clear hW)
  obtain⟨c0,c1,c2⟩:=zY (u:=.slice none 0 0) (v:=.int .i64 0) (x:=.iface 175 (.pointer (some ⟨w0.heap.size+3,0,none⟩))) r0 r1 r2;have kk:∀i,i≠w0.heap.size/\i≠w0.heap.size+1/\i≠w0.heap.size+2->_:=λi hi=>pR (W:=W) (u:=.slice none 0 0) (v:=.int .i64 0) (x:=.iface 175 (.pointer (some ⟨w0.heap.size+3,0,none⟩))) hi
  simp[bodyPostD,Leaves,settle,results,Tryz.results169,go_sem,c0,c1,c2];exact⟨(kk _ (by omega)).trans hH,by omega,hG.os,hG.tape,hG.output,by simp;omega,λi hi=>(kk i (by omega)).trans (hG.old i hi)⟩
theorem QS {M:Maps} {S S':Nat->Prop} {w w':World} (hh:aE M S AH.nil w) (ho:w'.os=w.os) (ht:w'.tape=w.tape) (hu:w'.output=w.output) (old:∀i,i<w.heap.size->w'.heap[i]?=w.heap[i]?) (hz:w.heap.size<=w'.heap.size) (sub:∀i,S i->S' i) (news:∀i,S' i->S i\/w.heap.size<=i) (sits:∀i,S' i->i<w'.heap.size):
 aE M S' AH.nil w'/\aU M S AH.nil w M S' AH.nil w':=
 ⟨⟨hh.nb,hh.nt,sits,(λb hb=>by cases hb),(λt ht=>by cases ht),(λb b' hb=>by cases hb),(λt t' g h=>by cases h.1),(λb t g hb=>by cases hb)⟩,
  ⟨hh.nb,hh.nt,ho,ht,hu,hz,sub,λg hg=>old g (hh.sits g hg),λg hg _=>old g hg,.refl M,λg hg=>(news g hg).imp_right .inr,(λg hf=>by
   rcases hf with⟨b,hb,_⟩|⟨t,ht,_⟩
   ·cases hb
   ·cases ht)⟩⟩
theorem ah7 {S:Nat->Prop} {w:World} {v:Value} {k:Nat} {xs:List AV} (h:aO S w v (.sl k xs)):∃ad cap,v=.slice ad xs.length cap:=by cases h<;>exact⟨_,_,rfl⟩
def JC (x p:Int):AV:=.aL [.sl 8 [],.v (.int .i64 0),.aG 175 (.aZ [.v (.int .i64 x),.v (.int .i64 p)])]
theorem H6 {M:Maps} {S S':Nat->Prop} {w w':World} {x p:Int} {h:Nat} (hh:aE M S AH.nil w) (ho:w'.os=w.os) (ht:w'.tape=w.tape) (hu:w'.output=w.output) (old:∀i,i<w.heap.size->w'.heap[i]?=w.heap[i]?) (hz:w.heap.size<=w'.heap.size) (sub:∀i,S i->S' i) (news:∀i,S' i->S i\/w.heap.size<=i) (sits:∀i,S' i->i<w'.heap.size)
 (h1:w.heap.size<=h) (h2:w'.heap[h]?=some (.cells #[.int .i64 x,.int .i64 p] 189 (0,0))) (h3:h<w'.heap.size):
 ∃M' S',eZ M' S' w' (.returned (.tuple #[.slice none 0 0,.int .i64 0,.iface 175 (.pointer (some ⟨h,0,none⟩))])) (.ret (JC x p))/\aE M' S' AH.nil w'/\aU M S AH.nil w M' S' AH.nil w':=by
 obtain⟨q1,q2⟩:=QS (S':=λi=>S' i\/i=h) hh ho ht hu old hz (λi hi=>.inl (sub i hi)) (λi hi=>hi.elim (news i) λe=>.inr (e▸h1)) (λi hi=>hi.elim (sits i) λe=>e▸h3);refine⟨M,_,.data (.aL _ _ rfl λi hi=>?_),q1,q2⟩
 match i,hi with
 | 0,_=>exact .sl0 none 0 8
 | 1,_=>exact .v _
 | 2,_=>
   refine .aG _ _ _ (.aZ h 0 _ _ _ (0,0) (.inr rfl) h2 (Nat.le_refl 2) (λj hj=>?_) λj hj=>?_)
   ·match j,hj with
    | 0,_=>rfl
    | 1,_=>rfl
   ·match j,hj with
    | 0,_=>exact .v _
    | 1,_=>exact .v _
theorem abz (N:Nat):M9.Ok prog N:=by
 refine⟨⟨Tryz.f169,Tryz.func169,by kernel_rfl,by kernel_rfl⟩,λa r h=>?_⟩;obtain⟨l,a,e,⟨⟩⟩:=a;have h:FD N l a e=some r:=h;intro M S w vs hh hp hsz hrep;obtain⟨v,u,t,rfl⟩:∃v u t,vs=#[v,u,t]:=by
  match vs,hsz with
  | ⟨[v,u,t]⟩,_=>exact⟨v,u,t,rfl⟩
 have e0:aO S w v (.sl 7 (l.map jl)):=HT (hrep 0 (by decide:0<3));have e1:u=.int .i64 a:=am.bh (hrep 1 (by decide:1<3));have e2:t=.int .i64 e:=am.bh (hrep 2 (by decide:2<3));subst e1;subst e2;obtain⟨ad,cap,hvv⟩:=ah7 e0;rw[List.length_map]at hvv;subst hvv;have bad:(a<0\/(¬a<0/\a>(l.length:Int)))->r=.inr ([],0,2,0)->Calls prog 169 #[.slice ad l.length cap,.int .i64 a,.int .i64 e] w λen w'=>∃M' S',eZ M' S' w' en (.ret (JC 2 0))/\aE M' S' AH.nil w'/\aU M S AH.nil w M' S' AH.nil w':=λhb _=>by
  refine(afE hb).mono ?_;rintro en w' ⟨rfl,h2,h3,hG⟩;exact H6 hh hG.os hG.tape hG.output hG.old hG.size (λ_ h=>h) (λ_ h=>.inl h) (λi hi=>Nat.lt_of_lt_of_le (hh.sits i hi) hG.size) (by omega) h2 h3
 unfold FD at h;by_cases ha:a<0
 ·rw[show aj a 0=true from bJ.2 ha,cond_true]at h;cases h;exact bad (.inl ha) rfl
 rw[show aj a 0=false by rw[Bool.eq_false_iff];exact λh=>ha (bJ.1 h),cond_false]at h;by_cases hb:a>(l.length:Int)
 ·rw[show aj (l.length:Int) a=true from bJ.2 hb,cond_true]at h;cases h;exact bad (.inr ⟨ha,hb⟩) rfl
 rw[show aj (l.length:Int) a=false by rw[Bool.eq_false_iff];exact λh=>hb (bJ.1 h),cond_false]at h;obtain⟨x,hx,h⟩:=Option.bind_eq_some_iff.1 h;obtain⟨y,hy,h⟩:=Option.bind_eq_some_iff.1 h;cases y with
 | inl y=>
   simp only[Sum.elim_inl]at h;obtain⟨hy0,h⟩:=bW h;cases h;refine(aeW N hh hp e0 ha hb hx hy (by simpa using hy0)).mono ?_;rintro en w' ⟨h,S',rfl,h1,h2,h3,ps⟩;exact H6 hh ps.os ps.tape ps.output ps.old (by have:=ps.size;omega) ps.sub (λi hi=>(ps.news i hi).imp_right λh=>by omega) ps.sits h1 h2 h3
 | inr y=>
   simp only[Sum.elim_inr]at h;obtain⟨c,hc,h⟩:=Option.bind_eq_some_iff.1 h;by_cases hc0:c=0
   ·subst hc0;rw[show((0:Int) != 0)=false from rfl,cond_false]at h;cases h;refine(ahc N hh hp e0 ha hb hx hy hc).mono ?_;rintro en w' ⟨v,S',rfl,hd,ps⟩;obtain⟨q1,q2⟩:=QS hh ps.os ps.tape ps.output ps.old (by have:=ps.size;omega) ps.sub (λi hi=>(ps.news i hi).imp_right λh=>by omega) ps.sits;refine⟨M,S',.data (.aL _ _ rfl λi hi=>?_),q1,q2⟩
    match i,hi with
    | 0,_=>exact hd
    | 1,_=>exact .v _
    | 2,_=>exact .v _
   ·rw[show(c != 0)=true by simpa using hc0,cond_true]at h;cases h;refine(aff N hh hp e0 ha hb hx hy hc hc0).mono ?_;rintro en w' ⟨h,S',rfl,h1,h2,h3,ps⟩;exact H6 hh ps.os ps.tape ps.output ps.old (by have:=ps.size;omega) ps.sub (λi hi=>(ps.news i hi).imp_right λh=>by omega) ps.sits h1 h2 h3
end Go.Proofs.YtmfkphajohcklaaGreat.U
