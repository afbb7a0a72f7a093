/- The run over typed values says what the run over plain ones does: loops, ends, the whole. No premise beyond what each theorem says. -/
import Derived.Test.YtmfkphajohcklaaGreatOA3
import Derived.Defers
import Derived.Test.YtmfkphajohcklaaGreatOA2
set_option linter.all false
set_option linter.unusedSimpArgs false
set_option linter.unusedVariables false
namespace Go.Proofs.YtmfkphajohcklaaGreat.O
open Go
section
theorem xZk7 {Q:AV→AV→Prop}:∀ {a b:List AV},a.length=b.length→(∀ i,i < b.length→Q (a.getD i .any) (b.getD i .any))→listP Q a b
 | [],[],_,_=>trivial
 | x::a,y::b,hl,h=>⟨by simpa using h 0 (by simp),xZk7 (by simpa using hl) fun i hi=>by simpa using h (i+1) (by simpa using hi)⟩
 | [],_::_,hl,_=>by simp at hl
 | _::_,[],hl,_=>by simp at hl
section
variable {T:Nat→Type} {B:Tb T} {R:Type} {r:R}
theorem SE.len (ns:Nat) (e:SE T):(SE.av B ns e).length=ns:=by simp [SE.av]
theorem SE.get {ns:Nat} {e:SE T} {i:Nat} (h:i < ns):(SE.av B ns e).getD i .any=(lk e i).av B:=by
 simp [SE.av,List.getD,h]
theorem xZoM {e:SE T} {ks:List Nat} (h:e.map (·.1)=ks) {i:Nat} (hi:i ∉ ks):lk e i=.raw .any:=by
 subst h
 induction e with
 | nil=>rfl
 | cons x e ih=>
   obtain ⟨m,v⟩:=x
   simp only [List.map_cons,List.mem_cons,not_or] at hi
   rw [xZeK,if_neg (fun q=>hi.1 q.symm)]
   exact ih hi.2
theorem RelE.of {e:SE T} {ks:List Nat} {ns:Nat} (h:e.map (·.1)=ks) (hk:ks.all (fun i=>Nat.blt i ns)=true):RelE B e (SE.av B ns e) ns:=by
 refine ⟨SE.len ns e,fun i=>?_⟩
 rcases Nat.lt_or_ge i ns with hi | hi
 ·exact SE.get hi
 ·have:i ∉ ks:=fun hm=>by
   have:=List.all_eq_true.1 hk i hm
   simp at this;omega
  rw [xZoM h this]
  simp [List.getD,List.getElem?_eq_none (show (SE.av B ns e).length≤i by rw [SE.len];exact hi),BV.av]
variable {X:Ctx} {k:List SI} {e:SE T} {t:List AV} {ns:Nat} {H:BH T}
theorem xZfM {nt:Nat} (hk:notOps k):∀ {l:List (Nat×Option Nat×Nat)} {e:SE T} {t:List AV} {H:BH T} {K:SE T→BH T→Option R},RelE B e t ns→emS nt l e H K=some r→
 (∀ e' H' t',RelE B e' t' ns→K e' H'=some r→go X k t' (H'.av B))→go X k t (H.av B)
 | [],e,t,H,K,hr,h,hK=>hK e H t hr h
 | (n,none,i)::l,e,t,H,K,hr,h,hK=>by
   simp only [emS] at h
   split at h
   ·rename_i hn
    have hg:=hr.get n
    rw [hn] at hg
    have hlt:n < t.length:=by
     rcases Nat.lt_or_ge n t.length with h' | h'
     ·exact h'
     ·rw [show t.getD n .any=.any by simp [List.getD,List.getElem?_eq_none h']] at hg
      cases hg
    refine xZqO n (B.k i) hk hlt (hg.trans (by simp only [BV.av])) ?_
    have hput:=hr.put (B:=B) (d:=some n) (by simp only [okD];simpa using (by rw [← hr.len];exact hlt:n < ns)) (.own H.buf.length)
    simp only [putE,putT,BV.av] at hput
    have:=xZfM hk (H:=⟨H.box,H.buf++[.live i []]⟩) hput h hK
    rw [buf_len']
    simpa only [BH.av,List.map_append,List.map_cons,List.map_nil,BB.av] using this
   ·exact xZfM hk hr h hK
 | (n,some j,i)::l,e,t,H,K,hr,h,hK=>by
   simp only [emS] at h
   split at h
   ·rename_i b hn
    split at h
    ·rename_i hj
     have hcell:((H.av B).box.getD b []).getD j .any=.emp:=by
      rw [xZiT,xZev,hj];simp only [BV.av]
     have hj':j < ((H.av B).box.getD b []).length:=by
      rcases Nat.lt_or_ge j ((H.av B).box.getD b []).length with h' | h'
      ·exact h'
      ·rw [show ((H.av B).box.getD b []).getD j .any=.any by rw [List.getD,List.getElem?_eq_none h'];rfl] at hcell
       cases hcell
     have hb':b < (H.av B).box.length:=by
      rcases Nat.lt_or_ge b (H.av B).box.length with h' | h'
      ·exact h'
      ·rw [show (H.av B).box.getD b []=[] by rw [List.getD,List.getElem?_eq_none h'];rfl] at hj'
       simp at hj'
     refine xZos b j (B.k i) hk hb' hj' hcell ?_
     have:=xZfM hk (H:=⟨H.box.set b ((H.box.getD b []).set j (.own H.buf.length)),H.buf++[.live i []]⟩) hr h hK
     have e1:(⟨H.box.set b ((H.box.getD b []).set j (.own H.buf.length)),H.buf++[.live i []]⟩:BH T).av B=⟨(H.av B).box.set b (((H.av B).box.getD b []).set j (.own (H.av B).buf.length)),(H.av B).buf++[.live (B.k i) []]⟩:=by
      rw [xZiT,buf_len']
      simp only [BH.av,List.map_append,List.map_cons,List.map_nil,BB.av,List.map_set,xZjp,BV.av]
     rw [e1] at this
     exact this
    ·rename_i u hj
     split at h
     ·rename_i i' xs _ hu
      have hcell:((H.av B).box.getD b []).getD j .any=.own u:=by
       rw [xZiT,xZev,hj];simp only [BV.av]
      have hj':j < ((H.av B).box.getD b []).length:=by
       rcases Nat.lt_or_ge j ((H.av B).box.getD b []).length with h' | h'
       ·exact h'
       ·rw [show ((H.av B).box.getD b []).getD j .any=.any by rw [List.getD,List.getElem?_eq_none h'];rfl] at hcell
        cases hcell
      have hb':b < (H.av B).box.length:=by
       rcases Nat.lt_or_ge b (H.av B).box.length with h' | h'
       ·exact h'
       ·rw [show (H.av B).box.getD b []=[] by rw [List.getD,List.getElem?_eq_none h'];rfl] at hj'
        simp at hj'
      refine xZqP b j u (B.k i') (xs:=xs.map (B.eA i')) hk hb' hj' hcell (by rw [xZ9A,hu];rfl) ?_
      have:=xZfM hk (H:=⟨H.box.set b ((H.box.getD b []).set j (.own H.buf.length)),H.buf.set u .dead++[.live i' xs]⟩) hr h hK
      have e1:(⟨H.box.set b ((H.box.getD b []).set j (.own H.buf.length)),H.buf.set u .dead++[.live i' xs]⟩:BH T).av B=⟨(H.av B).box.set b (((H.av B).box.getD b []).set j (.own (H.av B).buf.length)),(H.av B).buf.set u .dead++[.live (B.k i') (xs.map (B.eA i'))]⟩:=by
       rw [xZiT,buf_len']
       simp only [BH.av,List.map_append,List.map_cons,List.map_nil,BB.av,List.map_set,xZjp,BV.av]
      rw [e1] at this
      exact this
     ·exact xZfM hk hr h hK
    ·exact xZfM hk hr h hK
   ·exact xZfM hk hr h hK
theorem xZpe {rb rt:List Nat}:∀ {l:List Nat} {e':SE T},rnE rb rt H e l=some e'→∀ i,le2 rb rt (H.av B) ((lk e i).av B) ((lk e' i).av B)
 | [],e',h,i=>by cases h;simp only [lk,BV.av];exact of_eq_true (xZoL _ _ _ _)
 | n::l,e',h,i=>by
   simp only [rnE] at h
   split at h
   ·rename_i y r' h1 h2
    cases h
    rw [xZeK]
    by_cases hi:n=i
    ·subst hi;rw [if_pos rfl];exact xZrm h1
    ·rw [if_neg hi];exact xZpe h2 i
   ·cases h
theorem xZjU (A:AH):frzH A []=A:=rfl
theorem xZne {nb nt:Nat} (hnb:X.Hin.box.length=nb) (hnt:X.Hin.buf.length=nt) (hr:RelE B e t ns) (hno:notOps k) {L:Lp B R} {next:Option R}
 (hg:∀ a,L.run a=some r→go X k (SE.av B ns (L.enc a).1) ((L.enc a).2.av B)) (hnx:next=some r→go X k t (H.av B)) (h:loopN nb nt L e H next=some r):go X k t (H.av B):=by
 by_cases hq:next=some r
 ·exact hnx hq
 refine xZfM (k:=k) hno hr h fun e1 H1 t1 hr1 h1=>?_
 generalize (rch H1 2000 (flatP (H1.box.take nb)++L.live.map (lk e1)) (List.range nb) (List.range nt))=p at h1
 obtain ⟨rb,rt⟩:=p
 dsimp only at h1
 split at h1
 ·rename_i e' hk he
  rw [Bool.and_eq_true] at hk
  obtain ⟨H',hl,_,h1⟩:=xZlv (B:=B) h1
  split at h1
  rotate_left
  ·exact absurd h1 hq
  rename_i a ha
  have hrun:=h1
  obtain ⟨q1,q2⟩:=L.ok _ _ _ ha
  refine xZou [] rb rt (SE.av B ns e') (H'.av B) hno ⟨by rw [hnb];exact hk.1,by rw [hnt];exact hk.2,by rw [xZjU];exact hl,?_⟩ ?_
  ·rw [xZjU]
   refine xZk7 (by rw [hr1.len,SE.len]) fun i hi=>?_
   rw [SE.len] at hi
   rw [SE.get hi,hr1.get]
   exact xZpe he i
  ·refine go_lw hno ⟨by rw [SE.len,SE.len],fun i hi=>?_⟩ q2 (hg a hrun)
   rw [SE.len] at hi
   rw [SE.get hi,SE.get hi]
   rcases q1 i with q | q
   ·exact .inl q
   ·rw [q];exact .inr (by simp only [BV.av])
 ·exact absurd h1 hq
theorem xZka {nb nt:Nat} (hnb:X.Hin.box.length=nb) (hnt:X.Hin.buf.length=nt) (hr:RelE B e t ns) (hno:notOps k):∀ {l:List (Lp B R)},(∀ L∈l,∀ a,L.run a=some r→go X k (SE.av B ns (L.enc a).1) ((L.enc a).2.av B))→loopS nb nt e H l=some r→go X k t (H.av B)
 | [],_,h=>by cases h
 | L::l,hg,h=>xZne hnb hnt hr hno (hg L (List.mem_cons_self ..)) (fun h'=>xZka hnb hnt hr hno (fun L' hL=>hg L' (List.mem_cons_of_mem _ hL)) h') h
theorem xZkv (hr:RelE B e t ns):∀ {rs:List Rs} {l:List (BV T)},resS e H rs=some l→∃ p,resV t (H.av B) rs=some (p,BV.avs B l)∧p
 | [],l,h=>by cases h;exact ⟨True,rfl,trivial⟩
 | .t n::rs,l,h=>by
   simp only [resS] at h
   split at h
   ·rename_i l' hl
    cases h
    obtain ⟨p,h1,h2⟩:=xZkv hr hl
    refine ⟨p,?_,h2⟩
    simp only [resV,h1,Option.map_some,BV.avs,hr.get]
   ·cases h
 | .cell n sz ag::rs,l,h=>by
   simp only [resS] at h
   split at h
   ·rename_i b o hn
    split at h
    ·rename_i cs l' hcs hl
     split at h
     ·rename_i hle
      cases h
      obtain ⟨p,h1,h2⟩:=xZkv hr hl
      refine ⟨o+sz≤(BV.avs B cs).length∧p,?_,by rw [xZ4n];simpa using hle,h2⟩
      have hg:=hr.get n
      rw [hn] at hg
      simp only [BV.av] at hg
      simp only [resV,hg,h1,Option.map_some,xZdp hcs,BV.avs,mk_av,xZcr,xZba]
     ·cases h
    ·cases h
   ·cases h
theorem xZrq (l:List (BV T)):(tupS l).av B=tupV (BV.avs B l):=by
 match l with
 | []=>simp only [tupS,BV.av,BV.avs,tupV]
 | [x]=>simp only [tupS,BV.avs,tupV]
 | x::y::l=>simp only [tupS,BV.av,BV.avs,tupV]
def PostW (Hin:AH) (e:AE) (H':AH) (r:AE) (H:AH):Prop:=∃ e1 H1,PostQ Hin e1 H1 r H∧LWe e1 e∧LWH H1 H'
theorem xZmd {Hin:AH} {nb nt:Nat} (hnb:Hin.box.length=nb) (hnt:Hin.buf.length=nt) {q:Rt B R} {l:List (BV T)} (h:retS nb nt q l H=some r):
 ∃ e1 H1,PostQ0 Hin e1 H1 (.ret (tupV (BV.avs B l))) (H.av B)∧LWe e1 (aeA ((q.o.enc r).1.av B))∧LWH H1 ((q.o.enc r).2.av B):=by
 simp only [retS] at h
 generalize (rch (frzHB H ((datArgs q.md l).flatMap ownsB)) 2000 (flatP ((frzHB H ((datArgs q.md l).flatMap ownsB)).box.take nb)++rawArgs q.md l) (List.range nb) (List.range nt))=p at h
 obtain ⟨rb,rt⟩:=p
 dsimp only at h
 split at h
 ·rename_i xs hk hxs
  rw [Bool.and_eq_true] at hk
  split at h
  rotate_left
  ·cases h
  rename_i hno
  obtain ⟨H',hl,_,h⟩:=xZlv (B:=B) h
  obtain ⟨q1,q2⟩:=q.o.ok _ _ _ h
  have hle:=xZeo (B:=B) hxs
  rw [xZbO] at hle hl
  have q3:=xZnF q1
  rw [xZqy hno] at q3
  refine ⟨.ret ((tupS xs).av B),H'.av B,⟨_,rb,rt,by rw [hnb];exact hk.1,by rw [hnt];exact hk.2,hl,?_⟩,q3,q2⟩
  simp only [leE]
  rw [xZrq]
  generalize BV.avs B l=a at hle
  generalize BV.avs B xs=b at hle
  match a,b,hle with
  | [],[],_=>trivial
  | [x],[y],hle=>exact le2_1 hle.1.1 hle.1.2
  | x::x'::a,y::y'::b,hle=>exact xZ9V (fun _ _ h=>h.1) hle
 ·cases h
theorem xZpa {Hin:AH} {nb nt:Nat} (hnb:Hin.box.length=nb) (hnt:Hin.buf.length=nt) {q:Rt B R} {l:List (BV T)} (h:retE nb nt q l H=some r):
 PostW Hin (aeA ((q.o.enc r).1.av B)) ((q.o.enc r).2.av B) (.ret (tupV (BV.avs B l))) (H.av B):=by
 unfold retE at h
 split at h
 ·rename_i i hi
  obtain ⟨e1,H1,h1,h2,h3⟩:=xZmd hnb hnt h
  refine ⟨e1,H1,.inr ⟨by simp only [BV.avs,tupV,BV.av],B.k i,?_⟩,h2,h3⟩
  simp only [BV.avs,tupV,BV.av] at h1
  rw [buf_len']
  simpa only [BH.av,List.map_append,List.map_cons,List.map_nil,BB.av] using h1
 ·obtain ⟨e1,H1,h1,h2,h3⟩:=xZmd hnb hnt h
  exact ⟨e1,H1,.inl h1,h2,h3⟩
theorem xZpb {Hin:AH} {nb nt:Nat} (hnb:Hin.box.length=nb) (hnt:Hin.buf.length=nt) {q:Rt B R} {t:Nat} {x:BV T} (h:retP nb nt q t x H=some r):
 PostW Hin (aeA ((q.o.enc r).1.av B)) ((q.o.enc r).2.av B) (.pan (.ifc t (x.av B))) (H.av B):=by
 simp only [retP] at h
 generalize (rch H 2000 (flatP (H.box.take nb)++[x]) (List.range nb) (List.range nt))=p at h
 obtain ⟨rb,rt⟩:=p
 dsimp only at h
 split at h
 ·rename_i y hk hy
  rw [Bool.and_eq_true] at hk
  obtain ⟨H',hl,_,h⟩:=xZlv (B:=B) h
  obtain ⟨q1,q2⟩:=q.o.ok _ _ _ h
  have q3:=xZnF q1
  have e1:aeA ((BV.ifc (PM+t) y).av B)=.pan (.ifc t (y.av B)):=by
   simp only [BV.av,aeA]
   rw [show Nat.ble PM (PM+t)=true from Nat.ble_eq_true_of_le (Nat.le_add_right _ _),Nat.add_sub_cancel_left]
  rw [e1] at q3
  have hle:leE rb rt (frzH (H.av B) []) (.pan (.ifc t (x.av B))) (.pan (.ifc t (y.av B))):=⟨rfl,xZpd hy⟩
  exact ⟨.pan (.ifc t (y.av B)),H'.av B,.inl ⟨[],rb,rt,by rw [hnb];exact hk.1,by rw [hnt];exact hk.2,hl,hle⟩,q3,q2⟩
 ·cases h
theorem xZmz {P:Program} {f:FuncId} {fn:Func} {c:Code} {wr:Bool} {sc:SC} {res:List Rs} {args:List AV} {Hin:AH} {e:AE} {H':AH} (nt:Nat) (hf:P.funcs[f]?=some fn) (hb:fn.body=some c) (hc:comp P wr c=some sc)
 (hr:cRes P fn.results.toList=some res) (hm:P.follows .mixedOrders=true) (hnt:fn.ntmps=nt) (h:go ⟨P,f,fn,res,Hin,fun _=>PostW Hin e H',[]⟩ [.c sc] (args++List.replicate (nt - args.length) .any) Hin):CRes P f args Hin e H':=by
 intro M S w vs hh hp hs hall
 intro cs
 let b:Frame:={ (default:Frame) with fn:=f,kind:=.normal }
 have henter:Frame.enter P f vs .normal=b.at { tmps:=vs++Array.replicate (fn.ntmps - vs.size) undef,defers:=[] } [.code c]:=by
  simp [Frame.enter,Frame.at,hf,hb,b]
 rw [henter]
 have ht:RelT M S w (args++List.replicate (nt - args.length) .any) (vs++Array.replicate (fn.ntmps - vs.size) undef):=by
  refine ⟨by simp [hs,hnt],fun i hi=>?_⟩
  rw [xZ56,agetD,Array.getElem?_append]
  by_cases hlt:i < args.length
  ·rw [if_pos hlt,if_pos (by rw [hs];exact hlt),← agetD];exact hall i hlt
  ·rw [if_neg hlt]
   have:(List.replicate (nt - args.length) AV.any).getD (i - args.length) .any=.any:=by simp [List.getD,List.getElem?_replicate];split<;>rfl
   rw [this];exact .data (.any _)
 obtain ⟨en,w',fr,⟨_,r,H1,M1,S1,hq,_,hend,hh1,hf1⟩,hcm,hfn,hlv⟩:=xZdx h ⟨hf,hr,hm⟩ M S w hp M S ⟨vs++Array.replicate (fn.ntmps - vs.size) undef,[]⟩ w [.code c] (.code wr hc .nil) (Frm.refl hh) ht hh rfl b rfl rfl cs
 refine ⟨en,w',fr,?_,hcm,hfn,xZfm hlv⟩
 obtain ⟨e2,H2,hq,hl1,hl2⟩:=hq
 have key:(∃ M' S',EndRep M' S' w' en e2∧RelH M' S' H2 w'∧Frm M S Hin w M' S' H2 w'):=by
  rcases hq with hq | ⟨rfl,m,hq⟩
  ·exact xZg2 hq hend hh1 hf1
  ·cases en with
   | returned v=>
     obtain ⟨h1,h2,h3⟩:=xZd6 hh1 (xZig hend) m
     exact xZg2 hq (en:=.returned v) h3 h1 (hf1.trans h2)
   | panicked ch=>exact hend.elim
   | outgrown=>exact hend.elim
 obtain ⟨M',S',k1,k2,k3⟩:=key
 exact ⟨M',S',xZl5 k1 hl1,k2.lw hl2,k3.lwR hl2⟩
end
end
structure Idle (P:Program) (fc:FuncId) (n:Nat):Prop where
 ent:Enters P fc
 run:∀ caps:Array Value,caps.size=n→(∀ i,i < n→∃ p,caps.getD i undef=.pointer (some p))→∀ w,CallsD P fc caps .returning w fun e u' w'=>(∃ v,e=.returned v)∧u'=.returning∧Grew w w'
theorem xZhx {l:List SL} {d:Nat} {f:FuncId} {cs:List Od} (h:deferOf l=some (d,f,cs)):∃ ty,l=[.op (some d) (.fnv (.func f) [] cs),.op none (.raw (.defer ⟨.value (.tmp d),#[],#[]⟩) ty)]:=by
 unfold deferOf at h
 split at h
 ·rename_i d e f cs args ts ty
  split at h
  ·rename_i h1 h2 h3
   cases h
   have h1:=Nat.eq_of_beq_eq_true h1
   subst h1
   obtain ⟨args⟩:=args
   obtain ⟨ts⟩:=ts
   cases h2
   cases h3
   exact ⟨ty,rfl⟩
  ·cases h
 ·cases h
theorem xZoo {P:Program} {ds:List Deferred} {b:Frame} {k:List Item} {a:Act} {w:World} {R:Array Value→Ending→World→Prop} {ops:Array Oper} {id:Nat} {a':Act} {w':World}
 (h:wpOps P ops (fun e a2 w2=>e=.normal∧a2=a'∧w2=w') (List.range ops.size) a w) (hf:Fin' P ds b k a' w' R):Fin' P ds b (.code (.region id ops false)::k) a w R:=
 Fin'.step (fun cs=>step_region) (fun cs=>by
  obtain ⟨e,a2,w2,⟨rfl,rfl,rfl⟩,har⟩:=wp_ops _ a w h b k cs
  obtain ⟨e,w',fr,r,c,x⟩:=hf cs
  exact ⟨e,w',fr,r,c.of_steps har,x⟩)
theorem xZmW {P:Program} {b:Frame} {items:List Item} {a:Act} {w:World} {R R':Array Value→Ending→World→Prop} {fc:FuncId} {n:Nat} {caps:Array Value} {fn:Func} (hbf:P.funcs[b.fn]?=some fn) (hi:Idle P fc n) (hn:caps.size=n)
 (hp:∀ i,i < n→∃ p,caps.getD i undef=.pointer (some p)) (h:Fin' P [⟨.fn (.func fc) caps,#[]⟩] b items a w R)
 (hR:∀ tm e w1 w2,R tm e w1→Grew w1 w2→∃ v,e=.returned v∧∃ v',(results fn tm).run P w2=.ok v' w2∧R' tm (.returned v') w2):Fin' P [] b items a w R':=by
 intro cs
 obtain ⟨e,w1,fr,hr,hc,hf,hl⟩:=h cs
 obtain ⟨v,rfl,_⟩:=hR _ _ _ _ hr (.refl w1)
 obtain ⟨hm,hd,hk,fn',hf',_⟩:=hl
 rw [hf,hbf] at hf'
 cases hf'
 have h1:=step_defer (P:=P) (cs:=cs) (w:=w1) (f:=fc) (args:=caps) (by rw [hm];simp) hd rfl (by simp only [invoke,Array.empty_append];exact xZbm hi.ent _ w1)
 obtain ⟨e2,u',w2,frX,⟨⟨v2,rfl⟩,rfl,hg⟩,hsteps,hkX,hgo⟩:=hi.run caps hn hp w1 { fr with defers:=[] } cs hm
 have h2:=step_going_returned (c:={ { fr with defers:=[] } with mode:=.returning }) (cs:=cs) hkX hgo
 obtain ⟨_,_,v',hr1,hr2⟩:=hR _ _ _ _ hr hg
 exact ⟨.returned v',w2,{ fr with defers:=[],mode:=settle .returning },hr2,Comes.of_steps hc (.head h1 (Steps.trans hsteps (.one (by rw [h2])))),hf,⟨rfl,rfl,hk,fn,by rw [← hbf,← hf],hr1⟩⟩
theorem xZkN {X:Ctx} {k:List SI} {t:List AV} {H:AH} {l:List SL} {d:Nat} {fc:FuncId} {cs:List Od} (hl:deferOf l=some (d,fc,cs)) (hX:X.dfs=[]) (hd:d < t.length)
 (hcs:∀ c∈cs,∃ b,od t c=.ptr b 0) (hi:Idle X.P fc cs.length) {Q':List AV→AE→AH→Prop}
 (h:∀ D:Deferred,AGo { X with Q:=Q',dfs:=[D] } k (putT t (some d) .any) H)
 (hQ:∀ t a H,Q' t a H→X.Q t a H∧∃ p l,resV t H X.res=some (p,l)∧p∧a=.ret (tupV l)):AGo X (.c (.ops false l)::k) t H:=by
 intro hok M0 S0 w0 hp0 M S a w items hr hf ht hh hdf b hb hbk
 obtain ⟨ty,rfl⟩:=xZhx hl
 cases hr with
 | code wr hc r=>
   obtain ⟨id,ops,rfl⟩:=xZjB hc
   obtain ⟨fl,hfl,_,_,hg⟩:=xZdt hc
   have hfl':fl=[⟨none,some d,.fnv (.func fc) [] cs⟩,⟨none,none,.raw (.defer ⟨.value (.tmp d),#[],#[]⟩) ty⟩]:=by
    rw [← xZcY fl,← hg];rfl
   subst hfl'
   obtain ⟨hlen,hget⟩:=xZaP hfl
   obtain ⟨o1,o2,hops⟩:∃ o1 o2,ops.toList=[o1,o2]:=by
    have hlen:ops.toList.length=2:=hlen.symm
    rcases hq:ops.toList with _ | ⟨o1,_ | ⟨o2,_ | ⟨o3,l⟩⟩⟩<;>rw [hq] at hlen
    ·cases hlen
    ·cases hlen
    ·exact ⟨o1,o2,rfl⟩
    ·simp at hlen
   rw [hops] at hget
   obtain ⟨y1,e1,c1⟩:=hget 0 o1 rfl
   obtain ⟨y2,e2,c2⟩:=hget 1 o2 rfl
   cases e1
   cases e2
   obtain ⟨g1,p1,d1,_⟩:=xZbd c1
   obtain ⟨g2,p2,d2,_⟩:=xZbd c2
   have ng:∀ {g:Option (Nat×Bool)},cGuard ops g=some none→g=none:=fun {g} h=>by
    cases g with
    | none=>rfl
    | some p=>
      unfold cGuard at h
      split at h
      ·rename_i e;cases e
      ·split at h<;>simp at h
   have g1:=ng g1
   have g2:=ng g2
   obtain ⟨x,y,hx,hy,q1⟩:=xZm0 p1
   obtain ⟨q2,_⟩:=xZce p2
   obtain rfl:x=#[]:=by
    obtain ⟨l⟩:=x
    cases l with
    | nil=>rfl
    | cons _ _=>cases hx
   have hs:ops.size=2:=by rw [← Array.length_toList,hops];rfl
   have e0:ops[0]?=some o1:=by rw [← Array.getElem?_toList,hops];rfl
   have e1:ops[1]?=some o2:=by rw [← Array.getElem?_toList,hops];rfl
   have hd':d < a.tmps.size:=by rw [ht.1];exact hd
   have hn:(y.map a.eval).size=cs.length:=by rw [hy];simp
   have hpt:∀ i,i < cs.length→∃ p,(y.map a.eval).getD i undef=.pointer (some p):=fun i hi=>by
    have hi':i < y.size:=by rw [hy] at hi;simpa using hi
    obtain ⟨bb,hbb⟩:=hcs (cOd y[i]) (by rw [hy];exact List.mem_map.2 ⟨y[i],by simp,rfl⟩)
    have hr:=xZbN ht rfl y[i]
    rw [hbb] at hr
    generalize hv:a.eval y[i]=v at hr
    have e:(y.map a.eval).getD i undef=a.eval y[i]:=by simp [Array.getD,hi']
    rw [e,hv]
    cases hr with
    | data h=>cases h
    | ptr _ _ _=>exact ⟨_,rfl⟩
   refine xZoo (a':=⟨a.tmps.setIfInBounds d (.func (.func fc) #[] (y.map a.eval)),[⟨.fn (.func fc) (y.map a.eval),#[]⟩]⟩) (w':=w) ?_ ?_
   ·rw [hs]
    show wpOps X.P ops _ [0,1] a w
    have d1':o1.dst=some d:=d1.symm
    have d2':o2.dst=none:=d2.symm
    simp only [wpOps,e0,e1,Region.wanted,g1,g2,if_true]
    refine .inl ?_
    unfold Oper.wp
    rw [show (execOp a.eval o1).run X.P w=.ok (.value (.func (.func fc) #[] (y.map a.eval))) w by simp [execOp,q1,Instr.makeFunc]]
    rw [Oper.upon_value,d1']
    refine .inl ?_
    have e2:(execOp (a.put (some d) (.func (.func fc) #[] (y.map a.eval))).eval o2).run X.P w=.ok (.defer ⟨.fn (.func fc) (y.map a.eval),#[]⟩) w:=by
     have:(a.put (some d) (.func (.func fc) #[] (y.map a.eval))).eval (.tmp d)=.func (.func fc) #[] (y.map a.eval):=by simp [Act.put,Act.eval,Array.getD,hd']
     simp [execOp,q2,resolve,this,Deferred.ofValue]
    rw [e2,Oper.upon_defer,d2']
    simp [wpOps,Act.put,hdf,hX]
   ·have ht':=RelT.put (a:=a) ht (some d) (v:=.func (.func fc) #[] (y.map a.eval)) (.data (.any _))
    rw [hX]
    refine xZmW (fn:=X.fn) (by rw [hb];exact hok.fn) hi hn hpt (h ⟨.fn (.func fc) (y.map a.eval),#[]⟩ ⟨hok.fn,hok.res,hok.mix⟩ M0 S0 w0 hp0 M S ⟨a.tmps.setIfInBounds d (.func (.func fc) #[] (y.map a.eval)),[⟨.fn (.func fc) (y.map a.eval),#[]⟩]⟩ w _ r hf ht' hh rfl b hb hbk) ?_
    rintro tm e w1 w2 ⟨t1,r1,H1,M1,S1,hq,hrel,hend,hh1,hf1⟩ hg
    obtain ⟨hq,p,l,hres,hp,rfl⟩:=hQ _ _ _ hq
    have hfg:=Frm.grew hh1 hg
    cases e with
    | returned v=>
      obtain ⟨v',hrun,hv⟩:=xZme hok.res (hrel.mono hfg) (hh1.grew hg) hres hp
      exact ⟨v,rfl,v',hrun,t1,_,H1,M1,S1,hq,hrel.mono hfg,hv,hh1.grew hg,hf1.trans hfg⟩
    | panicked ch=>exact hend.elim
    | outgrown=>exact hend.elim
section
def Stk (ms:List Nat) (S:Nat→List SI):SC→List SI→Prop
 | .seq a b,k=>Stk ms S a (.c b::k)∧Stk ms S b k
 | .cond x a b,k=>(∀ i,isJn ms (.cond x a b)=some i→S i=.c (.cond x a b)::k)∧Stk ms S a k∧Stk ms S b k
 | .block i a,k=>Stk ms S a (.blk i::k)
 | .loop b,k=>(∀ id k',k=.blk id::k'→S id=.lp b::k)∧Stk ms S b (.lp b::k)
 | .scope a,k=>Stk ms S a (.scp::k)
 | .ops d l,k=>∀ i,isJn ms (.ops d l)=some i→S i=.c (.ops d l)::k
 | _,_=>True
def StkT (ms:List Nat) (S:Nat→List SI):List SI→Prop
 | []=>True
 | x::k=>(match x with
   | .c c=>Stk ms S c k
   | .lp b=>(∀ id k',k=.blk id::k'→S id=.lp b::k)∧Stk ms S b (.lp b::k)
   | _=>True)∧StkT ms S k
theorem xZip {ms:List Nat} {c:SC} {k:List SI} {r:List (Nat×List SI)} {p:Nat×List SI} (h:p∈r):p∈jn1 ms c k r:=by
 unfold jn1;split
 ·exact h
 ·exact List.mem_cons_of_mem _ h
theorem xZjZ {ms:List Nat} {c:SC} {k:List SI} {r:List (Nat×List SI)} {i:Nat} (h:isJn ms c=some i):(i,.c c::k)∈jn1 ms c k r:=by
 unfold jn1;rw [h];exact List.mem_cons_self ..
theorem xZio {ms:List Nat} {c:SC} {k:List SI} {r:List (Nat×List SI)} {p:Nat×List SI} (h:p∈jn1 ms c k r):(∃ i,isJn ms c=some i∧p=(i,.c c::k))∨p∈r:=by
 unfold jn1 at h;split at h
 ·exact .inr h
 ·rename_i i hi
  rcases List.mem_cons.1 h with rfl | h
  ·exact .inl ⟨i,hi,rfl⟩
  ·exact .inr h
theorem xZeg {ms:List Nat} {S:Nat→List SI}:∀ (c:SC) (k:List SI),(∀ p∈lpL c k,S p.1=p.2)→(∀ p∈jpL ms c k,S p.1=p.2)→Stk ms S c k
 | .seq a b,k,h,j=>⟨xZeg a _ (fun p hp=>h p (List.mem_append_left _ hp)) fun p hp=>j p (List.mem_append_left _ hp),xZeg b _ (fun p hp=>h p (List.mem_append_right _ hp)) fun p hp=>j p (List.mem_append_right _ hp)⟩
 | .cond x a b,k,h,j=>⟨fun i hi=>j (i,_) (xZjZ hi),xZeg a _ (fun p hp=>h p (List.mem_append_left _ hp)) fun p hp=>j p (xZip (List.mem_append_left _ hp)),xZeg b _ (fun p hp=>h p (List.mem_append_right _ hp)) fun p hp=>j p (xZip (List.mem_append_right _ hp))⟩
 | .block i a,k,h,j=>xZeg a _ h j
 | .scope a,k,h,j=>xZeg a _ h j
 | .loop b,k,h,j=>by
   refine ⟨fun id k' hk=>?_,xZeg b _ (fun p hp=>?_) j⟩
   ·subst hk;exact h (id,_) (List.mem_cons_self ..)
   ·refine h p ?_
    simp only [lpL]
    split
    ·exact List.mem_cons_of_mem _ hp
    ·exact hp
 | .skip,_,_,_=>trivial
 | .ops _ _,_,_,j=>fun i hi=>j (i,_) (xZjZ hi)
 | .priv _ _,_,_,_=>trivial
 | .alts _ _,_,_,_=>trivial
 | .exit _,_,_,_=>trivial
 | .ret,_,_,_=>trivial
 | .bad,_,_,_=>trivial
theorem xZdU {ms:List Nat} {S:Nat→List SI}:∀ (c:SC) (k:List SI),(∀ p∈lpL c k,S p.1=p.2)→(∀ p∈jpL ms c k,S p.1=p.2)→StkT ms S k→∀ p,p∈lpL c k∨p∈jpL ms c k→StkT ms S p.2
 | .seq a b,k,h,j,hk,p,hp=>by
   have ha:∀ p∈lpL a (.c b::k),S p.1=p.2:=fun p hp=>h p (List.mem_append_left _ hp)
   have hb:∀ p∈lpL b k,S p.1=p.2:=fun p hp=>h p (List.mem_append_right _ hp)
   have ja:∀ p∈jpL ms a (.c b::k),S p.1=p.2:=fun p hp=>j p (List.mem_append_left _ hp)
   have jb:∀ p∈jpL ms b k,S p.1=p.2:=fun p hp=>j p (List.mem_append_right _ hp)
   have h1:=xZdU a (.c b::k) ha ja ⟨xZeg b k hb jb,hk⟩ p
   have h2:=xZdU b k hb jb hk p
   rcases hp with hp | hp
   ·rcases List.mem_append.1 hp with hp | hp
    ·exact h1 (.inl hp)
    ·exact h2 (.inl hp)
   ·rcases List.mem_append.1 hp with hp | hp
    ·exact h1 (.inr hp)
    ·exact h2 (.inr hp)
 | .cond x a b,k,h,j,hk,p,hp=>by
   have h1:=xZdU a k (fun p hp=>h p (List.mem_append_left _ hp)) (fun p hp=>j p (xZip (List.mem_append_left _ hp))) hk p
   have h2:=xZdU b k (fun p hp=>h p (List.mem_append_right _ hp)) (fun p hp=>j p (xZip (List.mem_append_right _ hp))) hk p
   rcases hp with hp | hp
   ·rcases List.mem_append.1 hp with hp' | hp'
    ·exact h1 (.inl hp')
    ·exact h2 (.inl hp')
   ·rcases xZio hp with ⟨i,hi,rfl⟩ | hp
    ·exact ⟨xZeg (.cond x a b) k h j,hk⟩
    ·rcases List.mem_append.1 hp with hp' | hp'
     ·exact h1 (.inr hp')
     ·exact h2 (.inr hp')
 | .block i a,k,h,j,hk,p,hp=>xZdU a _ h j ⟨trivial,hk⟩ p hp
 | .scope a,k,h,j,hk,p,hp=>xZdU a _ h j ⟨trivial,hk⟩ p hp
 | .loop b,k,h,j,hk,p,hp=>by
   have hs:=xZeg (.loop b) k h j
   have hT:StkT ms S (.lp b::k):=⟨⟨hs.1,hs.2⟩,hk⟩
   have hsub:∀ p∈lpL b (.lp b::k),p∈lpL (.loop b) k:=fun p hp=>by
    simp only [lpL]
    split
    ·exact List.mem_cons_of_mem _ hp
    ·exact hp
   have h1:=xZdU b (.lp b::k) (fun p hp=>h p (hsub p hp)) j hT p
   rcases hp with hp | hp
   ·simp only [lpL] at hp
    split at hp
    ·rcases List.mem_cons.1 hp with rfl | hp
     ·exact hT
     ·exact h1 (.inl hp)
    ·exact h1 (.inl hp)
   ·exact h1 (.inr hp)
 | .skip,_,_,_,_,_,hp=>by rcases hp with hp | hp<;>cases hp
 | .ops d l,k,h,j,hk,p,hp=>by
   rcases hp with hp | hp
   ·cases hp
   ·rcases xZio hp with ⟨i,hi,rfl⟩ | hp
    ·exact ⟨xZeg (.ops d l) k h j,hk⟩
    ·cases hp
 | .priv _ _,_,_,_,_,_,hp=>by rcases hp with hp | hp<;>cases hp
 | .alts _ _,_,_,_,_,_,hp=>by rcases hp with hp | hp<;>cases hp
 | .exit _,_,_,_,_,_,hp=>by rcases hp with hp | hp<;>cases hp
 | .ret,_,_,_,_,_,hp=>by rcases hp with hp | hp<;>cases hp
 | .bad,_,_,_,_,_,hp=>by rcases hp with hp | hp<;>cases hp
theorem xZk9:∀ {l:List (Nat×List SI)},nodup (l.map (·.1))=true→∀ p∈l,lkp l p.1=p.2
 | [],_,p,hp=>by cases hp
 | (m,s)::l,h,p,hp=>by
   simp only [List.map_cons,nodup,Bool.and_eq_true,Bool.not_eq_true',List.contains_eq_mem,decide_eq_false_iff_not] at h
   simp only [lkp]
   rcases List.mem_cons.1 hp with rfl | hp
   ·simp
   ·have hne:Nat.beq m p.1=false:=by
     cases hb:Nat.beq m p.1 with
     | false=>rfl
     | true=>exact absurd (List.mem_map.2 ⟨p,hp,(beq_eq hb).symm⟩) h.1
    rw [hne]
    exact xZk9 h.2 p hp
theorem xZm3:∀ {l:List (Nat×List SI)} {n:Nat},lkp l n=[]∨(n,lkp l n)∈l
 | [],_=>.inl rfl
 | (m,s)::l,n=>by
   simp only [lkp]
   split
   ·rename_i h;rw [beq_eq h];exact .inr (List.mem_cons_self ..)
   ·rcases xZm3 (l:=l) (n:=n) with h | h
    ·exact .inl h
    ·exact .inr (List.mem_cons_of_mem _ h)
theorem xZn6 (c:SC):isJn [] c=none:=rfl
theorem xZdO:∀ (c:SC) (k:List SI),jpL [] c k=[]
 | .seq a b,k=>by simp only [jpL,xZdO a,xZdO b,List.append_nil]
 | .cond x a b,k=>by simp only [jpL,jn1,xZn6,xZdO a,xZdO b,List.append_nil]
 | .block i a,k=>xZdO a _
 | .scope a,k=>xZdO a _
 | .loop b,k=>xZdO b _
 | .skip,_=>rfl
 | .ops _ _,_=>rfl
 | .priv _ _,_=>rfl
 | .alts _ _,_=>rfl
 | .exit _,_=>rfl
 | .ret,_=>rfl
 | .bad,_=>rfl
theorem xZes {ms:List Nat} {c:SC} {p:Nat×List SI}:p∈allL ms c ↔ p∈lpL c []∨p∈jpL ms c []:=by
 cases ms with
 | nil=>rw [xZdO];simp [allL]
 | cons m ms=>simp only [allL,List.mem_append]
def idsOk (ms:List Nat) (c:SC):Bool:=nodupN ((allL ms c).map (·.1))
theorem xZny {ms:List Nat} {c:SC} (h:idsOk ms c=true):StkT ms (stkO ms c) [.c c]:=by
 unfold idsOk at h
 rw [xZd3] at h
 exact ⟨xZeg c [] (fun p hp=>xZk9 h p (xZes.2 (.inl hp))) (fun p hp=>xZk9 h p (xZes.2 (.inr hp))),trivial⟩
theorem stk_O {ms:List Nat} {c:SC} (h:idsOk ms c=true) (id:Nat):StkT ms (stkO ms c) (stkO ms c id):=by
 unfold idsOk at h
 rw [xZd3] at h
 rcases xZm3 (l:=allL ms c) (n:=id) with h' | h'
 ·rw [stkO,h'];trivial
 ·exact xZdU c [] (fun p hp=>xZk9 h p (xZes.2 (.inl hp))) (fun p hp=>xZk9 h p (xZes.2 (.inr hp))) trivial _ (xZes.1 h')
theorem xZkF {ms:List Nat} {c:SC} (h:idsOk ms c=true) (id:Nat):StkT ms (stkO ms c) (stk ms c id):=by
 have hT:=stk_O h id
 unfold stk
 split
 ·rename_i b k hk
  rw [hk] at hT
  exact ⟨hT.1.2,hT⟩
 ·exact hT
theorem xZot {X:Ctx} {ms:List Nat} {c:SC} {id:Nat} {t:List AV} {H:AH} (h:go X (stk ms c id) t H):go X (stkO ms c id) t H:=by
 unfold stk at h
 split at h
 ·rename_i b k hk;rw [hk];exact go_lp h
 ·exact h
theorem xZfO {ms:List Nat} {S:Nat→List SI} {id:Nat}:∀ {k k':List SI},exitS id k=some k'→StkT ms S k→StkT ms S k'
 | [],k',h,_=>by cases h
 | x::k,k',h,hk=>by
   cases x with
   | blk i=>
     simp only [exitS] at h
     split at h
     ·cases h;exact hk.2
     ·exact xZfO h hk.2
   | _=>exact xZfO (by simpa only [exitS] using h) hk.2
section
variable {T:Nat→Type} {B:Tb T} {R:Type} {r:R}
theorem xZek {ns:Nat}:∀ {l:List SP} {e:SE T} {t:List AV},RelE B e t ns→l.all (fun s=>okD ns s.d)=true→RelE B (killE e l) (killT t l) ns
 | [],_,_,h,_=>h
 | s::l,e,t,h,hl=>by
   simp only [List.all_cons,Bool.and_eq_true] at hl
   have:=h.put (B:=B) hl.1 (.raw (.v undef))
   simp only [BV.av] at this
   exact xZek (e:=putE e s.d (.raw (.v undef))) (t:=putT t s.d (.v undef)) this hl.2
structure SxOk (X:Ctx) (S:Nat→List SI) (G:Set B R) (r:R):Prop where
 hB:B.Ok
 P:X.P=G.P
 res:X.res=G.res
 nbt:G.lps=[]∨X.Hin.box.length=G.nb∧X.Hin.buf.length=G.nt
 hin:∃ Hin:AH,Hin.box.length=G.nb∧Hin.buf.length=G.nt∧∀ t a H,((∃ p,a=.pan p)→∃ e Hb,RelE B e t G.ns∧H=Hb.av B∧G.kt e Hb=true)→(∀ x,a=.ret x→∃ p l,resV t H G.res=some (p,l)∧p∧a=.ret (tupV l))→PostW Hin (aeA ((G.ret.o.enc r).1.av B)) ((G.ret.o.enc r).2.av B) a H→X.Q t a H
 con:∀ f,∀ c∈G.con f,c.Ok G.P G.N
 h:G.h.Ok B
 mks:mkOk G.P B G.h.mks
 ex:exOk G.P G.ex
 lps:∀ id,∀ L∈lpOf G.lps id,∀ a,L.run a=some r→go X (S id) (SE.av B G.ns (L.enc a).1) ((L.enc a).2.av B)
 df:G.df=[]∨X.dfs=[]∧∀ p∈G.df,Idle X.P p.1 p.2
variable {X:Ctx} {S:Nat→List SI} {G:Set B R}
theorem go_op {X:Ctx} {dr:Bool} {d:Option Nat} {o:SO} {l:List SL} {k:List SI} {t:List AV} {H H':AH} {v:AV} (hes:ES X.P dr o t H v H') (h:go X (.ops dr l::k) (putT t d v) H'):go X (.ops dr (.op d o::l)::k) t H:=by
 intro hgood
 have hfl:flat (.op d o::l)=⟨none,d,o⟩::flat l:=by simp [flat,SL.flat]
 rw [hfl] at hgood ⊢
 exact .inl ⟨rfl,v,H',hes,h (xZil hgood)⟩
theorem xZn1 {X:Ctx} {dr:Bool} {d:Option Nat} {o:SO} {l:List SL} {k:List SI} {t:List AV} {H H':AH} {v:AV} (hd:dr=false) (hos:OS X.P o t H (.pan v) H') (hq:X.Q t (.pan v) H'):go X (.ops dr (.op d o::l)::k) t H:=by
 intro hgood
 have hfl:flat (.op d o::l)=⟨none,d,o⟩::flat l:=by simp [flat,SL.flat]
 rw [hfl] at hgood ⊢
 exact .inr (.inr (.inl ⟨hd,rfl,v,H',hos,hq⟩))
theorem RelE.same {e:SE T} {t:List AV} {ns j:Nat} (h:RelE B e t ns) {v:BV T} (hv:t.getD j .any=v.av B):RelE B ((j,v)::e) t ns:=
 ⟨h.len,fun i=>by
   rw [xZeK]
   by_cases hi:j=i
   ·subst hi;rw [if_pos rfl];exact hv
   ·rw [if_neg hi];exact h.get i⟩
theorem xZpc {k:List SI} (hG:SxOk X S G r) {e:SE T} {t:List AV} {H:BH T} (hr:RelE B e t G.ns) (h:(match resS e H G.res with
 | some l=>retE G.nb G.nt G.ret l H
 | none=>none)=some r):kRet X t (H.av B) (resV t (H.av B) X.res):=by
 split at h
 ·rename_i l hl
  obtain ⟨p,h1,h2⟩:=xZkv hr hl
  rw [hG.res,h1]
  refine ⟨h2,?_⟩
  obtain ⟨Hin,hnb,hnt,hQ⟩:=hG.hin
  exact hQ _ _ _ (fun ⟨p,hp⟩=>by cases hp) (fun r hr=>⟨p,_,h1,h2,rfl⟩) (xZpa hnb hnt h)
 ·cases h
theorem xZp7 {T:Nat→Type} {B:Tb T} {R:Type} {r:R} {e0:SE T} {t0:List AV} {ns:Nat} (h0:RelE B e0 t0 ns):∀ {bs:List (Nat×Nat×Od)} {e:SE T} {t:List AV} {H:BH T} {K:SE T→BH T→Option R},RelE B e t ns→pvS e0 ns bs e H K=some r→
 pvB t0 bs∧∃ e' H',RelE B e' (pvT t H.box.length bs) ns∧H'.av B=pvH t0 (H.av B) bs∧K e' H'=some r
 | [],e,t,H,K,he,h=>⟨trivial,e,H,he,rfl,h⟩
 | (d,n,y)::bs,e,t,H,K,he,h=>by
   simp only [pvS] at h
   split at h
   ·rename_i hc
    simp only [Bool.and_eq_true] at hc
    have he':RelE B ((d,.ptr H.box.length 0)::e) (t.set d (.ptr H.box.length 0)) ns:=he.put (d:=some d) hc.1.1 (.ptr H.box.length 0)
    obtain ⟨h1,e',H',h2,h3,h4⟩:=xZp7 h0 he' h
    refine ⟨⟨?_,?_,?_,h1⟩,e',H',by simpa [pvT] using h2,?_,h4⟩
    ·rw [h0.len];exact Nat.lt_of_succ_le (Nat.le_of_ble_eq_true hc.1.1)
    ·rw [h0.od,xZcM];exact beq_eq hc.1.2
    ·rw [h0.od,← xZam,xZdQ];exact hc.2
    ·rw [h3];simp only [pvH,h0.od,← xZam,BH.av,List.map_append,List.map_cons,List.map_nil]
   ·cases h
theorem xZit:∀ {l:List (FuncId×Nat)} {f n:Nat},memDf l f n=true→(f,n)∈l
 | [],_,_,h=>by cases h
 | (g,m)::l,f,n,h=>by
   simp only [memDf] at h
   split at h
   ·rename_i hb
    simp only [Bool.and_eq_true] at hb
    rw [beq_eq hb.1,beq_eq hb.2]
    exact List.mem_cons_self ..
   ·exact List.mem_cons_of_mem _ (xZit h)
def Ctx.off (X:Ctx) (D:Deferred):Ctx:={ X with Q:=fun t a H=>X.Q t a H∧∃ p l,resV t H X.res=some (p,l)∧p∧a=.ret (tupV l),dfs:=[D] }
theorem SxOk.off (hG:SxOk X S G r) (D:Deferred):SxOk (X.off D) S G.off r:=
 ⟨hG.hB,hG.P,hG.res,.inl rfl,by
   obtain ⟨Hin,h1,h2,hQ⟩:=hG.hin
   refine ⟨Hin,h1,h2,fun t a H hp hret hw=>?_⟩
   have hx:∃ x,a=.ret x:=by
    cases a with
    | ret x=>exact ⟨x,rfl⟩
    | pan x=>obtain ⟨_,_,_,_,h⟩:=hp ⟨x,rfl⟩;cases h
   obtain ⟨x,rfl⟩:=hx
   refine ⟨hQ _ _ _ (fun ⟨p,hp⟩=>by cases hp) hret hw,?_⟩
   show ∃ p l,resV t H X.res=some (p,l)∧_
   rw [hG.res]
   exact hret x rfl,hG.con,hG.h,hG.mks,hG.ex,fun id L hL=>(by cases hL),.inl rfl⟩
theorem xZqL (ms:List (Nat×List (Nat×Option Nat×Nat))) (todo:List SI):emT ms todo=[]∨notOps todo:=by
 cases todo with
 | nil=>exact .inr trivial
 | cons x k=>cases x<;>first | exact .inr trivial | (left;unfold emT;split<;>rfl)
theorem sx_ok':∀ (n:Nat) {X:Ctx} {G:Set B R} (hG:SxOk X S G r) (todo:List SI) (e:SE T) (t:List AV) (H:BH T),RelE B e t G.ns→StkT G.jm S todo→sx G n todo e H=some r→go X todo t (H.av B)
 | 0,_,_,_,_,_,_,_,_,_,h=>by cases h
 | n+1,X,G,hG,todo,e,t,H,hr,hs,h=>by
   have ih:=sx_ok' n hG
   have hB:=hG.hB
   have main:∀ (e:SE T) (t:List AV) (H:BH T),RelE B e t G.ns→sxT G (sx G n) (sx G.off n) todo e H=some r→go X todo t (H.av B):=by
    clear hr h e t H
    intro e t H hr h
    have hpan:∀ {dr:Bool} {H:BH T} {ty:Nat} {x:BV T},panS G e dr H ty x=some r→dr=false∧X.Q t (.pan (.ifc ty (x.av B))) (H.av B):=by
     intro dr H ty x h
     unfold panS at h
     split at h
     ·rename_i hk
      obtain ⟨Hin,hnb,hnt,hQ⟩:=hG.hin
      exact ⟨rfl,hQ _ _ _ (fun _=>⟨e,H,hr,rfl,hk⟩) (fun x hx=>by cases hx) (xZpb hnb hnt h)⟩
     ·cases h
    have hend:∀ {dr:Bool} {v:BV T} {H':BH T} {K:Option R},onP v (panS G e dr H') K=some r→
     (aeA (v.av B)=.ret (v.av B)∧K=some r)∨∃ t x,aeA (v.av B)=.pan (.ifc t (x.av B))∧panS G e dr H' t x=some r:=by
     intro dr v H' K h
     cases v with
     | ifc t x=>
       simp only [onP] at h
       split at h
       ·rename_i hb
        exact .inr ⟨t - PM,x,by simp only [BV.av,aeA,hb],h⟩
       ·rename_i hb
        exact .inl ⟨by simp only [BV.av,aeA,hb],h⟩
     | raw x=>cases x<;>first | exact .inl ⟨rfl,h⟩ | cases h
     | _=>exact .inl ⟨by simp only [BV.av,aeA],h⟩
    have hcall:∀ {dr:Bool} {d:Option Nat} {l:List SL} {k:List SI} {args:List (BV T)} {f:FuncId},okD G.ns d=true→StkT G.jm S k→callS dr args H G.N (fun v H=>onP v (panS G e dr H) (sx G n (.ops dr l::k) (putE e d v) H)) f (G.con f)=some r→vcall X dr d f (BV.avs B args) l k t (H.av B):=by
     intro dr d l k args f hd hk h
     obtain ⟨hen,v,H',⟨hc,hc2⟩,hK⟩:=xZfJ (hG.con _) h
     rw [← hG.P] at hen hc
     rcases hend hK with ⟨he,hK⟩ | ⟨t',x,he,hK⟩
     ·rw [he] at hc hc2
      refine ⟨hen,.inl ⟨v.av B,H'.av B,hc,fun q=>⟨(hc2 q).1,fun H0=>by rw [hG.P];exact (hc2 q).2 H0⟩,?_⟩⟩
      exact ih _ _ _ _ (hr.put hd v) ⟨trivial,hk⟩ hK
     ·rw [he] at hc
      obtain ⟨h1,h2⟩:=hpan hK
      exact ⟨hen,.inr ⟨h1,_,_,hc,h2⟩⟩
    have hlps:∀ {id:Nat} {k:List SI},notOps k→S id=k→loopS G.nb G.nt e H (lpOf G.lps id)=some r→go X k t (H.av B):=by
     intro id k hno hk h
     have hn:X.Hin.box.length=G.nb∧X.Hin.buf.length=G.nt:=hG.nbt.resolve_left fun e=>by rw [e] at h;cases h
     exact xZka hn.1 hn.2 hr hno (fun L hL a ha=>by
      have:=hG.lps id L hL a ha
      rwa [hk] at this) h
    have hloop:∀ {b:SC} {k:List SI},StkT G.jm S (.lp b::k)→(match k with
     | .blk id::_=>loopS G.nb G.nt e H (lpOf G.lps id)
     | _=>none)=some r→go X (.lp b::k) t (H.av B):=by
     intro b k hk h
     split at h
     ·rename_i id k'
      exact hlps trivial (hk.1.1 id k' rfl) h
     ·cases h
    cases todo with
    | nil=>exact xZ5t 1 X [] t (H.av B) (xZpc (k:=[]) hG hr h)
    | cons x k=>
      cases x with
      | blk i=>exact xZ5t 1 X (.blk i::k) t (H.av B) (ih _ _ _ _ hr hs.2 h)
      | scp=>exact xZ5t 1 X (.scp::k) t (H.av B) (ih _ _ _ _ hr hs.2 h)
      | pv bs=>
        obtain ⟨h1,e',H',h2,h3,h4⟩:=xZp7 hr hr h
        refine xZ5t 1 X (.pv bs::k) t (H.av B) ⟨h1,?_⟩
        rw [← h3]
        have e1:(H.av B).box.length=H.box.length:=by simp [BH.av]
        rw [e1]
        exact ih _ _ _ _ h2 hs.2 h4
      | lp b=>exact hloop hs h
      | ops dr l=>
        cases l with
        | nil=>exact xZ5t 1 X (.ops dr []::k) t (H.av B) (ih _ _ _ _ hr hs.2 h)
        | cons y l=>
          cases y with
          | grp j w l1=>
            simp only [sxT,sxOps,sxOp,sxGrp,sxCall0,sxCallv,sxRaw,sxInv,sxC,sxAlts,sxCall] at h
            split at h
            ·rename_i c hl1 hc
             have hg:=hr.get j
             rw [hc] at hg
             simp only [BV.av] at hg
             refine xZ5t 1 X (.ops dr (.grp j w l1::l)::k) t (H.av B) ?_
             show kGrp _ _ w (t.getD j .any)
             rw [hg]
             cases c with
             | true=>
               have hr':=hr.same (v:=.bool true) hg
               simp only [cond_true] at h
               cases w with
               | true=>exact ⟨fun _=>ih _ _ _ _ hr' (show StkT G.jm S (.ops dr (l1.map SP.sl++l)::k) from ⟨trivial,hs.2⟩) h,fun q=>absurd rfl q⟩
               | false=>exact ⟨fun q=>(by cases q),fun _=>ih (.ops dr l::k) _ _ _ (xZek hr' hl1) (show StkT G.jm S (.ops dr l::k) from ⟨trivial,hs.2⟩) h⟩
             | false=>
               have hr':=hr.same (v:=.bool false) hg
               simp only [cond_false] at h
               cases w with
               | true=>exact ⟨fun q=>(by cases q),fun _=>ih (.ops dr l::k) _ _ _ (xZek hr' hl1) (show StkT G.jm S (.ops dr l::k) from ⟨trivial,hs.2⟩) h⟩
               | false=>exact ⟨fun _=>ih _ _ _ _ hr' (show StkT G.jm S (.ops dr (l1.map SP.sl++l)::k) from ⟨trivial,hs.2⟩) h,fun q=>absurd rfl q⟩
            ·rename_i vs hl1 hc
             have hg:=hr.get j
             rw [hc] at hg
             simp only [BV.av] at hg
             refine xZ5t 1 X (.ops dr (.grp j w l1::l)::k) t (H.av B) ?_
             show kGrp _ _ w (t.getD j .any)
             rw [hg]
             exact ih (.ops dr l::k) _ _ _ (xZek hr hl1) (show StkT G.jm S (.ops dr l::k) from ⟨trivial,hs.2⟩) h
            ·cases h
          | op d o=>
            simp only [sxT,sxOps,sxOp,sxGrp,sxCall0,sxCallv,sxRaw,sxInv,sxC,sxAlts,sxCall] at h
            split at h
            ·cases h
            ·rename_i hd
             have step:∀ {o:SO},StepOk B G.P dr t H d o G.ns (fun e H=>sx G n (.ops dr l::k) e H) r→go X (.ops dr (.op d o::l)::k) t (H.av B):=by
              rintro o ⟨v,H1,e',H',hes,hre,rfl,hK⟩
              rw [← hG.P] at hes
              exact go_op hes (ih _ _ _ _ hre ⟨trivial,hs.2⟩ hK)
             split at h
             ·rename_i f as
              split at h
              ·rename_i q hq
               obtain ⟨v,hos,hK⟩:=xZon hr (xZlS hG.ex hq) h
               rw [← hG.P] at hos
               exact go_op (xZ5C hos) (ih _ _ _ _ (hr.put hd v) ⟨trivial,hs.2⟩ hK)
              ·have:=hcall hd hs.2 h
               rw [← hr.ods] at this
               exact xZ5t 1 X (.ops dr (.op d (.call f as)::l)::k) t (H.av B) (.inl this)
             ·rename_i x as
              split at h
              ·rename_i f a b hx
               have:=hcall hd hs.2 h
               rw [xZ6A,xZ6A,← hr.ods] at this
               refine xZ5t 1 X (.ops dr (.op d (.callv x as)::l)::k) t (H.av B) ?_
               show kCallv X dr d _ l k t _ (od t x)
               rw [hr.od,hx]
               simp only [BV.av]
               exact this
              ·cases h
             ·rename_i o' ty
              split at h
              ·rename_i x m args ts
               have inv:∀ (t':TypeId) (v:BV T),(∀ M S w u,VRep M S w u (od t (cOd x))→∃ z,u=.iface t' z∧VRep M S w z (v.av B))→(match cMeth G.P t' m with
                | some f=>callS (dr&&!hardI (.call ⟨.invoke x m,args,ts⟩) ty) (v::args.toList.map (bodP e)) H G.N (fun v H=>onP v (panS G e dr H) (sx G n (.ops dr l::k) (putE e d v) H)) f (G.con f)
                | none=>none)=some r→go X (.ops dr (.op d (.raw (.call ⟨.invoke x m,args,ts⟩) ty)::l)::k) t (H.av B):=by
                intro t' v h1 h
                split at h
                ·rename_i f hm
                 obtain ⟨hen,v',H',⟨hc,hc2⟩,hK⟩:=xZfJ (hG.con _) h
                 have e1:BV.avs B (v::args.toList.map (bodP e))=v.av B::(args.toList.map cOd).map (od t):=by
                  simp only [BV.avs]
                  rw [hr.ods,List.map_map];rfl
                 rw [e1] at hc hc2
                 rw [← hG.P] at hm hen hc hc2
                 rcases hend hK with ⟨he,hK⟩ | ⟨t2,x2,he,hK⟩
                 rotate_left
                 ·rw [he] at hc
                  obtain ⟨p1,p2⟩:=hpan hK
                  exact xZn1 p1 (xZlp h1 hm hen hc) p2
                 rw [he] at hc hc2
                 have hq:dr=true→∀ z:Bool,(!true || hardI (.call ⟨.invoke x m,args,ts⟩) ty)=false→(dr&&!hardI (.call ⟨.invoke x m,args,ts⟩) ty)=true:=fun q _ z=>by
                  cases hh:hardI (.call ⟨.invoke x m,args,ts⟩) ty
                  ·rw [q];rfl
                  ·rw [hh] at z;cases z
                 exact go_op ⟨xZlp h1 hm hen hc,fun q=>⟨fun z=>(hc2 (hq q true z)).1,fun z _ H0=>xZlp h1 hm hen ((hc2 (hq q true z)).2 H0),fun z bx=>xZlp h1 hm hen ((hc2 (hq q true z)).2 _),fun hn=>(by cases hn),fun hn=>(by cases hn)⟩⟩ (ih _ _ _ _ (hr.put hd v') ⟨trivial,hs.2⟩ hK)
                ·cases h
               split at h
               ·rename_i t' v hx
                refine inv t' v (fun M S w u hu=>?_) h
                have h1:od t (cOd x)=.ifc t' (v.av B):=by
                 rw [hr.od];exact (congrArg (BV.av B) hx).trans (by simp only [BV.av])
                rw [h1] at hu
                exact xZim hu
               ·rename_i i y hx
                obtain ⟨z,hz,h⟩:=hB.el _ _ _ _ _ h
                split at h
                ·rename_i t' v
                 refine inv t' v (fun M S w u hu=>?_) h
                 have h1:od t (cOd x)=.opq (.ifc t' (v.av B)):=by
                  rw [hr.od];exact (congrArg (BV.av B) hx).trans (by simp only [BV.av] at hz ⊢;rw [hz])
                 rw [h1] at hu
                 exact xZoS hu
                ·cases h
               ·cases h
              ·rename_i x args ts
               split at h
               ·rename_i f a b hx
                obtain ⟨hen,v',H',⟨hc,_⟩,hK⟩:=xZfJ (hG.con _) h
                have e1:BV.avs B (args.toList.map (bodP e))=(args.toList.map cOd).map (od t):=by
                 rw [hr.ods,List.map_map];rfl
                rw [xZ6A,xZ6A,e1] at hc
                have h1:od t (cOd x)=.fn (.func f) (BV.avs B a) (BV.avs B b):=by
                 rw [hr.od];exact (congrArg (BV.av B) hx).trans (by simp only [BV.av])
                rw [← hG.P] at hen hc
                rcases hend hK with ⟨he,hK⟩ | ⟨t2,x2,he,hK⟩
                rotate_left
                ·rw [he] at hc
                 obtain ⟨p1,p2⟩:=hpan hK
                 exact xZn1 p1 (xZgN h1 hen hc) p2
                rw [he] at hc
                exact go_op ⟨xZgN h1 hen hc,fun _=>⟨fun q=>(by cases q),fun q=>(by cases q),fun q=>(by cases q),fun q=>(by cases q),fun q=>(by cases q)⟩⟩ (ih _ _ _ _ (hr.put hd v') ⟨trivial,hs.2⟩ hK)
               ·cases h
              ·rename_i x
               split at h
               ·rename_i t' v hx
                have h1:od t (cOd x)=.ifc t' (v.av B):=by
                 rw [hr.od];exact (congrArg (BV.av B) hx).trans (by simp only [BV.av])
                obtain ⟨p1,p2⟩:=hpan h
                exact xZn1 p1 (xZnn h1) p2
               ·cases h
              ·exact step (xZp9 hB hG.h hG.mks hG.h.bo hr hd h)
             ·rename_i h1 h2 h3
              exact step (xZr1 hB hG.h hr hd h)
      | c c=>
        have hj:(∃ i,isJn G.jm c=some i∧loopS G.nb G.nt e H (lpOf G.lps i)=some r)∨sxC G (sx G n) (sx G.off n) c k e H=some r:=by
         simp only [sxT,sxJ] at h
         split at h
         ·exact .inr h
         ·rename_i i hi
          split at h
          ·exact .inr h
          ·rename_i L l hl
           exact .inl ⟨i,hi,by rw [hl];exact h⟩
        clear h
        rcases hj with ⟨i,hi,h⟩ | h
        ·refine hlps (id:=i) trivial ?_ h
         cases c<;>first | exact hs.1 i hi | exact hs.1.1 i hi | (unfold isJn at hi;split at hi<;>cases hi)
        cases c with
        | skip=>exact xZ5t 1 X (.c .skip::k) t (H.av B) (ih _ _ _ _ hr hs.2 h)
        | ops d l=>
          have plain:sx G n (.ops d l::k) e H=some r→go X (.c (.ops d l)::k) t (H.av B):=fun h=>xZ5t 1 X (.c (.ops d l)::k) t (H.av B) (ih (.ops d l::k) _ _ _ hr (show StkT G.jm S (.ops d l::k) from ⟨trivial,hs.2⟩) h)
          simp only [sxC,sxReg] at h
          split at h
          ·exact plain h
          ·rename_i g0 gl hdf
           split at h
           ·rename_i s f cs hde
            unfold sxDefer at h
            split at h
            ·rename_i hc
             simp only [Bool.and_eq_true,List.all_eq_true] at hc
             have hlt:s < G.ns:=by simpa using hc.1.2
             rcases hG.df with hd0 | ⟨hX,hI⟩
             ·rw [hd0] at hdf;cases hdf
             have hidle:=hI _ (xZit hc.1.1)
             refine xZkN (X:=X) (Q':=(X.off default).Q) hde hX (by rw [hr.len];exact hlt) (fun c hcm=>?_) hidle (fun D=>?_) (fun t a H hq=>hq)
             ·have hp:=hc.2 c hcm
              rw [hr.od]
              generalize bod e c=v at hp
              unfold ptr0 at hp
              split at hp
              ·exact ⟨_,by simp only [BV.av];rfl⟩
              ·cases hp
             ·have:=sx_ok' n (hG.off D) k _ _ H (hr.put (d:=some s) hc.1.2 (.raw .any)) hs.2 h
              exact xZdx this
            ·cases h
           ·exact plain h
        | priv l bs=>exact xZ5t 1 X (.c (.priv l bs)::k) t (H.av B) (ih (.ops true l::.pv bs::k) _ _ _ hr (show StkT G.jm S (.ops true l::.pv bs::k) from ⟨trivial,trivial,hs.2⟩) h)
        | alts o ls=>
          have hst:∀ l,StkT G.jm S (.ops true l::k):=fun l=>⟨trivial,hs.2⟩
          simp only [sxC,sxAlts] at h
          split at h
          ·exact xZor (fun q=>by cases q) fun l hl=>ih (.ops true l::k) _ _ _ hr (hst _) (xZi4 h _ (List.mem_map.2 ⟨l,hl,rfl⟩))
          ·split at h
           ·exact xZjV (ih (.ops true _::k) _ _ _ hr (hst _) h)
           ·cases h
        | seq a b=>exact xZ5t 1 X (.c (.seq a b)::k) t (H.av B) (ih (.c a::.c b::k) _ _ _ hr (show StkT G.jm S (.c a::.c b::k) from ⟨hs.1.1,hs.1.2,hs.2⟩) h)
        | cond x a b=>
          simp only [sxC,sxAlts] at h
          split at h
          ·rename_i c hc
           refine xZ5t 1 X (.c (.cond x a b)::k) t (H.av B) ?_
           show kCond _ _ (od t x)
           rw [hr.od,hc]
           simp only [BV.av]
           cases c with
           | true=>exact ⟨fun _=>ih (.c a::k) _ _ _ hr (show StkT G.jm S (.c a::k) from ⟨hs.1.2.1,hs.2⟩) h,fun q=>(by cases q)⟩
           | false=>exact ⟨fun q=>(by cases q),fun _=>ih (.c b::k) _ _ _ hr (show StkT G.jm S (.c b::k) from ⟨hs.1.2.2,hs.2⟩) h⟩
          ·cases h
        | block i a=>exact xZ5t 1 X (.c (.block i a)::k) t (H.av B) (ih (.c a::.blk i::k) _ _ _ hr (show StkT G.jm S (.c a::.blk i::k) from ⟨hs.1,trivial,hs.2⟩) h)
        | loop b=>exact xZ5t 1 X (.c (.loop b)::k) t (H.av B) (hloop ⟨⟨hs.1.1,hs.1.2⟩,hs.2⟩ h)
        | scope a=>exact xZ5t 1 X (.c (.scope a)::k) t (H.av B) (ih (.c a::.scp::k) _ _ _ hr (show StkT G.jm S (.c a::.scp::k) from ⟨hs.1,trivial,hs.2⟩) h)
        | exit i=>
          simp only [sxC,sxAlts] at h
          split at h
          ·rename_i k' hk'
           refine xZ5t 1 X (.c (.exit i)::k) t (H.av B) ?_
           show kExit _ _ _ (exitS i k)
           rw [hk']
           exact ih _ _ _ _ hr (xZfO hk' hs.2) h
          ·cases h
        | ret=>exact xZ5t 1 X (.c .ret::k) t (H.av B) (xZpc (k:=k) hG hr h)
        | bad=>cases h
   rw [xZkH] at h
   rcases xZqL G.ems todo with e0 | hno
   ·rw [e0] at h;exact main e t H hr h
   ·exact xZfM hno hr h fun e' H' t' hr' h'=>main e' t' H' hr' h'
theorem sx_ok (hG:SxOk X S G r) (n:Nat) (todo:List SI) (e:SE T) (t:List AV) (H:BH T) (hr:RelE B e t G.ns) (hs:StkT G.jm S todo) (h:sx G n todo e H=some r):go X todo t (H.av B):=sx_ok' n hG todo e t H hr hs h
end
end
section
section
variable {T:Nat→Type} {B:Tb T}
structure Fn (c:Con B) where
 fn:Func
 ex:List (FuncId×EK')
 h:Hint T
 con:FuncId→List (Con B)
 md:List Bool
 em:Option Nat
 nb:Nat
 nt:Nat
 kt:SE T→BH T→Bool:=fun _ _=>true
 alt:Option (EqR c.R):=none
 df:List (FuncId×Nat):=[]
 jm:List Nat:=[]
 ems:List (Nat×List (Nat×Option Nat×Nat)):=[]
def Fn.set {c:Con B} (F:Fn c) (P:Program) (N:Nat) (l:List (Nat×Lp B c.R)):Set B c.R:=⟨P,F.ex,F.h,N,F.con,l,resOf P F.fn,⟨F.md,F.em,c.o⟩,F.nb,F.nt,F.fn.ntmps,F.kt,F.alt,F.df,F.jm,F.ems⟩
structure Fn.Ok {c:Con B} (F:Fn c) (P:Program):Prop where
 is:Is P c.f F.fn.ntmps (resOf P F.fn) (bd P F.fn)
 ids:idsOk F.jm (bd P F.fn)=true
 hint:F.h.Ok B
 mks:mkOk P B F.h.mks
 ex:exOk P F.ex
 inn:∀ a,(Nat.ble (c.inn a).1.length F.fn.ntmps&&Nat.beq (c.inn a).2.box.length F.nb&&Nat.beq (c.inn a).2.buf.length F.nt)=true
structure Fn.Ok0 {c:Con B} (F:Fn c) (P:Program):Prop where
 ids:idsOk F.jm (bd P F.fn)=true
 hint:F.h.Ok B
 mks:mkOk P B F.h.mks
 ex:exOk P F.ex
 inn:∀ a,(Nat.ble (c.inn a).1.length F.fn.ntmps&&Nat.beq (c.inn a).2.box.length F.nb&&Nat.beq (c.inn a).2.buf.length F.nt)=true
theorem Fn.Ok.ok0 {c:Con B} {F:Fn c} {P:Program} (h:F.Ok P):F.Ok0 P:=⟨h.ids,h.hint,h.mks,h.ex,h.inn⟩
def conOk (P:Program) (N:Nat):List (Con B)→Prop
 | []=>True
 | c::l=>c.Ok P N∧conOk P N l
theorem xZic {P:Program} {N:Nat}:∀ {l:List (Con B)},conOk P N l→∀ c∈l,c.Ok P N
 | [],_,c,hc=>by cases hc
 | x::l,h,c,hc=>by
   rcases List.mem_cons.1 hc with rfl | hc
   ·exact h.1
   ·exact xZic h.2 c hc
structure Stg {c:Con B} (F:Fn c) (P:Program) (N:Nat) (a:c.A) (r:c.R) where
 X:Ctx
 hB:B.Ok
 ok:F.Ok0 P
 P':X.P=P
 res:X.res=resOf P F.fn
 Hin:X.Hin=(c.inn a).2.av B
 Q:∀ t a H,((∃ p,a=.pan p)→∃ e Hb,RelE B e t F.fn.ntmps∧H=Hb.av B∧F.kt e Hb=true)→PostW X.Hin (aeA ((c.o.enc r).1.av B)) ((c.o.enc r).2.av B) a H→X.Q t a H
 con:∀ f,conOk P N (F.con f)
 df:F.df=[]∨X.dfs=[]∧∀ p∈F.df,Idle X.P p.1 p.2
variable {c:Con B} {F:Fn c} {P:Program} {N:Nat} {a:c.A} {r:c.R}
def Stg.Gd (s:Stg F P N a r) (id:Nat) {A:Type} (q:LQ B A) (run:A→Option c.R):Prop:=∀ x,run x=some r→go s.X (stkO F.jm (bd P F.fn) id) (SE.av B F.fn.ntmps (q.enc x).1) ((q.enc x).2.av B)
def Stg.lpsOk (s:Stg F P N a r):List (Nat×Lp B c.R)→Prop
 | []=>True
 | (id,L)::l=>(∀ x,L.run x=some r→go s.X (stkO F.jm (bd P F.fn) id) (SE.av B F.fn.ntmps (L.enc x).1) ((L.enc x).2.av B))∧s.lpsOk l
theorem Stg.lps_of (s:Stg F P N a r):∀ {l:List (Nat×Lp B c.R)},s.lpsOk l→∀ id,∀ L∈lpOf l id,∀ x,L.run x=some r→go s.X (stkO F.jm (bd P F.fn) id) (SE.av B F.fn.ntmps (L.enc x).1) ((L.enc x).2.av B)
 | [],_,id,L,h=>by cases h
 | (m,L')::l,hl,id,L,h=>by
   simp only [lpOf] at h
   split at h
   ·rename_i hm
    rcases List.mem_cons.1 h with rfl | h
    ·rw [← beq_eq hm];exact hl.1
    ·exact s.lps_of hl.2 id L h
   ·exact s.lps_of hl.2 id L h
theorem Stg.sx (s:Stg F P N a r) {l:List (Nat×Lp B c.R)} (hl:s.lpsOk l):SxOk s.X (stkO F.jm (bd P F.fn)) (F.set P N l) r:=by
 have hi:=s.ok.inn a
 simp only [Bool.and_eq_true] at hi
 have h1:s.X.Hin.box.length=F.nb∧s.X.Hin.buf.length=F.nt:=⟨by rw [s.Hin,xZew];exact beq_eq hi.1.2,by rw [s.Hin,buf_len'];exact beq_eq hi.2⟩
 exact ⟨s.hB,s.P',s.res,.inr h1,⟨s.X.Hin,h1.1,h1.2,fun t a H h _ hp=>s.Q t a H h hp⟩,fun f=>xZic (s.con f),s.ok.hint,s.ok.mks,s.ok.ex,s.lps_of hl,s.df⟩
theorem xZi5:∀ (l:List (BV T)) (n:Nat),(argN n l).map (·.1)=List.range' n l.length
 | [],n=>rfl
 | x::l,n=>by simp only [argN,List.map_cons,List.length_cons,List.range'_succ,xZi5 l (n+1)]
theorem xZjo:∀ (l:List (BV T)) (n i:Nat),lk (argN n l) (n+i)=l.getD i (.raw .any)
 | [],n,i=>by simp [argN,lk]
 | x::l,n,0=>by simp [argN,xZeK]
 | x::l,n,i+1=>by
   rw [argN,xZeK,if_neg (by omega)]
   have:=xZjo l (n+1) i
   rw [show n+(i+1)=n+1+i by omega,this];simp
theorem Stg.main0 (s:Stg F P N a r) (n:Nat) (l:List (Nat×Lp B c.R)) (hl:s.lpsOk l) (h:Go.Proofs.YtmfkphajohcklaaGreat.O.sx (F.set P N l) n [.c (bd P F.fn)] (argE (c.inn a).1) (c.inn a).2=some r):
 go s.X [.c (bd P F.fn)] (SE.av B F.fn.ntmps (argE (c.inn a).1)) ((c.inn a).2.av B):=by
 have hi:=s.ok.inn a
 simp only [Bool.and_eq_true] at hi
 refine sx_ok (s.sx hl) n _ _ _ _ (RelE.of (xZi5 _ _) ?_) (xZny s.ok.ids) h
 rw [List.all_eq_true]
 intro i hm
 have:=List.mem_range'_1.1 hm
 have:=Nat.le_of_ble_eq_true hi.1.1
 show Nat.blt i F.fn.ntmps=true
 simp;omega
theorem Stg.main (s:Stg F P N a r) (l:List (Nat×Lp B c.R)) (hl:s.lpsOk l) (h:Go.Proofs.YtmfkphajohcklaaGreat.O.sx (F.set P N l) 1000 [.c (bd P F.fn)] (argE (c.inn a).1) (c.inn a).2=some r):
 go s.X [.c (bd P F.fn)] (SE.av B F.fn.ntmps (argE (c.inn a).1)) ((c.inn a).2.av B):=s.main0 1000 l hl h
theorem Stg.seg (s:Stg F P N a r) (id:Nat) {C V:Type} (q:LQ B (C×V)) (l:List (Nat×Lp B c.R)) (hl:s.lpsOk l) (hk:q.ks.all (fun i=>Nat.blt i F.fn.ntmps)=true) {x:Option c.R} {k:C} {v:V}
 (h:Go.Proofs.YtmfkphajohcklaaGreat.O.sx (F.set P N l) 1000 (stk F.jm (bd P F.fn) id) (q.enc (k,v)).1 (q.enc (k,v)).2=x) (hx:x=some r):go s.X (stk F.jm (bd P F.fn) id) (SE.av B F.fn.ntmps (q.enc (k,v)).1) ((q.enc (k,v)).2.av B):=
 sx_ok (s.sx hl) 1000 _ _ _ _ (RelE.of (q.key _) hk) (xZkF s.ok.ids id) (h.trans hx)
theorem Stg.jn (s:Stg F P N a r) (id:Nat) {A:Type} (q:LQ B A) (run:A→Option c.R) (l:List (Nat×Lp B c.R)) (hl:s.lpsOk l) (hk:q.ks.all (fun i=>Nat.blt i F.fn.ntmps)=true)
 (h:∀ x,Go.Proofs.YtmfkphajohcklaaGreat.O.sx (F.set P N l) 1000 (stkO F.jm (bd P F.fn) id) (q.enc x).1 (q.enc x).2=run x):s.Gd id q run:=
 fun x hx=>sx_ok (s.sx hl) 1000 _ _ _ _ (RelE.of (q.key _) hk) (stk_O s.ok.ids id) ((h x).trans hx)
theorem Stg.loop (s:Stg F P N a r) (id:Nat) {C V:Type} (q:LQ B (C×V)) (f:C→(V→Option c.R)→V→Option c.R) (M:Nat)
 (h:∀ next:C×V→Option c.R,s.Gd id q next→∀ k v,f k (fun v=>next (k,v)) v=some r→go s.X (stk F.jm (bd P F.fn) id) (SE.av B F.fn.ntmps (q.enc (k,v)).1) ((q.enc (k,v)).2.av B)):
 s.Gd id q (fun x=>loopV (f x.1) M x.2):=by
 have key:∀ (k:C) (n:Nat) (v:V),loopV (f k) n v=some r→go s.X (stkO F.jm (bd P F.fn) id) (SE.av B F.fn.ntmps (q.enc (k,v)).1) ((q.enc (k,v)).2.av B):=by
  intro k n
  induction n with
  | zero=>intro v hv;cases hv
  | succ n ih=>
    intro v hv
    classical
    refine xZot (h (fun x=>if x.1=k then loopV (f k) n x.2 else none) (fun x hx=>?_) k v ?_)
    ·dsimp only at hx
     split at hx
     ·rename_i hk
      obtain ⟨k',v'⟩:=x
      dsimp only at hk hx
      subst hk
      exact ih v' hx
     ·cases hx
    ·simp only [if_true];exact hv
 exact fun x hx=>key x.1 M x.2 hx
theorem Fn.Ok.give (ok:F.Ok P) (hB:B.Ok) (hm:P.follows .mixedOrders=true) (N M:Nat) (hc:∀ f,conOk P N (F.con f))
 (h:∀ (a:c.A) (r:c.R) (s:Stg F P N a r),c.sh M a=some r→go s.X [.c (bd P F.fn)] (SE.av B F.fn.ntmps (argE (c.inn a).1)) ((c.inn a).2.av B)) (hdf:∀ p∈F.df,Idle P p.1 p.2:=by intro p h;cases h):c.Ok P M:=by
 refine ⟨ok.is.enters,fun a r hr=>?_⟩
 obtain ⟨fn,cd,wr,h1,h2,h3,h4,h5,h6⟩:=ok.is.prf
 have hi:=ok.inn a
 simp only [Bool.and_eq_true] at hi
 have hle:=Nat.le_of_ble_eq_true hi.1.1
 refine xZmz F.fn.ntmps h1 h2 h3 h4 hm h5 ?_
 have:=h a r ⟨⟨P,c.f,fn,resOf P F.fn,(c.inn a).2.av B,fun _=>PostW ((c.inn a).2.av B) (aeA ((c.o.enc r).1.av B)) ((c.o.enc r).2.av B),[]⟩,hB,ok.ok0,rfl,rfl,rfl,fun _ _ _ _ h=>h,hc,.inr ⟨rfl,hdf⟩⟩ hr
 have e1:SE.av B F.fn.ntmps (argE (c.inn a).1)=BV.avs B (c.inn a).1++List.replicate (F.fn.ntmps - (BV.avs B (c.inn a).1).length) .any:=by
  refine List.ext_getElem? fun i=>?_
  rcases Nat.lt_or_ge i F.fn.ntmps with hlt | hge
  ·have g1:(SE.av B F.fn.ntmps (argE (c.inn a).1))[i]?=some ((lk (argE (c.inn a).1) i).av B):=by simp [SE.av,hlt]
   have g2:=xZjo (c.inn a).1 0 i
   rw [Nat.zero_add] at g2
   rw [g1,show argE (c.inn a).1=argN 0 (c.inn a).1 from rfl,g2,← xZev]
   rw [List.getElem?_append]
   split
   ·rename_i hl;simp [List.getD,hl]
   ·rename_i hl
    rw [List.getElem?_replicate,if_pos (by rw [xZ4n] at hl ⊢;omega)]
    simp [List.getD,List.getElem?_eq_none (Nat.le_of_not_lt hl)]
  ·rw [List.getElem?_eq_none (by rw [SE.len];exact hge),List.getElem?_eq_none (by simp [xZ4n];omega)]
 rw [e1] at this
 exact this
theorem xZ6 {sb:Nat→Option (List UInt8→(i:Nat)×List (T i))} (h:∀ k f s,sb k=some f→k=1∧B.k (f s).1=1∧(f s).2.map (B.eA (f s).1)=s.map byteV) {bo:(i:Nat)→List (T i)→Option (List UInt8)} (h2:∀ i l s,bo i l=some s→B.k i=1∧∃ m:List Int,l.map (B.eA i)=m.map u8V∧s=byS m) {l:List (Nat×Nat)} {m:List (TypeId×((i:Nat)×T i×Nat))}:(⟨l,m,sb,bo⟩:Hint T).Ok B:=⟨h,h2⟩
end
end
section
def cloneSC (te tb k by_:Nat):SC:=.seq (.ops false [.op (some 2) (.mov (.c .emp))]) (.seq (.seq (.ops false [.op (some 3) (.mov (.t 0)),.op (some 4) (.raw (.binOp .eql te (.tmp 3) (.const (.slice none 0 0)) te) tb)]) (.cond (.t 4) (.seq (.ops false [.op (some 2) (.mov (.c .emp))]) .ret) .skip)) (.seq (.ops false [.op (some 5) (.bsl k []),.op (some 6) (.mov (.t 0)),.op (some 7) (.app k by_ (.t 5) (.t 6)),.op (some 2) (.mov (.t 7))]) .ret))
theorem xZjx {X:Ctx} {te tb k by_ e:Nat} {xs:List AV} (hres:X.res=[.t 2]) (hu:X.P.underlying te=some (.slice e)) (hl:xs.length * by_≤140737488355328) (hl2:xs.length≤9223372036854775807)
 (h1:xs=[]→∀ t,X.Q t (.ret .emp) ⟨[],[]⟩) (h2:∀ t,X.Q t (.ret (.own 1)) ⟨[],[.dead,.live k xs]⟩):
 go X [.c (cloneSC te tb k by_)] [.sl k xs,.any,.any,.any,.any,.any,.any,.any] ⟨[],[]⟩:=by
 refine xZ5t 9 _ _ _ _ ?_
 show vraw X false (some 4) (.raw (.binOp .eql te (.tmp 3) (.const (.slice none 0 0)) te) tb) [] _ [.sl k xs,.any,.emp,.sl k xs,.any,.any,.any,.any] ⟨[],[]⟩
 refine xZnA (xZp3 (ne:=false) (e:=e) (k:=k) (xs:=xs) rfl hu rfl) (fun hx=>?_) (fun _=>?_)
 ·refine xZ5t 8 _ _ _ _ ?_
  refine ⟨fun _=>?_,fun h=>by cases h⟩
  show kRet X _ _ (resV _ _ X.res)
  rw [hres]
  exact ⟨trivial,h1 hx _⟩
 ·refine xZ5t 14 _ _ _ _ ?_
  refine ⟨fun h=>(by cases h),fun _=>?_⟩
  have hs:∀ A:AH,srcV A k (.sl k xs)=some xs:=fun A=>by simp [srcV]
  refine ⟨trivial,rfl,?_⟩
  show kAppS _ _ _ _ k by_ [] _ (srcV _ k (.sl k xs))
  rw [hs]
  refine ⟨by simpa using hl,by simpa using hl2,?_⟩
  show kRet X _ _ (resV _ _ X.res)
  rw [hres]
  exact ⟨trivial,h2 _⟩
section
variable {T:Nat→Type} {B:Tb T}
structure CloneIs (P:Program) (f:FuncId) (te tb k by_ e:Nat):Prop where
 is:Is P f 8 [.t 2] (cloneSC te tb k by_)
 un:P.underlying te=some (.slice e)
 by0:0 < by_
theorem CloneIs.of {P:Program} {f:FuncId} {te tb k by_ e:Nat} {fn:Func} (hf:P.funcs[f]?=some fn) (h:isOk P fn=true) (h1:fn.ntmps=8) (h2:resOf P fn=[.t 2]) (h3:bd P fn=cloneSC te tb k by_) (hu:P.underlying te=some (.slice e)) (h0:0 < by_):CloneIs P f te tb k by_ e:=
 ⟨by have:=Is.of hf h;rw [h1,h2,h3] at this;exact this,hu,h0⟩
theorem xZjw {P:Program} {f:FuncId} {te tb k by_ e:Nat} (hi:CloneIs P f te tb k by_ e) (hm:P.follows .mixedOrders=true) {xs:List AV} (hl:xs.length * by_≤140737488355328):
 CRes P f [.sl k xs] ⟨[],[]⟩ (.ret (.own 0)) ⟨[],[.live k xs]⟩:=by
 obtain ⟨fn,cd,wr,h1,h2,h3,h4,h5,h6⟩:=hi.is.prf
 have hl2:xs.length≤9223372036854775807:=by
  have:=Nat.le_mul_of_pos_right xs.length hi.by0;omega
 refine xZjH 8 h1 h2 h3 h4 hm h5 ?_
 refine xZjx rfl hi.un hl hl2 (fun hx _=>?_) fun _=>?_
 ·subst hx
  exact .inr ⟨rfl,k,[],[],[0],rfl,rfl,⟨trivial,⟨by simp [frzH],by simp [leBuf,frzH,List.getD],trivial⟩,rfl,rfl⟩,by simp [leE,le2,le1,leC,leA]⟩
 ·exact .inl ⟨[],[],[1],rfl,rfl,⟨trivial,⟨by simp [frzH],by simp [leBuf,frzH,List.getD],trivial⟩,rfl,rfl⟩,by simp [leE,le2,le1,leC,leA]⟩
theorem xZiZ {P:Program} {f:FuncId} {te tb k by_ e:Nat} (hi:CloneIs P f te tb k by_ e) (hm:P.follows .mixedOrders=true) {xs:List AV} (hl:xs.length * by_≤140737488355328):
 CRes P f [.sl k xs] .nil (.ret (.sl k xs)) .nil:=by
 obtain ⟨fn,cd,wr,h1,h2,h3,h4,h5,h6⟩:=hi.is.prf
 have hl2:xs.length≤9223372036854775807:=by
  have:=Nat.le_mul_of_pos_right xs.length hi.by0;omega
 refine xZjH 8 h1 h2 h3 h4 hm h5 ?_
 refine xZjx rfl hi.un hl hl2 (fun hx _=>?_) fun _=>?_
 ·subst hx
  exact .inl ⟨[],[],[],rfl,rfl,⟨trivial,trivial,rfl,rfl⟩,by simp [leE,le2,le1,leC,leA]⟩
 ·exact .inl ⟨[1],[],[],rfl,rfl,⟨trivial,trivial,rfl,rfl⟩,by simp [leE,le2,le1,leC,leA,frzH,frzT,frzB,List.getD]⟩
def shClone {α:Type} (by_:Nat) (s:List α):Option (List α):=gd (Nat.ble ((0+s.length) * by_) 140737488355328) (some s)
theorem xZeW {α:Type} {by_:Nat} {s r:List α} (h:shClone by_ s=some r):s.length * by_≤140737488355328∧r=s:=by
 obtain ⟨h1,h2⟩:=xZ3p h
 cases h2
 have:=Nat.le_of_ble_eq_true h1
 exact ⟨by simpa using this,rfl⟩
theorem xZmw {P:Program} {f:FuncId} {te tb by_ e i:Nat} (hi:CloneIs P f te tb (B.k i) by_ e) (hm:P.follows .mixedOrders=true) (N:Nat):(Con.clone (B:=B) f i (fun _ s=>shClone by_ s)).Ok P N:=by
 refine ⟨hi.is.enters,fun a r h=>?_⟩
 obtain ⟨h1,rfl⟩:=xZeW h
 have:=xZjw hi hm (xs:=a.1.map (B.eA i)) (by simpa using h1)
 simpa only [Con.clone,Con.m,PL.o,Pat.r,PX.n,PU.n,PU.l,Out.m,Pat.own,BV.avs,BV.av,BH.av,List.map_nil,List.map_cons,BB.av,aeA] using this
theorem xZkX {P:Program} {f:FuncId} {te tb by_ e i:Nat} (hi:CloneIs P f te tb (B.k i) by_ e) (hm:P.follows .mixedOrders=true) (N:Nat):(Con.cloneD (B:=B) f i (fun _ s=>shClone by_ s)).Ok P N:=by
 refine ⟨hi.is.enters,fun a r h=>?_⟩
 obtain ⟨h1,rfl⟩:=xZeW h
 have:=xZiZ hi hm (xs:=List.map (B.eA i) (show List (T i) from r)) (by rw [List.length_map];exact h1)
 simpa only [Con.cloneD,Con.p,PL.o,Pat.r,Out.p,BV.avs,BV.av,BH.av,List.map_nil,AH.nil,aeA] using this
end
end
section
class Lim (ι:Type) where
 ev:(ι→Prop)→Prop
 mono:∀ {P Q:ι→Prop},(∀ i,P i→Q i)→ev P→ev Q
 and:∀ {P Q:ι→Prop},ev P→ev Q→ev fun i=>P i∧Q i
 all:∀ {P:ι→Prop},(∀ i,P i)→ev P
 ex:∀ {P:ι→Prop},ev P→∃ i,P i
instance:Lim Nat where
 ev P:=∃ K,∀ N,K≤N→P N
 mono h:=fun ⟨K,hK⟩=>⟨K,fun N hN=>h N (hK N hN)⟩
 and:=fun ⟨K,hK⟩ ⟨L,hL⟩=>⟨max K L,fun N hN=>⟨hK N (by omega),hL N (by omega)⟩⟩
 all h:=⟨0,fun N _=>h N⟩
 ex:=fun ⟨K,hK⟩=>⟨K,hK K (Nat.le_refl _)⟩
instance {ι:Type} [Lim ι]:Lim (ι×Nat) where
 ev P:=∃ K,Lim.ev fun i:ι=>∀ n,K≤n→P (i,n)
 mono h:=fun ⟨K,hK⟩=>⟨K,Lim.mono (fun i hi n hn=>h _ (hi n hn)) hK⟩
 and:=fun ⟨K,hK⟩ ⟨L,hL⟩=>⟨max K L,Lim.mono (fun i hi n hn=>⟨hi.1 n (by omega),hi.2 n (by omega)⟩) (Lim.and hK hL)⟩
 all h:=⟨0,Lim.all fun i n _=>h (i,n)⟩
 ex:=fun ⟨K,hK⟩=>let ⟨i,hi⟩:=Lim.ex hK;⟨(i,K),hi K (Nat.le_refl _)⟩
class Tends {ι:Type} [Lim ι] (N:ι→Nat):Prop where
 to:∀ K,Lim.ev fun i=>K≤N i
instance:Tends (fun n:Nat=>n):=⟨fun K=>⟨K,fun _ h=>h⟩⟩
instance {ι:Type} [Lim ι]:Tends (fun p:ι×Nat=>p.2):=⟨fun K=>⟨K,Lim.all fun _ _ h=>h⟩⟩
instance {ι:Type} [Lim ι] {N:ι→Nat} [h:Tends N]:Tends (fun p:ι×Nat=>N p.1):=⟨fun K=>⟨0,Lim.mono (fun _ hi _ _=>hi) (h.to K)⟩⟩
instance:Tends (fun p:Nat×Nat=>p.1):=⟨fun K=>⟨0,K,fun _ h _ _=>h⟩⟩
instance:Tends (fun p:(Nat×Nat)×Nat=>p.1.1):=⟨fun K=>⟨0,0,K,fun _ h _ _ _ _=>h⟩⟩
instance:Tends (fun p:((Nat×Nat)×Nat)×Nat=>p.1.1.1):=⟨fun K=>⟨0,0,0,K,fun _ h _ _ _ _ _ _=>h⟩⟩
def Tl {ι:Type} [Lim ι] {α:Type} (f:ι→Option α) (a:α):Prop:=Lim.ev fun i=>f i=some a
def W {ι:Type} [Lim ι] {α:Type} (f:ι→Option α) (Q:α→Prop):Prop:=∃ a,Tl f a∧Q a
section
variable {ι:Type} [Lim ι] {α β:Type}
theorem Tl.uniq {f:ι→Option α} {a b:α} (h:Tl f a) (h':Tl f b):a=b:=by
 obtain ⟨i,h1,h2⟩:=Lim.ex (Lim.and h h')
 rw [h1] at h2;exact Option.some.inj h2
theorem Tl.w {f:ι→Option α} {a:α} (h:Tl f a):W f (·=a):=⟨a,h,rfl⟩
theorem W.tl {f:ι→Option α} {a:α} (h:W f (·=a)):Tl f a:=by obtain ⟨_,h,rfl⟩:=h;exact h
theorem W.mp {f:ι→Option α} {P Q:α→Prop} (h:W f P) (hi:∀ a,P a→Q a):W f Q:=let ⟨a,h1,h2⟩:=h;⟨a,h1,hi a h2⟩
theorem W.and {f:ι→Option α} {P Q:α→Prop} (h:W f P) (h':W f Q):W f fun a=>P a∧Q a:=by
 obtain ⟨a,h1,h2⟩:=h
 obtain ⟨b,h3,h4⟩:=h'
 obtain rfl:=h1.uniq h3
 exact ⟨a,h1,h2,h4⟩
theorem W.ret {a:α} {Q:α→Prop}:W (fun _:ι=>some a) Q ↔ Q a:=
 ⟨fun ⟨b,h,hq⟩=>by obtain ⟨_,h⟩:=Lim.ex h;cases h;exact hq,fun h=>⟨a,Lim.all fun _=>rfl,h⟩⟩
theorem W.none {Q:α→Prop}:W (fun _:ι=>(Option.none:Option α)) Q ↔ False:=
 ⟨fun ⟨b,h,_⟩=>by (obtain ⟨_,h⟩:=Lim.ex h;cases h),fun h=>h.elim⟩
theorem W.cond {c:Bool} {f g:ι→Option α} {Q:α→Prop}:W (fun i=>bif c then f i else g i) Q ↔ (c=true→W f Q)∧(c=false→W g Q):=by
 cases c
 ·exact ⟨fun h=>⟨fun h'=>by (cases h'),fun _=>h⟩,fun h=>h.2 rfl⟩
 ·exact ⟨fun h=>⟨fun _=>h,fun h'=>by (cases h')⟩,fun h=>h.1 rfl⟩
theorem W.gd {c:Bool} {f:ι→Option α} {Q:α→Prop}:W (fun i=>gd c (f i)) Q ↔ c=true∧W f Q:=by
 cases c with
 | true=>exact ⟨fun h=>⟨rfl,h⟩,fun h=>h.2⟩
 | false=>
   refine ⟨?_,fun h=>by cases h.1⟩
   rintro ⟨a,h,_⟩
   obtain ⟨_,h⟩:=Lim.ex h
   cases h
theorem W.obind {x:Option β} {k:ι→β→Option α} {Q:α→Prop}:W (fun i=>x.bind (k i)) Q ↔ ∃ a,x=some a∧W (fun i=>k i a) Q:=by
 cases x with
 | none=>
   refine ⟨?_,fun h=>by obtain ⟨_,h,_⟩:=h;cases h⟩
   rintro ⟨a,h,_⟩
   obtain ⟨_,h⟩:=Lim.ex h
   cases h
 | some a=>exact ⟨fun h=>⟨a,rfl,h⟩,fun h=>by obtain ⟨_,h,h'⟩:=h;cases h;exact h'⟩
theorem W.some {b:β} {k:ι→β→Option α} {Q:α→Prop}:W (fun i=>(some b:Option β).bind (k i)) Q ↔ W (fun i=>k i b) Q:=Iff.rfl
theorem W.sum {γ:Type} {x:β⊕γ} {f:ι→β→Option α} {g:ι→γ→Option α} {Q:α→Prop}:
 W (fun i=>Sum.elim (f i) (g i) x) Q ↔ (∀ b,x=.inl b→W (fun i=>f i b) Q)∧(∀ b,x=.inr b→W (fun i=>g i b) Q):=by
 cases x
 ·exact ⟨fun h=>⟨fun _ h'=>by (cases h';exact h),fun _ h'=>by (cases h')⟩,fun h=>h.1 _ rfl⟩
 ·exact ⟨fun h=>⟨fun _ h'=>by (cases h'),fun _ h'=>by (cases h';exact h)⟩,fun h=>h.2 _ rfl⟩
theorem W.bind {f:ι→Option β} {k:ι→β→Option α} {P:β→Prop} {Q:α→Prop} (h:W f P) (hk:∀ b,P b→W (fun i=>k i b) Q):W (fun i=>(f i).bind (k i)) Q:=by
 obtain ⟨b,hb,hp⟩:=h
 obtain ⟨a,ha,hq⟩:=hk b hp
 refine ⟨a,Lim.mono (fun i hi=>?_) (Lim.and hb ha),hq⟩
 obtain ⟨h1,h2⟩:=hi
 show (f i).bind (k i)=_
 rw [h1];exact h2
theorem W.bindTl {f:ι→Option β} {k:ι→β→Option α} {b:β} {Q:α→Prop} (h:Tl f b):W (fun i=>(f i).bind (k i)) Q ↔ W (fun i=>k i b) Q:=by
 refine ⟨?_,fun h'=>W.bind h.w fun _ e=>by subst e;exact h'⟩
 rintro ⟨a,ha,hq⟩
 refine ⟨a,Lim.mono (fun i hi=>?_) (Lim.and h ha),hq⟩
 obtain ⟨h1,h2⟩:=hi
 change (f i).bind (k i)=_ at h2
 rw [h1] at h2;exact h2
theorem W.congr {f g:ι→Option α} {Q:α→Prop} (h:Lim.ev fun i=>f i=g i) (h':W g Q):W f Q:=
 let ⟨a,ha,hq⟩:=h';⟨a,Lim.mono (fun _ hi=>hi.1.trans hi.2) (Lim.and h ha),hq⟩
theorem Tl.lift {f:ι→Option α} {b:α} (h:Tl f b):Tl (fun p:ι×Nat=>f p.1) b:=⟨0,Lim.mono (fun _ hi _ _=>hi) h⟩
theorem W.lift {f:ι→Option α} {Q:α→Prop} (h:W f Q):W (fun p:ι×Nat=>f p.1) Q:=let ⟨a,h1,h2⟩:=h;⟨a,h1.lift,h2⟩
theorem Tl.of {f:Nat→Option α} {b:α} (h:Tl f b) (N:ι→Nat) [hN:Tends N]:Tl (fun i=>f (N i)) b:=by
 obtain ⟨K,hK⟩:=h
 exact Lim.mono (fun i hi=>hK _ hi) (hN.to K)
theorem W.of {f:Nat→Option α} {Q:α→Prop} (h:W f Q) (N:ι→Nat) [hN:Tends N]:W (fun i=>f (N i)) Q:=let ⟨a,h1,h2⟩:=h;⟨a,h1.of N,h2⟩
theorem W.call {f:Nat→Option β} {P:β→Prop} (h:W f P) {k:ι→β→Option α} {Q:α→Prop} {N:ι→Nat} [Tends N] (hk:∀ b,P b→W (fun i=>k i b) Q):W (fun i=>(f (N i)).bind (k i)) Q:=W.bind (h.of N) hk
theorem W.callTl {f:Nat→Option β} {b:β} (h:Tl f b) {k:ι→β→Option α} {Q:α→Prop} {N:ι→Nat} [Tends N]:W (fun i=>(f (N i)).bind (k i)) Q ↔ W (fun i=>k i b) Q:=W.bindTl (h.of N)
theorem W.loopQ {V R:Type} {f:ι→(V→Option R)→V→Option R} (N:ι→Nat) [hN:Tends N] (P:V→Prop) (m:V→Nat) (Q:V→R→Prop)
 (h:∀ (F:ι×Nat→V→Option R) v,P v→(∀ v',P v'→m v' < m v→W (fun p=>F p v') (Q v'))→W (fun p:ι×Nat=>f p.1 (F p) v) (Q v)) (v:V) (hv:P v):
 W (fun i=>loopV (f i) (N i) v) (Q v):=by
 have key:∀ q v,P v→m v=q→W (fun p:ι×Nat=>loopV (f p.1) p.2 v) (Q v):=by
  intro q
  induction q using Nat.strongRecOn with
  | ind q ih=>
    intro v hv hq
    obtain ⟨a,⟨K,hK⟩,ha⟩:=h (fun p=>loopV (f p.1) p.2) v hv fun v' hv' hm=>ih _ (by omega) v' hv' rfl
    refine ⟨a,⟨K+1,Lim.mono (fun i hi n hn=>?_) hK⟩,ha⟩
    obtain ⟨z,rfl⟩:∃ z,n=z+1:=⟨n - 1,by omega⟩
    exact hi z (by omega)
 obtain ⟨a,⟨K,hK⟩,ha⟩:=key _ v hv rfl
 exact ⟨a,Lim.mono (fun i hi=>hi.1 _ hi.2) (Lim.and hK (hN.to K)),ha⟩
theorem W.loop {V R:Type} {f:ι→(V→Option R)→V→Option R} {Q:R→Prop} (N:ι→Nat) [hN:Tends N] (P:V→Prop) (m:V→Nat)
 (h:∀ (F:ι×Nat→V→Option R) v,P v→(∀ v',P v'→m v' < m v→W (fun p=>F p v') Q)→W (fun p:ι×Nat=>f p.1 (F p) v) Q) (v:V) (hv:P v):
 W (fun i=>loopV (f i) (N i) v) Q:=W.loopQ N P m (fun _=>Q) h v hv
theorem W.lp1 {α0 R:Type} {f:ι→(α0→Option R)→α0→Option R} {Q:R→Prop} (P:α0→Prop) (m:α0→Nat) {N:ι→Nat} [Tends N] {u0}
 (hv:P u0) (h:∀ (F:ι×Nat→α0→Option R) v0,P v0→(∀ w0,P w0→m w0 < m v0→W (fun p=>F p w0) Q)→W (fun p:ι×Nat=>f p.1 (F p) v0) Q):
 W (fun i=>lp1 (f i) (N i) u0) Q:=
 W.loop (f:=fun i next v=>f i (fun u0=>next u0) v) N (fun v=>P v) (fun v=>m v) (fun F v hp hn=>h (fun p u0=>F p u0) (v) hp fun w0 hw hm=>hn (w0) hw hm) u0 hv
theorem W.lp2 {α0 α1 R:Type} {f:ι→(α0→α1→Option R)→α0→α1→Option R} {Q:R→Prop} (P:α0→α1→Prop) (m:α0→α1→Nat) {N:ι→Nat} [Tends N] {u0 u1}
 (hv:P u0 u1) (h:∀ (F:ι×Nat→α0→α1→Option R) v0 v1,P v0 v1→(∀ w0 w1,P w0 w1→m w0 w1 < m v0 v1→W (fun p=>F p w0 w1) Q)→W (fun p:ι×Nat=>f p.1 (F p) v0 v1) Q):
 W (fun i=>lp2 (f i) (N i) u0 u1) Q:=
 W.loop (f:=fun i next v=>f i (fun u0 u1=>next (u0,u1)) v.1 v.2) N (fun v=>P v.1 v.2) (fun v=>m v.1 v.2) (fun F v hp hn=>h (fun p u0 u1=>F p (u0,u1)) (v.1) (v.2) hp fun w0 w1 hw hm=>hn (w0,w1) hw hm) (u0,u1) hv
theorem W.lp3 {α0 α1 α2 R:Type} {f:ι→(α0→α1→α2→Option R)→α0→α1→α2→Option R} {Q:R→Prop} (P:α0→α1→α2→Prop) (m:α0→α1→α2→Nat) {N:ι→Nat} [Tends N] {u0 u1 u2}
 (hv:P u0 u1 u2) (h:∀ (F:ι×Nat→α0→α1→α2→Option R) v0 v1 v2,P v0 v1 v2→(∀ w0 w1 w2,P w0 w1 w2→m w0 w1 w2 < m v0 v1 v2→W (fun p=>F p w0 w1 w2) Q)→W (fun p:ι×Nat=>f p.1 (F p) v0 v1 v2) Q):
 W (fun i=>lp3 (f i) (N i) u0 u1 u2) Q:=
 W.loop (f:=fun i next v=>f i (fun u0 u1 u2=>next (u0,u1,u2)) v.1 v.2.1 v.2.2) N (fun v=>P v.1 v.2.1 v.2.2) (fun v=>m v.1 v.2.1 v.2.2) (fun F v hp hn=>h (fun p u0 u1 u2=>F p (u0,u1,u2)) (v.1) (v.2.1) (v.2.2) hp fun w0 w1 w2 hw hm=>hn (w0,w1,w2) hw hm) (u0,u1,u2) hv
theorem W.lp4 {α0 α1 α2 α3 R:Type} {f:ι→(α0→α1→α2→α3→Option R)→α0→α1→α2→α3→Option R} {Q:R→Prop} (P:α0→α1→α2→α3→Prop) (m:α0→α1→α2→α3→Nat) {N:ι→Nat} [Tends N] {u0 u1 u2 u3}
 (hv:P u0 u1 u2 u3) (h:∀ (F:ι×Nat→α0→α1→α2→α3→Option R) v0 v1 v2 v3,P v0 v1 v2 v3→(∀ w0 w1 w2 w3,P w0 w1 w2 w3→m w0 w1 w2 w3 < m v0 v1 v2 v3→W (fun p=>F p w0 w1 w2 w3) Q)→W (fun p:ι×Nat=>f p.1 (F p) v0 v1 v2 v3) Q):
 W (fun i=>lp4 (f i) (N i) u0 u1 u2 u3) Q:=
 W.loop (f:=fun i next v=>f i (fun u0 u1 u2 u3=>next (u0,u1,u2,u3)) v.1 v.2.1 v.2.2.1 v.2.2.2) N (fun v=>P v.1 v.2.1 v.2.2.1 v.2.2.2) (fun v=>m v.1 v.2.1 v.2.2.1 v.2.2.2) (fun F v hp hn=>h (fun p u0 u1 u2 u3=>F p (u0,u1,u2,u3)) (v.1) (v.2.1) (v.2.2.1) (v.2.2.2) hp fun w0 w1 w2 w3 hw hm=>hn (w0,w1,w2,w3) hw hm) (u0,u1,u2,u3) hv
theorem W.lp6 {α0 α1 α2 α3 α4 α5 R:Type} {f:ι→(α0→α1→α2→α3→α4→α5→Option R)→α0→α1→α2→α3→α4→α5→Option R} {Q:R→Prop} (P:α0→α1→α2→α3→α4→α5→Prop) (m:α0→α1→α2→α3→α4→α5→Nat) {N:ι→Nat} [Tends N] {u0 u1 u2 u3 u4 u5}
 (hv:P u0 u1 u2 u3 u4 u5) (h:∀ (F:ι×Nat→α0→α1→α2→α3→α4→α5→Option R) v0 v1 v2 v3 v4 v5,P v0 v1 v2 v3 v4 v5→(∀ w0 w1 w2 w3 w4 w5,P w0 w1 w2 w3 w4 w5→m w0 w1 w2 w3 w4 w5 < m v0 v1 v2 v3 v4 v5→W (fun p=>F p w0 w1 w2 w3 w4 w5) Q)→W (fun p:ι×Nat=>f p.1 (F p) v0 v1 v2 v3 v4 v5) Q):
 W (fun i=>lp6 (f i) (N i) u0 u1 u2 u3 u4 u5) Q:=
 W.loop (f:=fun i next v=>f i (fun u0 u1 u2 u3 u4 u5=>next (u0,u1,u2,u3,u4,u5)) v.1 v.2.1 v.2.2.1 v.2.2.2.1 v.2.2.2.2.1 v.2.2.2.2.2) N (fun v=>P v.1 v.2.1 v.2.2.1 v.2.2.2.1 v.2.2.2.2.1 v.2.2.2.2.2) (fun v=>m v.1 v.2.1 v.2.2.1 v.2.2.2.1 v.2.2.2.2.1 v.2.2.2.2.2) (fun F v hp hn=>h (fun p u0 u1 u2 u3 u4 u5=>F p (u0,u1,u2,u3,u4,u5)) (v.1) (v.2.1) (v.2.2.1) (v.2.2.2.1) (v.2.2.2.2.1) (v.2.2.2.2.2) hp fun w0 w1 w2 w3 w4 w5 hw hm=>hn (w0,w1,w2,w3,w4,w5) hw hm) (u0,u1,u2,u3,u4,u5) hv
end
theorem ix_nat' {α:Type} (l:List α) (i:Nat):ix l (i:Int)=l[i]?:=by simp [ix]
theorem ix_lt {α:Type} {l:List α} {i:Int} (h0:0≤i) (h1:i < l.length):∃ e,ix l i=some e∧l[i.toNat]?=some e:=by
 obtain ⟨n,rfl⟩:=Int.eq_ofNat_of_zero_le h0
 have:n < l.length:=by omega
 exact ⟨l[n],by rw [ix_nat'];simp [this],by simp [this]⟩
theorem W.ix {ι:Type} [Lim ι] {α β:Type} {l:List β} {j:Int} {k:ι→β→Option α} {Q:α→Prop} (h0:0≤j) (h1:j < l.length) (h:∀ e,ix l j=Option.some e→l[j.toNat]?=Option.some e→W (fun i=>k i e) Q):
 W (fun i=>(ix l j).bind (k i)) Q:=W.obind.2 (let ⟨e,h2,h3⟩:=ix_lt h0 h1;⟨e,h2,h e h2 h3⟩)
theorem xZ5D {n:Int}:i64b n=true ↔ -9223372036854775808≤n∧n≤9223372036854775807:=xZfS n
theorem xZ4M {a b:Int}:ltB a b=true ↔ a < b:=by rw [xZd1];simp
theorem xZ5T {a b:Int}:ltB a b=false ↔ b≤a:=by rw [xZd1];simp
theorem xZ6J {a b:Int}:leB a b=false ↔ b < a:=by rw [xZe9];simp
theorem W.clone {ι:Type} [Lim ι] {α β:Type} {z:Nat} {l:List β} {k:ι→List β→Option α} {Q:α→Prop} (h:l.length * z≤140737488355328):W (fun i=>(shClone z l).bind (k i)) Q ↔ W (fun i=>k i l) Q:=by
 have:shClone z l=Option.some l:=by
  unfold shClone
  rw [show Nat.ble ((0+l.length) * z) 140737488355328=true from Nat.ble_eq_true_of_le (by rw [Nat.zero_add];exact h)];rfl
 rw [this];exact W.some
end
section
theorem xZ3A {R:Type} {x:Option R}:gd true x=x:=rfl
section
variable {ι:Type} [Lim ι]
theorem xZmr {β:Type} {l pre rest:List β} {e:β} (h:l=pre++e::rest) (hb:(l.length:Int)≤9223372036854775807):
 ltB (pre.length:Int) (l.length:Int)=true∧ix l (pre.length:Int)=some e∧i64b ((pre.length:Int)+1)=true∧e∈l:=by
 subst h
 have:((pre++e::rest).length:Int)=pre.length+1+rest.length:=by simp;omega
 refine ⟨xZ4M.2 (by omega),by rw [ix_nat'];simp,xZ5D.2 (by omega),by simp⟩
theorem xZis (n:Int):ltB n n=false:=xZ5T.2 (Int.le_refl _)
theorem wf1 {β R:Type} {l:List β} {f:ι→(Int→Option R)→Int→Option R} {Q:R→Prop} (P:List β→Prop) {N:ι→Nat} [Tends N] {n:Int}
 (pre:List β) {rest:List β} (hl:l=pre++rest) (hi:n=(pre.length:Int)) (hb:(l.length:Int)≤9223372036854775807) (h0:P pre)
 (step:∀ (F:ι×Nat→Int→Option R) pre e rest,l=pre++e::rest→ltB (pre.length:Int) (l.length:Int)=true→ix l (pre.length:Int)=some e→i64b ((pre.length:Int)+1)=true→P pre→
   (P (pre++[e])→W (fun p=>F p ((pre.length:Int)+1)) Q)→W (fun p:ι×Nat=>f p.1 (F p) (pre.length:Int)) Q)
 (done:∀ (F:ι×Nat→Int→Option R),ltB (l.length:Int) (l.length:Int)=false→P l→W (fun p:ι×Nat=>f p.1 (F p) (l.length:Int)) Q):
 W (fun i=>lp1 (f i) (N i) n) Q:=by
 subst hi
 refine W.lp1 (fun x0=>∃ pre rest,l=pre++rest∧x0=(pre.length:Int)∧P pre) (fun x0=>((l.length:Int) - x0).toNat) ⟨pre,rest,hl,rfl,h0⟩ ?_
 rintro F x0 ⟨pre,rest,hl,rfl,hp⟩ hn
 cases rest with
 | nil=>
   rw [List.append_nil] at hl
   subst hl
   exact done F (xZis _) hp
 | cons e rest=>
   obtain ⟨h1,h2,h3,_⟩:=xZmr hl hb
   refine step F pre e rest hl h1 h2 h3 hp fun  hw=>hn _ ⟨pre++[e],rest,by rw [hl];simp,by simp,hw⟩ ?_
   have:=xZ4M.1 h1
   omega
theorem wf2a {β R:Type} {α1:Type} {l:List β} {f:ι→(Int→α1→Option R)→Int→α1→Option R} {Q:R→Prop} (P:List β→α1→Prop) {N:ι→Nat} [Tends N] {u1:α1} {n:Int}
 (pre:List β) {rest:List β} (hl:l=pre++rest) (hi:n=(pre.length:Int)) (hb:(l.length:Int)≤9223372036854775807) (h0:P pre u1)
 (step:∀ (F:ι×Nat→Int→α1→Option R) pre e rest v1,l=pre++e::rest→ltB (pre.length:Int) (l.length:Int)=true→ix l (pre.length:Int)=some e→i64b ((pre.length:Int)+1)=true→P pre v1→
   (∀ w1,P (pre++[e]) w1→W (fun p=>F p ((pre.length:Int)+1) w1) Q)→W (fun p:ι×Nat=>f p.1 (F p) (pre.length:Int) v1) Q)
 (done:∀ (F:ι×Nat→Int→α1→Option R) v1,ltB (l.length:Int) (l.length:Int)=false→P l v1→W (fun p:ι×Nat=>f p.1 (F p) (l.length:Int) v1) Q):
 W (fun i=>lp2 (f i) (N i) n u1) Q:=by
 subst hi
 refine W.lp2 (fun x0 x1=>∃ pre rest,l=pre++rest∧x0=(pre.length:Int)∧P pre x1) (fun x0 x1=>((l.length:Int) - x0).toNat) ⟨pre,rest,hl,rfl,h0⟩ ?_
 rintro F x0 x1 ⟨pre,rest,hl,rfl,hp⟩ hn
 cases rest with
 | nil=>
   rw [List.append_nil] at hl
   subst hl
   exact done F x1 (xZis _) hp
 | cons e rest=>
   obtain ⟨h1,h2,h3,_⟩:=xZmr hl hb
   refine step F pre e rest x1 hl h1 h2 h3 hp fun  w1 hw=>hn _ w1 ⟨pre++[e],rest,by rw [hl];simp,by simp,hw⟩ ?_
   have:=xZ4M.1 h1
   omega
theorem wf2z {β R:Type} {α0:Type} {l:List β} {f:ι→(α0→Int→Option R)→α0→Int→Option R} {Q:R→Prop} (P:List β→α0→Prop) {N:ι→Nat} [Tends N] {u0:α0} {n:Int}
 (pre:List β) {rest:List β} (hl:l=pre++rest) (hi:n=(pre.length:Int)) (hb:(l.length:Int)≤9223372036854775807) (h0:P pre u0)
 (step:∀ (F:ι×Nat→α0→Int→Option R) pre e rest v0,l=pre++e::rest→ltB (pre.length:Int) (l.length:Int)=true→ix l (pre.length:Int)=some e→i64b ((pre.length:Int)+1)=true→P pre v0→
   (∀ w0,P (pre++[e]) w0→W (fun p=>F p w0 ((pre.length:Int)+1)) Q)→W (fun p:ι×Nat=>f p.1 (F p) v0 (pre.length:Int)) Q)
 (done:∀ (F:ι×Nat→α0→Int→Option R) v0,ltB (l.length:Int) (l.length:Int)=false→P l v0→W (fun p:ι×Nat=>f p.1 (F p) v0 (l.length:Int)) Q):
 W (fun i=>lp2 (f i) (N i) u0 n) Q:=by
 subst hi
 refine W.lp2 (fun x0 x1=>∃ pre rest,l=pre++rest∧x1=(pre.length:Int)∧P pre x0) (fun x0 x1=>((l.length:Int) - x1).toNat) ⟨pre,rest,hl,rfl,h0⟩ ?_
 rintro F x0 x1 ⟨pre,rest,hl,rfl,hp⟩ hn
 cases rest with
 | nil=>
   rw [List.append_nil] at hl
   subst hl
   exact done F x0 (xZis _) hp
 | cons e rest=>
   obtain ⟨h1,h2,h3,_⟩:=xZmr hl hb
   refine step F pre e rest x0 hl h1 h2 h3 hp fun  w0 hw=>hn w0 _ ⟨pre++[e],rest,by rw [hl];simp,by simp,hw⟩ ?_
   have:=xZ4M.1 h1
   omega
end
end
def inK (k:IntKind) (n:Int):Prop:=k.min≤n∧n≤k.max
def okS (s:List UInt8):Prop:=s.length≤maxLen
def okL {α:Type} (ok:α→Prop) (l:List α):Prop:=(∀ x∈l,ok x)∧l.length≤maxLen
theorem xZqZ {s:List UInt8} (h:okS s):s.length≤9223372036854775807:=h
section
section
variable {T:Nat→Type}
structure EqT (T:Nat→Type) where
 f:(i:Nat)→T i→T i→Bool
 ok:∀ i x y,f i x y=true→x=y
def eqL {α:Type} (g:α→α→Bool):List α→List α→Bool
 | [],[]=>true
 | x::a,y::b=>g x y&&eqL g a b
 | _,_=>false
theorem xZby {α:Type} {g:α→α→Bool} (h:∀ x y,g x y=true→x=y):∀ a b,eqL g a b=true→a=b
 | [],[],_=>rfl
 | x::a,y::b,q=>by
   simp only [eqL,Bool.and_eq_true] at q
   rw [h x y q.1,xZby h a b q.2]
 | [],_::_,q=>by cases q
 | _::_,[],q=>by cases q
def eqSl (E:EqT T) (i j:Nat) (l:List (T i)) (m:List (T j)):Bool:=if h:i=j then eqL (E.f j) (h ▸ l) m else false
theorem xZii {E:EqT T} {i j:Nat} {l:List (T i)} {m:List (T j)} (h:eqSl E i j l m=true):∃ e:i=j,e ▸ l=m:=by
 unfold eqSl at h
 split at h
 ·rename_i e;exact ⟨e,xZby (E.ok j) _ _ h⟩
 ·cases h
def eqTr (E:EqT T) (i j:Nat) (x:T i) (y:T j):Bool:=if h:i=j then E.f j (h ▸ x) y else false
theorem xZol {E:EqT T} {i j:Nat} {x:T i} {y:T j} (h:eqTr E i j x y=true):∃ e:i=j,e ▸ x=y:=by
 unfold eqTr at h
 split at h
 ·rename_i e;exact ⟨e,E.ok j _ _ h⟩
 ·cases h
def rawEq:AV→AV→Bool
 | .any,.any=>true
 | .v .nilIface,.v .nilIface=>true
 | .v .nilFunc,.v .nilFunc=>true
 | .v (.pointer none),.v (.pointer none)=>true
 | _,_=>false
theorem xZnr:∀ {x y:AV},rawEq x y=true→x=y:=by
 intro x y h
 unfold rawEq at h
 split at h<;>first | rfl | cases h
mutual
def BV.beq (E:EqT T):BV T→BV T→Bool
 | .raw x,y=>match y with
   | .raw z=>rawEq x z
   | _=>false
 | .emp,y=>match y with
   | .emp=>true
   | _=>false
 | .int k n,y=>match y with
   | .int k' n'=>decide (k=k')&&n==n'
   | _=>false
 | .bool a,y=>match y with
   | .bool b=>a==b
   | _=>false
 | .str a,y=>match y with
   | .str b=>a==b
   | _=>false
 | .flt k n,y=>match y with
   | .flt k' n'=>decide (k=k')&&n==n'
   | _=>false
 | .agg a,y=>match y with
   | .agg b=>BVs.beq E a b
   | _=>false
 | .tup a,y=>match y with
   | .tup b=>BVs.beq E a b
   | _=>false
 | .sl i l,y=>match y with
   | .sl j m=>eqSl E i j l m
   | _=>false
 | .own a,y=>match y with
   | .own b=>a==b
   | _=>false
 | .ptr a b,y=>match y with
   | .ptr c d=>a==c&&b==d
   | _=>false
 | .dptr a,y=>match y with
   | .dptr b=>BVs.beq E a b
   | _=>false
 | .ifc t x,y=>match y with
   | .ifc t' z=>t==t'&&BV.beq E x z
   | _=>false
 | .tr i a,y=>match y with
   | .tr j b=>eqTr E i j a b
   | _=>false
 | .eptr ..,_=>false
 | .aptr _ _ _,_=>false
 | .fn ..,_=>false
def BVs.beq (E:EqT T):List (BV T)→List (BV T)→Bool
 | [],y=>match y with
   | []=>true
   | _=>false
 | x::a,y=>match y with
   | z::b=>BV.beq E x z&&BVs.beq E a b
   | []=>false
end
mutual
theorem BV.beq_ok (E:EqT T):∀ x y:BV T,BV.beq E x y=true→x=y
 | .raw x,y,h=>by cases y<;>simp only [BV.beq] at h<;>first | (rw [xZnr h]) | cases h
 | .emp,y,h=>by cases y<;>simp only [BV.beq] at h<;>first | rfl | cases h
 | .int k n,y,h=>by cases y<;>simp only [BV.beq] at h<;>first | (simp only [Bool.and_eq_true,decide_eq_true_eq,beq_iff_eq] at h;rw [h.1,h.2]) | cases h
 | .bool a,y,h=>by cases y<;>simp only [BV.beq] at h<;>first | (rw [eq_of_beq h]) | cases h
 | .str a,y,h=>by cases y<;>simp only [BV.beq] at h<;>first | (rw [eq_of_beq h]) | cases h
 | .flt k n,y,h=>by cases y<;>simp only [BV.beq] at h<;>first | (simp only [Bool.and_eq_true,decide_eq_true_eq,beq_iff_eq] at h;rw [h.1,h.2]) | cases h
 | .agg a,y,h=>by cases y<;>simp only [BV.beq] at h<;>first | (rw [BVs.beq_ok E a _ h]) | cases h
 | .tup a,y,h=>by cases y<;>simp only [BV.beq] at h<;>first | (rw [BVs.beq_ok E a _ h]) | cases h
 | .sl i l,y,h=>by cases y<;>simp only [BV.beq] at h<;>first | (obtain ⟨e,q⟩:=xZii h;subst e;subst q;rfl) | cases h
 | .own a,y,h=>by cases y<;>simp only [BV.beq] at h<;>first | (rw [eq_of_beq h]) | cases h
 | .ptr a b,y,h=>by cases y<;>simp only [BV.beq] at h<;>first | (simp only [Bool.and_eq_true,beq_iff_eq] at h;rw [h.1,h.2]) | cases h
 | .dptr a,y,h=>by cases y<;>simp only [BV.beq] at h<;>first | (rw [BVs.beq_ok E a _ h]) | cases h
 | .ifc t x,y,h=>by cases y<;>simp only [BV.beq] at h<;>first | (simp only [Bool.and_eq_true,beq_iff_eq] at h;rw [h.1,BV.beq_ok E x _ h.2]) | cases h
 | .eptr ..,y,h=>by simp only [BV.beq] at h;cases h
 | .aptr ..,y,h=>by simp only [BV.beq] at h;cases h
 | .fn ..,y,h=>by simp only [BV.beq] at h;cases h
 | .tr i a,y,h=>by cases y<;>simp only [BV.beq] at h<;>first | (obtain ⟨e,q⟩:=xZol h;subst e;subst q;rfl) | cases h
theorem BVs.beq_ok (E:EqT T):∀ x y:List (BV T),BVs.beq E x y=true→x=y
 | [],y,h=>by cases y<;>simp only [BVs.beq] at h<;>first | rfl | cases h
 | x::a,y,h=>by cases y<;>simp only [BVs.beq] at h<;>first | (simp only [Bool.and_eq_true] at h;rw [BV.beq_ok E x _ h.1,BVs.beq_ok E a _ h.2]) | cases h
end
def BB.beq (E:EqT T):BB T→BB T→Bool
 | .dead,.dead=>true
 | .live i l,.live j m=>eqSl E i j l m
 | .froz i l,.froz j m=>eqSl E i j l m
 | .map q i l,.map q' j m=>match decide (q=q') with
   | true=>eqSl E i j l m
   | false=>false
 | _,_=>false
theorem BB.beq_ok (E:EqT T) (x y:BB T) (h:BB.beq E x y=true):x=y:=by
 unfold BB.beq at h
 split at h
 ·rfl
 ·obtain ⟨e,q⟩:=xZii h;subst e;subst q;rfl
 ·obtain ⟨e,q⟩:=xZii h;subst e;subst q;rfl
 ·split at h
  ·rename_i hq
   have hq:=of_decide_eq_true hq
   subst hq
   obtain ⟨e,q⟩:=xZii h;subst e;subst q;rfl
  ·cases h
 ·cases h
def BH.beq (E:EqT T) (x y:BH T):Bool:=eqL (BVs.beq E) x.box y.box&&eqL (BB.beq E) x.buf y.buf
theorem BH.beq_ok (E:EqT T) (x y:BH T) (h:BH.beq E x y=true):x=y:=by
 simp only [BH.beq,Bool.and_eq_true] at h
 cases x;cases y
 simp only at h
 rw [xZby (BVs.beq_ok E) _ _ h.1,xZby (BB.beq_ok E) _ _ h.2]
noncomputable def EqR.or {R:Type} (g:R→R→Bool) (h:∀ x y,g x y=true→x=y):EqR R:=
 ⟨fun x y=>match g x y with
   | true=>true
   | false=>EqR.cls.f x y,fun x y q=>(by
     split at q
     ·rename_i e;exact h x y e
     ·exact EqR.cls.eq x y q),fun x=>(by
     split
     ·rfl
     ·exact EqR.cls.refl x)⟩
noncomputable def EqT.q1 (E:EqT T):EqR (BV T):=.or (BV.beq E) (BV.beq_ok E)
noncomputable def EqT.q2 (E:EqT T):EqR (BV T×BH T):=.or (fun x y=>BV.beq E x.1 y.1&&BH.beq E x.2 y.2) fun x y h=>by
 simp only [Bool.and_eq_true] at h
 exact Prod.ext (BV.beq_ok E _ _ h.1) (BH.beq_ok E _ _ h.2)
end
end
section
def SC.strip:SC→SC
 | .alts o _=>match o with
   | some l=>.ops true l
   | none=>.bad
 | .seq a b=>.seq a.strip b.strip
 | .cond v a b=>.cond v a.strip b.strip
 | .block i a=>.block i a.strip
 | .loop a=>.loop a.strip
 | .scope a=>.scope a.strip
 | c=>c
def SI.strip:SI→SI
 | .c z=>.c z.strip
 | .lp b=>.lp b.strip
 | x=>x
theorem xZfl (id:Nat):∀ k:List SI,exitS id (k.map SI.strip)=(exitS id k).map (List.map SI.strip)
 | []=>rfl
 | x::k=>by
   have ih:=xZfl id k
   cases x with
   | blk i=>simp only [List.map_cons,SI.strip,exitS];split<;>simp_all
   | _=>simpa only [List.map_cons,SI.strip,exitS] using ih
theorem xZ8Z:∀ (c:SC) (k:List SI),lpL c.strip (k.map SI.strip)=(lpL c k).map fun p=>(p.1,p.2.map SI.strip)
 | .seq a b,k=>by
   have h1:=xZ8Z a (.c b::k)
   have h2:=xZ8Z b k
   simp only [SC.strip,lpL,List.map_append,← h1,← h2,List.map_cons,SI.strip]
 | .cond v a b,k=>by simp only [SC.strip,lpL,List.map_append,← xZ8Z a k,← xZ8Z b k]
 | .block i a,k=>by
   have h1:=xZ8Z a (.blk i::k)
   simp only [SC.strip,lpL,← h1,List.map_cons,SI.strip]
 | .scope a,k=>by
   have h1:=xZ8Z a (.scp::k)
   simp only [SC.strip,lpL,← h1,List.map_cons,SI.strip]
 | .loop b,k=>by
   have h1:=xZ8Z b (.lp b::k)
   cases k with
   | nil=>simpa only [SC.strip,lpL,List.map_cons,SI.strip,List.map_nil] using h1
   | cons x k=>cases x<;>simp only [SC.strip,lpL,List.map_cons,SI.strip] at h1 ⊢<;>first | exact h1 | (rw [h1])
 | .alts o l,k=>by cases o<;>rfl
 | .skip,k=>rfl
 | .ops _ _,k=>rfl
 | .priv _ _,k=>rfl
 | .exit _,k=>rfl
 | .ret,k=>rfl
 | .bad,k=>rfl
theorem xZir:∀ (l:List (Nat×List SI)) (n:Nat),lkp (l.map fun p=>(p.1,p.2.map SI.strip)) n=(lkp l n).map SI.strip
 | [],_=>rfl
 | (m,x)::l,n=>by
   simp only [List.map_cons,lkp]
   split
   ·rfl
   ·exact xZir l n
theorem xZkE (c:SC) (id:Nat):stkO [] c.strip id=(stkO [] c id).map SI.strip:=by
 have:=xZ8Z c []
 simp only [List.map_nil] at this
 show lkp (lpL c.strip []) id=_
 rw [this,xZir];rfl
theorem xZlz (c:SC) (id:Nat):stk [] c.strip id=(stk [] c id).map SI.strip:=by
 unfold stk
 rw [xZkE]
 cases stkO [] c id with
 | nil=>rfl
 | cons x k=>cases x<;>rfl
theorem xZlc (c:SC):idsOk [] c.strip=idsOk [] c:=by
 have:=xZ8Z c []
 simp only [List.map_nil] at this
 show nodupN ((lpL c.strip []).map (·.1))=nodupN ((lpL c []).map (·.1))
 rw [this,List.map_map];rfl
section
variable {T:Nat→Type} {B:Tb T} {R:Type} {G:Set B R}
theorem xZjh {go go':List SI→SE T→BH T→Option R} {dr:Bool} {k k':List SI} (h:∀ e H,go k e H=go' k' e H) (h2:∀ l e H,go (.ops dr l::k) e H=go' (.ops dr l::k') e H) (l:List SL) (e:SE T) (H:BH T):
 sxOps G go dr l k e H=sxOps G go' dr l k' e H:=by
 unfold sxOps sxGrp sxOp sxCall0 sxCallv sxRaw sxInv sxCall
 simp only [h,h2]
theorem xZgh:∀ (n:Nat) {G:Set B R} (_:G.alt=none) (_:G.jm=[]) (_:G.ems=[]) (todo:List SI) (e:SE T) (H:BH T),sx G n (todo.map SI.strip) e H=sx G n todo e H
 | 0,_,_,_,_,_,_,_=>rfl
 | n+1,G,ha,hj,hm,todo,e,H=>by
   have ih:=xZgh n ha hj hm
   have ihf:=xZgh n (G:=G.off) ha hj hm
   have hJ:∀ (rec off:List SI→SE T→BH T→Option R) (c:SC) (k:List SI),sxJ G rec off c k e H=sxC G rec off c k e H:=fun rec off c k=>by unfold sxJ;rw [hj];rfl
   have iho:∀ dr l k e H,sx G n (.ops dr l::k.map SI.strip) e H=sx G n (.ops dr l::k) e H:=fun dr l k e H=>ih (.ops dr l::k) e H
   rw [xZkH,xZkH,hm]
   show sxT G (sx G n) (sx G.off n) (todo.map SI.strip) e H=sxT G (sx G n) (sx G.off n) todo e H
   have hlp:∀ k:List SI,sxLoop G (k.map SI.strip) e H=sxLoop G k e H:=fun k=>by
    cases k with
    | nil=>rfl
    | cons x k=>cases x<;>rfl
   cases todo with
   | nil=>rfl
   | cons x k=>
     cases x with
     | blk i=>exact ih k e H
     | scp=>exact ih k e H
     | pv bs=>simp only [List.map_cons,SI.strip,sxT,ih]
     | lp b=>exact hlp k
     | ops dr l=>exact xZjh (fun e H=>ih k e H) (fun l e H=>iho dr l k e H) l e H
     | c c=>
       show sxJ G (sx G n) (sx G.off n) c.strip (k.map SI.strip) e H=sxJ G (sx G n) (sx G.off n) c k e H
       rw [hJ,hJ]
       cases c with
       | skip=>exact ih k e H
       | ops d l=>
         simp only [List.map_cons,SI.strip,SC.strip,sxT,sxC,sxReg,sxDefer,iho,ihf]
       | priv l bs=>exact ih (.ops true l::.pv bs::k) e H
       | alts o ls=>
         cases o with
         | none=>simp only [List.map_cons,SI.strip,SC.strip,sxT,sxC,sxAlts,ha]
         | some l=>simp only [List.map_cons,SI.strip,SC.strip,sxT,sxC,sxAlts,ha];exact (by
           have h0:sxReg G (sx G n) (sx G.off n) true l (k.map SI.strip) e H=sx G n (.ops true l::k.map SI.strip) e H:=by
            unfold sxReg
            split
            ·rfl
            ·split
             ·rename_i h _;cases h
             ·rfl
           rw [h0];exact iho true l k e H)
       | seq a b=>exact ih (.c a::.c b::k) e H
       | cond v a b=>
         have h1:∀ e H,sx G n (.c a.strip::k.map SI.strip) e H=sx G n (.c a::k) e H:=fun e H=>ih (.c a::k) e H
         have h2:∀ e H,sx G n (.c b.strip::k.map SI.strip) e H=sx G n (.c b::k) e H:=fun e H=>ih (.c b::k) e H
         simp only [List.map_cons,SI.strip,SC.strip,sxT,sxC,h1,h2]
       | block i a=>exact ih (.c a::.blk i::k) e H
       | loop b=>exact hlp k
       | scope a=>exact ih (.c a::.scp::k) e H
       | exit i=>
         simp only [List.map_cons,SI.strip,SC.strip,sxT,sxC,xZfl]
         cases exitS i k with
         | none=>rfl
         | some k'=>exact ih k' e H
       | ret=>rfl
       | bad=>rfl
end
def hintQ:List (Nat×List Nat×Bool)→Nat→List Nat×Bool
 | [],_=>([],false)
 | (m,x)::l,n=>match Nat.beq m n with
   | true=>x
   | false=>hintQ l n
def regQ (P:Program) (ops:Array Oper) (draw:Bool) (w:List Nat×Bool):SC:=
 match cList (cFE P (false,w.1) ops) ops.toList with
 | some l=>match w.2 with
   | false=>.ops draw (grpL l)
   | true=>match privB (privS l) (privD l) with
     | some bs=>.priv (grpL (l.filter (FE.main (privD l)))) bs
     | none=>.bad
 | none=>.bad
def compQ (P:Program) (q:List (Nat×List Nat×Bool)):Code→SC
 | .skip=>.skip
 | .region id ops draw=>regQ P ops draw (hintQ q id)
 | .seq a b=>.seq (compQ P q a) (compQ P q b)
 | .cond c a b=>.cond (cOd c) (compQ P q a) (compQ P q b)
 | .block id a=>.block id (compQ P q a)
 | .loop a=>.loop (compQ P q a)
 | .scope a=>.scope (compQ P q a)
 | .exit id=>.exit id
 | .ret=>.ret
 | .label _=>.skip
 | _=>.bad
def bdQ (P:Program) (q:List (Nat×List Nat×Bool)) (fn:Func):SC:=match fn.body with
 | some c=>compQ P q c
 | none=>.bad
section
variable {T:Nat→Type}
structure UF (T:Nat→Type) where
 f:FuncId
 fn:Func
 c:SC
 h:Hint T
 md:List Bool
 lv:List (Nat×List Nat)
 own:Bool
 df:List (FuncId×Nat):=[]
 pd:List Bool:=[]
 q:Option (EqT T):=none
variable (B:Tb T)
def uOut:Out B (BV T×BH T):=⟨fun x H=>some (x,H),fun r=>r,fun r K=>K r.1 r.2,fun _ _=>rfl,fun x H r h=>by cases h;exact ⟨.refl _,.refl _⟩⟩
def uOutP:Out B (BV T):=⟨fun x H=>match H with
 | ⟨[],[]⟩=>some x
 | _=>none,fun x=>(x,⟨[],[]⟩),fun r K=>K r ⟨[],[]⟩,fun _ _=>rfl,fun x H r h=>by
 split at h
 ·cases h;exact ⟨.refl _,.refl _⟩
 ·cases h⟩
def uM (f:FuncId) (sh:List (BV T)×BH T→Option (BV T×BH T)):Con B:=
 ⟨f,List (BV T)×BH T,BV T×BH T,[],fun xs H=>some (xs,H),fun a=>a,fun _=>sh,uOut B,false,false,fun xs H a h=>(by cases h;exact ⟨.refl _,.refl _⟩),fun h=>(by cases h),fun h=>(by cases h)⟩
def uP (f:FuncId) (pd:List Bool) (sh:List (BV T)→Option (BV T)):Con B:=
 ⟨f,List (BV T),BV T,pd,fun xs H=>match H with
   | ⟨[],[]⟩=>some xs
   | _=>none,fun a=>(a,⟨[],[]⟩),fun _=>sh,uOutP B,true,false,fun xs H a h=>(by
 split at h
 ·cases h;exact ⟨.refl _,.refl _⟩
 ·cases h),fun _=>⟨fun _=>rfl,fun _=>rfl⟩,fun h=>(by cases h)⟩
def uLp {R:Type} (ks:List Nat) (run:SE T→BH T→Option R):Lp B R:=
 ⟨{ e:SE T // e.map (·.1)=ks }×BH T,ks,[],ks,fun e H=>if h:e.map (·.1)=ks then some (⟨e,h⟩,H) else none,fun a=>(a.1.1,a.2),fun a=>run a.1.1 a.2,fun a=>a.1.2,fun e H a h=>by
 split at h
 ·cases h;exact ⟨fun _=>.inl (.refl _),.refl _⟩
 ·cases h⟩
noncomputable def uLps (F0:Nat) {R:Type} (G:List (Nat×Lp B R)→Set B R) (c:SC) (lv:List (Nat×List Nat)):Nat→List (Nat×Lp B R)
 | 0=>[]
 | n+1=>lv.map fun p=>(p.1,uLp B p.2 fun e H=>sx (G (uLps F0 G c lv n)) F0 (stk [] c p.1) e H)
noncomputable def uSet (P:Program) (ex:List (FuncId×EK')) (con:FuncId→List (Con B)) (N:Nat) (u:UF T) {R:Type} (md:List Bool) (o:Out B R) (al:EqT T→EqR R) (nb nt:Nat) (l:List (Nat×Lp B R)):Set B R:=⟨P,ex,u.h,N,con,l,resOf P u.fn,⟨md,none,o⟩,nb,nt,u.fn.ntmps,fun _ _=>true,u.q.map al,u.df,[],[]⟩
noncomputable def uRun (F0:Nat) (P:Program) (ex:List (FuncId×EK')) (con:FuncId→List (Con B)) (N:Nat) (u:UF T) {R:Type} (md:List Bool) (o:Out B R) (al:EqT T→EqR R) (xs:List (BV T)) (H:BH T):Option R:=gd (Nat.ble xs.length u.fn.ntmps) (sx (uSet B P ex con N u md o al H.box.length H.buf.length (uLps B F0 (uSet B P ex con N u md o al H.box.length H.buf.length) u.c u.lv F0)) F0 [.c u.c] (argE xs) H)
noncomputable def uCon (F0:Nat) (P:Program) (ex:List (FuncId×EK')) (con:FuncId→List (Con B)) (N:Nat) (u:UF T):List (Con B):=
 match u.own with
 | true=>[uM B u.f fun a=>uRun B F0 P ex con N u [] (uOut B) EqT.q2 a.1 a.2,uP B u.f u.pd fun a=>uRun B F0 P ex con N u u.md (uOutP B) EqT.q1 a ⟨[],[]⟩]
 | false=>[uP B u.f u.pd fun a=>uRun B F0 P ex con N u u.md (uOutP B) EqT.q1 a ⟨[],[]⟩,uM B u.f fun a=>uRun B F0 P ex con N u u.md (uOut B) EqT.q2 a.1 a.2]
inductive UT (T:Nat→Type) where
 | nil
 | node (l:UT T) (k:Nat) (u:UF T) (r:UT T)
def UT.look:UT T→Nat→Option (UF T)
 | .nil,_=>none
 | .node l k u r,n=>match Nat.beq n k with
   | true=>some u
   | false=>match Nat.blt n k with
     | true=>l.look n
     | false=>r.look n
noncomputable def uCons (F0:Nat) (P:Program) (ex:List (FuncId×EK')) (hands:FuncId→List (Con B)) (us:UT T) (N:Nat) (n:Nat):FuncId→List (Con B):=
 Nat.rec (motive:=fun _=>FuncId→List (Con B)) hands (fun _ ih f=>match us.look f with
  | some u=>uCon B F0 P ex ih N u
  | none=>hands f) n
structure UF.Ok (P:Program) (u:UF T):Prop where
 is:Is P u.f u.fn.ntmps (resOf P u.fn) (bd P u.fn)
 c:(match u.q with | none=>(bd P u.fn).strip | some _=>bd P u.fn)=u.c
 ids:idsOk [] u.c=true
 hint:u.h.Ok B
 mks:mkOk P B u.h.mks
 lv:(u.lv.all fun p=>p.2.all fun i=>Nat.blt i u.fn.ntmps)=true
 df:∀ p∈u.df,Idle P p.1 p.2
variable {B}
theorem xZiH {F0:Nat} {P:Program} {ex:List (FuncId×EK')} {con:FuncId→List (Con B)} {N:Nat} {u:UF T} (hu:u.Ok B P) (hB:B.Ok) (hm:P.follows .mixedOrders=true) (he:exOk P ex) (hc:∀ f,conOk P N (con f)) {R:Type} {md:List Bool} {o:Out B R} {al:EqT T→EqR R} {xs:List (BV T)} {H:BH T} {r:R}
 (h:uRun B F0 P ex con N u md o al xs H=some r):CRes P u.f (BV.avs B xs) (H.av B) (aeA ((o.enc r).1.av B)) ((o.enc r).2.av B):=by
 have hcode:=hu.c
 unfold uRun gd at h
 cases hl:Nat.ble xs.length u.fn.ntmps with
 | false=>rw [hl] at h;cases h
 | true=>
   rw [hl] at h
   let c:Con B:=⟨u.f,Unit,R,md,fun _ _=>none,fun _=>(xs,H),fun _ _=>uRun B F0 P ex con N u md o al xs H,o,false,false,fun _ _ _ h=>(by cases h),fun h=>(by cases h),fun h=>(by cases h)⟩
   let F:Fn c:=⟨u.fn,ex,u.h,con,md,none,H.box.length,H.buf.length,fun _ _=>true,u.q.map al,u.df,[],[]⟩
   have hids:idsOk [] (bd P u.fn)=true:=by
    cases hq:u.q with
    | none=>rw [hq] at hcode;rw [← xZlc,show (bd P u.fn).strip=u.c from hcode];exact hu.ids
    | some E=>rw [hq] at hcode;rw [show bd P u.fn=u.c from hcode];exact hu.ids
   have ok:F.Ok P:=⟨hu.is,hids,hu.hint,hu.mks,he,fun _=>by
    show (Nat.ble xs.length u.fn.ntmps&&Nat.beq H.box.length H.box.length&&Nat.beq H.buf.length H.buf.length)=true
    rw [hl];simp⟩
   have key:c.Ok P N:=ok.give hB hm N N hc (hdf:=hu.df) fun a r s hr=>by
    have hr:uRun B F0 P ex con N u md o al xs H=some r:=hr
    unfold uRun gd at hr
    rw [hl] at hr
    have hlps:∀ n,s.lpsOk (uLps B F0 (uSet B P ex con N u md o al H.box.length H.buf.length) u.c u.lv n):=by
     intro n
     induction n with
     | zero=>exact trivial
     | succ n ih=>
       have:∀ l:List (Nat×List Nat),(l.all fun p=>p.2.all fun i=>Nat.blt i u.fn.ntmps)=true→s.lpsOk (l.map fun p=>(p.1,uLp B p.2 fun e H'=>sx (uSet B P ex con N u md o al H.box.length H.buf.length (uLps B F0 (uSet B P ex con N u md o al H.box.length H.buf.length) u.c u.lv n)) F0 (stk [] u.c p.1) e H')):=by
        intro l
        induction l with
        | nil=>intro _;exact trivial
        | cons p l ihl=>
          intro hl
          simp only [List.all_cons,Bool.and_eq_true] at hl
          refine ⟨fun x hx=>?_,ihl hl.2⟩
          obtain ⟨⟨e,hk⟩,H'⟩:=x
          exact xZot (sx_ok (s.sx ih) F0 _ _ _ _ (RelE.of hk hl.1) (xZkF ok.ids p.1) (by
           show sx _ F0 (stk [] (bd P F.fn) p.1) _ _=some r
           cases hq:u.q with
           | none=>
             rw [hq] at hcode
             rw [← xZgh _ (by show u.q.map al=none;rw [hq];rfl) rfl rfl,← xZlz,show (bd P F.fn).strip=u.c from hcode];exact hx
           | some E=>
             rw [hq] at hcode
             rw [show bd P F.fn=u.c from hcode];exact hx))
       exact this _ hu.lv
    exact s.main0 F0 _ (hlps F0) (by
     cases hq:u.q with
     | none=>
       rw [hq] at hcode
       rw [← xZgh _ (by show u.q.map al=none;rw [hq];rfl) rfl rfl];show sx _ F0 [.c (bd P F.fn).strip] _ _=some r;rw [show (bd P F.fn).strip=u.c from hcode];exact hr
     | some E=>
       rw [hq] at hcode
       show sx _ F0 [.c (bd P F.fn)] _ _=some r
       rw [show bd P F.fn=u.c from hcode];exact hr)
   have h':uRun B F0 P ex con N u md o al xs H=some r:=by unfold uRun gd;rw [hl];exact h
   exact key.res () r h'
def UT.Ok (B:Tb T) (P:Program):UT T→Prop
 | .nil=>True
 | .node l _ u r=>l.Ok B P∧u.Ok B P∧r.Ok B P
theorem UT.look_ok {P:Program}:∀ {t:UT T},t.Ok B P→∀ {n u},t.look n=some u→u.Ok B P
 | .nil,_,_,_,h=>by cases h
 | .node l k v r,ht,n,u,h=>by
   simp only [UT.look] at h
   split at h
   ·cases h;exact ht.2.1
   ·split at h
    ·exact look_ok ht.1 h
    ·exact look_ok ht.2.2 h
theorem xZi2 {F0:Nat} {P:Program} {ex:List (FuncId×EK')} {hands:FuncId→List (Con B)} {us:UT T} {N:Nat} (hB:B.Ok) (hm:P.follows .mixedOrders=true) (he:exOk P ex) (hh:∀ f,conOk P N (hands f)) (hu:us.Ok B P):∀ n f,conOk P N (uCons B F0 P ex hands us N n f)
 | 0,f=>hh f
 | n+1,f=>by
   have ih:=xZi2 (F0:=F0) hB hm he hh hu n
   show conOk P N (match us.look f with
    | some u=>uCon B F0 P ex (uCons B F0 P ex hands us N n) N u
    | none=>hands f)
   split
   ·rename_i u hl
    have h0:=UT.look_ok hu hl
    have a1:∀ md,(uM B u.f fun a=>uRun B F0 P ex (uCons B F0 P ex hands us N n) N u md (uOut B) EqT.q2 a.1 a.2).Ok P N:=fun md=>⟨h0.is.enters,fun a r hr=>xZiH h0 hB hm he ih hr⟩
    have a2:(uP B u.f u.pd fun a=>uRun B F0 P ex (uCons B F0 P ex hands us N n) N u u.md (uOutP B) EqT.q1 a ⟨[],[]⟩).Ok P N:=⟨h0.is.enters,fun a r hr=>xZiH (o:=uOutP B) h0 hB hm he ih hr⟩
    unfold uCon
    split
    ·exact ⟨a1 _,a2,trivial⟩
    ·exact ⟨a2,a1 _,trivial⟩
   ·exact hh f
theorem UF.of {P:Program} {u:UF T} (hf:P.funcs[u.f]?=some u.fn) (hc:(match u.q with | none=>(bd P u.fn).strip | some _=>bd P u.fn)=u.c) (h:(isOk P u.fn&&idsOk [] u.c&&u.lv.all fun p=>p.2.all fun i=>Nat.blt i u.fn.ntmps)=true) (hh:u.h.Ok B) (hm:mkOk P B u.h.mks) (hdf:∀ p∈u.df,Idle P p.1 p.2:=by intro p h;cases h):u.Ok B P:=by
 simp only [Bool.and_eq_true] at h
 exact ⟨Is.of hf h.1.1,hc,h.1.2,hh,hm,h.2,hdf⟩
variable (B) in
def uLit (f:FuncId) (s:List UInt8) (r:BV T):Con B:=
 ⟨f,Unit,Unit,[],fun xs H=>match xs,H with
   | [.str s'],⟨[],[]⟩=>match s'==s with
     | true=>some ()
     | false=>none
   | _,_=>none,fun _=>([.str s],⟨[],[]⟩),fun _ _=>some (),⟨fun _ _=>none,fun _=>(r,⟨[],[]⟩),fun _ K=>K r ⟨[],[]⟩,fun _ _=>rfl,fun _ _ _ h=>(by cases h)⟩,true,false,fun xs H a h=>(by
 split at h
 ·split at h
  ·rename_i hs
   rw [eq_of_beq hs]
   exact ⟨.refl _,.refl _⟩
  ·cases h
 ·cases h),fun _=>⟨fun _=>rfl,fun _=>rfl⟩,fun h=>(by cases h)⟩
theorem xZiG {F0:Nat} {P:Program} {ex:List (FuncId×EK')} {con:FuncId→List (Con B)} {N:Nat} {u:UF T} (hu:u.Ok B P) (hB:B.Ok) (hm:P.follows .mixedOrders=true) (he:exOk P ex) (hc:∀ f,conOk P N (con f)) {md:List Bool} {s:List UInt8} {r:BV T}
 (h:uRun B F0 P ex con N u md (uOutP B) EqT.q1 [.str s] ⟨[],[]⟩=some r):(uLit B u.f s r).Ok P N:=
 ⟨hu.is.enters,fun _ _ _=>xZiH (o:=uOutP B) hu hB hm he hc h⟩
end
end
end Go.Proofs.YtmfkphajohcklaaGreat.O
