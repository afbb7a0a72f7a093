/- The run over typed values says what the run over plain ones does: loops, ends, the whole. No premise beyond what each theorem says. -/
import Derived.Test.YtmfkphajohcklaaGreatUA3
import Derived.Defers
import Derived.Test.YtmfkphajohcklaaGreatUA2
set_option linter.all false
set_option linter.unusedSimpArgs false
set_option linter.unusedVariables false
namespace Go.Proofs.YtmfkphajohcklaaGreat.U
noncomputable section
open Go
section
theorem Qf {Q:AV->AV->Prop}:∀ {a b:List AV},a.length=b.length->(∀i,i<b.length->Q (a.getD i .any) (b.getD i .any))->dG Q a b
 | [],[],_,_=>trivial
 | x::a,y::b,hl,h=>⟨by simpa using h 0 (by simp),Qf (by simpa using hl) λi hi=>by simpa using h (i+1) (by simpa using hi)⟩
 | [],_::_,hl,_=>by simp at hl
 | _::_,[],hl,_=>by simp at hl
section
variable {T:Nat->Type} {B:Tb T} {R:Type} {r:R}
theorem SE.len (ns:Nat) (e:SE T):(SE.av B ns e).length=ns:=by simp[SE.av]
theorem SE.get {ns:Nat} {e:SE T} {i:Nat} (h:i<ns):(SE.av B ns e).getD i .any=(lk e i).av B:=by
 simp[SE.av,List.getD,h]
theorem aiB {e:SE T} {ks:List Nat} (h:e.map (·.1)=ks) {i:Nat} (hi:i ∉ ks):lk e i=.raw .any:=by
 subst h
 induction e with
 | nil=>rfl
 | cons x e ih=>
   obtain⟨m,v⟩:=x;simp only[List.map_cons,List.mem_cons,not_or]at hi;rw[n8,if_neg (λq=>hi.1 q.symm)];exact ih hi.2
theorem bN.of {e:SE T} {ks:List Nat} {ns:Nat} (h:e.map (·.1)=ks) (hk:ks.all (λi=>Nat.blt i ns)=true):bN B e (SE.av B ns e) ns:=by
 refine⟨SE.len ns e,λi=>?_⟩;rcases Nat.lt_or_ge i ns with hi|hi
 ·exact SE.get hi
 ·have:i ∉ ks:=λhm=>by
   have:=List.all_eq_true.1 hk i hm;simp at this;omega
  rw[aiB h this];simp[List.getD,List.getElem?_eq_none (show(SE.av B ns e).length<=i by rw[SE.len];exact hi),BV.av]
variable {X:Ctx} {k:List SI} {e:SE T} {t:List AV} {ns:Nat} {H:BH T}
theorem kQ {nt:Nat} (hk:iH k):∀ {l:List (Nat×Option Nat×Nat)} {e:SE T} {t:List AV} {H:BH T} {K:SE T->BH T->Option R},bN B e t ns->gN nt l e H K=some r->
 (∀e' H' t',bN B e' t' ns->K e' H'=some r->go X k t' (H'.av B))->go X k t (H.av B)
 | [],e,t,H,K,hr,h,hK=>hK e H t hr h
 | (n,none,i)::l,e,t,H,K,hr,h,hK=>by
   simp only[gN]at h;split at h
   ·rename_i hn;have hg:=hr.get n;rw[hn]at hg;have hlt:n<t.length:=by
     rcases Nat.lt_or_ge n t.length with h'|h'
     ·exact h'
     ·rw[show t.getD n .any=.any by simp[List.getD,List.getElem?_eq_none h']]at hg;cases hg
    refine aiN n (B.k i) hk hlt (hg.trans (by simp only[BV.av])) ?_;have hput:=hr.put (B:=B) (d:=some n) (by simp only[okD];simpa using (by rw[<- hr.len];exact hlt:n<ns)) (.own H.buf.length);simp only[aP,a9,BV.av]at hput;have:=kQ hk (H:=⟨H.box,H.buf++[.live i []]⟩) hput h hK;rw[gp'];simpa only[BH.av,List.map_append,List.map_cons,List.map_nil,BB.av]using this
   ·exact kQ hk hr h hK
 | (n,some j,i)::l,e,t,H,K,hr,h,hK=>by
   simp only[gN]at h;split at h
   ·rename_i b hn;split at h
    ·rename_i hj;have hcell:((H.av B).box.getD b []).getD j .any=.emp:=by
      rw[qf,n6,hj];simp only[BV.av]
     have hj':j<((H.av B).box.getD b []).length:=by
      rcases Nat.lt_or_ge j ((H.av B).box.getD b []).length with h'|h'
      ·exact h'
      ·rw[show((H.av B).box.getD b []).getD j .any=.any by rw[List.getD,List.getElem?_eq_none h'];rfl]at hcell;cases hcell
     have hb':b<(H.av B).box.length:=by
      rcases Nat.lt_or_ge b (H.av B).box.length with h'|h'
      ·exact h'
      ·rw[show(H.av B).box.getD b []=[] by rw[List.getD,List.getElem?_eq_none h'];rfl]at hj';simp at hj'
     refine aif b j (B.k i) hk hb' hj' hcell ?_;have:=kQ hk (H:=⟨H.box.set b ((H.box.getD b []).set j (.own H.buf.length)),H.buf++[.live i []]⟩) hr h hK;have e1:(⟨H.box.set b ((H.box.getD b []).set j (.own H.buf.length)),H.buf++[.live i []]⟩:BH T).av B=⟨(H.av B).box.set b (((H.av B).box.getD b []).set j (.own (H.av B).buf.length)),(H.av B).buf++[.live (B.k i) []]⟩:=by
      rw[qf,gp'];simp only[BH.av,List.map_append,List.map_cons,List.map_nil,BB.av,List.map_set,HJ,BV.av]
     rw[e1]at this;exact this
    ·rename_i u hj;split at h
     ·rename_i i' xs _ hu;have hcell:((H.av B).box.getD b []).getD j .any=.own u:=by
       rw[qf,n6,hj];simp only[BV.av]
      have hj':j<((H.av B).box.getD b []).length:=by
       rcases Nat.lt_or_ge j ((H.av B).box.getD b []).length with h'|h'
       ·exact h'
       ·rw[show((H.av B).box.getD b []).getD j .any=.any by rw[List.getD,List.getElem?_eq_none h'];rfl]at hcell;cases hcell
      have hb':b<(H.av B).box.length:=by
       rcases Nat.lt_or_ge b (H.av B).box.length with h'|h'
       ·exact h'
       ·rw[show(H.av B).box.getD b []=[] by rw[List.getD,List.getElem?_eq_none h'];rfl]at hj';simp at hj'
      refine aiO b j u (B.k i') (xs:=xs.map (B.eA i')) hk hb' hj' hcell (by rw[dA,hu];rfl) ?_;have:=kQ hk (H:=⟨H.box.set b ((H.box.getD b []).set j (.own H.buf.length)),H.buf.set u .dead++[.live i' xs]⟩) hr h hK;have e1:(⟨H.box.set b ((H.box.getD b []).set j (.own H.buf.length)),H.buf.set u .dead++[.live i' xs]⟩:BH T).av B=⟨(H.av B).box.set b (((H.av B).box.getD b []).set j (.own (H.av B).buf.length)),(H.av B).buf.set u .dead++[.live (B.k i') (xs.map (B.eA i'))]⟩:=by
       rw[qf,gp'];simp only[BH.av,List.map_append,List.map_cons,List.map_nil,BB.av,List.map_set,HJ,BV.av]
      rw[e1]at this;exact this
     ·exact kQ hk hr h hK
    ·exact kQ hk hr h hK
   ·exact kQ hk hr h hK
theorem RI {rb rt:List Nat}:∀ {l:List Nat} {e':SE T},vP rb rt H e l=some e'->∀i,dF rb rt (H.av B) ((lk e i).av B) ((lk e' i).av B)
 | [],e',h,i=>by cases h;simp only[lk,BV.av];exact of_eq_true (aiA _ _ _ _)
 | n::l,e',h,i=>by
   simp only[vP]at h;split at h
   ·rename_i y r' h1 h2;cases h;rw[n8];by_cases hi:n=i
    ·subst hi;rw[if_pos rfl];exact ajK h1
    ·rw[if_neg hi];exact RI h2 i
   ·cases h
theorem P5 (A:AH):bC A []=A:=rfl
theorem agI {nb nt:Nat} (hnb:X.aI.box.length=nb) (hnt:X.aI.buf.length=nt) (hr:bN B e t ns) (hno:iH k) {L:Lp B R} {next:Option R}
 (hg:∀a,L.run a=some r->go X k (SE.av B ns (L.enc a).1) ((L.enc a).2.av B)) (hnx:next=some r->go X k t (H.av B)) (h:Kd nb nt L e H next=some r):go X k t (H.av B):=by
 by_cases hq:next=some r
 ·exact hnx hq
 refine kQ (k:=k) hno hr h λe1 H1 t1 hr1 h1=>?_;generalize (rch H1 2000 (lz (H1.box.take nb)++L.live.map (lk e1)) (List.range nb) (List.range nt))=p at h1;obtain⟨rb,rt⟩:=p;dsimp only at h1;split at h1
 ·rename_i e' hk he;rw[Bool.and_eq_true]at hk;obtain⟨H',hl,_,h1⟩:=AO (B:=B) h1;split at h1
  rotate_left
  ·exact absurd h1 hq
  rename_i a ha;have hrun:=h1;obtain⟨q1,q2⟩:=L.ok _ _ _ ha;refine aii [] rb rt (SE.av B ns e') (H'.av B) hno ⟨by rw[hnb];exact hk.1,by rw[hnt];exact hk.2,by rw[P5];exact hl,?_⟩ ?_
  ·rw[P5];refine Qf (by rw[hr1.len,SE.len]) λi hi=>?_;rw[SE.len]at hi;rw[SE.get hi,hr1.get];exact RI he i
  ·refine Ug hno ⟨by rw[SE.len,SE.len],λi hi=>?_⟩ q2 (hg a hrun);rw[SE.len]at hi;rw[SE.get hi,SE.get hi];rcases q1 i with q|q
   ·exact .inl q
   ·rw[q];exact .inr (by simp only[BV.av])
 ·exact absurd h1 hq
theorem Qh {nb nt:Nat} (hnb:X.aI.box.length=nb) (hnt:X.aI.buf.length=nt) (hr:bN B e t ns) (hno:iH k):∀ {l:List (Lp B R)},(∀L∈l,∀a,L.run a=some r->go X k (SE.av B ns (L.enc a).1) ((L.enc a).2.av B))->loopS nb nt e H l=some r->go X k t (H.av B)
 | [],_,h=>by cases h
 | L::l,hg,h=>agI hnb hnt hr hno (hg L (List.mem_cons_self ..)) (λh'=>Qh hnb hnt hr hno (λL' hL=>hg L' (List.mem_cons_of_mem _ hL)) h') h
theorem H3 (hr:bN B e t ns):∀ {rs:List Rs} {l:List (BV T)},nu e H rs=some l->∃p,resV t (H.av B) rs=some (p,BV.an B l)/\p
 | [],l,h=>by cases h;exact⟨True,rfl,trivial⟩
 | .t n::rs,l,h=>by
   simp only[nu]at h;split at h
   ·rename_i l' hl;cases h;obtain⟨p,h1,h2⟩:=H3 hr hl;refine⟨p,?_,h2⟩;simp only[resV,h1,Option.map_some,BV.an,hr.get]
   ·cases h
 | .cell n sz ag::rs,l,h=>by
   simp only[nu]at h;split at h
   ·rename_i b o hn;split at h
    ·rename_i cs l' hcs hl;split at h
     ·rename_i hle;cases h;obtain⟨p,h1,h2⟩:=H3 hr hl;refine⟨o+sz<=(BV.an B cs).length/\p,?_,by rw[cC];simpa using hle,h2⟩;have hg:=hr.get n;rw[hn]at hg;simp only[BV.av]at hg;simp only[resV,hg,h1,Option.map_some,pW hcs,BV.an,lH,nX,kK]
     ·cases h
    ·cases h
   ·cases h
theorem ajO (l:List (BV T)):(nC l).av B=f5 (BV.an B l):=by
 match l with
 | []=>simp only[nC,BV.av,BV.an,f5]
 | [x]=>simp only[nC,BV.an,f5]
 | x::y::l=>simp only[nC,BV.av,BV.an,f5]
def ow (aI:AH) (e:AE) (H':AH) (r:AE) (H:AH):Prop:=∃e1 H1,ui aI e1 H1 r H/\ug e1 e/\dh H1 H'
theorem Qx {aI:AH} {nb nt:Nat} (hnb:aI.box.length=nb) (hnt:aI.buf.length=nt) {q:Rt B R} {l:List (BV T)} (h:vL nb nt q l H=some r):
 ∃e1 H1,uj aI e1 H1 (.ret (f5 (BV.an B l))) (H.av B)/\ug e1 (cw ((q.o.enc r).1.av B))/\dh H1 ((q.o.enc r).2.av B):=by
 simp only[vL]at h;generalize (rch (fH H ((jk q.md l).flatMap eR)) 2000 (lz ((fH H ((jk q.md l).flatMap eR)).box.take nb)++nr q.md l) (List.range nb) (List.range nt))=p at h;obtain⟨rb,rt⟩:=p;dsimp only at h;split at h
 ·rename_i xs hk hxs;rw[Bool.and_eq_true]at hk;split at h
  rotate_left
  ·cases h
  rename_i hno;obtain⟨H',hl,_,h⟩:=AO (B:=B) h;obtain⟨q1,q2⟩:=q.o.ok _ _ _ h;have hle:=Ah (B:=B) hxs;rw[iS]at hle hl;have q3:=Rm q1;rw[ajm hno]at q3;refine⟨.ret ((nC xs).av B),H'.av B,⟨_,rb,rt,by rw[hnb];exact hk.1,by rw[hnt];exact hk.2,hl,?_⟩,q3,q2⟩;simp only[m7];rw[ajO];generalize BV.an B l=a at hle;generalize BV.an B xs=b at hle
  match a,b,hle with
  | [],[],_=>trivial
  | [x],[y],hle=>exact vm hle.1.1 hle.1.2
  | x::x'::a,y::y'::b,hle=>exact mg (λ_ _ h=>h.1) hle
 ·cases h
theorem ah9 {aI:AH} {nb nt:Nat} (hnb:aI.box.length=nb) (hnt:aI.buf.length=nt) {q:Rt B R} {l:List (BV T)} (h:vK nb nt q l H=some r):
 ow aI (cw ((q.o.enc r).1.av B)) ((q.o.enc r).2.av B) (.ret (f5 (BV.an B l))) (H.av B):=by
 unfold vK at h;split at h
 ·rename_i i hi;obtain⟨e1,H1,h1,h2,h3⟩:=Qx hnb hnt h;refine⟨e1,H1,.inr ⟨by simp only[BV.an,f5,BV.av],B.k i,?_⟩,h2,h3⟩;simp only[BV.an,f5,BV.av]at h1;rw[gp'];simpa only[BH.av,List.map_append,List.map_cons,List.map_nil,BB.av]using h1
 ·obtain⟨e1,H1,h1,h2,h3⟩:=Qx hnb hnt h;exact⟨e1,H1,.inl h1,h2,h3⟩
theorem aia {aI:AH} {nb nt:Nat} (hnb:aI.box.length=nb) (hnt:aI.buf.length=nt) {q:Rt B R} {t:Nat} {x:BV T} (h:CB nb nt q t x H=some r):
 ow aI (cw ((q.o.enc r).1.av B)) ((q.o.enc r).2.av B) (.bS (.aG t (x.av B))) (H.av B):=by
 simp only[CB]at h;generalize (rch H 2000 (lz (H.box.take nb)++[x]) (List.range nb) (List.range nt))=p at h;obtain⟨rb,rt⟩:=p;dsimp only at h;split at h
 ·rename_i y hk hy;rw[Bool.and_eq_true]at hk;obtain⟨H',hl,_,h⟩:=AO (B:=B) h;obtain⟨q1,q2⟩:=q.o.ok _ _ _ h;have q3:=Rm q1;have e1:cw ((BV.aG (PM+t) y).av B)=.bS (.aG t (y.av B)):=by
   simp only[BV.av,cw];rw[show Nat.ble PM (PM+t)=true from Nat.ble_eq_true_of_le (Nat.le_add_right _ _),Nat.add_sub_cancel_left]
  rw[e1]at q3;have hle:m7 rb rt (bC (H.av B) []) (.bS (.aG t (x.av B))) (.bS (.aG t (y.av B))):=⟨rfl,RH hy⟩
  exact⟨.bS (.aG t (y.av B)),H'.av B,.inl ⟨[],rb,rt,by rw[hnb];exact hk.1,by rw[hnt];exact hk.2,hl,hle⟩,q3,q2⟩
 ·cases h
theorem agt {P:Program} {f:FuncId} {fn:Func} {c:Code} {wr:Bool} {sc:SC} {res:List Rs} {args:List AV} {aI:AH} {e:AE} {H':AH} (nt:Nat) (hf:P.funcs[f]?=some fn) (hb:fn.body=some c) (hc:comp P wr c=some sc)
 (hr:gq P fn.results.toList=some res) (hm:P.follows .mixedOrders=true) (hnt:fn.ntmps=nt) (h:go ⟨P,f,fn,res,aI,λ_=>ow aI e H',[]⟩ [.c sc] (args++List.replicate (nt-args.length) .any) aI):bQ P f args aI e H':=by
 intro M S w vs hh hp hs hall;intro cs
 let b:Frame:={ (default:Frame)with fn:=f,kind:=.normal }
 have henter:Frame.enter P f vs .normal=b.at { tmps:=vs++Array.replicate (fn.ntmps-vs.size) undef,defers:=[] } [.code c]:=by
  simp[Frame.enter,Frame.at,hf,hb,b]
 rw[henter];have ht:dC M S w (args++List.replicate (nt-args.length) .any) (vs++Array.replicate (fn.ntmps-vs.size) undef):=by
  refine⟨by simp[hs,hnt],λi hi=>?_⟩;rw[ma,ir,Array.getElem?_append];by_cases hlt:i<args.length
  ·rw[if_pos hlt,if_pos (by rw[hs];exact hlt),<- ir];exact hall i hlt
  ·rw[if_neg hlt];have:(List.replicate (nt-args.length) AV.any).getD (i-args.length) .any=.any:=by simp[List.getD,List.getElem?_replicate];split<;>rfl
   rw[this];exact .data (.any _)
 obtain⟨en,w',fr,⟨_,r,H1,M1,S1,hq,_,hend,hh1,hf1⟩,hcm,hfn,hlv⟩:=g5 h ⟨hf,hr,hm⟩ M S w hp M S ⟨vs++Array.replicate (fn.ntmps-vs.size) undef,[]⟩ w [.code c] (.code wr hc .nil) (aU.refl hh) ht hh rfl b rfl rfl cs;refine⟨en,w',fr,?_,hcm,hfn,OA hlv⟩;obtain⟨e2,H2,hq,hl1,hl2⟩:=hq;have key:(∃M' S',eZ M' S' w' en e2/\aE M' S' H2 w'/\aU M S aI w M' S' H2 w'):=by
  rcases hq with hq|⟨rfl,m,hq⟩
  ·exact Aq hq hend hh1 hf1
  ·cases en with
   | returned v=>
     obtain⟨h1,h2,h3⟩:=z8 hh1 (AA hend) m;exact Aq hq (en:=.returned v) h3 h1 (hf1.trans h2)
   | panicked ch=>exact hend.elim
   | outgrown=>exact hend.elim
 obtain⟨M',S',k1,k2,k3⟩:=key;exact⟨M',S',af4 k1 hl1,k2.lw hl2,k3.Cm hl2⟩
end
end
structure Idle (P:Program) (fc:FuncId) (n:Nat):Prop where
 ent:Enters P fc
 run:∀caps:Array Value,caps.size=n->(∀i,i<n->∃p,caps.getD i undef=.pointer (some p))->∀w,CallsD P fc caps .returning w λe u' w'=>(∃v,e=.returned v)/\u'=.returning/\Grew w w'
theorem ad5 {l:List SL} {d:Nat} {f:FuncId} {cs:List Od} (h:ux l=some (d,f,cs)):∃ty,l=[.op (some d) (.fnv (.func f) [] cs),.op none (.raw (.defer ⟨.value (.tmp d),#[],#[]⟩) ty)]:=by
 unfold ux at h;split at h
 ·rename_i d e f cs args ts ty;split at h
  ·rename_i h1 h2 h3;cases h;have h1:=Nat.eq_of_beq_eq_true h1;subst h1;obtain⟨args⟩:=args;obtain⟨ts⟩:=ts;cases h2;cases h3;exact⟨ty,rfl⟩
  ·cases h
 ·cases h
theorem ahX {P:Program} {ds:List Deferred} {b:Frame} {k:List Item} {a:Act} {w:World} {R:Array Value->Ending->World->Prop} {ops:Array Oper} {id:Nat} {a':Act} {w':World}
 (h:wpOps P ops (λe a2 w2=>e=.normal/\a2=a'/\w2=w') (List.range ops.size) a w) (hf:Fin' P ds b k a' w' R):Fin' P ds b (.code (.region id ops false)::k) a w R:=
 Fin'.step (λcs=>step_region) (λcs=>by
  obtain⟨e,a2,w2,⟨rfl,rfl,rfl⟩,har⟩:=wp_ops _ a w h b k cs;obtain⟨e,w',fr,r,c,x⟩:=hf cs;exact⟨e,w',fr,r,c.of_steps har,x⟩)
theorem ag8 {P:Program} {b:Frame} {items:List Item} {a:Act} {w:World} {R R':Array Value->Ending->World->Prop} {fc:FuncId} {n:Nat} {caps:Array Value} {fn:Func} (hbf:P.funcs[b.fn]?=some fn) (hi:Idle P fc n) (hn:caps.size=n)
 (hp:∀i,i<n->∃p,caps.getD i undef=.pointer (some p)) (h:Fin' P [⟨.fn (.func fc) caps,#[]⟩] b items a w R)
 (hR:∀tm e w1 w2,R tm e w1->Grew w1 w2->∃v,e=.returned v/\∃v',(results fn tm).run P w2=.ok v' w2/\R' tm (.returned v') w2):Fin' P [] b items a w R':=by
 intro cs;obtain⟨e,w1,fr,hr,hc,hf,hl⟩:=h cs;obtain⟨v,rfl,_⟩:=hR _ _ _ _ hr (.refl w1);obtain⟨hm,hd,hk,fn',hf',_⟩:=hl;rw[hf,hbf]at hf';cases hf';have h1:=step_defer (P:=P) (cs:=cs) (w:=w1) (f:=fc) (args:=caps) (by rw[hm];simp) hd rfl (by simp only[invoke,Array.empty_append];exact zL hi.ent _ w1);obtain⟨e2,u',w2,frX,⟨⟨v2,rfl⟩,rfl,hg⟩,hsteps,hkX,hgo⟩:=hi.run caps hn hp w1 { fr with defers:=[] } cs hm;have h2:=step_going_returned (c:={ { fr with defers:=[] } with mode:=.returning }) (cs:=cs) hkX hgo;obtain⟨_,_,v',hr1,hr2⟩:=hR _ _ _ _ hr hg;exact⟨.returned v',w2,{ fr with defers:=[],mode:=settle .returning },hr2,Comes.of_steps hc (.head h1 (Steps.trans hsteps (.one (by rw[h2])))),hf,⟨rfl,rfl,hk,fn,by rw[<- hbf,<- hf],hr1⟩⟩
theorem afs {X:Ctx} {k:List SI} {t:List AV} {H:AH} {l:List SL} {d:Nat} {fc:FuncId} {cs:List Od} (hl:ux l=some (d,fc,cs)) (hX:X.bK=[]) (hd:d<t.length)
 (hcs:∀c∈cs,∃b,od t c=.ptr b 0) (hi:Idle X.P fc cs.length) {Q':List AV->AE->AH->Prop}
 (h:∀D:Deferred,dl { X with Q:=Q',bK:=[D] } k (a9 t (some d) .any) H)
 (hQ:∀t a H,Q' t a H->X.Q t a H/\∃p l,resV t H X.res=some (p,l)/\p/\a=.ret (f5 l)):dl X (.c (.ops false l)::k) t H:=by
 intro hok M0 S0 w0 hp0 M S a w items hr hf ht hh hdf b hb hbk;obtain⟨ty,rfl⟩:=ad5 hl;cases hr with
 | code wr hc r=>
   obtain⟨id,ops,rfl⟩:=PF hc;obtain⟨fl,hfl,_,_,hg⟩:=GQ hc;have hfl':fl=[⟨none,some d,.fnv (.func fc) [] cs⟩,⟨none,none,.raw (.defer ⟨.value (.tmp d),#[],#[]⟩) ty⟩]:=by
    rw[<- tq fl,<- hg];rfl
   subst hfl';obtain⟨hlen,hget⟩:=pO hfl;obtain⟨o1,o2,hops⟩:∃o1 o2,ops.toList=[o1,o2]:=by
    have hlen:ops.toList.length=2:=hlen.symm;rcases hq:ops.toList with _|⟨o1,_|⟨o2,_|⟨o3,l⟩⟩⟩<;>rw[hq]at hlen
    ·cases hlen
    ·cases hlen
    ·exact⟨o1,o2,rfl⟩
    ·simp at hlen
   rw[hops]at hget;obtain⟨y1,e1,c1⟩:=hget 0 o1 rfl;obtain⟨y2,e2,c2⟩:=hget 1 o2 rfl;cases e1;cases e2;obtain⟨g1,p1,d1,_⟩:=kL c1;obtain⟨g2,p2,d2,_⟩:=kL c2;have ng:∀ {g:Option (Nat×Bool)},jT ops g=some none->g=none:=λ{g} h=>by
    cases g with
    | none=>rfl
    | some p=>
      unfold jT at h;split at h
      ·rename_i e;cases e
      ·split at h<;>simp at h
   have g1:=ng g1;have g2:=ng g2;obtain⟨x,y,hx,hy,q1⟩:=QY p1;obtain⟨q2,_⟩:=jK p2;obtain rfl:x=#[]:=by
    obtain⟨l⟩:=x;cases l with
    | nil=>rfl
    | cons _ _=>cases hx
   have hs:ops.size=2:=by rw[<- Array.length_toList,hops];rfl
   have e0:ops[0]?=some o1:=by rw[<- Array.getElem?_toList,hops];rfl
   have e1:ops[1]?=some o2:=by rw[<- Array.getElem?_toList,hops];rfl
   have hd':d<a.tmps.size:=by rw[ht.1];exact hd
   have hn:(y.map a.eval).size=cs.length:=by rw[hy];simp
   have hpt:∀i,i<cs.length->∃p,(y.map a.eval).getD i undef=.pointer (some p):=λi hi=>by
    have hi':i<y.size:=by rw[hy]at hi;simpa using hi
    obtain⟨bb,hbb⟩:=hcs (ak y[i]) (by rw[hy];exact List.mem_map.2 ⟨y[i],by simp,rfl⟩);have hr:=mj ht rfl y[i];rw[hbb]at hr;generalize hv:a.eval y[i]=v at hr;have e:(y.map a.eval).getD i undef=a.eval y[i]:=by simp[Array.getD,hi']
    rw[e,hv];cases hr with
    | data h=>cases h
    | ptr _ _ _=>exact⟨_,rfl⟩
   refine ahX (a':=⟨a.tmps.setIfInBounds d (.func (.func fc) #[] (y.map a.eval)),[⟨.fn (.func fc) (y.map a.eval),#[]⟩]⟩) (w':=w) ?_ ?_
   ·rw[hs];show wpOps X.P ops _ [0,1] a w;have d1':o1.dst=some d:=d1.symm;have d2':o2.dst=none:=d2.symm;simp only[wpOps,e0,e1,Region.wanted,g1,g2,if_true];refine .inl ?_;unfold Oper.wp;rw[show(execOp a.eval o1).run X.P w=.ok (.value (.func (.func fc) #[] (y.map a.eval))) w by simp[execOp,q1,Instr.makeFunc]];rw[Oper.upon_value,d1'];refine .inl ?_;have e2:(execOp (a.put (some d) (.func (.func fc) #[] (y.map a.eval))).eval o2).run X.P w=.ok (.defer ⟨.fn (.func fc) (y.map a.eval),#[]⟩) w:=by
     have:(a.put (some d) (.func (.func fc) #[] (y.map a.eval))).eval (.tmp d)=.func (.func fc) #[] (y.map a.eval):=by simp[Act.put,Act.eval,Array.getD,hd']
     simp[execOp,q2,resolve,this,Deferred.ofValue]
    rw[e2,Oper.upon_defer,d2'];simp[wpOps,Act.put,hdf,hX]
   ·have ht':=dC.put (a:=a) ht (some d) (v:=.func (.func fc) #[] (y.map a.eval)) (.data (.any _));rw[hX];refine ag8 (fn:=X.fn) (by rw[hb];exact hok.fn) hi hn hpt (h ⟨.fn (.func fc) (y.map a.eval),#[]⟩ ⟨hok.fn,hok.res,hok.mix⟩ M0 S0 w0 hp0 M S ⟨a.tmps.setIfInBounds d (.func (.func fc) #[] (y.map a.eval)),[⟨.fn (.func fc) (y.map a.eval),#[]⟩]⟩ w _ r hf ht' hh rfl b hb hbk) ?_;rintro tm e w1 w2 ⟨t1,r1,H1,M1,S1,hq,hrel,hend,hh1,hf1⟩ hg;obtain⟨hq,p,l,hres,hp,rfl⟩:=hQ _ _ _ hq;have hfg:=aU.grew hh1 hg;cases e with
    | returned v=>
      obtain⟨v',hrun,hv⟩:=Qy hok.res (hrel.mono hfg) (hh1.grew hg) hres hp;exact⟨v,rfl,v',hrun,t1,_,H1,M1,S1,hq,hrel.mono hfg,hv,hh1.grew hg,hf1.trans hfg⟩
    | panicked ch=>exact hend.elim
    | outgrown=>exact hend.elim
section
def iZ (ms:List Nat) (S:Nat->List SI):SC->List SI->Prop
 | .seq a b,k=>iZ ms S a (.c b::k)/\iZ ms S b k
 | .cond x a b,k=>(∀i,j6 ms (.cond x a b)=some i->S i=.c (.cond x a b)::k)/\iZ ms S a k/\iZ ms S b k
 | .block i a,k=>iZ ms S a (.blk i::k)
 | .loop b,k=>(∀id k',k=.blk id::k'->S id=.lp b::k)/\iZ ms S b (.lp b::k)
 | .scope a,k=>iZ ms S a (.scp::k)
 | .ops d l,k=>∀i,j6 ms (.ops d l)=some i->S i=.c (.ops d l)::k
 | _,_=>True
def cZ (ms:List Nat) (S:Nat->List SI):List SI->Prop
 | []=>True
 | x::k=>(match x with
   | .c c=>iZ ms S c k
   | .lp b=>(∀id k',k=.blk id::k'->S id=.lp b::k)/\iZ ms S b (.lp b::k)
   | _=>True)/\cZ ms S k
theorem AF {ms:List Nat} {c:SC} {k:List SI} {r:List (Nat×List SI)} {p:Nat×List SI} (h:p∈r):p∈j7 ms c k r:=by
 unfold j7;split
 ·exact h
 ·exact List.mem_cons_of_mem _ h
theorem Qa {ms:List Nat} {c:SC} {k:List SI} {r:List (Nat×List SI)} {i:Nat} (h:j6 ms c=some i):(i,.c c::k)∈j7 ms c k r:=by
 unfold j7;rw[h];exact List.mem_cons_self ..
theorem Po {ms:List Nat} {c:SC} {k:List SI} {r:List (Nat×List SI)} {p:Nat×List SI} (h:p∈j7 ms c k r):(∃i,j6 ms c=some i/\p=(i,.c c::k))\/p∈r:=by
 unfold j7 at h;split at h
 ·exact .inr h
 ·rename_i i hi;rcases List.mem_cons.1 h with rfl|h
  ·exact .inl ⟨i,hi,rfl⟩
  ·exact .inr h
theorem io {ms:List Nat} {S:Nat->List SI}:∀(c:SC) (k:List SI),(∀p∈cH c k,S p.1=p.2)->(∀p∈fp ms c k,S p.1=p.2)->iZ ms S c k
 | .seq a b,k,h,j=>⟨io a _ (λp hp=>h p (List.mem_append_left _ hp)) λp hp=>j p (List.mem_append_left _ hp),io b _ (λp hp=>h p (List.mem_append_right _ hp)) λp hp=>j p (List.mem_append_right _ hp)⟩
 | .cond x a b,k,h,j=>⟨λi hi=>j (i,_) (Qa hi),io a _ (λp hp=>h p (List.mem_append_left _ hp)) λp hp=>j p (AF (List.mem_append_left _ hp)),io b _ (λp hp=>h p (List.mem_append_right _ hp)) λp hp=>j p (AF (List.mem_append_right _ hp))⟩
 | .block i a,k,h,j=>io a _ h j
 | .scope a,k,h,j=>io a _ h j
 | .loop b,k,h,j=>by
   refine⟨λid k' hk=>?_,io b _ (λp hp=>?_) j⟩
   ·subst hk;exact h (id,_) (List.mem_cons_self ..)
   ·refine h p ?_;simp only[cH];split
    ·exact List.mem_cons_of_mem _ hp
    ·exact hp
 | .skip,_,_,_=>trivial
 | .ops _ _,_,_,j=>λi hi=>j (i,_) (Qa hi)
 | .priv _ _,_,_,_=>trivial
 | .alts _ _,_,_,_=>trivial
 | .exit _,_,_,_=>trivial
 | .ret,_,_,_=>trivial
 | .bad,_,_,_=>trivial
theorem mr {ms:List Nat} {S:Nat->List SI}:∀(c:SC) (k:List SI),(∀p∈cH c k,S p.1=p.2)->(∀p∈fp ms c k,S p.1=p.2)->cZ ms S k->∀p,p∈cH c k\/p∈fp ms c k->cZ ms S p.2
 | .seq a b,k,h,j,hk,p,hp=>by
   have ha:∀p∈cH a (.c b::k),S p.1=p.2:=λp hp=>h p (List.mem_append_left _ hp)
   have hb:∀p∈cH b k,S p.1=p.2:=λp hp=>h p (List.mem_append_right _ hp)
   have ja:∀p∈fp ms a (.c b::k),S p.1=p.2:=λp hp=>j p (List.mem_append_left _ hp)
   have jb:∀p∈fp ms b k,S p.1=p.2:=λp hp=>j p (List.mem_append_right _ hp)
   have h1:=mr a (.c b::k) ha ja ⟨io b k hb jb,hk⟩ p;have h2:=mr b k hb jb hk p;rcases hp with hp|hp
   ·rcases List.mem_append.1 hp with hp|hp
    ·exact h1 (.inl hp)
    ·exact h2 (.inl hp)
   ·rcases List.mem_append.1 hp with hp|hp
    ·exact h1 (.inr hp)
    ·exact h2 (.inr hp)
 | .cond x a b,k,h,j,hk,p,hp=>by
   have h1:=mr a k (λp hp=>h p (List.mem_append_left _ hp)) (λp hp=>j p (AF (List.mem_append_left _ hp))) hk p;have h2:=mr b k (λp hp=>h p (List.mem_append_right _ hp)) (λp hp=>j p (AF (List.mem_append_right _ hp))) hk p;rcases hp with hp|hp
   ·rcases List.mem_append.1 hp with hp'|hp'
    ·exact h1 (.inl hp')
    ·exact h2 (.inl hp')
   ·rcases Po hp with⟨i,hi,rfl⟩|hp
    ·exact⟨io (.cond x a b) k h j,hk⟩
    ·rcases List.mem_append.1 hp with hp'|hp'
     ·exact h1 (.inr hp')
     ·exact h2 (.inr hp')
 | .block i a,k,h,j,hk,p,hp=>mr a _ h j ⟨trivial,hk⟩ p hp
 | .scope a,k,h,j,hk,p,hp=>mr a _ h j ⟨trivial,hk⟩ p hp
 | .loop b,k,h,j,hk,p,hp=>by
   have hs:=io (.loop b) k h j;have hT:cZ ms S (.lp b::k):=⟨⟨hs.1,hs.2⟩,hk⟩
   have hsub:∀p∈cH b (.lp b::k),p∈cH (.loop b) k:=λp hp=>by
    simp only[cH];split
    ·exact List.mem_cons_of_mem _ hp
    ·exact hp
   have h1:=mr b (.lp b::k) (λp hp=>h p (hsub p hp)) j hT p;rcases hp with hp|hp
   ·simp only[cH]at hp;split at hp
    ·rcases List.mem_cons.1 hp with rfl|hp
     ·exact hT
     ·exact h1 (.inl hp)
    ·exact h1 (.inl hp)
   ·exact h1 (.inr hp)
 | .skip,_,_,_,_,_,hp=>by rcases hp with hp|hp<;>cases hp
 | .ops d l,k,h,j,hk,p,hp=>by
   rcases hp with hp|hp
   ·cases hp
   ·rcases Po hp with⟨i,hi,rfl⟩|hp
    ·exact⟨io (.ops d l) k h j,hk⟩
    ·cases hp
 | .priv _ _,_,_,_,_,_,hp=>by rcases hp with hp|hp<;>cases hp
 | .alts _ _,_,_,_,_,_,hp=>by rcases hp with hp|hp<;>cases hp
 | .exit _,_,_,_,_,_,hp=>by rcases hp with hp|hp<;>cases hp
 | .ret,_,_,_,_,_,hp=>by rcases hp with hp|hp<;>cases hp
 | .bad,_,_,_,_,_,hp=>by rcases hp with hp|hp<;>cases hp
theorem tY:∀ {l:List (Nat×List SI)},nodup (l.map (·.1))=true->∀p∈l,iG l p.1=p.2
 | [],_,p,hp=>by cases hp
 | (m,s)::l,h,p,hp=>by
   simp only[List.map_cons,nodup,Bool.and_eq_true,Bool.not_eq_true',List.contains_eq_mem,decide_eq_false_iff_not]at h;simp only[iG];rcases List.mem_cons.1 hp with rfl|hp
   ·simp
   ·have hne:Nat.beq m p.1=false:=by
     cases hb:Nat.beq m p.1 with
     | false=>rfl
     | true=>exact absurd (List.mem_map.2 ⟨p,hp,(beq_eq hb).symm⟩) h.1
    rw[hne];exact tY h.2 p hp
theorem Q1:∀ {l:List (Nat×List SI)} {n:Nat},iG l n=[]\/(n,iG l n)∈l
 | [],_=>.inl rfl
 | (m,s)::l,n=>by
   simp only[iG];split
   ·rename_i h;rw[beq_eq h];exact .inr (List.mem_cons_self ..)
   ·rcases Q1 (l:=l) (n:=n)with h|h
    ·exact .inl h
    ·exact .inr (List.mem_cons_of_mem _ h)
theorem agB (c:SC):j6 [] c=none:=rfl
theorem mo:∀(c:SC) (k:List SI),fp [] c k=[]
 | .seq a b,k=>by simp only[fp,mo a,mo b,List.append_nil]
 | .cond x a b,k=>by simp only[fp,j7,agB,mo a,mo b,List.append_nil]
 | .block i a,k=>mo a _
 | .scope a,k=>mo a _
 | .loop b,k=>mo b _
 | .skip,_=>rfl
 | .ops _ _,_=>rfl
 | .priv _ _,_=>rfl
 | .alts _ _,_=>rfl
 | .exit _,_=>rfl
 | .ret,_=>rfl
 | .bad,_=>rfl
theorem tC {ms:List Nat} {c:SC} {p:Nat×List SI}:p∈allL ms c↔p∈cH c []\/p∈fp ms c []:=by
 cases ms with
 | nil=>rw[mo];simp[allL]
 | cons m ms=>simp only[allL,List.mem_append]
def hZ (ms:List Nat) (c:SC):Bool:=lJ ((allL ms c).map (·.1))
theorem ahB {ms:List Nat} {c:SC} (h:hZ ms c=true):cZ ms (fM ms c) [.c c]:=by
 unfold hZ at h;rw[tw]at h;exact⟨io c [] (λp hp=>tY h p (tC.2 (.inl hp))) (λp hp=>tY h p (tC.2 (.inr hp))),trivial⟩
theorem Kz {ms:List Nat} {c:SC} (h:hZ ms c=true) (id:Nat):cZ ms (fM ms c) (fM ms c id):=by
 unfold hZ at h;rw[tw]at h;rcases Q1 (l:=allL ms c) (n:=id)with h'|h'
 ·rw[fM,h'];trivial
 ·exact mr c [] (λp hp=>tY h p (tC.2 (.inl hp))) (λp hp=>tY h p (tC.2 (.inr hp))) trivial _ (tC.1 h')
theorem Qj {ms:List Nat} {c:SC} (h:hZ ms c=true) (id:Nat):cZ ms (fM ms c) (stk ms c id):=by
 have hT:=Kz h id;unfold stk;split
 ·rename_i b k hk;rw[hk]at hT;exact⟨hT.1.2,hT⟩
 ·exact hT
theorem RJ {X:Ctx} {ms:List Nat} {c:SC} {id:Nat} {t:List AV} {H:AH} (h:go X (stk ms c id) t H):go X (fM ms c id) t H:=by
 unfold stk at h;split at h
 ·rename_i b k hk;rw[hk];exact Uf h
 ·exact h
theorem G9 {ms:List Nat} {S:Nat->List SI} {id:Nat}:∀ {k k':List SI},ez id k=some k'->cZ ms S k->cZ ms S k'
 | [],k',h,_=>by cases h
 | x::k,k',h,hk=>by
   cases x with
   | blk i=>
     simp only[ez]at h;split at h
     ·cases h;exact hk.2
     ·exact G9 h hk.2
   | _=>exact G9 (by simpa only[ez]using h) hk.2
section
variable {T:Nat->Type} {B:Tb T} {R:Type} {r:R}
theorem Ad {ns:Nat}:∀ {l:List SP} {e:SE T} {t:List AV},bN B e t ns->l.all (λs=>okD ns s.d)=true->bN B (rj e l) (oX t l) ns
 | [],_,_,h,_=>h
 | s::l,e,t,h,hl=>by
   simp only[List.all_cons,Bool.and_eq_true]at hl;have:=h.put (B:=B) hl.1 (.raw (.v undef));simp only[BV.av]at this;exact Ad (e:=aP e s.d (.raw (.v undef))) (t:=a9 t s.d (.v undef)) this hl.2
structure mD (X:Ctx) (S:Nat->List SI) (G:Set B R) (r:R):Prop where
 hB:B.Ok
 P:X.P=G.P
 res:X.res=G.res
 WC:G.lps=[]\/X.aI.box.length=G.nb/\X.aI.buf.length=G.nt
 hin:∃aI:AH,aI.box.length=G.nb/\aI.buf.length=G.nt/\∀t a H,((∃p,a=.bS p)->∃e Hb,bN B e t G.ns/\H=Hb.av B/\G.kt e Hb=true)->(∀x,a=.ret x->∃p l,resV t H G.res=some (p,l)/\p/\a=.ret (f5 l))->ow aI (cw ((G.ret.o.enc r).1.av B)) ((G.ret.o.enc r).2.av B) a H->X.Q t a H
 con:∀f,∀c∈G.con f,c.Ok G.P G.N
 h:G.h.Ok B
 fJ:lG G.P B G.h.fJ
 ex:jY G.P G.ex
 lps:∀id,∀L∈jv G.lps id,∀a,L.run a=some r->go X (S id) (SE.av B G.ns (L.enc a).1) ((L.enc a).2.av B)
 df:G.df=[]\/X.bK=[]/\∀p∈G.df,Idle X.P p.1 p.2
variable {X:Ctx} {S:Nat->List SI} {G:Set B R}
theorem uN {X:Ctx} {dr:Bool} {d:Option Nat} {o:SO} {l:List SL} {k:List SI} {t:List AV} {H H':AH} {v:AV} (hes:ES X.P dr o t H v H') (h:go X (.ops dr l::k) (a9 t d v) H'):go X (.ops dr (.op d o::l)::k) t H:=by
 intro hgood;have hfl:flat (.op d o::l)=⟨none,d,o⟩::flat l:=by simp[flat,SL.flat]
 rw[hfl]at hgood ⊢;exact .inl ⟨rfl,v,H',hes,h (Pm hgood)⟩
theorem Ik {X:Ctx} {dr:Bool} {d:Option Nat} {o:SO} {l:List SL} {k:List SI} {t:List AV} {H H':AH} {v:AV} (hd:dr=false) (hos:OS X.P o t H (.bS v) H') (hq:X.Q t (.bS v) H'):go X (.ops dr (.op d o::l)::k) t H:=by
 intro hgood;have hfl:flat (.op d o::l)=⟨none,d,o⟩::flat l:=by simp[flat,SL.flat]
 rw[hfl]at hgood ⊢;exact .inr (.inr (.inl ⟨hd,rfl,v,H',hos,hq⟩))
theorem bN.same {e:SE T} {t:List AV} {ns j:Nat} (h:bN B e t ns) {v:BV T} (hv:t.getD j .any=v.av B):bN B ((j,v)::e) t ns:=
 ⟨h.len,λi=>by
   rw[n8];by_cases hi:j=i
   ·subst hi;rw[if_pos rfl];exact hv
   ·rw[if_neg hi];exact h.get i⟩
theorem RG {k:List SI} (hG:mD X S G r) {e:SE T} {t:List AV} {H:BH T} (hr:bN B e t G.ns) (h:(match nu e H G.res with
 | some l=>vK G.nb G.nt G.ret l H
 | none=>none)=some r):m6 X t (H.av B) (resV t (H.av B) X.res):=by
 split at h
 ·rename_i l hl;obtain⟨p,h1,h2⟩:=H3 hr hl;rw[hG.res,h1];refine⟨h2,?_⟩;obtain⟨aI,hnb,hnt,hQ⟩:=hG.hin;exact hQ _ _ _ (λ⟨p,hp⟩=>by cases hp) (λr hr=>⟨p,_,h1,h2,rfl⟩) (ah9 hnb hnt h)
 ·cases h
theorem RE {T:Nat->Type} {B:Tb T} {R:Type} {r:R} {e0:SE T} {t0:List AV} {ns:Nat} (h0:bN B e0 t0 ns):∀ {bs:List (Nat×Nat×Od)} {e:SE T} {t:List AV} {H:BH T} {K:SE T->BH T->Option R},bN B e t ns->vI e0 ns bs e H K=some r->
 nq t0 bs/\∃e' H',bN B e' (jy t H.box.length bs) ns/\H'.av B=lO t0 (H.av B) bs/\K e' H'=some r
 | [],e,t,H,K,he,h=>⟨trivial,e,H,he,rfl,h⟩
 | (d,n,y)::bs,e,t,H,K,he,h=>by
   simp only[vI]at h;split at h
   ·rename_i hc;simp only[Bool.and_eq_true]at hc;have he':bN B ((d,.ptr H.box.length 0)::e) (t.set d (.ptr H.box.length 0)) ns:=he.put (d:=some d) hc.1.1 (.ptr H.box.length 0);obtain⟨h1,e',H',h2,h3,h4⟩:=RE h0 he' h;refine⟨⟨?_,?_,?_,h1⟩,e',H',by simpa[jy]using h2,?_,h4⟩
    ·rw[h0.len];exact Nat.lt_of_succ_le (Nat.le_of_ble_eq_true hc.1.1)
    ·rw[h0.od,tx];exact beq_eq hc.1.2
    ·rw[h0.od,<- jH,mq];exact hc.2
    ·rw[h3];simp only[lO,h0.od,<- jH,BH.av,List.map_append,List.map_cons,List.map_nil]
   ·cases h
theorem Ps:∀ {l:List (FuncId×Nat)} {f n:Nat},vw l f n=true->(f,n)∈l
 | [],_,_,h=>by cases h
 | (g,m)::l,f,n,h=>by
   simp only[vw]at h;split at h
   ·rename_i hb;simp only[Bool.and_eq_true]at hb;rw[beq_eq hb.1,beq_eq hb.2];exact List.mem_cons_self ..
   ·exact List.mem_cons_of_mem _ (Ps h)
def Ctx.off (X:Ctx) (D:Deferred):Ctx:={ X with Q:=λt a H=>X.Q t a H/\∃p l,resV t H X.res=some (p,l)/\p/\a=.ret (f5 l),bK:=[D] }
theorem mD.off (hG:mD X S G r) (D:Deferred):mD (X.off D) S G.off r:=
 ⟨hG.hB,hG.P,hG.res,.inl rfl,by
   obtain⟨aI,h1,h2,hQ⟩:=hG.hin;refine⟨aI,h1,h2,λt a H hp hret hw=>?_⟩;have hx:∃x,a=.ret x:=by
    cases a with
    | ret x=>exact⟨x,rfl⟩
    | bS x=>obtain⟨_,_,_,_,h⟩:=hp ⟨x,rfl⟩;cases h
   obtain⟨x,rfl⟩:=hx;refine⟨hQ _ _ _ (λ⟨p,hp⟩=>by cases hp) hret hw,?_⟩;show ∃p l,resV t H X.res=some (p,l)/\_
   rw[hG.res];exact hret x rfl,hG.con,hG.h,hG.fJ,hG.ex,λid L hL=>(by cases hL),.inl rfl⟩
theorem ajy (ms:List (Nat×List (Nat×Option Nat×Nat))) (todo:List SI):uC ms todo=[]\/iH todo:=by
 cases todo with
 | nil=>exact .inr trivial
 | cons x k=>cases x<;>first|exact .inr trivial|(left;unfold uC;split<;>rfl)
theorem lV':∀(n:Nat) {X:Ctx} {G:Set B R} (hG:mD X S G r) (todo:List SI) (e:SE T) (t:List AV) (H:BH T),bN B e t G.ns->cZ G.jm S todo->sx G n todo e H=some r->go X todo t (H.av B)
 | 0,_,_,_,_,_,_,_,_,_,h=>by cases h
 | n+1,X,G,hG,todo,e,t,H,hr,hs,h=>by
   have ih:=lV' n hG;have hB:=hG.hB;have main:∀(e:SE T) (t:List AV) (H:BH T),bN B e t G.ns->gG G (sx G n) (sx G.off n) todo e H=some r->go X todo t (H.av B):=by
    clear hr h e t H;intro e t H hr h;have uU:∀ {dr:Bool} {H:BH T} {ty:Nat} {x:BV T},jx G e dr H ty x=some r->dr=false/\X.Q t (.bS (.aG ty (x.av B))) (H.av B):=by
     intro dr H ty x h;unfold jx at h;split at h
     ·rename_i hk;obtain⟨aI,hnb,hnt,hQ⟩:=hG.hin;exact⟨rfl,hQ _ _ _ (λ_=>⟨e,H,hr,rfl,hk⟩) (λx hx=>by cases hx) (aia hnb hnt h)⟩
     ·cases h
    have hend:∀ {dr:Bool} {v:BV T} {H':BH T} {K:Option R},nm v (jx G e dr H') K=some r->
     (cw (v.av B)=.ret (v.av B)/\K=some r)\/∃t x,cw (v.av B)=.bS (.aG t (x.av B))/\jx G e dr H' t x=some r:=by
     intro dr v H' K h;cases v with
     | aG t x=>
       simp only[nm]at h;split at h
       ·rename_i hb;exact .inr ⟨t-PM,x,by simp only[BV.av,cw,hb],h⟩
       ·rename_i hb;exact .inl ⟨by simp only[BV.av,cw,hb],h⟩
     | raw x=>cases x<;>first|exact .inl ⟨rfl,h⟩|cases h
     | _=>exact .inl ⟨by simp only[BV.av,cw],h⟩
    have hcall:∀ {dr:Bool} {d:Option Nat} {l:List SL} {k:List SI} {args:List (BV T)} {f:FuncId},okD G.ns d=true->cZ G.jm S k->ji dr args H G.N (λv H=>nm v (jx G e dr H) (sx G n (.ops dr l::k) (aP e d v) H)) f (G.con f)=some r->wu X dr d f (BV.an B args) l k t (H.av B):=by
     intro dr d l k args f hd hk h;obtain⟨hen,v,H',⟨hc,hc2⟩,hK⟩:=Aj (hG.con _) h;rw[<- hG.P]at hen hc;rcases hend hK with⟨he,hK⟩|⟨t',x,he,hK⟩
     ·rw[he]at hc hc2;refine⟨hen,.inl ⟨v.av B,H'.av B,hc,λq=>⟨(hc2 q).1,λH0=>by rw[hG.P];exact(hc2 q).2 H0⟩,?_⟩⟩;exact ih _ _ _ _ (hr.put hd v) ⟨trivial,hk⟩ hK
     ·rw[he]at hc;obtain⟨h1,h2⟩:=uU hK;exact⟨hen,.inr ⟨h1,_,_,hc,h2⟩⟩
    have uR:∀ {id:Nat} {k:List SI},iH k->S id=k->loopS G.nb G.nt e H (jv G.lps id)=some r->go X k t (H.av B):=by
     intro id k hno hk h;have hn:X.aI.box.length=G.nb/\X.aI.buf.length=G.nt:=hG.WC.resolve_left λe=>by rw[e]at h;cases h
     exact Qh hn.1 hn.2 hr hno (λL hL a ha=>by
      have:=hG.lps id L hL a ha
      rwa [hk]at this) h
    have hloop:∀ {b:SC} {k:List SI},cZ G.jm S (.lp b::k)->(match k with
     | .blk id::_=>loopS G.nb G.nt e H (jv G.lps id)
     | _=>none)=some r->go X (.lp b::k) t (H.av B):=by
     intro b k hk h;split at h
     ·rename_i id k';exact uR trivial (hk.1.1 id k' rfl) h
     ·cases h
    cases todo with
    | nil=>exact bU 1 X [] t (H.av B) (RG (k:=[]) hG hr h)
    | cons x k=>
      cases x with
      | blk i=>exact bU 1 X (.blk i::k) t (H.av B) (ih _ _ _ _ hr hs.2 h)
      | scp=>exact bU 1 X (.scp::k) t (H.av B) (ih _ _ _ _ hr hs.2 h)
      | pv bs=>
        obtain⟨h1,e',H',h2,h3,h4⟩:=RE hr hr h;refine bU 1 X (.pv bs::k) t (H.av B) ⟨h1,?_⟩;rw[<- h3];have e1:(H.av B).box.length=H.box.length:=by simp[BH.av]
        rw[e1];exact ih _ _ _ _ h2 hs.2 h4
      | lp b=>exact hloop hs h
      | ops dr l=>
        cases l with
        | nil=>exact bU 1 X (.ops dr []::k) t (H.av B) (ih _ _ _ _ hr hs.2 h)
        | cons y l=>
          cases y with
          | grp j w l1=>
            simp only[gG,pj,vY,vW,vU,vV,vZ,rD,f4,lU,rC]at h;split at h
            ·rename_i c hl1 hc;have hg:=hr.get j;rw[hc]at hg;simp only[BV.av]at hg;refine bU 1 X (.ops dr (.grp j w l1::l)::k) t (H.av B) ?_;show uZ _ _ w (t.getD j .any);rw[hg];cases c with
             | true=>
               have hr':=hr.same (v:=.bool true) hg;simp only[cond_true]at h;cases w with
               | true=>exact⟨λ_=>ih _ _ _ _ hr' (show cZ G.jm S (.ops dr (l1.map SP.sl++l)::k)from⟨trivial,hs.2⟩) h,λq=>absurd rfl q⟩
               | false=>exact⟨λq=>(by cases q),λ_=>ih (.ops dr l::k) _ _ _ (Ad hr' hl1) (show cZ G.jm S (.ops dr l::k)from⟨trivial,hs.2⟩) h⟩
             | false=>
               have hr':=hr.same (v:=.bool false) hg;simp only[cond_false]at h;cases w with
               | true=>exact⟨λq=>(by cases q),λ_=>ih (.ops dr l::k) _ _ _ (Ad hr' hl1) (show cZ G.jm S (.ops dr l::k)from⟨trivial,hs.2⟩) h⟩
               | false=>exact⟨λ_=>ih _ _ _ _ hr' (show cZ G.jm S (.ops dr (l1.map SP.sl++l)::k)from⟨trivial,hs.2⟩) h,λq=>absurd rfl q⟩
            ·rename_i vs hl1 hc;have hg:=hr.get j;rw[hc]at hg;simp only[BV.av]at hg;refine bU 1 X (.ops dr (.grp j w l1::l)::k) t (H.av B) ?_;show uZ _ _ w (t.getD j .any);rw[hg];exact ih (.ops dr l::k) _ _ _ (Ad hr hl1) (show cZ G.jm S (.ops dr l::k)from⟨trivial,hs.2⟩) h
            ·cases h
          | op d o=>
            simp only[gG,pj,vY,vW,vU,vV,vZ,rD,f4,lU,rC]at h;split at h
            ·cases h
            ·rename_i hd;have step:∀ {o:SO},bk B G.P dr t H d o G.ns (λe H=>sx G n (.ops dr l::k) e H) r->go X (.ops dr (.op d o::l)::k) t (H.av B):=by
              rintro o ⟨v,H1,e',H',hes,hre,rfl,hK⟩;rw[<- hG.P]at hes;exact uN hes (ih _ _ _ _ hre ⟨trivial,hs.2⟩ hK)
             split at h
             ·rename_i f as;split at h
              ·rename_i q hq;obtain⟨v,hos,hK⟩:=ahW hr (QQ hG.ex hq) h;rw[<- hG.P]at hos;exact uN (dc hos) (ih _ _ _ _ (hr.put hd v) ⟨trivial,hs.2⟩ hK)
              ·have:=hcall hd hs.2 h;rw[<- hr.nk]at this;exact bU 1 X (.ops dr (.op d (.call f as)::l)::k) t (H.av B) (.inl this)
             ·rename_i x as;split at h
              ·rename_i f a b hx;have:=hcall hd hs.2 h;rw[iP,iP,<- hr.nk]at this;refine bU 1 X (.ops dr (.op d (.gr x as)::l)::k) t (H.av B) ?_;show B8 X dr d _ l k t _ (od t x);rw[hr.od,hx];simp only[BV.av];exact this
              ·cases h
             ·rename_i o' ty;split at h
              ·rename_i x m args ts;have inv:∀(t':TypeId) (v:BV T),(∀M S w u,am M S w u (od t (ak x))->∃z,u=.iface t' z/\am M S w z (v.av B))->(match qB G.P t' m with
                | some f=>ji (dr&&!mU (.call ⟨.invoke x m,args,ts⟩) ty) (v::args.toList.map (cQ e)) H G.N (λv H=>nm v (jx G e dr H) (sx G n (.ops dr l::k) (aP e d v) H)) f (G.con f)
                | none=>none)=some r->go X (.ops dr (.op d (.raw (.call ⟨.invoke x m,args,ts⟩) ty)::l)::k) t (H.av B):=by
                intro t' v h1 h;split at h
                ·rename_i f hm;obtain⟨hen,v',H',⟨hc,hc2⟩,hK⟩:=Aj (hG.con _) h;have e1:BV.an B (v::args.toList.map (cQ e))=v.av B::(args.toList.map ak).map (od t):=by
                  simp only[BV.an];rw[hr.nk,List.map_map];rfl
                 rw[e1]at hc hc2;rw[<- hG.P]at hm hen hc hc2;rcases hend hK with⟨he,hK⟩|⟨t2,x2,he,hK⟩
                 rotate_left
                 ·rw[he]at hc;obtain⟨p1,p2⟩:=uU hK;exact Ik p1 (AN h1 hm hen hc) p2
                 rw[he]at hc hc2;have hq:dr=true->∀z:Bool,(!true||mU (.call ⟨.invoke x m,args,ts⟩) ty)=false->(dr&&!mU (.call ⟨.invoke x m,args,ts⟩) ty)=true:=λq _ z=>by
                  cases hh:mU (.call ⟨.invoke x m,args,ts⟩) ty
                  ·rw[q];rfl
                  ·rw[hh]at z;cases z
                 exact uN ⟨AN h1 hm hen hc,λq=>⟨λz=>(hc2 (hq q true z)).1,λz _ H0=>AN h1 hm hen ((hc2 (hq q true z)).2 H0),λz bx=>AN h1 hm hen ((hc2 (hq q true z)).2 _),λhn=>(by cases hn),λhn=>(by cases hn)⟩⟩ (ih _ _ _ _ (hr.put hd v') ⟨trivial,hs.2⟩ hK)
                ·cases h
               split at h
               ·rename_i t' v hx;refine inv t' v (λM S w u hu=>?_) h;have h1:od t (ak x)=.aG t' (v.av B):=by
                 rw[hr.od];exact(congrArg (BV.av B) hx).trans (by simp only[BV.av])
                rw[h1]at hu;exact AD hu
               ·rename_i i y hx;obtain⟨z,hz,h⟩:=hB.el _ _ _ _ _ h;split at h
                ·rename_i t' v;refine inv t' v (λM S w u hu=>?_) h;have h1:od t (ak x)=.opq (.aG t' (v.av B)):=by
                  rw[hr.od];exact(congrArg (BV.av B) hx).trans (by simp only[BV.av]at hz ⊢;rw[hz])
                 rw[h1]at hu;exact ahY hu
                ·cases h
               ·cases h
              ·rename_i x args ts;split at h
               ·rename_i f a b hx;obtain⟨hen,v',H',⟨hc,_⟩,hK⟩:=Aj (hG.con _) h;have e1:BV.an B (args.toList.map (cQ e))=(args.toList.map ak).map (od t):=by
                 rw[hr.nk,List.map_map];rfl
                rw[iP,iP,e1]at hc;have h1:od t (ak x)=.fn (.func f) (BV.an B a) (BV.an B b):=by
                 rw[hr.od];exact(congrArg (BV.av B) hx).trans (by simp only[BV.av])
                rw[<- hG.P]at hen hc;rcases hend hK with⟨he,hK⟩|⟨t2,x2,he,hK⟩
                rotate_left
                ·rw[he]at hc;obtain⟨p1,p2⟩:=uU hK;exact Ik p1 (OR h1 hen hc) p2
                rw[he]at hc;exact uN ⟨OR h1 hen hc,λ_=>⟨λq=>(by cases q),λq=>(by cases q),λq=>(by cases q),λq=>(by cases q),λq=>(by cases q)⟩⟩ (ih _ _ _ _ (hr.put hd v') ⟨trivial,hs.2⟩ hK)
               ·cases h
              ·rename_i x;split at h
               ·rename_i t' v hx;have h1:od t (ak x)=.aG t' (v.av B):=by
                 rw[hr.od];exact(congrArg (BV.av B) hx).trans (by simp only[BV.av])
                obtain⟨p1,p2⟩:=uU h;exact Ik p1 (agP h1) p2
               ·cases h
              ·exact step (ah8 hB hG.h hG.fJ hG.h.bo hr hd h)
             ·rename_i h1 h2 h3;exact step (ai0 hB hG.h hr hd h)
      | c c=>
        have hj:(∃i,j6 G.jm c=some i/\loopS G.nb G.nt e H (jv G.lps i)=some r)\/f4 G (sx G n) (sx G.off n) c k e H=some r:=by
         simp only[gG,ph]at h;split at h
         ·exact .inr h
         ·rename_i i hi;split at h
          ·exact .inr h
          ·rename_i L l hl;exact .inl ⟨i,hi,by rw[hl];exact h⟩
        clear h;rcases hj with⟨i,hi,h⟩|h
        ·refine uR (id:=i) trivial ?_ h;cases c<;>first|exact hs.1 i hi|exact hs.1.1 i hi|(unfold j6 at hi;split at hi<;>cases hi)
        cases c with
        | skip=>exact bU 1 X (.c .skip::k) t (H.av B) (ih _ _ _ _ hr hs.2 h)
        | ops d l=>
          have plain:sx G n (.ops d l::k) e H=some r->go X (.c (.ops d l)::k) t (H.av B):=λh=>bU 1 X (.c (.ops d l)::k) t (H.av B) (ih (.ops d l::k) _ _ _ hr (show cZ G.jm S (.ops d l::k)from⟨trivial,hs.2⟩) h);simp only[f4,rE]at h;split at h
          ·exact plain h
          ·rename_i g0 gl hdf;split at h
           ·rename_i s f cs hde;unfold CG at h;split at h
            ·rename_i hc;simp only[Bool.and_eq_true,List.all_eq_true]at hc;have hlt:s<G.ns:=by simpa using hc.1.2
             rcases hG.df with hd0|⟨hX,hI⟩
             ·rw[hd0]at hdf;cases hdf
             have hidle:=hI _ (Ps hc.1.1);refine afs (X:=X) (Q':=(X.off default).Q) hde hX (by rw[hr.len];exact hlt) (λc hcm=>?_) hidle (λD=>?_) (λt a H hq=>hq)
             ·have hp:=hc.2 c hcm;rw[hr.od];generalize aR e c=v at hp;unfold Ko at hp;split at hp
              ·exact⟨_,by simp only[BV.av];rfl⟩
              ·cases hp
             ·have:=lV' n (hG.off D) k _ _ H (hr.put (d:=some s) hc.1.2 (.raw .any)) hs.2 h;exact g5 this
            ·cases h
           ·exact plain h
        | priv l bs=>exact bU 1 X (.c (.priv l bs)::k) t (H.av B) (ih (.ops true l::.pv bs::k) _ _ _ hr (show cZ G.jm S (.ops true l::.pv bs::k)from⟨trivial,trivial,hs.2⟩) h)
        | alts o ls=>
          have hst:∀l,cZ G.jm S (.ops true l::k):=λl=>⟨trivial,hs.2⟩
          simp only[f4,lU]at h;split at h
          ·exact aie (λq=>by cases q) λl hl=>ih (.ops true l::k) _ _ _ hr (hst _) (OY h _ (List.mem_map.2 ⟨l,hl,rfl⟩))
          ·split at h
           ·exact P7 (ih (.ops true _::k) _ _ _ hr (hst _) h)
           ·cases h
        | seq a b=>exact bU 1 X (.c (.seq a b)::k) t (H.av B) (ih (.c a::.c b::k) _ _ _ hr (show cZ G.jm S (.c a::.c b::k)from⟨hs.1.1,hs.1.2,hs.2⟩) h)
        | cond x a b=>
          simp only[f4,lU]at h;split at h
          ·rename_i c hc;refine bU 1 X (.c (.cond x a b)::k) t (H.av B) ?_;show B9 _ _ (od t x);rw[hr.od,hc];simp only[BV.av];cases c with
           | true=>exact⟨λ_=>ih (.c a::k) _ _ _ hr (show cZ G.jm S (.c a::k)from⟨hs.1.2.1,hs.2⟩) h,λq=>(by cases q)⟩
           | false=>exact⟨λq=>(by cases q),λ_=>ih (.c b::k) _ _ _ hr (show cZ G.jm S (.c b::k)from⟨hs.1.2.2,hs.2⟩) h⟩
          ·cases h
        | block i a=>exact bU 1 X (.c (.block i a)::k) t (H.av B) (ih (.c a::.blk i::k) _ _ _ hr (show cZ G.jm S (.c a::.blk i::k)from⟨hs.1,trivial,hs.2⟩) h)
        | loop b=>exact bU 1 X (.c (.loop b)::k) t (H.av B) (hloop ⟨⟨hs.1.1,hs.1.2⟩,hs.2⟩ h)
        | scope a=>exact bU 1 X (.c (.scope a)::k) t (H.av B) (ih (.c a::.scp::k) _ _ _ hr (show cZ G.jm S (.c a::.scp::k)from⟨hs.1,trivial,hs.2⟩) h)
        | exit i=>
          simp only[f4,lU]at h;split at h
          ·rename_i k' hk';refine bU 1 X (.c (.exit i)::k) t (H.av B) ?_;show Ca _ _ _ (ez i k);rw[hk'];exact ih _ _ _ _ hr (G9 hk' hs.2) h
          ·cases h
        | ret=>exact bU 1 X (.c .ret::k) t (H.av B) (RG (k:=k) hG hr h)
        | bad=>cases h
   rw[Ic]at h;rcases ajy G.oI todo with e0|hno
   ·rw[e0]at h;exact main e t H hr h
   ·exact kQ hno hr h λe' H' t' hr' h'=>main e' t' H' hr' h'
theorem lV (hG:mD X S G r) (n:Nat) (todo:List SI) (e:SE T) (t:List AV) (H:BH T) (hr:bN B e t G.ns) (hs:cZ G.jm S todo) (h:sx G n todo e H=some r):go X todo t (H.av B):=lV' n hG todo e t H hr hs h
end
end
section
section
variable {T:Nat->Type} {B:Tb T}
structure Fn (c:aB B) where
 fn:Func
 ex:List (FuncId×EK')
 h:Hint T
 con:FuncId->List (aB B)
 md:List Bool
 em:Option Nat
 nb:Nat
 nt:Nat
 kt:SE T->BH T->Bool:=λ_ _=>true
 alt:Option (bw c.R):=none
 df:List (FuncId×Nat):=[]
 jm:List Nat:=[]
 oI:List (Nat×List (Nat×Option Nat×Nat)):=[]
def Fn.set {c:aB B} (F:Fn c) (P:Program) (N:Nat) (l:List (Nat×Lp B c.R)):Set B c.R:=⟨P,F.ex,F.h,N,F.con,l,kq P F.fn,⟨F.md,F.em,c.o⟩,F.nb,F.nt,F.fn.ntmps,F.kt,F.alt,F.df,F.jm,F.oI⟩
structure Fn.Ok {c:aB B} (F:Fn c) (P:Program):Prop where
 is:Is P c.f F.fn.ntmps (kq P F.fn) (bd P F.fn)
 ids:hZ F.jm (bd P F.fn)=true
 hint:F.h.Ok B
 fJ:lG P B F.h.fJ
 ex:jY P F.ex
 inn:∀a,(Nat.ble (c.inn a).1.length F.fn.ntmps&&Nat.beq (c.inn a).2.box.length F.nb&&Nat.beq (c.inn a).2.buf.length F.nt)=true
structure Fn.Ok0 {c:aB B} (F:Fn c) (P:Program):Prop where
 ids:hZ F.jm (bd P F.fn)=true
 hint:F.h.Ok B
 fJ:lG P B F.h.fJ
 ex:jY P F.ex
 inn:∀a,(Nat.ble (c.inn a).1.length F.fn.ntmps&&Nat.beq (c.inn a).2.box.length F.nb&&Nat.beq (c.inn a).2.buf.length F.nt)=true
theorem Fn.Ok.ok0 {c:aB B} {F:Fn c} {P:Program} (h:F.Ok P):F.Ok0 P:=⟨h.ids,h.hint,h.fJ,h.ex,h.inn⟩
def hP (P:Program) (N:Nat):List (aB B)->Prop
 | []=>True
 | c::l=>c.Ok P N/\hP P N l
theorem O5 {P:Program} {N:Nat}:∀ {l:List (aB B)},hP P N l->∀c∈l,c.Ok P N
 | [],_,c,hc=>by cases hc
 | x::l,h,c,hc=>by
   rcases List.mem_cons.1 hc with rfl|hc
   ·exact h.1
   ·exact O5 h.2 c hc
structure eN {c:aB B} (F:Fn c) (P:Program) (N:Nat) (a:c.A) (r:c.R) where
 X:Ctx
 hB:B.Ok
 ok:F.Ok0 P
 P':X.P=P
 res:X.res=kq P F.fn
 aI:X.aI=(c.inn a).2.av B
 Q:∀t a H,((∃p,a=.bS p)->∃e Hb,bN B e t F.fn.ntmps/\H=Hb.av B/\F.kt e Hb=true)->ow X.aI (cw ((c.o.enc r).1.av B)) ((c.o.enc r).2.av B) a H->X.Q t a H
 con:∀f,hP P N (F.con f)
 df:F.df=[]\/X.bK=[]/\∀p∈F.df,Idle X.P p.1 p.2
variable {c:aB B} {F:Fn c} {P:Program} {N:Nat} {a:c.A} {r:c.R}
def eN.Gd (s:eN F P N a r) (id:Nat) {A:Type} (q:LQ B A) (run:A->Option c.R):Prop:=∀x,run x=some r->go s.X (fM F.jm (bd P F.fn) id) (SE.av B F.fn.ntmps (q.enc x).1) ((q.enc x).2.av B)
def eN.kg (s:eN F P N a r):List (Nat×Lp B c.R)->Prop
 | []=>True
 | (id,L)::l=>(∀x,L.run x=some r->go s.X (fM F.jm (bd P F.fn) id) (SE.av B F.fn.ntmps (L.enc x).1) ((L.enc x).2.av B))/\s.kg l
theorem eN.Ck (s:eN F P N a r):∀ {l:List (Nat×Lp B c.R)},s.kg l->∀id,∀L∈jv l id,∀x,L.run x=some r->go s.X (fM F.jm (bd P F.fn) id) (SE.av B F.fn.ntmps (L.enc x).1) ((L.enc x).2.av B)
 | [],_,id,L,h=>by cases h
 | (m,L')::l,hl,id,L,h=>by
   simp only[jv]at h;split at h
   ·rename_i hm;rcases List.mem_cons.1 h with rfl|h
    ·rw[<- beq_eq hm];exact hl.1
    ·exact s.Ck hl.2 id L h
   ·exact s.Ck hl.2 id L h
theorem eN.sx (s:eN F P N a r) {l:List (Nat×Lp B c.R)} (hl:s.kg l):mD s.X (fM F.jm (bd P F.fn)) (F.set P N l) r:=by
 have hi:=s.ok.inn a;simp only[Bool.and_eq_true]at hi;have h1:s.X.aI.box.length=F.nb/\s.X.aI.buf.length=F.nt:=⟨by rw[s.aI,n7];exact beq_eq hi.1.2,by rw[s.aI,gp'];exact beq_eq hi.2⟩
 exact⟨s.hB,s.P',s.res,.inr h1,⟨s.X.aI,h1.1,h1.2,λt a H h _ hp=>s.Q t a H h hp⟩,λf=>O5 (s.con f),s.ok.hint,s.ok.fJ,s.ok.ex,s.Ck hl,s.df⟩
theorem OZ:∀(l:List (BV T)) (n:Nat),(argN n l).map (·.1)=List.range' n l.length
 | [],n=>rfl
 | x::l,n=>by simp only[argN,List.map_cons,List.length_cons,List.range'_succ,OZ l (n+1)]
theorem Py:∀(l:List (BV T)) (n i:Nat),lk (argN n l) (n+i)=l.getD i (.raw .any)
 | [],n,i=>by simp[argN,lk]
 | x::l,n,0=>by simp[argN,n8]
 | x::l,n,i+1=>by
   rw[argN,n8,if_neg (by omega)];have:=Py l (n+1) i;rw[show n+(i+1)=n+1+i by omega,this];simp
theorem eN.Kf (s:eN F P N a r) (n:Nat) (l:List (Nat×Lp B c.R)) (hl:s.kg l) (h:Go.Proofs.YtmfkphajohcklaaGreat.U.sx (F.set P N l) n [.c (bd P F.fn)] (jd (c.inn a).1) (c.inn a).2=some r):
 go s.X [.c (bd P F.fn)] (SE.av B F.fn.ntmps (jd (c.inn a).1)) ((c.inn a).2.av B):=by
 have hi:=s.ok.inn a;simp only[Bool.and_eq_true]at hi;refine lV (s.sx hl) n _ _ _ _ (bN.of (OZ _ _) ?_) (ahB s.ok.ids) h;rw[List.all_eq_true];intro i hm;have:=List.mem_range'_1.1 hm;have:=Nat.le_of_ble_eq_true hi.1.1;show Nat.blt i F.fn.ntmps=true;simp;omega
theorem eN.main (s:eN F P N a r) (l:List (Nat×Lp B c.R)) (hl:s.kg l) (h:Go.Proofs.YtmfkphajohcklaaGreat.U.sx (F.set P N l) 1000 [.c (bd P F.fn)] (jd (c.inn a).1) (c.inn a).2=some r):
 go s.X [.c (bd P F.fn)] (SE.av B F.fn.ntmps (jd (c.inn a).1)) ((c.inn a).2.av B):=s.Kf 1000 l hl h
theorem eN.seg (s:eN F P N a r) (id:Nat) {C V:Type} (q:LQ B (C×V)) (l:List (Nat×Lp B c.R)) (hl:s.kg l) (hk:q.ks.all (λi=>Nat.blt i F.fn.ntmps)=true) {x:Option c.R} {k:C} {v:V}
 (h:Go.Proofs.YtmfkphajohcklaaGreat.U.sx (F.set P N l) 1000 (stk F.jm (bd P F.fn) id) (q.enc (k,v)).1 (q.enc (k,v)).2=x) (hx:x=some r):go s.X (stk F.jm (bd P F.fn) id) (SE.av B F.fn.ntmps (q.enc (k,v)).1) ((q.enc (k,v)).2.av B):=
 lV (s.sx hl) 1000 _ _ _ _ (bN.of (q.key _) hk) (Qj s.ok.ids id) (h.trans hx)
theorem eN.jn (s:eN F P N a r) (id:Nat) {A:Type} (q:LQ B A) (run:A->Option c.R) (l:List (Nat×Lp B c.R)) (hl:s.kg l) (hk:q.ks.all (λi=>Nat.blt i F.fn.ntmps)=true)
 (h:∀x,Go.Proofs.YtmfkphajohcklaaGreat.U.sx (F.set P N l) 1000 (fM F.jm (bd P F.fn) id) (q.enc x).1 (q.enc x).2=run x):s.Gd id q run:=
 λx hx=>lV (s.sx hl) 1000 _ _ _ _ (bN.of (q.key _) hk) (Kz s.ok.ids id) ((h x).trans hx)
theorem eN.loop (s:eN F P N a r) (id:Nat) {C V:Type} (q:LQ B (C×V)) (f:C->(V->Option c.R)->V->Option c.R) (M:Nat)
 (h:∀next:C×V->Option c.R,s.Gd id q next->∀k v,f k (λv=>next (k,v)) v=some r->go s.X (stk F.jm (bd P F.fn) id) (SE.av B F.fn.ntmps (q.enc (k,v)).1) ((q.enc (k,v)).2.av B)):
 s.Gd id q (λx=>aN (f x.1) M x.2):=by
 have key:∀(k:C) (n:Nat) (v:V),aN (f k) n v=some r->go s.X (fM F.jm (bd P F.fn) id) (SE.av B F.fn.ntmps (q.enc (k,v)).1) ((q.enc (k,v)).2.av B):=by
  intro k n
  induction n with
  | zero=>intro v hv;cases hv
  | succ n ih=>
    intro v hv
    classical
    refine RJ (h (λx=>if x.1=k then aN (f k) n x.2 else none) (λx hx=>?_) k v ?_)
    ·dsimp only at hx;split at hx
     ·rename_i hk;obtain⟨k',v'⟩:=x;dsimp only at hk hx;subst hk;exact ih v' hx
     ·cases hx
    ·simp only[if_true];exact hv
 exact λx hx=>key x.1 M x.2 hx
theorem Fn.Ok.give (ok:F.Ok P) (hB:B.Ok) (hm:P.follows .mixedOrders=true) (N M:Nat) (hc:∀f,hP P N (F.con f))
 (h:∀(a:c.A) (r:c.R) (s:eN F P N a r),c.sh M a=some r->go s.X [.c (bd P F.fn)] (SE.av B F.fn.ntmps (jd (c.inn a).1)) ((c.inn a).2.av B)) (hdf:∀p∈F.df,Idle P p.1 p.2:=by intro p h;cases h):c.Ok P M:=by
 refine⟨ok.is.enters,λa r hr=>?_⟩;obtain⟨fn,cd,wr,h1,h2,h3,h4,h5,h6⟩:=ok.is.prf;have hi:=ok.inn a;simp only[Bool.and_eq_true]at hi;have hle:=Nat.le_of_ble_eq_true hi.1.1;refine agt F.fn.ntmps h1 h2 h3 h4 hm h5 ?_;have:=h a r ⟨⟨P,c.f,fn,kq P F.fn,(c.inn a).2.av B,λ_=>ow ((c.inn a).2.av B) (cw ((c.o.enc r).1.av B)) ((c.o.enc r).2.av B),[]⟩,hB,ok.ok0,rfl,rfl,rfl,λ_ _ _ _ h=>h,hc,.inr ⟨rfl,hdf⟩⟩ hr;have e1:SE.av B F.fn.ntmps (jd (c.inn a).1)=BV.an B (c.inn a).1++List.replicate (F.fn.ntmps-(BV.an B (c.inn a).1).length) .any:=by
  refine List.ext_getElem? λi=>?_;rcases Nat.lt_or_ge i F.fn.ntmps with hlt|hge
  ·have g1:(SE.av B F.fn.ntmps (jd (c.inn a).1))[i]?=some ((lk (jd (c.inn a).1) i).av B):=by simp[SE.av,hlt]
   have g2:=Py (c.inn a).1 0 i;rw[Nat.zero_add]at g2;rw[g1,show jd (c.inn a).1=argN 0 (c.inn a).1 from rfl,g2,<- n6];rw[List.getElem?_append];split
   ·rename_i hl;simp[List.getD,hl]
   ·rename_i hl;rw[List.getElem?_replicate,if_pos (by rw[cC]at hl ⊢;omega)];simp[List.getD,List.getElem?_eq_none (Nat.le_of_not_lt hl)]
  ·rw[List.getElem?_eq_none (by rw[SE.len];exact hge),List.getElem?_eq_none (by simp[cC];omega)]
 rw[e1]at this;exact this
theorem ay {sb:Nat->Option (List UInt8->(i:Nat)×List (T i))} (h:∀k f s,sb k=some f->k=1/\B.k (f s).1=1/\(f s).2.map (B.eA (f s).1)=s.map gK) {bo:(i:Nat)->List (T i)->Option (List UInt8)} (h2:∀i l s,bo i l=some s->B.k i=1/\∃m:List Int,l.map (B.eA i)=m.map jB/\s=jf m) {l:List (Nat×Nat)} {m:List (TypeId×((i:Nat)×T i×Nat))}:(⟨l,m,sb,bo⟩:Hint T).Ok B:=⟨h,h2⟩
end
end
section
def Bi (te tb k aQ:Nat):SC:=.seq (.ops false [.op (some 2) (.gS (.c .emp))]) (.seq (.seq (.ops false [.op (some 3) (.gS (.t 0)),.op (some 4) (.raw (.binOp .eql te (.tmp 3) (.const (.slice none 0 0)) te) tb)]) (.cond (.t 4) (.seq (.ops false [.op (some 2) (.gS (.c .emp))]) .ret) .skip)) (.seq (.ops false [.op (some 5) (.cq k []),.op (some 6) (.gS (.t 0)),.op (some 7) (.app k aQ (.t 5) (.t 6)),.op (some 2) (.gS (.t 7))]) .ret))
theorem PC {X:Ctx} {te tb k aQ e:Nat} {xs:List AV} (hres:X.res=[.t 2]) (hu:X.P.underlying te=some (.slice e)) (hl:xs.length*aQ<=140737488355328) (hl2:xs.length<=9223372036854775807)
 (h1:xs=[]->∀t,X.Q t (.ret .emp) ⟨[],[]⟩) (h2:∀t,X.Q t (.ret (.own 1)) ⟨[],[.dead,.live k xs]⟩):
 go X [.c (Bi te tb k aQ)] [.sl k xs,.any,.any,.any,.any,.any,.any,.any] ⟨[],[]⟩:=by
 refine bU 9 _ _ _ _ ?_;show rM X false (some 4) (.raw (.binOp .eql te (.tmp 3) (.const (.slice none 0 0)) te) tb) [] _ [.sl k xs,.any,.emp,.sl k xs,.any,.any,.any,.any] ⟨[],[]⟩;refine ahE (ah4 (ne:=false) (e:=e) (k:=k) (xs:=xs) rfl hu rfl) (λhx=>?_) (λ_=>?_)
 ·refine bU 8 _ _ _ _ ?_;refine⟨λ_=>?_,λh=>by cases h⟩;show m6 X _ _ (resV _ _ X.res);rw[hres];exact⟨trivial,h1 hx _⟩
 ·refine bU 14 _ _ _ _ ?_;refine⟨λh=>(by cases h),λ_=>?_⟩;have hs:∀A:AH,dH A k (.sl k xs)=some xs:=λA=>by simp[dH]
  refine⟨trivial,rfl,?_⟩;show mZ _ _ _ _ k aQ [] _ (dH _ k (.sl k xs));rw[hs];refine⟨by simpa using hl,by simpa using hl2,?_⟩;show m6 X _ _ (resV _ _ X.res);rw[hres];exact⟨trivial,h2 _⟩
section
variable {T:Nat->Type} {B:Tb T}
structure kS (P:Program) (f:FuncId) (te tb k aQ e:Nat):Prop where
 is:Is P f 8 [.t 2] (Bi te tb k aQ)
 un:P.underlying te=some (.slice e)
 IP:0<aQ
theorem kS.of {P:Program} {f:FuncId} {te tb k aQ e:Nat} {fn:Func} (hf:P.funcs[f]?=some fn) (h:isOk P fn=true) (h1:fn.ntmps=8) (h2:kq P fn=[.t 2]) (h3:bd P fn=Bi te tb k aQ) (hu:P.underlying te=some (.slice e)) (h0:0<aQ):kS P f te tb k aQ e:=
 ⟨by have:=Is.of hf h;rw[h1,h2,h3]at this;exact this,hu,h0⟩
theorem aeH {P:Program} {f:FuncId} {te tb k aQ e:Nat} (hi:kS P f te tb k aQ e) (hm:P.follows .mixedOrders=true) {xs:List AV} (hl:xs.length*aQ<=140737488355328):
 bQ P f [.sl k xs] ⟨[],[]⟩ (.ret (.own 0)) ⟨[],[.live k xs]⟩:=by
 obtain⟨fn,cd,wr,h1,h2,h3,h4,h5,h6⟩:=hi.is.prf;have hl2:xs.length<=9223372036854775807:=by
  have:=Nat.le_mul_of_pos_right xs.length hi.IP;omega
 refine HN 8 h1 h2 h3 h4 hm h5 ?_;refine PC rfl hi.un hl hl2 (λhx _=>?_) λ_=>?_
 ·subst hx;exact .inr ⟨rfl,k,[],[],[0],rfl,rfl,⟨trivial,⟨by simp[bC],by simp[oZ,bC,List.getD],trivial⟩,rfl,rfl⟩,by simp[m7,dF,le1,eP,du]⟩
 ·exact .inl ⟨[],[],[1],rfl,rfl,⟨trivial,⟨by simp[bC],by simp[oZ,bC,List.getD],trivial⟩,rfl,rfl⟩,by simp[m7,dF,le1,eP,du]⟩
theorem aez {P:Program} {f:FuncId} {te tb k aQ e:Nat} (hi:kS P f te tb k aQ e) (hm:P.follows .mixedOrders=true) {xs:List AV} (hl:xs.length*aQ<=140737488355328):
 bQ P f [.sl k xs] .nil (.ret (.sl k xs)) .nil:=by
 obtain⟨fn,cd,wr,h1,h2,h3,h4,h5,h6⟩:=hi.is.prf;have hl2:xs.length<=9223372036854775807:=by
  have:=Nat.le_mul_of_pos_right xs.length hi.IP;omega
 refine HN 8 h1 h2 h3 h4 hm h5 ?_;refine PC rfl hi.un hl hl2 (λhx _=>?_) λ_=>?_
 ·subst hx;exact .inl ⟨[],[],[],rfl,rfl,⟨trivial,trivial,rfl,rfl⟩,by simp[m7,dF,le1,eP,du]⟩
 ·exact .inl ⟨[1],[],[],rfl,rfl,⟨trivial,trivial,rfl,rfl⟩,by simp[m7,dF,le1,eP,du,bC,dt,mT,List.getD]⟩
def lS {α:Type} (aQ:Nat) (s:List α):Option (List α):=gd (Nat.ble ((0+s.length)*aQ) 140737488355328) (some s)
theorem Oj {α:Type} {aQ:Nat} {s r:List α} (h:lS aQ s=some r):s.length*aQ<=140737488355328/\r=s:=by
 obtain⟨h1,h2⟩:=bW h;cases h2;have:=Nat.le_of_ble_eq_true h1;exact⟨by simpa using this,rfl⟩
theorem agq {P:Program} {f:FuncId} {te tb aQ e i:Nat} (hi:kS P f te tb (B.k i) aQ e) (hm:P.follows .mixedOrders=true) (N:Nat):(aB.clone (B:=B) f i (λ_ s=>lS aQ s)).Ok P N:=by
 refine⟨hi.is.enters,λa r h=>?_⟩;obtain⟨h1,rfl⟩:=Oj h;have:=aeH hi hm (xs:=a.1.map (B.eA i)) (by simpa using h1);simpa only[aB.clone,aB.m,PL.o,bD.r,PX.n,PU.n,PU.l,Out.m,bD.own,BV.an,BV.av,BH.av,List.map_nil,List.map_cons,BB.av,cw]using this
theorem afT {P:Program} {f:FuncId} {te tb aQ e i:Nat} (hi:kS P f te tb (B.k i) aQ e) (hm:P.follows .mixedOrders=true) (N:Nat):(aB.Bh (B:=B) f i (λ_ s=>lS aQ s)).Ok P N:=by
 refine⟨hi.is.enters,λa r h=>?_⟩;obtain⟨h1,rfl⟩:=Oj h;have:=aez hi hm (xs:=List.map (B.eA i) (show List (T i)from r)) (by rw[List.length_map];exact h1);simpa only[aB.Bh,aB.p,PL.o,bD.r,Out.p,BV.an,BV.av,BH.av,List.map_nil,AH.nil,cw]using this
end
end
section
class bm (ι:Type) where
 ev:(ι->Prop)->Prop
 mono:∀ {P Q:ι->Prop},(∀i,P i->Q i)->ev P->ev Q
 and:∀ {P Q:ι->Prop},ev P->ev Q->ev λi=>P i/\Q i
 all:∀ {P:ι->Prop},(∀i,P i)->ev P
 ex:∀ {P:ι->Prop},ev P->∃i,P i
instance:bm Nat where
 ev P:=∃K,∀N,K<=N->P N
 mono h:=λ⟨K,hK⟩=>⟨K,λN hN=>h N (hK N hN)⟩
 and:=λ⟨K,hK⟩ ⟨L,hL⟩=>⟨max K L,λN hN=>⟨hK N (by omega),hL N (by omega)⟩⟩
 all h:=⟨0,λN _=>h N⟩
 ex:=λ⟨K,hK⟩=>⟨K,hK K (Nat.le_refl _)⟩
instance {ι:Type} [bm ι]:bm (ι×Nat) where
 ev P:=∃K,bm.ev λi:ι=>∀n,K<=n->P (i,n)
 mono h:=λ⟨K,hK⟩=>⟨K,bm.mono (λi hi n hn=>h _ (hi n hn)) hK⟩
 and:=λ⟨K,hK⟩ ⟨L,hL⟩=>⟨max K L,bm.mono (λi hi n hn=>⟨hi.1 n (by omega),hi.2 n (by omega)⟩) (bm.and hK hL)⟩
 all h:=⟨0,bm.all λi n _=>h (i,n)⟩
 ex:=λ⟨K,hK⟩=>let ⟨i,hi⟩:=bm.ex hK;⟨(i,K),hi K (Nat.le_refl _)⟩
class cD {ι:Type} [bm ι] (N:ι->Nat):Prop where
 to:∀K,bm.ev λi=>K<=N i
instance:cD (λn:Nat=>n):=⟨λK=>⟨K,λ_ h=>h⟩⟩
instance {ι:Type} [bm ι]:cD (λp:ι×Nat=>p.2):=⟨λK=>⟨K,bm.all λ_ _ h=>h⟩⟩
instance {ι:Type} [bm ι] {N:ι->Nat} [h:cD N]:cD (λp:ι×Nat=>N p.1):=⟨λK=>⟨0,bm.mono (λ_ hi _ _=>hi) (h.to K)⟩⟩
instance:cD (λp:Nat×Nat=>p.1):=⟨λK=>⟨0,K,λ_ h _ _=>h⟩⟩
instance:cD (λp:(Nat×Nat)×Nat=>p.1.1):=⟨λK=>⟨0,0,K,λ_ h _ _ _ _=>h⟩⟩
instance:cD (λp:((Nat×Nat)×Nat)×Nat=>p.1.1.1):=⟨λK=>⟨0,0,0,K,λ_ h _ _ _ _ _ _=>h⟩⟩
def Tl {ι:Type} [bm ι] {α:Type} (f:ι->Option α) (a:α):Prop:=bm.ev λi=>f i=some a
def W {ι:Type} [bm ι] {α:Type} (f:ι->Option α) (Q:α->Prop):Prop:=∃a,Tl f a/\Q a
section
variable {ι:Type} [bm ι] {α β:Type}
theorem Tl.uniq {f:ι->Option α} {a b:α} (h:Tl f a) (h':Tl f b):a=b:=by
 obtain⟨i,h1,h2⟩:=bm.ex (bm.and h h');rw[h1]at h2;exact Option.some.inj h2
theorem Tl.w {f:ι->Option α} {a:α} (h:Tl f a):W f (·=a):=⟨a,h,rfl⟩
theorem W.tl {f:ι->Option α} {a:α} (h:W f (·=a)):Tl f a:=by obtain⟨_,h,rfl⟩:=h;exact h
theorem W.mp {f:ι->Option α} {P Q:α->Prop} (h:W f P) (hi:∀a,P a->Q a):W f Q:=let ⟨a,h1,h2⟩:=h;⟨a,h1,hi a h2⟩
theorem W.and {f:ι->Option α} {P Q:α->Prop} (h:W f P) (h':W f Q):W f λa=>P a/\Q a:=by
 obtain⟨a,h1,h2⟩:=h;obtain⟨b,h3,h4⟩:=h';obtain rfl:=h1.uniq h3;exact⟨a,h1,h2,h4⟩
theorem W.ret {a:α} {Q:α->Prop}:W (λ_:ι=>some a) Q↔Q a:=
 ⟨λ⟨b,h,hq⟩=>by obtain⟨_,h⟩:=bm.ex h;cases h;exact hq,λh=>⟨a,bm.all λ_=>rfl,h⟩⟩
theorem W.none {Q:α->Prop}:W (λ_:ι=>(Option.none:Option α)) Q↔False:=
 ⟨λ⟨b,h,_⟩=>by(obtain⟨_,h⟩:=bm.ex h;cases h),λh=>h.elim⟩
theorem W.cond {c:Bool} {f g:ι->Option α} {Q:α->Prop}:W (λi=>bif c then f i else g i) Q↔(c=true->W f Q)/\(c=false->W g Q):=by
 cases c
 ·exact⟨λh=>⟨λh'=>by(cases h'),λ_=>h⟩,λh=>h.2 rfl⟩
 ·exact⟨λh=>⟨λ_=>h,λh'=>by(cases h')⟩,λh=>h.1 rfl⟩
theorem W.gd {c:Bool} {f:ι->Option α} {Q:α->Prop}:W (λi=>gd c (f i)) Q↔c=true/\W f Q:=by
 cases c with
 | true=>exact⟨λh=>⟨rfl,h⟩,λh=>h.2⟩
 | false=>
   refine⟨?_,λh=>by cases h.1⟩;rintro⟨a,h,_⟩;obtain⟨_,h⟩:=bm.ex h;cases h
theorem W.WD {x:Option β} {k:ι->β->Option α} {Q:α->Prop}:W (λi=>x.bind (k i)) Q↔∃a,x=some a/\W (λi=>k i a) Q:=by
 cases x with
 | none=>
   refine⟨?_,λh=>by obtain⟨_,h,_⟩:=h;cases h⟩;rintro⟨a,h,_⟩;obtain⟨_,h⟩:=bm.ex h;cases h
 | some a=>exact⟨λh=>⟨a,rfl,h⟩,λh=>by obtain⟨_,h,h'⟩:=h;cases h;exact h'⟩
theorem W.some {b:β} {k:ι->β->Option α} {Q:α->Prop}:W (λi=>(some b:Option β).bind (k i)) Q↔W (λi=>k i b) Q:=Iff.rfl
theorem W.sum {γ:Type} {x:β⊕γ} {f:ι->β->Option α} {g:ι->γ->Option α} {Q:α->Prop}:
 W (λi=>Sum.elim (f i) (g i) x) Q↔(∀b,x=.inl b->W (λi=>f i b) Q)/\(∀b,x=.inr b->W (λi=>g i b) Q):=by
 cases x
 ·exact⟨λh=>⟨λ_ h'=>by(cases h';exact h),λ_ h'=>by(cases h')⟩,λh=>h.1 _ rfl⟩
 ·exact⟨λh=>⟨λ_ h'=>by(cases h'),λ_ h'=>by(cases h';exact h)⟩,λh=>h.2 _ rfl⟩
theorem W.bind {f:ι->Option β} {k:ι->β->Option α} {P:β->Prop} {Q:α->Prop} (h:W f P) (hk:∀b,P b->W (λi=>k i b) Q):W (λi=>(f i).bind (k i)) Q:=by
 obtain⟨b,hb,hp⟩:=h;obtain⟨a,ha,hq⟩:=hk b hp;refine⟨a,bm.mono (λi hi=>?_) (bm.and hb ha),hq⟩;obtain⟨h1,h2⟩:=hi;show(f i).bind (k i)=_;rw[h1];exact h2
theorem W.congr {f g:ι->Option α} {Q:α->Prop} (h:bm.ev λi=>f i=g i) (h':W g Q):W f Q:=
 let ⟨a,ha,hq⟩:=h';⟨a,bm.mono (λ_ hi=>hi.1.trans hi.2) (bm.and h ha),hq⟩
theorem Tl.lift {f:ι->Option α} {b:α} (h:Tl f b):Tl (λp:ι×Nat=>f p.1) b:=⟨0,bm.mono (λ_ hi _ _=>hi) h⟩
theorem W.lift {f:ι->Option α} {Q:α->Prop} (h:W f Q):W (λp:ι×Nat=>f p.1) Q:=let ⟨a,h1,h2⟩:=h;⟨a,h1.lift,h2⟩
theorem Tl.of {f:Nat->Option α} {b:α} (h:Tl f b) (N:ι->Nat) [hN:cD N]:Tl (λi=>f (N i)) b:=by
 obtain⟨K,hK⟩:=h;exact bm.mono (λi hi=>hK _ hi) (hN.to K)
theorem W.of {f:Nat->Option α} {Q:α->Prop} (h:W f Q) (N:ι->Nat) [hN:cD N]:W (λi=>f (N i)) Q:=let ⟨a,h1,h2⟩:=h;⟨a,h1.of N,h2⟩
theorem W.call {f:Nat->Option β} {P:β->Prop} (h:W f P) {k:ι->β->Option α} {Q:α->Prop} {N:ι->Nat} [cD N] (hk:∀b,P b->W (λi=>k i b) Q):W (λi=>(f (N i)).bind (k i)) Q:=W.bind (h.of N) hk
theorem W.Wz {V R:Type} {f:ι->(V->Option R)->V->Option R} (N:ι->Nat) [hN:cD N] (P:V->Prop) (m:V->Nat) (Q:V->R->Prop)
 (h:∀(F:ι×Nat->V->Option R) v,P v->(∀v',P v'->m v'<m v->W (λp=>F p v') (Q v'))->W (λp:ι×Nat=>f p.1 (F p) v) (Q v)) (v:V) (hv:P v):
 W (λi=>aN (f i) (N i) v) (Q v):=by
 have key:∀q v,P v->m v=q->W (λp:ι×Nat=>aN (f p.1) p.2 v) (Q v):=by
  intro q
  induction q using Nat.strongRecOn with
  | ind q ih=>
    intro v hv hq;obtain⟨a,⟨K,hK⟩,ha⟩:=h (λp=>aN (f p.1) p.2) v hv λv' hv' hm=>ih _ (by omega) v' hv' rfl;refine⟨a,⟨K+1,bm.mono (λi hi n hn=>?_) hK⟩,ha⟩;obtain⟨z,rfl⟩:∃z,n=z+1:=⟨n-1,by omega⟩
    exact hi z (by omega)
 obtain⟨a,⟨K,hK⟩,ha⟩:=key _ v hv rfl;exact⟨a,bm.mono (λi hi=>hi.1 _ hi.2) (bm.and hK (hN.to K)),ha⟩
theorem W.loop {V R:Type} {f:ι->(V->Option R)->V->Option R} {Q:R->Prop} (N:ι->Nat) [hN:cD N] (P:V->Prop) (m:V->Nat)
 (h:∀(F:ι×Nat->V->Option R) v,P v->(∀v',P v'->m v'<m v->W (λp=>F p v') Q)->W (λp:ι×Nat=>f p.1 (F p) v) Q) (v:V) (hv:P v):
 W (λi=>aN (f i) (N i) v) Q:=W.Wz N P m (λ_=>Q) h v hv
theorem W.bj {α0 R:Type} {f:ι->(α0->Option R)->α0->Option R} {Q:R->Prop} (P:α0->Prop) (m:α0->Nat) {N:ι->Nat} [cD N] {u0}
 (hv:P u0) (h:∀(F:ι×Nat->α0->Option R) v0,P v0->(∀w0,P w0->m w0<m v0->W (λp=>F p w0) Q)->W (λp:ι×Nat=>f p.1 (F p) v0) Q):
 W (λi=>bj (f i) (N i) u0) Q:=
 W.loop (f:=λi next v=>f i (λu0=>next u0) v) N (λv=>P v) (λv=>m v) (λF v hp hn=>h (λp u0=>F p u0) (v) hp λw0 hw hm=>hn (w0) hw hm) u0 hv
theorem W.lp2 {α0 α1 R:Type} {f:ι->(α0->α1->Option R)->α0->α1->Option R} {Q:R->Prop} (P:α0->α1->Prop) (m:α0->α1->Nat) {N:ι->Nat} [cD N] {u0 u1}
 (hv:P u0 u1) (h:∀(F:ι×Nat->α0->α1->Option R) v0 v1,P v0 v1->(∀w0 w1,P w0 w1->m w0 w1<m v0 v1->W (λp=>F p w0 w1) Q)->W (λp:ι×Nat=>f p.1 (F p) v0 v1) Q):
 W (λi=>lp2 (f i) (N i) u0 u1) Q:=
 W.loop (f:=λi next v=>f i (λu0 u1=>next (u0,u1)) v.1 v.2) N (λv=>P v.1 v.2) (λv=>m v.1 v.2) (λF v hp hn=>h (λp u0 u1=>F p (u0,u1)) (v.1) (v.2) hp λw0 w1 hw hm=>hn (w0,w1) hw hm) (u0,u1) hv
theorem W.ce {α0 α1 α2 R:Type} {f:ι->(α0->α1->α2->Option R)->α0->α1->α2->Option R} {Q:R->Prop} (P:α0->α1->α2->Prop) (m:α0->α1->α2->Nat) {N:ι->Nat} [cD N] {u0 u1 u2}
 (hv:P u0 u1 u2) (h:∀(F:ι×Nat->α0->α1->α2->Option R) v0 v1 v2,P v0 v1 v2->(∀w0 w1 w2,P w0 w1 w2->m w0 w1 w2<m v0 v1 v2->W (λp=>F p w0 w1 w2) Q)->W (λp:ι×Nat=>f p.1 (F p) v0 v1 v2) Q):
 W (λi=>ce (f i) (N i) u0 u1 u2) Q:=
 W.loop (f:=λi next v=>f i (λu0 u1 u2=>next (u0,u1,u2)) v.1 v.2.1 v.2.2) N (λv=>P v.1 v.2.1 v.2.2) (λv=>m v.1 v.2.1 v.2.2) (λF v hp hn=>h (λp u0 u1 u2=>F p (u0,u1,u2)) (v.1) (v.2.1) (v.2.2) hp λw0 w1 w2 hw hm=>hn (w0,w1,w2) hw hm) (u0,u1,u2) hv
theorem W.gR {α0 α1 α2 α3 R:Type} {f:ι->(α0->α1->α2->α3->Option R)->α0->α1->α2->α3->Option R} {Q:R->Prop} (P:α0->α1->α2->α3->Prop) (m:α0->α1->α2->α3->Nat) {N:ι->Nat} [cD N] {u0 u1 u2 u3}
 (hv:P u0 u1 u2 u3) (h:∀(F:ι×Nat->α0->α1->α2->α3->Option R) v0 v1 v2 v3,P v0 v1 v2 v3->(∀w0 w1 w2 w3,P w0 w1 w2 w3->m w0 w1 w2 w3<m v0 v1 v2 v3->W (λp=>F p w0 w1 w2 w3) Q)->W (λp:ι×Nat=>f p.1 (F p) v0 v1 v2 v3) Q):
 W (λi=>gR (f i) (N i) u0 u1 u2 u3) Q:=
 W.loop (f:=λi next v=>f i (λu0 u1 u2 u3=>next (u0,u1,u2,u3)) v.1 v.2.1 v.2.2.1 v.2.2.2) N (λv=>P v.1 v.2.1 v.2.2.1 v.2.2.2) (λv=>m v.1 v.2.1 v.2.2.1 v.2.2.2) (λF v hp hn=>h (λp u0 u1 u2 u3=>F p (u0,u1,u2,u3)) (v.1) (v.2.1) (v.2.2.1) (v.2.2.2) hp λw0 w1 w2 w3 hw hm=>hn (w0,w1,w2,w3) hw hm) (u0,u1,u2,u3) hv
theorem W.o6 {α0 α1 α2 α3 α4 α5 R:Type} {f:ι->(α0->α1->α2->α3->α4->α5->Option R)->α0->α1->α2->α3->α4->α5->Option R} {Q:R->Prop} (P:α0->α1->α2->α3->α4->α5->Prop) (m:α0->α1->α2->α3->α4->α5->Nat) {N:ι->Nat} [cD N] {u0 u1 u2 u3 u4 u5}
 (hv:P u0 u1 u2 u3 u4 u5) (h:∀(F:ι×Nat->α0->α1->α2->α3->α4->α5->Option R) v0 v1 v2 v3 v4 v5,P v0 v1 v2 v3 v4 v5->(∀w0 w1 w2 w3 w4 w5,P w0 w1 w2 w3 w4 w5->m w0 w1 w2 w3 w4 w5<m v0 v1 v2 v3 v4 v5->W (λp=>F p w0 w1 w2 w3 w4 w5) Q)->W (λp:ι×Nat=>f p.1 (F p) v0 v1 v2 v3 v4 v5) Q):
 W (λi=>o6 (f i) (N i) u0 u1 u2 u3 u4 u5) Q:=
 W.loop (f:=λi next v=>f i (λu0 u1 u2 u3 u4 u5=>next (u0,u1,u2,u3,u4,u5)) v.1 v.2.1 v.2.2.1 v.2.2.2.1 v.2.2.2.2.1 v.2.2.2.2.2) N (λv=>P v.1 v.2.1 v.2.2.1 v.2.2.2.1 v.2.2.2.2.1 v.2.2.2.2.2) (λv=>m v.1 v.2.1 v.2.2.1 v.2.2.2.1 v.2.2.2.2.1 v.2.2.2.2.2) (λF v hp hn=>h (λp u0 u1 u2 u3 u4 u5=>F p (u0,u1,u2,u3,u4,u5)) (v.1) (v.2.1) (v.2.2.1) (v.2.2.2.1) (v.2.2.2.2.1) (v.2.2.2.2.2) hp λw0 w1 w2 w3 w4 w5 hw hm=>hn (w0,w1,w2,w3,w4,w5) hw hm) (u0,u1,u2,u3,u4,u5) hv
end
theorem fm' {α:Type} (l:List α) (i:Nat):ix l (i:Int)=l[i]?:=by simp[ix]
theorem iE {α:Type} {l:List α} {i:Int} (h0:0<=i) (h1:i<l.length):∃e,ix l i=some e/\l[i.toNat]?=some e:=by
 obtain⟨n,rfl⟩:=Int.eq_ofNat_of_zero_le h0;have:n<l.length:=by omega
 exact⟨l[n],by rw[fm'];simp[this],by simp[this]⟩
theorem W.ix {ι:Type} [bm ι] {α β:Type} {l:List β} {j:Int} {k:ι->β->Option α} {Q:α->Prop} (h0:0<=j) (h1:j<l.length) (h:∀e,ix l j=Option.some e->l[j.toNat]?=Option.some e->W (λi=>k i e) Q):
 W (λi=>(ix l j).bind (k i)) Q:=W.WD.2 (let ⟨e,h2,h3⟩:=iE h0 h1;⟨e,h2,h e h2 h3⟩)
theorem bA {n:Int}:ae n=true↔-9223372036854775808<=n/\n<=9223372036854775807:=Ap n
theorem bJ {a b:Int}:aj a b=true↔a<b:=by rw[fS];simp
theorem dg {a b:Int}:aj a b=false↔b<=a:=by rw[fS];simp
theorem dz {a b:Int}:leB a b=false↔b<a:=by rw[g6];simp
theorem W.clone {ι:Type} [bm ι] {α β:Type} {z:Nat} {l:List β} {k:ι->List β->Option α} {Q:α->Prop} (h:l.length*z<=140737488355328):W (λi=>(lS z l).bind (k i)) Q↔W (λi=>k i l) Q:=by
 have:lS z l=Option.some l:=by
  unfold lS;rw[show Nat.ble ((0+l.length)*z) 140737488355328=true from Nat.ble_eq_true_of_le (by rw[Nat.zero_add];exact h)];rfl
 rw[this];exact W.some
end
section
theorem ba {R:Type} {x:Option R}:gd true x=x:=rfl
section
variable {ι:Type} [bm ι]
theorem Ig {β:Type} {l pre rest:List β} {e:β} (h:l=pre++e::rest) (hb:(l.length:Int)<=9223372036854775807):
 aj (pre.length:Int) (l.length:Int)=true/\ix l (pre.length:Int)=some e/\ae ((pre.length:Int)+1)=true/\e∈l:=by
 subst h;have:((pre++e::rest).length:Int)=pre.length+1+rest.length:=by simp;omega
 refine⟨bJ.2 (by omega),by rw[fm'];simp,bA.2 (by omega),by simp⟩
theorem AG (n:Int):aj n n=false:=dg.2 (Int.le_refl _)
theorem wf1 {β R:Type} {l:List β} {f:ι->(Int->Option R)->Int->Option R} {Q:R->Prop} (P:List β->Prop) {N:ι->Nat} [cD N] {n:Int}
 (pre:List β) {rest:List β} (hl:l=pre++rest) (hi:n=(pre.length:Int)) (hb:(l.length:Int)<=9223372036854775807) (h0:P pre)
 (step:∀(F:ι×Nat->Int->Option R) pre e rest,l=pre++e::rest->aj (pre.length:Int) (l.length:Int)=true->ix l (pre.length:Int)=some e->ae ((pre.length:Int)+1)=true->P pre->
   (P (pre++[e])->W (λp=>F p ((pre.length:Int)+1)) Q)->W (λp:ι×Nat=>f p.1 (F p) (pre.length:Int)) Q)
 (done:∀(F:ι×Nat->Int->Option R),aj (l.length:Int) (l.length:Int)=false->P l->W (λp:ι×Nat=>f p.1 (F p) (l.length:Int)) Q):
 W (λi=>bj (f i) (N i) n) Q:=by
 subst hi;refine W.bj (λx0=>∃pre rest,l=pre++rest/\x0=(pre.length:Int)/\P pre) (λx0=>((l.length:Int)-x0).toNat) ⟨pre,rest,hl,rfl,h0⟩ ?_;rintro F x0 ⟨pre,rest,hl,rfl,hp⟩ hn;cases rest with
 | nil=>
   rw[List.append_nil]at hl;subst hl;exact done F (AG _) hp
 | cons e rest=>
   obtain⟨h1,h2,h3,_⟩:=Ig hl hb;refine step F pre e rest hl h1 h2 h3 hp fun  hw=>hn _ ⟨pre++[e],rest,by rw[hl];simp,by simp,hw⟩ ?_;have:=bJ.1 h1;omega
theorem lZ {β R:Type} {α1:Type} {l:List β} {f:ι->(Int->α1->Option R)->Int->α1->Option R} {Q:R->Prop} (P:List β->α1->Prop) {N:ι->Nat} [cD N] {u1:α1} {n:Int}
 (pre:List β) {rest:List β} (hl:l=pre++rest) (hi:n=(pre.length:Int)) (hb:(l.length:Int)<=9223372036854775807) (h0:P pre u1)
 (step:∀(F:ι×Nat->Int->α1->Option R) pre e rest v1,l=pre++e::rest->aj (pre.length:Int) (l.length:Int)=true->ix l (pre.length:Int)=some e->ae ((pre.length:Int)+1)=true->P pre v1->
   (∀w1,P (pre++[e]) w1->W (λp=>F p ((pre.length:Int)+1) w1) Q)->W (λp:ι×Nat=>f p.1 (F p) (pre.length:Int) v1) Q)
 (done:∀(F:ι×Nat->Int->α1->Option R) v1,aj (l.length:Int) (l.length:Int)=false->P l v1->W (λp:ι×Nat=>f p.1 (F p) (l.length:Int) v1) Q):
 W (λi=>lp2 (f i) (N i) n u1) Q:=by
 subst hi;refine W.lp2 (λx0 x1=>∃pre rest,l=pre++rest/\x0=(pre.length:Int)/\P pre x1) (λx0 x1=>((l.length:Int)-x0).toNat) ⟨pre,rest,hl,rfl,h0⟩ ?_;rintro F x0 x1 ⟨pre,rest,hl,rfl,hp⟩ hn;cases rest with
 | nil=>
   rw[List.append_nil]at hl;subst hl;exact done F x1 (AG _) hp
 | cons e rest=>
   obtain⟨h1,h2,h3,_⟩:=Ig hl hb;refine step F pre e rest x1 hl h1 h2 h3 hp fun  w1 hw=>hn _ w1 ⟨pre++[e],rest,by rw[hl];simp,by simp,hw⟩ ?_;have:=bJ.1 h1;omega
theorem Xp {β R:Type} {α0:Type} {l:List β} {f:ι->(α0->Int->Option R)->α0->Int->Option R} {Q:R->Prop} (P:List β->α0->Prop) {N:ι->Nat} [cD N] {u0:α0} {n:Int}
 (pre:List β) {rest:List β} (hl:l=pre++rest) (hi:n=(pre.length:Int)) (hb:(l.length:Int)<=9223372036854775807) (h0:P pre u0)
 (step:∀(F:ι×Nat->α0->Int->Option R) pre e rest v0,l=pre++e::rest->aj (pre.length:Int) (l.length:Int)=true->ix l (pre.length:Int)=some e->ae ((pre.length:Int)+1)=true->P pre v0->
   (∀w0,P (pre++[e]) w0->W (λp=>F p w0 ((pre.length:Int)+1)) Q)->W (λp:ι×Nat=>f p.1 (F p) v0 (pre.length:Int)) Q)
 (done:∀(F:ι×Nat->α0->Int->Option R) v0,aj (l.length:Int) (l.length:Int)=false->P l v0->W (λp:ι×Nat=>f p.1 (F p) v0 (l.length:Int)) Q):
 W (λi=>lp2 (f i) (N i) u0 n) Q:=by
 subst hi;refine W.lp2 (λx0 x1=>∃pre rest,l=pre++rest/\x1=(pre.length:Int)/\P pre x0) (λx0 x1=>((l.length:Int)-x1).toNat) ⟨pre,rest,hl,rfl,h0⟩ ?_;rintro F x0 x1 ⟨pre,rest,hl,rfl,hp⟩ hn;cases rest with
 | nil=>
   rw[List.append_nil]at hl;subst hl;exact done F x0 (AG _) hp
 | cons e rest=>
   obtain⟨h1,h2,h3,_⟩:=Ig hl hb;refine step F pre e rest x0 hl h1 h2 h3 hp fun  w0 hw=>hn w0 _ ⟨pre++[e],rest,by rw[hl];simp,by simp,hw⟩ ?_;have:=bJ.1 h1;omega
end
end
def ic (k:IntKind) (n:Int):Prop:=k.min<=n/\n<=k.max
def okS (s:List UInt8):Prop:=s.length<=maxLen
def lN {α:Type} (ok:α->Prop) (l:List α):Prop:=(∀x∈l,ok x)/\l.length<=maxLen
theorem aiY {s:List UInt8} (h:okS s):s.length<=9223372036854775807:=h
section
section
variable {T:Nat->Type}
structure cP (T:Nat->Type) where
 f:(i:Nat)->T i->T i->Bool
 ok:∀i x y,f i x y=true->x=y
def dE {α:Type} (g:α->α->Bool):List α->List α->Bool
 | [],[]=>true
 | x::a,y::b=>g x y&&dE g a b
 | _,_=>false
theorem eM {α:Type} {g:α->α->Bool} (h:∀x y,g x y=true->x=y):∀a b,dE g a b=true->a=b
 | [],[],_=>rfl
 | x::a,y::b,q=>by
   simp only[dE,Bool.and_eq_true]at q;rw[h x y q.1,eM h a b q.2]
 | [],_::_,q=>by cases q
 | _::_,[],q=>by cases q
def oL (E:cP T) (i j:Nat) (l:List (T i)) (m:List (T j)):Bool:=if h:i=j then dE (E.f j) (h▸l) m else false
theorem AC {E:cP T} {i j:Nat} {l:List (T i)} {m:List (T j)} (h:oL E i j l m=true):∃e:i=j,e▸l=m:=by
 unfold oL at h;split at h
 ·rename_i e;exact⟨e,eM (E.ok j) _ _ h⟩
 ·cases h
def BJ (E:cP T) (i j:Nat) (x:T i) (y:T j):Bool:=if h:i=j then E.f j (h▸x) y else false
theorem ahV {E:cP T} {i j:Nat} {x:T i} {y:T j} (h:BJ E i j x y=true):∃e:i=j,e▸x=y:=by
 unfold BJ at h;split at h
 ·rename_i e;exact⟨e,E.ok j _ _ h⟩
 ·cases h
def CA:AV->AV->Bool
 | .any,.any=>true
 | .v .nilIface,.v .nilIface=>true
 | .v .nilFunc,.v .nilFunc=>true
 | .v (.pointer none),.v (.pointer none)=>true
 | _,_=>false
theorem ahd:∀ {x y:AV},CA x y=true->x=y:=by
 intro x y h;unfold CA at h;split at h<;>first|rfl|cases h
mutual
def BV.beq (E:cP T):BV T->BV T->Bool
 | .raw x,y=>match y with
   | .raw z=>CA x z
   | _=>false
 | .emp,y=>match y with
   | .emp=>true
   | _=>false
 | .int k n,y=>match y with
   | .int k' n'=>decide (k=k')&&n==n'
   | _=>false
 | .bool a,y=>match y with
   | .bool b=>a==b
   | _=>false
 | .str a,y=>match y with
   | .str b=>a==b
   | _=>false
 | .flt k n,y=>match y with
   | .flt k' n'=>decide (k=k')&&n==n'
   | _=>false
 | .agg a,y=>match y with
   | .agg b=>gj.beq E a b
   | _=>false
 | .aL a,y=>match y with
   | .aL b=>gj.beq E a b
   | _=>false
 | .sl i l,y=>match y with
   | .sl j m=>oL E i j l m
   | _=>false
 | .own a,y=>match y with
   | .own b=>a==b
   | _=>false
 | .ptr a b,y=>match y with
   | .ptr c d=>a==c&&b==d
   | _=>false
 | .aZ a,y=>match y with
   | .aZ b=>gj.beq E a b
   | _=>false
 | .aG t x,y=>match y with
   | .aG t' z=>t==t'&&BV.beq E x z
   | _=>false
 | .tr i a,y=>match y with
   | .tr j b=>BJ E i j a b
   | _=>false
 | .bz ..,_=>false
 | .gJ _ _ _,_=>false
 | .fn ..,_=>false
def gj.beq (E:cP T):List (BV T)->List (BV T)->Bool
 | [],y=>match y with
   | []=>true
   | _=>false
 | x::a,y=>match y with
   | z::b=>BV.beq E x z&&gj.beq E a b
   | []=>false
end
mutual
theorem BV.gn (E:cP T):∀x y:BV T,BV.beq E x y=true->x=y
 | .raw x,y,h=>by cases y<;>simp only[BV.beq]at h<;>first|(rw[ahd h])|cases h
 | .emp,y,h=>by cases y<;>simp only[BV.beq]at h<;>first|rfl|cases h
 | .int k n,y,h=>by cases y<;>simp only[BV.beq]at h<;>first|(simp only[Bool.and_eq_true,decide_eq_true_eq,beq_iff_eq]at h;rw[h.1,h.2])|cases h
 | .bool a,y,h=>by cases y<;>simp only[BV.beq]at h<;>first|(rw[eq_of_beq h])|cases h
 | .str a,y,h=>by cases y<;>simp only[BV.beq]at h<;>first|(rw[eq_of_beq h])|cases h
 | .flt k n,y,h=>by cases y<;>simp only[BV.beq]at h<;>first|(simp only[Bool.and_eq_true,decide_eq_true_eq,beq_iff_eq]at h;rw[h.1,h.2])|cases h
 | .agg a,y,h=>by cases y<;>simp only[BV.beq]at h<;>first|(rw[gj.gn E a _ h])|cases h
 | .aL a,y,h=>by cases y<;>simp only[BV.beq]at h<;>first|(rw[gj.gn E a _ h])|cases h
 | .sl i l,y,h=>by cases y<;>simp only[BV.beq]at h<;>first|(obtain⟨e,q⟩:=AC h;subst e;subst q;rfl)|cases h
 | .own a,y,h=>by cases y<;>simp only[BV.beq]at h<;>first|(rw[eq_of_beq h])|cases h
 | .ptr a b,y,h=>by cases y<;>simp only[BV.beq]at h<;>first|(simp only[Bool.and_eq_true,beq_iff_eq]at h;rw[h.1,h.2])|cases h
 | .aZ a,y,h=>by cases y<;>simp only[BV.beq]at h<;>first|(rw[gj.gn E a _ h])|cases h
 | .aG t x,y,h=>by cases y<;>simp only[BV.beq]at h<;>first|(simp only[Bool.and_eq_true,beq_iff_eq]at h;rw[h.1,BV.gn E x _ h.2])|cases h
 | .bz ..,y,h=>by simp only[BV.beq]at h;cases h
 | .gJ ..,y,h=>by simp only[BV.beq]at h;cases h
 | .fn ..,y,h=>by simp only[BV.beq]at h;cases h
 | .tr i a,y,h=>by cases y<;>simp only[BV.beq]at h<;>first|(obtain⟨e,q⟩:=ahV h;subst e;subst q;rfl)|cases h
theorem gj.gn (E:cP T):∀x y:List (BV T),gj.beq E x y=true->x=y
 | [],y,h=>by cases y<;>simp only[gj.beq]at h<;>first|rfl|cases h
 | x::a,y,h=>by cases y<;>simp only[gj.beq]at h<;>first|(simp only[Bool.and_eq_true]at h;rw[BV.gn E x _ h.1,gj.gn E a _ h.2])|cases h
end
def BB.beq (E:cP T):BB T->BB T->Bool
 | .dead,.dead=>true
 | .live i l,.live j m=>oL E i j l m
 | .bf i l,.bf j m=>oL E i j l m
 | .map q i l,.map q' j m=>match decide (q=q')with
   | true=>oL E i j l m
   | false=>false
 | _,_=>false
theorem BB.gn (E:cP T) (x y:BB T) (h:BB.beq E x y=true):x=y:=by
 unfold BB.beq at h;split at h
 ·rfl
 ·obtain⟨e,q⟩:=AC h;subst e;subst q;rfl
 ·obtain⟨e,q⟩:=AC h;subst e;subst q;rfl
 ·split at h
  ·rename_i hq;have hq:=of_decide_eq_true hq;subst hq;obtain⟨e,q⟩:=AC h;subst e;subst q;rfl
  ·cases h
 ·cases h
def BH.beq (E:cP T) (x y:BH T):Bool:=dE (gj.beq E) x.box y.box&&dE (BB.beq E) x.buf y.buf
theorem BH.gn (E:cP T) (x y:BH T) (h:BH.beq E x y=true):x=y:=by
 simp only[BH.beq,Bool.and_eq_true]at h;cases x;cases y;simp only at h;rw[eM (gj.gn E) _ _ h.1,eM (BB.gn E) _ _ h.2]
def bw.or {R:Type} (g:R->R->Bool) (h:∀x y,g x y=true->x=y):bw R:=
 ⟨λx y=>match g x y with
   | true=>true
   | false=>bw.cls.f x y,λx y q=>(by
     split at q
     ·rename_i e;exact h x y e
     ·exact bw.cls.eq x y q),λx=>(by
     split
     ·rfl
     ·exact bw.cls.refl x)⟩
def cP.q1 (E:cP T):bw (BV T):=.or (BV.beq E) (BV.gn E)
def cP.q2 (E:cP T):bw (BV T×BH T):=.or (λx y=>BV.beq E x.1 y.1&&BH.beq E x.2 y.2) λx y h=>by
 simp only[Bool.and_eq_true]at h
 exact Prod.ext (BV.gn E _ _ h.1) (BH.gn E _ _ h.2)
end
end
section
def SC.strip:SC->SC
 | .alts o _=>match o with
   | some l=>.ops true l
   | none=>.bad
 | .seq a b=>.seq a.strip b.strip
 | .cond v a b=>.cond v a.strip b.strip
 | .block i a=>.block i a.strip
 | .loop a=>.loop a.strip
 | .scope a=>.scope a.strip
 | c=>c
def SI.strip:SI->SI
 | .c z=>.c z.strip
 | .lp b=>.lp b.strip
 | x=>x
theorem Oz (id:Nat):∀k:List SI,ez id (k.map SI.strip)=(ez id k).map (List.map SI.strip)
 | []=>rfl
 | x::k=>by
   have ih:=Oz id k;cases x with
   | blk i=>simp only[List.map_cons,SI.strip,ez];split<;>simp_all
   | _=>simpa only[List.map_cons,SI.strip,ez]using ih
theorem kI:∀(c:SC) (k:List SI),cH c.strip (k.map SI.strip)=(cH c k).map λp=>(p.1,p.2.map SI.strip)
 | .seq a b,k=>by
   have h1:=kI a (.c b::k);have h2:=kI b k;simp only[SC.strip,cH,List.map_append,<- h1,<- h2,List.map_cons,SI.strip]
 | .cond v a b,k=>by simp only[SC.strip,cH,List.map_append,<- kI a k,<- kI b k]
 | .block i a,k=>by
   have h1:=kI a (.blk i::k);simp only[SC.strip,cH,<- h1,List.map_cons,SI.strip]
 | .scope a,k=>by
   have h1:=kI a (.scp::k);simp only[SC.strip,cH,<- h1,List.map_cons,SI.strip]
 | .loop b,k=>by
   have h1:=kI b (.lp b::k);cases k with
   | nil=>simpa only[SC.strip,cH,List.map_cons,SI.strip,List.map_nil]using h1
   | cons x k=>cases x<;>simp only[SC.strip,cH,List.map_cons,SI.strip]at h1 ⊢<;>first|exact h1|(rw[h1])
 | .alts o l,k=>by cases o<;>rfl
 | .skip,k=>rfl
 | .ops _ _,k=>rfl
 | .priv _ _,k=>rfl
 | .exit _,k=>rfl
 | .ret,k=>rfl
 | .bad,k=>rfl
theorem Pr:∀(l:List (Nat×List SI)) (n:Nat),iG (l.map λp=>(p.1,p.2.map SI.strip)) n=(iG l n).map SI.strip
 | [],_=>rfl
 | (m,x)::l,n=>by
   simp only[List.map_cons,iG];split
   ·rfl
   ·exact Pr l n
theorem afp (c:SC) (id:Nat):fM [] c.strip id=(fM [] c id).map SI.strip:=by
 have:=kI c [];simp only[List.map_nil]at this;show iG (cH c.strip []) id=_;rw[this,Pr];rfl
theorem afH (c:SC) (id:Nat):stk [] c.strip id=(stk [] c id).map SI.strip:=by
 unfold stk;rw[afp];cases fM [] c id with
 | nil=>rfl
 | cons x k=>cases x<;>rfl
theorem aga (c:SC):hZ [] c.strip=hZ [] c:=by
 have:=kI c [];simp only[List.map_nil]at this;show lJ ((cH c.strip []).map (·.1))=lJ ((cH c []).map (·.1));rw[this,List.map_map];rfl
section
variable {T:Nat->Type} {B:Tb T} {R:Type} {G:Set B R}
theorem ae0 {go go':List SI->SE T->BH T->Option R} {dr:Bool} {k k':List SI} (h:∀e H,go k e H=go' k' e H) (h2:∀l e H,go (.ops dr l::k) e H=go' (.ops dr l::k') e H) (l:List SL) (e:SE T) (H:BH T):
 pj G go dr l k e H=pj G go' dr l k' e H:=by
 unfold pj vW vY vU vV vZ rD rC;simp only[h,h2]
theorem Ar:∀(n:Nat) {G:Set B R} (_:G.alt=none) (_:G.jm=[]) (_:G.oI=[]) (todo:List SI) (e:SE T) (H:BH T),sx G n (todo.map SI.strip) e H=sx G n todo e H
 | 0,_,_,_,_,_,_,_=>rfl
 | n+1,G,ha,hj,hm,todo,e,H=>by
   have ih:=Ar n ha hj hm;have UZ:=Ar n (G:=G.off) ha hj hm;have hJ:∀(rec off:List SI->SE T->BH T->Option R) (c:SC) (k:List SI),ph G rec off c k e H=f4 G rec off c k e H:=λrec off c k=>by unfold ph;rw[hj];rfl
   have B2:∀dr l k e H,sx G n (.ops dr l::k.map SI.strip) e H=sx G n (.ops dr l::k) e H:=λdr l k e H=>ih (.ops dr l::k) e H
   rw[Ic,Ic,hm];show gG G (sx G n) (sx G.off n) (todo.map SI.strip) e H=gG G (sx G n) (sx G.off n) todo e H;have hlp:∀k:List SI,vX G (k.map SI.strip) e H=vX G k e H:=λk=>by
    cases k with
    | nil=>rfl
    | cons x k=>cases x<;>rfl
   cases todo with
   | nil=>rfl
   | cons x k=>
     cases x with
     | blk i=>exact ih k e H
     | scp=>exact ih k e H
     | pv bs=>simp only[List.map_cons,SI.strip,gG,ih]
     | lp b=>exact hlp k
     | ops dr l=>exact ae0 (λe H=>ih k e H) (λl e H=>B2 dr l k e H) l e H
     | c c=>
       show ph G (sx G n) (sx G.off n) c.strip (k.map SI.strip) e H=ph G (sx G n) (sx G.off n) c k e H;rw[hJ,hJ];cases c with
       | skip=>exact ih k e H
       | ops d l=>
         simp only[List.map_cons,SI.strip,SC.strip,gG,f4,rE,CG,B2,UZ]
       | priv l bs=>exact ih (.ops true l::.pv bs::k) e H
       | alts o ls=>
         cases o with
         | none=>simp only[List.map_cons,SI.strip,SC.strip,gG,f4,lU,ha]
         | some l=>simp only[List.map_cons,SI.strip,SC.strip,gG,f4,lU,ha];exact(by
           have h0:rE G (sx G n) (sx G.off n) true l (k.map SI.strip) e H=sx G n (.ops true l::k.map SI.strip) e H:=by
            unfold rE;split
            ·rfl
            ·split
             ·rename_i h _;cases h
             ·rfl
           rw[h0];exact B2 true l k e H)
       | seq a b=>exact ih (.c a::.c b::k) e H
       | cond v a b=>
         have h1:∀e H,sx G n (.c a.strip::k.map SI.strip) e H=sx G n (.c a::k) e H:=λe H=>ih (.c a::k) e H
         have h2:∀e H,sx G n (.c b.strip::k.map SI.strip) e H=sx G n (.c b::k) e H:=λe H=>ih (.c b::k) e H
         simp only[List.map_cons,SI.strip,SC.strip,gG,f4,h1,h2]
       | block i a=>exact ih (.c a::.blk i::k) e H
       | loop b=>exact hlp k
       | scope a=>exact ih (.c a::.scp::k) e H
       | exit i=>
         simp only[List.map_cons,SI.strip,SC.strip,gG,f4,Oz];cases ez i k with
         | none=>rfl
         | some k'=>exact ih k' e H
       | ret=>rfl
       | bad=>rfl
end
def JO:List (Nat×List Nat×Bool)->Nat->List Nat×Bool
 | [],_=>([],false)
 | (m,x)::l,n=>match Nat.beq m n with
   | true=>x
   | false=>JO l n
def WL (P:Program) (ops:Array Oper) (draw:Bool) (w:List Nat×Bool):SC:=
 match ff (ey P (false,w.1) ops) ops.toList with
 | some l=>match w.2 with
   | false=>.ops draw (hY l)
   | true=>match np (ry l) (eW l)with
     | some bs=>.priv (hY (l.filter (FE.main (eW l)))) bs
     | none=>.bad
 | none=>.bad
def kZ (P:Program) (q:List (Nat×List Nat×Bool)):Code->SC
 | .skip=>.skip
 | .region id ops draw=>WL P ops draw (JO q id)
 | .seq a b=>.seq (kZ P q a) (kZ P q b)
 | .cond c a b=>.cond (ak c) (kZ P q a) (kZ P q b)
 | .block id a=>.block id (kZ P q a)
 | .loop a=>.loop (kZ P q a)
 | .scope a=>.scope (kZ P q a)
 | .exit id=>.exit id
 | .ret=>.ret
 | .label _=>.skip
 | _=>.bad
def aW (P:Program) (q:List (Nat×List Nat×Bool)) (fn:Func):SC:=match fn.body with
 | some c=>kZ P q c
 | none=>.bad
section
variable {T:Nat->Type}
structure UF (T:Nat->Type) where
 f:FuncId
 fn:Func
 c:SC
 h:Hint T
 md:List Bool
 lv:List (Nat×List Nat)
 own:Bool
 df:List (FuncId×Nat):=[]
 pd:List Bool:=[]
 q:Option (cP T):=none
variable (B:Tb T)
def we:Out B (BV T×BH T):=⟨λx H=>some (x,H),λr=>r,λr K=>K r.1 r.2,λ_ _=>rfl,λx H r h=>by cases h;exact⟨.refl _,.refl _⟩⟩
def kw:Out B (BV T):=⟨λx H=>match H with
 | ⟨[],[]⟩=>some x
 | _=>none,λx=>(x,⟨[],[]⟩),λr K=>K r ⟨[],[]⟩,λ_ _=>rfl,λx H r h=>by
 split at h
 ·cases h;exact⟨.refl _,.refl _⟩
 ·cases h⟩
def uM (f:FuncId) (sh:List (BV T)×BH T->Option (BV T×BH T)):aB B:=
 ⟨f,List (BV T)×BH T,BV T×BH T,[],λxs H=>some (xs,H),λa=>a,λ_=>sh,we B,false,false,λxs H a h=>(by cases h;exact⟨.refl _,.refl _⟩),λh=>(by cases h),λh=>(by cases h)⟩
def uP (f:FuncId) (pd:List Bool) (sh:List (BV T)->Option (BV T)):aB B:=
 ⟨f,List (BV T),BV T,pd,λxs H=>match H with
   | ⟨[],[]⟩=>some xs
   | _=>none,λa=>(a,⟨[],[]⟩),λ_=>sh,kw B,true,false,λxs H a h=>(by
 split at h
 ·cases h;exact⟨.refl _,.refl _⟩
 ·cases h),λ_=>⟨λ_=>rfl,λ_=>rfl⟩,λh=>(by cases h)⟩
def KD {R:Type} (ks:List Nat) (run:SE T->BH T->Option R):Lp B R:=
 ⟨{ e:SE T // e.map (·.1)=ks }×BH T,ks,[],ks,λe H=>if h:e.map (·.1)=ks then some (⟨e,h⟩,H)else none,λa=>(a.1.1,a.2),λa=>run a.1.1 a.2,λa=>a.1.2,λe H a h=>by
 split at h
 ·cases h;exact⟨λ_=>.inl (.refl _),.refl _⟩
 ·cases h⟩
def wd (F0:Nat) {R:Type} (G:List (Nat×Lp B R)->Set B R) (c:SC) (lv:List (Nat×List Nat)):Nat->List (Nat×Lp B R)
 | 0=>[]
 | n+1=>lv.map λp=>(p.1,KD B p.2 λe H=>sx (G (wd F0 G c lv n)) F0 (stk [] c p.1) e H)
def rH (P:Program) (ex:List (FuncId×EK')) (con:FuncId->List (aB B)) (N:Nat) (u:UF T) {R:Type} (md:List Bool) (o:Out B R) (al:cP T->bw R) (nb nt:Nat) (l:List (Nat×Lp B R)):Set B R:=⟨P,ex,u.h,N,con,l,kq P u.fn,⟨md,none,o⟩,nb,nt,u.fn.ntmps,λ_ _=>true,u.q.map al,u.df,[],[]⟩
def ga (F0:Nat) (P:Program) (ex:List (FuncId×EK')) (con:FuncId->List (aB B)) (N:Nat) (u:UF T) {R:Type} (md:List Bool) (o:Out B R) (al:cP T->bw R) (xs:List (BV T)) (H:BH T):Option R:=gd (Nat.ble xs.length u.fn.ntmps) (sx (rH B P ex con N u md o al H.box.length H.buf.length (wd B F0 (rH B P ex con N u md o al H.box.length H.buf.length) u.c u.lv F0)) F0 [.c u.c] (jd xs) H)
def CH (F0:Nat) (P:Program) (ex:List (FuncId×EK')) (con:FuncId->List (aB B)) (N:Nat) (u:UF T):List (aB B):=
 match u.own with
 | true=>[uM B u.f λa=>ga B F0 P ex con N u [] (we B) cP.q2 a.1 a.2,uP B u.f u.pd λa=>ga B F0 P ex con N u u.md (kw B) cP.q1 a ⟨[],[]⟩]
 | false=>[uP B u.f u.pd λa=>ga B F0 P ex con N u u.md (kw B) cP.q1 a ⟨[],[]⟩,uM B u.f λa=>ga B F0 P ex con N u u.md (we B) cP.q2 a.1 a.2]
inductive UT (T:Nat->Type) where
 | nil
 | node (l:UT T) (k:Nat) (u:UF T) (r:UT T)
def UT.look:UT T->Nat->Option (UF T)
 | .nil,_=>none
 | .node l k u r,n=>match Nat.beq n k with
   | true=>some u
   | false=>match Nat.blt n k with
     | true=>l.look n
     | false=>r.look n
def pm (F0:Nat) (P:Program) (ex:List (FuncId×EK')) (hands:FuncId->List (aB B)) (us:UT T) (N:Nat) (n:Nat):FuncId->List (aB B):=
 Nat.rec (motive:=λ_=>FuncId->List (aB B)) hands (λ_ ih f=>match us.look f with
  | some u=>CH B F0 P ex ih N u
  | none=>hands f) n
structure UF.Ok (P:Program) (u:UF T):Prop where
 is:Is P u.f u.fn.ntmps (kq P u.fn) (bd P u.fn)
 c:(match u.q with|none=>(bd P u.fn).strip|some _=>bd P u.fn)=u.c
 ids:hZ [] u.c=true
 hint:u.h.Ok B
 fJ:lG P B u.h.fJ
 lv:(u.lv.all λp=>p.2.all λi=>Nat.blt i u.fn.ntmps)=true
 df:∀p∈u.df,Idle P p.1 p.2
variable {B}
theorem Ay {F0:Nat} {P:Program} {ex:List (FuncId×EK')} {con:FuncId->List (aB B)} {N:Nat} {u:UF T} (hu:u.Ok B P) (hB:B.Ok) (hm:P.follows .mixedOrders=true) (he:jY P ex) (hc:∀f,hP P N (con f)) {R:Type} {md:List Bool} {o:Out B R} {al:cP T->bw R} {xs:List (BV T)} {H:BH T} {r:R}
 (h:ga B F0 P ex con N u md o al xs H=some r):bQ P u.f (BV.an B xs) (H.av B) (cw ((o.enc r).1.av B)) ((o.enc r).2.av B):=by
 have hcode:=hu.c;unfold ga gd at h;cases hl:Nat.ble xs.length u.fn.ntmps with
 | false=>rw[hl]at h;cases h
 | true=>
   rw[hl]at h
   let c:aB B:=⟨u.f,Unit,R,md,λ_ _=>none,λ_=>(xs,H),λ_ _=>ga B F0 P ex con N u md o al xs H,o,false,false,λ_ _ _ h=>(by cases h),λh=>(by cases h),λh=>(by cases h)⟩
   let F:Fn c:=⟨u.fn,ex,u.h,con,md,none,H.box.length,H.buf.length,λ_ _=>true,u.q.map al,u.df,[],[]⟩
   have UI:hZ [] (bd P u.fn)=true:=by
    cases hq:u.q with
    | none=>rw[hq]at hcode;rw[<- aga,show(bd P u.fn).strip=u.c from hcode];exact hu.ids
    | some E=>rw[hq]at hcode;rw[show bd P u.fn=u.c from hcode];exact hu.ids
   have ok:F.Ok P:=⟨hu.is,UI,hu.hint,hu.fJ,he,λ_=>by
    show(Nat.ble xs.length u.fn.ntmps&&Nat.beq H.box.length H.box.length&&Nat.beq H.buf.length H.buf.length)=true;rw[hl];simp⟩
   have key:c.Ok P N:=ok.give hB hm N N hc (hdf:=hu.df) λa r s hr=>by
    have hr:ga B F0 P ex con N u md o al xs H=some r:=hr;unfold ga gd at hr;rw[hl]at hr;have uR:∀n,s.kg (wd B F0 (rH B P ex con N u md o al H.box.length H.buf.length) u.c u.lv n):=by
     intro n
     induction n with
     | zero=>exact trivial
     | succ n ih=>
       have:∀l:List (Nat×List Nat),(l.all λp=>p.2.all λi=>Nat.blt i u.fn.ntmps)=true->s.kg (l.map λp=>(p.1,KD B p.2 λe H'=>sx (rH B P ex con N u md o al H.box.length H.buf.length (wd B F0 (rH B P ex con N u md o al H.box.length H.buf.length) u.c u.lv n)) F0 (stk [] u.c p.1) e H')):=by
        intro l
        induction l with
        | nil=>intro _;exact trivial
        | cons p l ihl=>
          intro hl;simp only[List.all_cons,Bool.and_eq_true]at hl;refine⟨λx hx=>?_,ihl hl.2⟩;obtain⟨⟨e,hk⟩,H'⟩:=x;exact RJ (lV (s.sx ih) F0 _ _ _ _ (bN.of hk hl.1) (Qj ok.ids p.1) (by
           show sx _ F0 (stk [] (bd P F.fn) p.1) _ _=some r;cases hq:u.q with
           | none=>
             rw[hq]at hcode;rw[<- Ar _ (by show u.q.map al=none;rw[hq];rfl) rfl rfl,<- afH,show(bd P F.fn).strip=u.c from hcode];exact hx
           | some E=>
             rw[hq]at hcode;rw[show bd P F.fn=u.c from hcode];exact hx))
       exact this _ hu.lv
    exact s.Kf F0 _ (uR F0) (by
     cases hq:u.q with
     | none=>
       rw[hq]at hcode;rw[<- Ar _ (by show u.q.map al=none;rw[hq];rfl) rfl rfl];show sx _ F0 [.c (bd P F.fn).strip] _ _=some r;rw[show(bd P F.fn).strip=u.c from hcode];exact hr
     | some E=>
       rw[hq]at hcode;show sx _ F0 [.c (bd P F.fn)] _ _=some r;rw[show bd P F.fn=u.c from hcode];exact hr)
   have h':ga B F0 P ex con N u md o al xs H=some r:=by unfold ga gd;rw[hl];exact h
   exact key.res () r h'
def UT.Ok (B:Tb T) (P:Program):UT T->Prop
 | .nil=>True
 | .node l _ u r=>l.Ok B P/\u.Ok B P/\r.Ok B P
theorem UT.look_ok {P:Program}:∀ {t:UT T},t.Ok B P->∀ {n u},t.look n=some u->u.Ok B P
 | .nil,_,_,_,h=>by cases h
 | .node l k v r,ht,n,u,h=>by
   simp only[UT.look]at h;split at h
   ·cases h;exact ht.2.1
   ·split at h
    ·exact look_ok ht.1 h
    ·exact look_ok ht.2.2 h
theorem Hw {F0:Nat} {P:Program} {ex:List (FuncId×EK')} {hands:FuncId->List (aB B)} {us:UT T} {N:Nat} (hB:B.Ok) (hm:P.follows .mixedOrders=true) (he:jY P ex) (hh:∀f,hP P N (hands f)) (hu:us.Ok B P):∀n f,hP P N (pm B F0 P ex hands us N n f)
 | 0,f=>hh f
 | n+1,f=>by
   have ih:=Hw (F0:=F0) hB hm he hh hu n;show hP P N (match us.look f with
    | some u=>CH B F0 P ex (pm B F0 P ex hands us N n) N u
    | none=>hands f)
   split
   ·rename_i u hl;have h0:=UT.look_ok hu hl;have a1:∀md,(uM B u.f λa=>ga B F0 P ex (pm B F0 P ex hands us N n) N u md (we B) cP.q2 a.1 a.2).Ok P N:=λmd=>⟨h0.is.enters,λa r hr=>Ay h0 hB hm he ih hr⟩
    have a2:(uP B u.f u.pd λa=>ga B F0 P ex (pm B F0 P ex hands us N n) N u u.md (kw B) cP.q1 a ⟨[],[]⟩).Ok P N:=⟨h0.is.enters,λa r hr=>Ay (o:=kw B) h0 hB hm he ih hr⟩
    unfold CH;split
    ·exact⟨a1 _,a2,trivial⟩
    ·exact⟨a2,a1 _,trivial⟩
   ·exact hh f
theorem UF.of {P:Program} {u:UF T} (hf:P.funcs[u.f]?=some u.fn) (hc:(match u.q with|none=>(bd P u.fn).strip|some _=>bd P u.fn)=u.c) (h:(isOk P u.fn&&hZ [] u.c&&u.lv.all λp=>p.2.all λi=>Nat.blt i u.fn.ntmps)=true) (hh:u.h.Ok B) (hm:lG P B u.h.fJ) (hdf:∀p∈u.df,Idle P p.1 p.2:=by intro p h;cases h):u.Ok B P:=by
 simp only[Bool.and_eq_true]at h;exact⟨Is.of hf h.1.1,hc,h.1.2,hh,hm,h.2,hdf⟩
variable (B) in
def kv (f:FuncId) (s:List UInt8) (r:BV T):aB B:=
 ⟨f,Unit,Unit,[],λxs H=>match xs,H with
   | [.str s'],⟨[],[]⟩=>match s'==s with
     | true=>some ()
     | false=>none
   | _,_=>none,λ_=>([.str s],⟨[],[]⟩),λ_ _=>some (),⟨λ_ _=>none,λ_=>(r,⟨[],[]⟩),λ_ K=>K r ⟨[],[]⟩,λ_ _=>rfl,λ_ _ _ h=>(by cases h)⟩,true,false,λxs H a h=>(by
 split at h
 ·split at h
  ·rename_i hs
   rw[eq_of_beq hs]
   exact⟨.refl _,.refl _⟩
  ·cases h
 ·cases h),λ_=>⟨λ_=>rfl,λ_=>rfl⟩,λh=>(by cases h)⟩
theorem Ax {F0:Nat} {P:Program} {ex:List (FuncId×EK')} {con:FuncId->List (aB B)} {N:Nat} {u:UF T} (hu:u.Ok B P) (hB:B.Ok) (hm:P.follows .mixedOrders=true) (he:jY P ex) (hc:∀f,hP P N (con f)) {md:List Bool} {s:List UInt8} {r:BV T}
 (h:ga B F0 P ex con N u md (kw B) cP.q1 [.str s] ⟨[],[]⟩=some r):(kv B u.f s r).Ok P N:=
 ⟨hu.is.enters,λ_ _ _=>Ay (o:=kw B) hu hB hm he hc h⟩
end
end
end
end Go.Proofs.YtmfkphajohcklaaGreat.U
