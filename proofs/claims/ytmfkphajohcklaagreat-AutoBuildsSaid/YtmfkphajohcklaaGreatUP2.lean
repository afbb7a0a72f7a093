/- The edges and ends behind a place, by the document. No premise beyond what each theorem says. -/
import Derived.Test.YtmfkphajohcklaaGreatUP1
set_option linter.all false
set_option linter.unusedSimpArgs false
set_option linter.unusedVariables false
namespace Go.Proofs.YtmfkphajohcklaaGreat.U
open Go
def AY (n:Nat) (nx:List Int) (ng la:Int) (a:Nat) (r:List aa×List aa×Bool):Prop:=(r=([],[],false)/\¬jP n nx ng la a)\/(jP n nx ng la a/\r.2.2=true/\∃en,r.2.1=fE en/\jc n nx ng la a r.1 en)
theorem agh {n:Nat} {nx:List Int} {ng:Int} {a q:Nat} {S:Int} (h:Rc n nx ng a q S):(q=a/\S=0)\/aK ng q=true:=by
 cases h with
 | start=>exact .inl ⟨rfl,rfl⟩
 | step _ _ _ hg=>exact .inr hg
theorem Az (en:List Int):(fE en).length=en.length:=by unfold fE;simp
theorem akc {c:bc} {t:CT} {s:bH} {n a:Nat} {nx:List Int} {ng la:Int} (hc:c.Places.length=n) (hn:n<=24) (hs:gm n t s) (ha:a<n) (hga:aK ng a=false) (hX:∀i,i<n->∀j,nb nx i j=t.nx i j) (hG:∀i,i<n->aK ng i=br c.Places i) (hL:∀i,aK la i=t.la i):
 W (λN=>tp N c s (a:Int)) (AY n nx ng la a):=by
 unfold tp;refine W.call (ajj hc hn hs ha hX hG) λl hl=>?_;have many:∀N,nS N c=some ((64*n+1:Nat):Int):=λN=>by
  unfold nS;rw[hc,show ae (64*(n:Int))=true from bA.2 (by omega),show ae (64*(n:Int)+1)=true from bA.2 (by omega),ba,ba];congr 1
 simp only[many,Option.bind_some];have hst:∀z∈l,da z=da ⟨(a:Int),0⟩\/∃q:Nat,z.at_=(q:Int)/\Rc n nx ng a q z.cu/\aK ng q=true:=λz hz=>by
  obtain⟨q,q1,q2⟩:=hl.rc z hz;rcases agh q2 with⟨h1,h2⟩|h
  ·left;show(z.at_,z.cu)=((a:Int),(0:Int))
   rw[q1,h1,h2]
  ·exact .inr ⟨q,q1,q2,h⟩
 rw[bV,W.cond];refine⟨λh=>?_,λh=>?_⟩
 ·have h:=of_decide_eq_true h;refine W.ret.2 (.inl ⟨rfl,λhf=>?_⟩);have:=hf.1 ((l.map da).erase (da ⟨(a:Int),0⟩)) (hl.nd.erase _) λz hz=>by
   obtain⟨h1,h2⟩:=(List.Nodup.mem_erase_iff hl.nd).1 hz;obtain⟨y,y1,y2⟩:=List.mem_map.1 h2;rcases hst y y1 with h|⟨q,q1,q2,q3⟩
   ·exact absurd (y2.symm.trans h) h1
   ·exact⟨q,by rw[<- y2];exact q1,by rw[<- y2];exact q2,q3⟩
  rw[List.length_erase_of_mem hl.st,List.length_map]at this;omega
 have hlen:l.length<=64*n+1:=by have:=of_decide_eq_false h;omega
 have hcl:=hl.cl hlen;have all:∀q S,Rc n nx ng a q S->∃z∈l,z.at_=(q:Int)/\z.cu=S:=λq S hr=>by
  induction hr with
  | start=>
    obtain⟨z,z1,z2⟩:=List.mem_map.1 hl.st;simp only[Prod.mk.injEq]at z2;exact⟨z,z1,z2.1,z2.2⟩
  | step _ hk hb hg ih=>
    obtain⟨z,z1,z2,z3⟩:=ih;have:=hcl z z1 _ hk (by rw[z2,Int.toNat_natCast];exact hb) hg;obtain⟨y,y1,y2⟩:=List.mem_map.1 this;simp only[Prod.mk.injEq]at y2;exact⟨y,y1,y2.1,by rw[y2.2,z3]⟩
 have BO:AW n nx ng a:=λm hm hr=>by
  have hnot:da ⟨(a:Int),0⟩ ∉ m:=λh=>by
   obtain⟨q,q1,_,q3⟩:=hr _ h;have:q=a:=by have q1:(a:Int)=(q:Int):=q1;omega
   rw[this,hga]at q3;cases q3
  have:=mh (da ⟨(a:Int),0⟩::m) (l.map da) (List.nodup_cons.2 ⟨hnot,hm⟩) λx hx=>by
   rcases List.mem_cons.1 hx with hx|hx
   ·rw[hx];exact hl.st
   ·obtain⟨q,q1,q2,_⟩:=hr x hx;obtain⟨z,z1,z2,z3⟩:=all q x.2 q2;exact List.mem_map.2 ⟨z,z1,by
     show(z.at_,z.cu)=x;rw[z2,z3,<- q1]⟩
  rw[List.length_map,List.length_cons]at this;omega
 refine W.ce (λne es (i:Int)=>∃k:Nat,∃en:List Int,i=(k:Int)/\k<=l.length/\es=fE en/\(ne.Pairwise λx y=>elt x y=true)/\(en.Pairwise λx y=>x<y)/\(∀e∈ne,lD n nx ng a e)/\(∀S∈en,iC n nx ng la a S)/\ne.length<=64/\en.length<=64/\
  (∀j z,j<k->l[j]?=some z->(∀m,m<n->nb nx z.at_.toNat m=true->aK ng m=false->(⟨(m:Int),z.cu⟩:aa)∈ne)/\(aK la z.at_.toNat=true->z.cu∈en))) (λ_ _ (i:Int)=>(l.length-i).toNat)
  ⟨0,[],rfl,by omega,rfl,List.Pairwise.nil,List.Pairwise.nil,(λe he=>by cases he),(λS hS=>by cases hS),by simp,by simp,λj z hj=>by omega⟩ ?_
 rintro F ne es i ⟨k,en,rfl,k0,rfl,k1,k2,k3,k4,k5,k6,k7⟩ hg;unfold GO;rw[bV,W.cond];refine⟨λh=>?_,λh=>?_⟩
 rotate_left
 ·have hk:k=l.length:=by have:=of_decide_eq_false h;omega
  subst hk;have tn:∀e,lD n nx ng a e->e∈ne:=λe ⟨q,m,e1,e2,e3,e4,e5⟩=>by
   obtain⟨z,z1,z2,z3⟩:=all q e.aT e1;obtain⟨j,hj⟩:=List.mem_iff_getElem?.1 z1;have:=(k7 j z (List.getElem?_eq_some_iff.1 hj).1 hj).1 m e3 (by rw[z2,Int.toNat_natCast];exact e4) e5;rw[z3,<- e2]at this;exact this
  have te:∀S,iC n nx ng la a S->S∈en:=λS ⟨q,e1,e2⟩=>by
   obtain⟨z,z1,z2,z3⟩:=all q S e1;obtain⟨j,hj⟩:=List.mem_iff_getElem?.1 z1;have:=(k7 j z (List.getElem?_eq_some_iff.1 hj).1 hj).2 (by rw[z2,Int.toNat_natCast];exact e2)
   rwa [z3]at this
  refine W.ret.2 (.inr ⟨⟨BO,λm hm hE=>?_,λm hm hE=>?_⟩,rfl,en,rfl,⟨k1,k2,λe=>⟨k3 e,tn e⟩,λS=>⟨k4 S,te S⟩⟩⟩)
  ·exact Nat.le_trans (mh m ne (OW hm) λe he=>tn e (hE e he)) k5
  ·exact Nat.le_trans (mh m en (hm.imp (by intro x y h e;omega)) λS hS=>te S (hE S hS)) k6
 have hk:=of_decide_eq_true h;obtain⟨z,z1⟩:∃z,l[k]?=some z:=⟨l[k],List.getElem?_eq_getElem hk⟩
 have zk:ix l (k:Int)=some z:=by rw[fm'];exact z1
 obtain⟨q,q1,q2⟩:=hl.rc z (List.mem_of_getElem? z1);have j5:=q2.lt ha;have JS:q<32:=by omega
 refine W.lp2 (λne' (x:Int)=>∃m:Nat,x=(m:Int)/\m<=n/\(ne'.Pairwise λx y=>elt x y=true)/\(∀e∈ne',lD n nx ng a e)/\(∀e∈ne,e∈ne')/\ne'.length<=ne.length+m/\
  ∀j,j<m->nb nx q j=true->aK ng j=false->(⟨(j:Int),z.cu⟩:aa)∈ne') (λ_ (x:Int)=>(n-x).toNat) ⟨0,rfl,by omega,k1,k3,λ_ h=>h,by omega,λj hj=>by omega⟩ ?_
 rintro H ne' x ⟨m,rfl,m0,m1,m2,m3,m4,m5⟩ hm;unfold GP;rw[hc,bV,W.cond];refine⟨λh=>?_,λh=>?_⟩
 ·have hmn:=of_decide_eq_true h;have gz:m<32:=by omega
  obtain⟨p,e1,e2⟩:=iE (l:=c.Places) (i:=(m:Int)) (by omega) (by omega);have hp:br c.Places m=p.Neg:=by unfold br;rw[show c.Places[m]?=some p by simpa using e2]
  have hbit:(ah.l (s.Next.getD q (ah.c false))).getD m false=nb nx q m:=by rw[hs.nx q j5 m gz,hX q j5]
  have i1:ae ((m:Int)+1)=true:=bA.2 (by omega);simp only[zk,Option.bind_some,q1,mY (show q<s.Next.length by rw[hs.len];exact j5) (ah.c false),show leB 0 (m:Int)=true from a8.2 (by omega),show aj (m:Int) 32=true from bJ.2 (by omega),ba,iD _ gz false,hbit,e1,i1];have rB:∀j,j<m+1->j<m\/j=m:=λj h=>by omega
  have skip:(nb nx q m=true->aK ng m=false->False)->W (λp=>H p ne' ((m:Int)+1)) (AY n nx ng la a):=λhh=>hm _ _ ⟨m+1,by omega,hmn,m1,m2,m3,by omega,λj hj hb hgj=>by
   rcases rB j hj with h|rfl
   ·exact m5 j h hb hgj
   ·exact(hh hb hgj).elim⟩ (by omega)
  rw[W.cond];refine⟨λhb=>?_,λhb=>skip λhb'=>by rw[hb]at hb';cases hb'⟩;rw[W.cond];refine⟨λhgn=>?_,λhgn=>skip λ_ hg'=>by rw[hG m hmn,hp]at hg';rw[hg']at hgn;cases hgn⟩;have hgm:aK ng m=false:=by rw[hG m hmn,hp];simpa using hgn
  refine W.call (SY (by omega)) ?_;rintro _ rfl;have hil:=P8 ⟨(m:Int),z.cu⟩ ne';refine hm _ _ ⟨m+1,by omega,hmn,Hd _ _ m1,λe he=>?_,λe he=>(nZ _ _ _).2 (.inr (m3 e he)),by omega,λj hj hb' hgj=>?_⟩ (by omega)
  ·rcases (nZ _ _ _).1 he with he|he
   ·rw[he];exact⟨q,m,q2,rfl,hmn,hb,hgm⟩
   ·exact m2 e he
  ·rcases rB j hj with h|rfl
   ·exact(nZ _ _ _).2 (.inr (m5 j h hb' hgj))
   ·exact(nZ _ _ _).2 (.inl rfl)
 ·have hmn:m=n:=by have:=of_decide_eq_false h;omega
  subst hmn;have hbit:(ah.l s.Last).getD q false=aK la q:=by rw[hs.la q JS,hL]
  simp only[zk,Option.bind_some,q1,show leB 0 (q:Int)=true from a8.2 (by omega),show aj (q:Int) 32=true from bJ.2 (by omega),ba,iD _ JS false,hbit];have i1:ae ((k:Int)+1)=true:=bA.2 (by omega);simp only[i1,ba];have WY:∀j,j<k+1->j<k\/j=k:=λj h=>by omega
  have rest:∀en':List Int,(en'.Pairwise λx y=>x<y)->(∀S∈en',iC m nx ng la a S)->(∀S∈en,S∈en')->(aK la q=true->z.cu∈en')->W (λp:(Nat×Nat)×Nat=>bif aj 64 (List.length ne':Int)then some ([],[],false)else bif aj 64 (List.length (fE en'):Int)then some ([],[],false)else F p.1 ne' (fE en') ((k:Int)+1)) (AY m nx ng la a):=λen' r1 r2 r3 r4=>by
   rw[W.cond];refine⟨λh=>W.ret.2 (.inl ⟨rfl,λhf=>?_⟩),λh=>?_⟩
   ·have:=hf.2.1 ne' m1 m2;have:=bJ.1 h;omega
   have hne:=dg.1 h;rw[W.cond];refine⟨λh=>W.ret.2 (.inl ⟨rfl,λhf=>?_⟩),λh=>?_⟩
   ·have:=hf.2.2 en' r1 r2;have h:=bJ.1 h;rw[Az]at h;omega
   have hne2:=dg.1 h;rw[Az]at hne2;refine(hg _ _ _ ⟨k+1,en',by omega,by omega,rfl,m1,r1,m2,r2,by omega,by omega,λj z' hj hz'=>?_⟩ (by omega)).lift;rcases WY j hj with h|rfl
   ·obtain⟨u1,u2⟩:=k7 j z' h hz';exact⟨λr hr hb hgr=>m3 _ (u1 r hr hb hgr),λhl=>r3 _ (u2 hl)⟩
   ·rw[z1]at hz';cases hz';rw[q1,Int.toNat_natCast];exact⟨m5,r4⟩
  rw[W.cond];refine⟨λhla=>?_,λhla=>rest en k2 k4 (λ_ h=>h) λh=>by rw[hla]at h;cases h⟩;refine W.call (SY (by rw[Az];omega)) ?_;rintro _ rfl;obtain⟨en',he⟩:=aij z.cu en;have hmem:∀S,S∈en'↔S=z.cu\/S∈en:=λS=>by
   rw[<- QL,<- he,nZ,QL];simp
  have hpw:en'.Pairwise λx y=>x<y:=by
   rw[<- PT,<- he];exact Hd _ _ (PT.2 k2)
  rw[he];refine rest en' hpw (λS hS=>?_) (λS hS=>(hmem S).2 (.inr hS)) λ_=>(hmem _).2 (.inl rfl);rcases (hmem S).1 hS with h|h
  ·rw[h];exact⟨q,q2,hla⟩
  ·exact k4 S h
def FX (n:Nat) (nx:List Int) (ng la:Int) (a:Nat) {γ:Type} (cells:γ) (r:List aa×List Int×Bool×γ):Prop:=r.2.2.2=cells/\(r.2.2.1=false->¬jP n nx ng la a)/\(r.2.2.1=true->jP n nx ng la a/\jc n nx ng la a r.1 r.2.1)
def Sk (ng:Int) (sn:List bX):Prop:=(sn.map λy=>(y.k.To,y.k.aT)).Nodup/\∀y∈sn,aK ng y.k.To.toNat=true
theorem Sk.add {ng:Int} {sn:List bX} (h:Sk ng sn) {k:Nat} {S:Int} {u:pV} (hk:aK ng k=true) (hn:∀y∈sn,y.k≠⟨(k:Int),S⟩):Sk ng (sn++[⟨⟨(k:Int),S⟩,u⟩]):=by
 refine⟨?_,λy hy=>?_⟩
 ·rw[List.map_append,List.Nodup,List.pairwise_append];refine⟨h.1,List.pairwise_singleton _ _,λx hx y hy e=>?_⟩;simp only[List.map_cons,List.map_nil,List.mem_singleton]at hy;obtain⟨z,z1,z2⟩:=List.mem_map.1 hx;have:=z2.trans (e.trans hy);simp only[Prod.mk.injEq]at this;exact hn z z1 (p8.2 this)
 ·rcases List.mem_append.1 hy with hy|hy
  ·exact h.2 y hy
  ·rw[List.mem_singleton.1 hy];exact hk
theorem aiJ {n:Nat} {y:List ai} {y2:List aA} {y3:Int} {y4:List UInt8} {y5:Int} {y6:Bool} {y7 y8:Int} {y9:List Int} {bl:Int} {a:Nat} (hn:n<=24) (ha:a<n) (hy:y2.length=n) (h8:u32 y8) (h9:ie n y9) (h10:u32 bl) (hga:aK bl a=false):
 W (λN=>l9 N a y y2 y3 y4 y5 y6 y7 y8 y9 bl) (FX n y9 bl y8 a (y,y2,y3,y4,y5,y6,y7,y8,y9,bl)):=by
 unfold l9;refine W.gR (λnx en sn td=>Inv n y9 bl y8 a td sn nx en/\sn.length<=65*n/\nx.length+n*(2*(65*n-sn.length)+td.length)<=n*(130*n+1)/\en.length+(2*(65*n-sn.length)+td.length)<=130*n+1/\Sk bl sn/\(td.length=0->sn.length<=64*n)) (λ_ _ sn td=>2*(65*n-sn.length)+td.length) ?_ ?_
 ·refine⟨⟨λz hz=>?_,λy hy=>by simp at hy,λe he=>by simp at he,λS hS=>by simp at hS,λz hz=>?_⟩,by simp,by simp;exact Nat.mul_le_mul_left _ (by omega),by simp;omega,⟨List.Pairwise.nil,λy hy=>by cases hy⟩,λ_=>by simp⟩
  ·rw[List.mem_singleton.1 hz];exact⟨a,rfl,.start⟩
  ·rcases hz with rfl|⟨y,h,_⟩
   ·exact .inl (by simp)
   ·simp at h
 intro F nx en sn td ⟨hI,b1,b2,b3,b4,b5⟩ hg;unfold sq;simp only[fO];rw[W.cond];have hnn:n*(130*n+1)<=24*(130*24+1):=Nat.mul_le_mul hn (by omega);refine⟨λhc=>?_,λhc=>?_⟩
 rotate_left
 ·
  have hc:=dg.1 hc;have htd:td=[]:=List.eq_nil_of_length_eq_zero (by omega);subst htd;refine W.call (ajh (by simp at b2;omega)) λr hr=>?_;subst hr;refine W.call (aji (by simp at b3;omega)) λr hr=>?_;subst hr;have g1:(nx.mergeSort λx y=>!elt y x).length=nx.length:=List.length_mergeSort _;have g2:(en.mergeSort λx y=>decide (x<=y)).length=en.length:=List.length_mergeSort _;simp only[rV,r9,g1,g2,show Nat.ble nx.length 4611686018427387903=true from Nat.ble_eq_true_of_le (by simp at b2;omega),show Nat.ble en.length 4611686018427387903=true from Nat.ble_eq_true_of_le (by simp at b3;omega),ba,Option.bind_some];have told:Told n y9 bl y8 a (cE (nx.mergeSort λx y=>!elt y x)) (cF (en.mergeSort λx y=>decide (x<=y))):=by
   have h:=hI.told;refine⟨λe he=>h.tn e ?_,λS hS=>h.te S ?_,λq S hr=>⟨λk hk hb h0=>?_,λhl=>?_⟩⟩
   ·rw[tK,List.mem_mergeSort]at he;exact he
   ·rw[tL,List.mem_mergeSort]at hS;exact hS
   ·rw[tK,List.mem_mergeSort];exact(h.ta q S hr).1 k hk hb h0
   ·rw[tL,List.mem_mergeSort];exact(h.ta q S hr).2 hl
  have key:∀q S,Rc n y9 bl a q S->(⟨(q:Int),S⟩:aa)=⟨(a:Int),0⟩\/∃y∈sn,y.k=⟨(q:Int),S⟩:=λq S hr=>by
   induction hr with
   | start=>exact .inl rfl
   | step _ hk hb hg ih=>
     rename_i q' k' S' h';rcases hI.dn _ ih with h1|h1
     ·cases h1
     ·exact .inr ((h1.1 k' hk (by simpa using hb)).2 hg)
  have ku:jc n y9 bl y8 a (cE (nx.mergeSort λx y=>!elt y x)) (cF (en.mergeSort λx y=>decide (x<=y))):=⟨WO ⟨_,rfl⟩,WP ⟨_,rfl⟩,λe=>⟨told.tn e,λ⟨q,k,e1,e2,e3,e4,e5⟩=>by
   have:=(told.ta q e.aT e1).1 k e3 e4 e5
   rwa [<- e2]at this⟩,λS=>⟨told.te S,λ⟨q,e1,e2⟩=>(told.ta q S e1).2 e2⟩⟩
  have BO:AW n y9 bl a:=λm hm hr=>by
   have:=mh m (sn.map λy=>(y.k.To,y.k.aT)) hm λz hz=>by
    obtain⟨q,q1,q2,q3⟩:=hr z hz;rcases key q z.2 q2 with h|⟨y,y1,y2⟩
    ·have:=(p8.1 h).1;have:q=a:=by have h:(q:Int)=(a:Int):=this;omega
     rw[this,hga]at q3;cases q3
    ·exact List.mem_map.2 ⟨y,y1,by
      show(y.k.To,y.k.aT)=z;rw[y2,<- q1]⟩
   rw[List.length_map]at this;exact Nat.le_trans this (b5 rfl)
  generalize cE (nx.mergeSort λx y=>!elt y x)=E at ku ⊢;generalize cF (en.mergeSort λx y=>decide (x<=y))=U at ku ⊢;rw[W.cond];refine⟨λh=>W.ret.2 ⟨rfl,λh' hf=>?_,λh'=>⟨⟨BO,λm hm hE=>Nat.le_trans (mh m E (OW hm) λe he=>(ku.mn e).2 (hE e he)) ?_,λm hm hE=>Nat.le_trans (mh m U (hm.imp (by intro x y h e;omega)) λS hS=>(ku.me S).2 (hE S hS)) ?_⟩,ku⟩⟩,λh=>W.ret.2 ⟨rfl,λh' hf=>?_,λh'=>by cases h'⟩⟩
  ·have:=hf.2.2 U ku.pe λS hS=>(ku.me S).1 hS;have h':leB (U.length:Int) 64=false:=h';have:=dz.1 h';omega
  ·have:=a8.1 h;omega
  ·have h':leB (U.length:Int) 64=true:=h';have:=a8.1 h';omega
  ·have:=hf.2.1 E ku.pn λe he=>(ku.mn e).1 he;have:=dz.1 h;omega
 have hc:=bJ.1 hc;rw[W.gd,hy];refine⟨bA.2 (by omega),?_⟩;rw[W.cond];refine⟨λhs=>W.ret.2 ⟨rfl,λ_ hf=>?_,λh=>by cases h⟩,λhs=>?_⟩
 ·have:=hf.1 (sn.map λy=>(y.k.To,y.k.aT)) b4.1 λz hz=>by
   obtain⟨y,y1,y2⟩:=List.mem_map.1 hz;obtain⟨q,q1,q2⟩:=hI.rs y y1;have q3:=b4.2 y y1;rw[q1,Int.toNat_natCast]at q3;rw[<- y2];exact⟨q,q1,q2,q3⟩
  rw[List.length_map]at this;have:=bJ.1 hs;omega
 have hs:=dg.1 hs;obtain⟨t,x,rfl⟩:∃t x,td=t++[x]:=by
  rcases List.eq_nil_or_concat td with rfl|⟨t,x,rfl⟩
  ·simp at hc
  ·exact⟨t,x,by simp⟩
 have hx:ix (t++[x]) (((t++[x]).length:Int)-1)=some x:=by
  rw[bL (by simp),fm'];simp
 have htk:List.take (Int.toNat (((t++[x]).length:Int)-1)) (t++[x])=t:=by
  rw[bL (by simp),Int.toNat_natCast];simp
 obtain⟨q,hq,hr⟩:=hI.rt x (by simp);have j5:=hr.lt ha;simp only[hx,htk,Option.bind_some,W.gd,show ae (((t++[x]).length:Int)-1)=true from bA.2 (by simp at b3 ⊢;omega),show leB 0 (((t++[x]).length:Int)-1)=true from a8.2 (by omega),show leB (((t++[x]).length:Int)-1) ((t++[x]).length:Int)=true from a8.2 (by omega),true_and,hq,oG h8];simp only[List.length_append,List.length_singleton]at b2 b3;have hmul:n*(2*(65*n-sn.length)+(t.length+1))=n*(2*(65*n-sn.length)+t.length)+n:=by rw[<- Nat.add_assoc,Nat.mul_succ]
 have inner:∀en':List Int,(∀S∈en,S∈en')->(aK y8 q=true->x.aT∈en')->(∀S∈en',iC n y9 bl y8 a S)->en'.length+(2*(65*n-sn.length)+t.length)<=130*n+1->
  W (λp:Nat×Nat=>gR (sr p.1 (n:Int) y9 bl (q:Int) x.aT en' (F p)) p.1 0 nx sn t) (FX n y9 bl y8 a (y,y2,y3,y4,y5,y6,y7,y8,y9,bl)):=by
  intro en' m1 m2 m3 m4;refine W.gR (λz nx' sn' td'=>∃k:Nat,z=(k:Int)/\k<=n/\(∀z∈td',q8 n y9 bl a z)/\(∀y∈sn',q8 n y9 bl a y.k)/\(∀e∈nx',lD n y9 bl a e)/\
   (∀z:aa,(z=⟨(a:Int),0⟩\/∃y∈sn',y.k=z)->z=x\/z∈td'\/Pd n y9 bl y8 sn' nx' en' z)/\
   (∀j,j<k->nb y9 q j=true->(aK bl j=false->(⟨(j:Int),x.aT⟩:aa)∈nx')/\(aK bl j=true->∃y∈sn',y.k=⟨(j:Int),bE .u32 x.aT (ob j)⟩))/\
   td'.length+sn.length=t.length+sn'.length/\sn.length<=sn'.length/\sn'.length<=sn.length+k/\nx'.length<=nx.length+k/\Sk bl sn') (λz _ _ _=>(n-z).toNat) ⟨0,rfl,by omega,λz hz=>hI.rt z (by simp[hz]),hI.rs,hI.rn,λz hz=>?_,λj hj=>by omega,by omega,by omega,by omega,by omega,b4⟩ ?_
  ·rcases hI.dn z hz with h|h
   ·rcases List.mem_append.1 h with h|h
    ·exact .inr (.inl h)
    ·exact .inl (List.mem_singleton.1 h)
   ·exact .inr (.inr (h.mono (λ_ h=>h) (λ_ h=>h) m1))
  rintro G z nx' sn' td' ⟨k,rfl,k0,k1,k2,k3,k4,k5,k6,k7,k8,k9,k10⟩ hm;unfold sr;rw[bV,W.cond];refine⟨λhk=>?_,λhk=>?_⟩
  rotate_left
  ·have hk:=of_decide_eq_false hk;obtain rfl:k=n:=by omega
   refine(hg _ _ _ _ ⟨⟨k1,k2,k3,m3,λz hz=>?_⟩,by omega,?_,by omega,k10,λh=>by omega⟩ ?_).lift
   ·rcases k4 z hz with rfl|h|h
    ·refine .inr ⟨λj hj hb=>?_,λhl=>m2 (by rw[hq]at hl;simpa using hl)⟩;rw[hq]at hb;exact k5 j hj (by simpa using hb)
    ·exact .inl h
    ·exact .inr h
   ·have e:2*(65*k-sn'.length)+td'.length<=2*(65*k-sn.length)+t.length:=by omega
    have:=Nat.mul_le_mul_left k e;omega
   ·simp only[List.length_append,List.length_singleton];omega
  have hk:=of_decide_eq_true hk;obtain⟨e3,f1,f2⟩:=Iq h9 j5;have hnb:aK e3 k=nb y9 q k:=by
   unfold nb;rw[fm']at f1;simp[List.getD,f1]
  simp only[f1,Option.bind_some,oG f2,oG h10,hnb,Cu (show k<32 by omega),bF];have hob:=(lL (k:=k) (by omega)).1;have qR:=hr.u hn;have i1:ae ((k+1:Nat):Int)=true:=aD (by omega);have step:∀j,j<k+1->j<k\/j=k:=λj h=>by omega
  rw[W.cond];refine⟨λhb=>?_,λhb=>?_⟩
  ·have hb:nb y9 q k=false:=by simpa using hb
   rw[W.gd];exact⟨i1,hm _ _ _ _ ⟨k+1,rfl,hk,k1,k2,k3,k4,(λj hj hjb=>by
    rcases step j hj with h|rfl
    ·exact k5 j h hjb
    ·rw[hb]at hjb;cases hjb),k6,k7,by omega,by omega,k10⟩ (by omega)⟩
  have hb:nb y9 q k=true:=by simpa using hb
  rw[W.cond];refine⟨λhg0=>?_,λhg0=>?_⟩
  ·have hg0:aK bl k=false:=by simpa using hg0
   rw[W.gd,W.gd];refine⟨Nat.ble_eq_true_of_le (by omega),i1,hm _ _ _ _ ⟨k+1,rfl,hk,k1,k2,λe he=>?_,λz hz=>?_,λj hj hjb=>?_,k6,k7,by omega,by simp;omega,k10⟩ (by omega)⟩
   ·rcases List.mem_append.1 he with he|he
    ·exact k3 e he
    ·rw[List.mem_singleton.1 he];exact⟨q,k,hr,rfl,hk,hb,hg0⟩
   ·rcases k4 z hz with h|h|h
    ·exact .inl h
    ·exact .inr (.inl h)
    ·exact .inr (.inr (h.mono (λ_ h=>h) (λ_ h=>by simp[h]) (λ_ h=>h)))
   ·rcases step j hj with h|rfl
    ·exact⟨λh0=>by simp[(k5 j h hjb).1 h0],(k5 j h hjb).2⟩
    ·exact⟨(λ_=>by simp),(λh=>by rw[hg0]at h;cases h)⟩
  have hg0:aK bl k=true:=by simpa using hg0
  have hnew:q8 n y9 bl a ⟨(k:Int),bE .u32 x.aT (ob k)⟩:=⟨k,rfl,.step hr hk hb hg0⟩
  have hS2:=(gH qR hob).1;show W (λp:(Nat×Nat)×Nat=>gd (leB 0 (k:Int)) (gd (ju ([.i64,.u32]:List IntKind) [(k:Int),bE .u32 x.aT (ob k)]) (vv (List.find? (λy13=>(y13.k.To==(k:Int))&&(y13.k.aT==bE .u32 x.aT (ob k))) sn') (gd (ju ([.i64,.u32]:List IntKind) [(k:Int),bE .u32 x.aT (ob k)]) (gd (Nat.ble ((List.length td'+1)*16) 140737488355328) (gd (ae ((k+1:Nat):Int)) (G p ((k+1:Nat):Int) nx' (kj (λkR=>(kR.k.To==(k:Int))&&(kR.k.aT==bE .u32 x.aT (ob k))) (bX.mk (aa.mk (k:Int) (bE .u32 x.aT (ob k))) (pV.mk )) sn') (td'++[aa.mk (k:Int) (bE .u32 x.aT (ob k))]))))) λy13=>gd (ae ((k+1:Nat):Int)) (G p ((k+1:Nat):Int) nx' sn' td')))) _;simp only[show leB 0 (k:Int)=true from a8.2 (by omega),Wu (show k<24 by omega) hS2,ba,i1];have hfk:=ag9 (x:=(k:Int)) (S:=bE .u32 x.aT (ob k)) (l:=sn');cases hf:List.find? (λy13=>(y13.k.To==(k:Int))&&(y13.k.aT==bE .u32 x.aT (ob k))) sn' with
  | some v=>
    obtain⟨v1,v2⟩:=hfk.2 v hf;exact hm _ _ _ _ ⟨k+1,rfl,hk,k1,k2,k3,k4,(λj hj hjb=>by
     rcases step j hj with h|rfl
     ·exact k5 j h hjb
     ·exact⟨(λh=>by rw[hg0]at h;cases h),λ_=>⟨v,v1,v2⟩⟩),k6,k7,by omega,by omega,k10⟩ (by omega)
  | none=>
    rw[Q4 hf];show W (λp:(Nat×Nat)×Nat=>gd (Nat.ble ((List.length td'+1)*16) 140737488355328) _) _;rw[W.gd];refine⟨Nat.ble_eq_true_of_le (by omega),hm _ _ _ _ ⟨k+1,rfl,hk,λz hz=>?_,λy hy=>?_,k3,λz hz=>?_,λj hj hjb=>?_,by simp;omega,by simp;omega,by simp;omega,by omega,k10.add hg0 (hfk.1 hf)⟩ (by omega)⟩
    ·rcases List.mem_append.1 hz with hz|hz
     ·exact k1 z hz
     ·rw[List.mem_singleton.1 hz];exact hnew
    ·rcases List.mem_append.1 hy with hy|hy
     ·exact k2 y hy
     ·rw[List.mem_singleton.1 hy];exact hnew
    ·have old:(z=⟨(a:Int),0⟩\/∃y∈sn',y.k=z)\/z=⟨(k:Int),bE .u32 x.aT (ob k)⟩:=by
      rcases hz with h|⟨y,h1,h2⟩
      ·exact .inl (.inl h)
      ·rcases List.mem_append.1 h1 with h1|h1
       ·exact .inl (.inr ⟨y,h1,h2⟩)
       ·rw[List.mem_singleton.1 h1]at h2;exact .inr h2.symm
     rcases old with h|h
     ·rcases k4 z h with h|h|h
      ·exact .inl h
      ·exact .inr (.inl (by simp[h]))
      ·exact .inr (.inr (h.mono (λ_ h=>by simp[h]) (λ_ h=>h) (λ_ h=>h)))
     ·exact .inr (.inl (by rw[h];simp))
    ·rcases step j hj with h|rfl
     ·exact⟨(k5 j h hjb).1,λh0=>let ⟨y,q1,q2⟩:=(k5 j h hjb).2 h0;⟨y,by simp[q1],q2⟩⟩
     ·exact⟨(λh=>by rw[hg0]at h;cases h),λ_=>⟨_,List.mem_append_right _ (List.mem_singleton.2 rfl),rfl⟩⟩
 rw[W.cond];refine⟨λhl=>?_,λhl=>?_⟩
 ·rw[W.gd];refine⟨Nat.ble_eq_true_of_le (by omega),inner _ (λS h=>by simp[h]) (λ_=>by simp) (λS hS=>?_) (by simp;omega)⟩;rcases List.mem_append.1 hS with hS|hS
  ·exact hI.re S hS
  ·rw[List.mem_singleton.1 hS];exact⟨q,hr,hl⟩
 ·exact inner en (λ_ h=>h) (λh=>by rw[hl]at h;cases h) hI.re (by omega)
section
theorem W.lF {ι:Type} [bm ι] {R:Type} {f:ι->Option R->Option R} {Q:R->Prop} {N:ι->Nat} [cD N] (h:∀F:ι×Nat->Option R,W (λp:ι×Nat=>f p.1 (F p)) Q):W (λi=>lF (f i) (N i)) Q:=
 W.loop (f:=λi next (_:Unit)=>f i (next ())) N (λ_=>True) (λ_=>0) (λF v _ _=>h λp=>F p ()) () trivial
def dI (t:CT):Nat->List aa
 | 0=>[]
 | k+1=>dI t k++(if t.fi k then[⟨(k:Int),0⟩]else[])
theorem Aw (t:CT):∀k,(dI t k).length<=k
 | 0=>Nat.le_refl _
 | k+1=>by
   have:=Aw t k;rw[dI,List.length_append];split<;>simp<;>omega
section
variable (c:bc) (t:CT) (nx:List Int) (ng la:Int)
structure oy:Prop where
 xx:∀i,i<c.Places.length->∀j,nb nx i j=t.nx i j
 gg:∀i,i<c.Places.length->aK ng i=br c.Places i
 ll:∀i,aK la i=t.la i
def Bad:Prop:=∃i,i<c.Places.length/\br c.Places i=true/\(t.fi i=true\/jS c.Places.length t.nx (br c.Places) i=true)
structure ud (r:aV):Prop where
 st:r.Start=dI t c.Places.length
 nl:r.Next.length=c.Places.length
 el:r.Ends.length=c.Places.length
 nn:∀i,i<c.Places.length->br c.Places i=true->r.Next.getD i []=[]/\r.Ends.getD i []=[]
 tl:∀i,i<c.Places.length->br c.Places i=false->jP c.Places.length nx ng la i/\jc c.Places.length nx ng la i (r.Next.getD i []) (r.Ends.getD i [])
abbrev oH:aV:=⟨[],[],[]⟩
def BQ (r:aV×Int):Prop:=(r=(oH,17)/\Bad c t)\/¬Bad c t/\((r=(oH,16)/\t.nl=true)\/t.nl=false/\((r=(oH,18)/\∃i,i<c.Places.length/\br c.Places i=false/\¬jP c.Places.length nx ng la i)\/r.2=0/\ud c t nx ng la r.1))
end
theorem P6 {α:Type} {l m:List (List α)} (h:l.length=m.length) (e:∀i,i<l.length->l.getD i []=m.getD i []):l=m:=by
 refine List.ext_getElem h λi h1 h2=>?_;have:=e i h1
 rwa [List.getD,List.getD,List.getElem?_eq_getElem h1,List.getElem?_eq_getElem h2]at this
variable {c:bc} {t:CT} {nx:List Int} {ng la:Int}
theorem ud.uniq {r r':aV} (h:ud c t nx ng la r) (h':ud c t nx ng la r'):r=r':=by
 have hh:∀i,i<c.Places.length->r.Next.getD i []=r'.Next.getD i []/\r.Ends.getD i []=r'.Ends.getD i []:=λi hi=>by
  cases hg:br c.Places i with
  | true=>
    obtain⟨a1,a2⟩:=h.nn i hi hg;obtain⟨b1,b2⟩:=h'.nn i hi hg;exact⟨a1.trans b1.symm,a2.trans b2.symm⟩
  | false=>exact(h.tl i hi hg).2.uniq (h'.tl i hi hg).2
 have e1:r.Next=r'.Next:=P6 (h.nl.trans h'.nl.symm) λi hi=>(hh i (by rw[<- h.nl];exact hi)).1;have e2:r.Ends=r'.Ends:=P6 (h.el.trans h'.el.symm) λi hi=>(hh i (by rw[<- h.el];exact hi)).2;have e3:=h.st.trans h'.st.symm;cases r;cases r';simp only at e1 e2 e3;rw[e1,e2,e3]
theorem BQ.uniq {r r':aV×Int} (h:BQ c t nx ng la r) (h':BQ c t nx ng la r'):r=r':=by
 rcases h with⟨h1,h2⟩|⟨h1,h⟩
 ·rcases h' with⟨g1,g2⟩|⟨g1,_⟩
  ·exact h1.trans g1.symm
  ·exact absurd h2 g1
 rcases h' with⟨g1,g2⟩|⟨g1,h'⟩
 ·exact absurd g2 h1
 rcases h with⟨h1,h2⟩|⟨h1,h⟩
 ·rcases h' with⟨g1,g2⟩|⟨g1,_⟩
  ·exact h1.trans g1.symm
  ·rw[h2]at g1;cases g1
 rcases h' with⟨g1,g2⟩|⟨_,h'⟩
 ·rw[g2]at h1;cases h1
 rcases h with⟨h1,i,h2,h3,h4⟩|⟨h1,h2⟩
 ·rcases h' with⟨g1,_⟩|⟨_,g2⟩
  ·exact h1.trans g1.symm
  ·exact absurd (g2.tl i h2 h3).1 h4
 rcases h' with⟨_,i,g2,g3,g4⟩|⟨g1,g2⟩
 ·exact absurd (h2.tl i g2 g3).1 g4
 ·exact Prod.ext (h2.uniq g2) (h1.trans g1.symm)
structure qp (c:bc) (t:CT) (nx:List Int) (ng la:Int) (k:Nat) (ns:List (List aa)) (es:List (List Int)):Prop where
 nl:ns.length=k
 el:es.length=k
 nn:∀i,i<k->br c.Places i=true->ns.getD i []=[]/\es.getD i []=[]
 tl:∀i,i<k->br c.Places i=false->jP c.Places.length nx ng la i/\jc c.Places.length nx ng la i (ns.getD i []) (es.getD i [])
theorem qp.add {k:Nat} {ns:List (List aa)} {es:List (List Int)} (h:qp c t nx ng la k ns es) {ne:List aa} {en:List Int}
 (h1:br c.Places k=true->ne=[]/\en=[]) (h2:br c.Places k=false->jP c.Places.length nx ng la k/\jc c.Places.length nx ng la k ne en):qp c t nx ng la (k+1) (ns++[ne]) (es++[en]):=by
 have gD:∀ {β:Type} (l:List (List β)) (v:List β) (i:Nat),l.length=k->i<k+1->(l++[v]).getD i []=if i=k then v else l.getD i []:=λl v i hl hi=>by
  by_cases h:i=k
  ·subst h;rw[if_pos rfl,<- hl];simp
  ·rw[if_neg h];simp[List.getD,List.getElem?_append_left (show i<l.length by omega)]
 have dw:∀i,i<k+1->i<k\/i=k:=λi h=>by omega
 refine⟨by simp[h.nl],by simp[h.el],λi hi hg=>?_,λi hi hg=>?_⟩
 ·rw[gD ns ne i h.nl hi,gD es en i h.el hi];rcases dw i hi with h3|rfl
  ·rw[if_neg (by omega),if_neg (by omega)];exact h.nn i h3 hg
  ·rw[if_pos rfl,if_pos rfl];exact h1 hg
 ·rw[gD ns ne i h.nl hi,gD es en i h.el hi];rcases dw i hi with h3|rfl
  ·rw[if_neg (by omega),if_neg (by omega)];exact h.tl i h3 hg
  ·rw[if_pos rfl,if_pos rfl];exact h2 hg
theorem ahF (hl:c.Nodes.length<=1000000) (hf:fG c=true) (ht:c.Nodes=t.fl) (hlv:t.lv c.Places.length):W (λN=>kD N c) (λr=>∃nx ng la,oy c t nx ng la/\BQ c t nx ng la r):=by
 unfold kD;have h2:=(tF hf).1;refine W.call (Pc c hl) λr0 hq=>?_;obtain⟨s,e⟩:=r0;obtain⟨hF,rfl⟩:ID c.Places.length t s/\e=0:=by
  rcases hq with⟨h,_⟩|⟨_,h,h'⟩
  ·rw[hf]at h;cases h
  ·exact⟨h' t ht hlv,h⟩
 simp only[show((0:Int) != 0)=false from rfl,cond_false];refine lZ (l:=c.Places) (λpre g=>u32 g/\(∀i,i<pre.length->aK g i=br c.Places i)/\∀i,pre.length<=i->aK g i=false) [] rfl rfl (by omega) ⟨eI.1,λi hi=>by simp at hi,λi _=>eI.2 i⟩ ?_ ?_
 ·intro F pre p rest g hl hlt hix hi ⟨g1,g2,g3⟩ hn;have hpl:pre.length<c.Places.length:=by rw[hl];simp
  have hp:br c.Places pre.length=p.Neg:=by unfold br;rw[hl];simp
  unfold pD;simp only[hlt,cond_true,hix,Option.bind_some];have dw:∀i,i<(pre++[p]).length->i<pre.length\/i=pre.length:=λi h=>by simp at h;omega
  rw[W.cond];refine⟨λhg=>?_,λhg=>?_⟩
  ·rw[W.gd,W.gd];have ho:=wl (i:=pre.length) (by omega);have hu:=gH g1 ho.1;refine⟨a8.2 (by omega),hi,hn _ ⟨hu.1,λi h=>?_,λi h=>?_⟩⟩
   ·rw[hu.2,ho.2];rcases dw i h with h|rfl
    ·rw[g2 i h,decide_eq_false (by omega),Bool.or_false]
    ·rw[hp,hg];simp
   ·simp at h;rw[hu.2,ho.2,g3 i (by omega),decide_eq_false (by omega)];rfl
  ·rw[W.gd];refine⟨hi,hn _ ⟨g1,λi h=>?_,λi h=>?_⟩⟩
   ·rcases dw i h with h|rfl
    ·exact g2 i h
    ·rw[hp,hg];exact g3 _ (Nat.le_refl _)
   ·simp at h;exact g3 i (by omega)
 intro F g hlt ⟨g1,g2,g3⟩;have gF:oy c t s.Next g s.Last:=⟨hF.nx,g2,hF.la⟩
 have hC:∀i,aK g i=true↔i<c.Places.length/\br c.Places i=true:=λi=>by
  by_cases hi:i<c.Places.length
  ·rw[g2 i hi];simp[hi]
  ·rw[g3 i (by omega)];simp[hi]
 unfold pD;simp only[hlt,cond_false];have ha:=KE g1 hF.uf;rw[W.cond];refine⟨λhz=>W.ret.2 ⟨s.Next,g,s.Last,gF,.inl ⟨rfl,?_⟩⟩,λhz=>?_⟩
 ·apply Classical.byContradiction;intro hb;have:bI .u32 g s.First=0:=wj ha.1 eI.1 λi=>by
   rw[ha.2,eI.2];cases h1:aK g i with
   | false=>rfl
   | true=>
     cases h3:aK s.First i with
     | false=>rfl
     | true=>exact absurd ⟨i,((hC i).1 h1).1,((hC i).1 h1).2,.inl (by rw[<- hF.fi];exact h3)⟩ hb
  rw[this]at hz;cases hz
 have UH:∀i,i<c.Places.length->br c.Places i=true->t.fi i=false:=λi hi hg=>by
  have h0:bI .u32 g s.First=0:=by simpa using hz
  have:=ha.2 i;rw[h0,eI.2,(hC i).2 ⟨hi,hg⟩,Bool.true_and,hF.fi]at this;exact this.symm
 refine W.call (aiH (n:=c.Places.length) (X:=t.nx) (G:=br c.Places) h2 rfl hF.ok g1 hF.nx hC) λr hr=>?_;obtain⟨b,r2⟩:=r;obtain⟨hr1,hr2⟩:=hr;simp only at hr1 hr2;subst hr1;rw[W.cond];refine⟨λhb=>W.ret.2 ⟨s.Next,g,s.Last,gF,.inl ⟨rfl,?_⟩⟩,λhb=>?_⟩
 ·obtain⟨i,i1,i2,i3⟩:=hr2.1 hb;exact⟨i,i1,i2,.inr i3⟩
 have good:¬Bad c t:=λ⟨i,i1,i2,i3⟩=>by
  rcases i3 with h|h
  ·rw[UH i i1 i2]at h;cases h
  ·rw[hr2.2 ⟨i,i1,i2,h⟩]at hb;cases hb
 rw[W.cond];refine⟨λhn=>W.ret.2 ⟨s.Next,g,s.Last,gF,.inr ⟨good,.inl ⟨rfl,by rw[<- hF.nl];exact hn⟩⟩⟩,λUL=>?_⟩;have hnl:t.nl=false:=by rw[<- hF.nl];exact UL
 dsimp only;refine W.vu (λx y24 y25 oo y27 y28 y29 oq y31 y32 g7 st ns es=>∃k:Nat,x=(k:Int)/\k<=c.Places.length/\(y24,y25,oo,y27,y28,y29,oq,y31,y32,g7)=(c.Nodes,c.Places,c.Within,c.By,c.Mode,s.Null,s.First,s.Last,s.Next,g)/\st=dI t k/\qp c t s.Next g s.Last k ns es)
  (λx _ _ _ _ _ _ _ _ _ _ _ _ _=>(c.Places.length-x).toNat) ⟨0,rfl,Nat.zero_le _,rfl,rfl,⟨rfl,rfl,λi h=>by omega,λi h=>by omega⟩⟩ ?_
 rintro G x y24 y25 oo y27 y28 y29 oq y31 y32 g7 st ns es ⟨k,rfl,k0,kc,rfl,k1⟩ hm;simp only[Prod.mk.injEq]at kc;obtain⟨rfl,rfl,rfl,rfl,rfl,rfl,rfl,rfl,rfl,rfl⟩:=kc;unfold sI;rw[bV,W.cond];refine⟨λhk=>?_,λhk=>?_⟩
 rotate_left
 ·have hk:=of_decide_eq_false hk;have hkn:k=c.Places.length:=by omega
  rw[hkn]at k1 ⊢;exact W.ret.2 ⟨s.Next,g7,s.Last,gF,.inr ⟨good,.inr ⟨hnl,.inr ⟨rfl,rfl,k1.nl,k1.el,k1.nn,k1.tl⟩⟩⟩⟩
 have hk:=of_decide_eq_true hk;obtain⟨p,hp1,hp2⟩:=iE (l:=c.Places) (i:=(k:Int)) (by omega) (by omega);have hpn:br c.Places k=p.Neg:=by unfold br;rw[show c.Places[k]?=some p by simpa using hp2]
 have hsl:=Aw t k;have e1:=k1.nl;have e2:=k1.el;simp only[hp1,Option.bind_some,oG hF.uf,fO];have b1:Nat.ble ((List.length ns+1)*24) 140737488355328=true:=Nat.ble_eq_true_of_le (by omega);have b2:Nat.ble ((List.length es+1)*24) 140737488355328=true:=Nat.ble_eq_true_of_le (by omega);have b3:Nat.ble ((List.length (dI t k)+1)*16) 140737488355328=true:=Nat.ble_eq_true_of_le (by omega);have b4:ae ((k:Int)+1)=true:=bA.2 (by omega);simp only[b1,b2,b3,b4,ba,hF.fi];have next:∀(st':List aa) (ne:List aa) (en:List Int),st'=dI t (k+1)->(p.Neg=true->ne=[]/\en=[])->(p.Neg=false->jP c.Places.length s.Next g7 s.Last k/\jc c.Places.length s.Next g7 s.Last k ne en)->
  W (λq=>G q ((k:Int)+1) c.Nodes c.Places c.Within c.By c.Mode s.Null s.First s.Last s.Next g7 st' (ns++[ne]) (es++[en])) (λr=>∃nx ng la,oy c t nx ng la/\BQ c t nx ng la r):=λst' ne en q1 q2 q3=>
  hm _ _ _ _ _ _ _ _ _ _ _ _ _ _ ⟨k+1,by omega,hk,rfl,q1,k1.add (λh=>q2 (by rw[<- hpn];exact h)) λh=>q3 (by rw[<- hpn];exact h)⟩ (by omega)
 have two:∀st',st'=dI t (k+1)->p.Neg=false->W (λq:(Nat×Nat)×Nat=>(l9 q.1.1 k c.Nodes c.Places c.Within c.By c.Mode s.Null s.First s.Last s.Next g7).bind λcJ=>
  bif (!cJ.2.2.1)then
   some ((aV.mk [] [] []),18)
  else G q ((k:Int)+1) cJ.2.2.2.1 cJ.2.2.2.2.1 cJ.2.2.2.2.2.1 cJ.2.2.2.2.2.2.1 cJ.2.2.2.2.2.2.2.1 cJ.2.2.2.2.2.2.2.2.1 cJ.2.2.2.2.2.2.2.2.2.1 cJ.2.2.2.2.2.2.2.2.2.2.1 cJ.2.2.2.2.2.2.2.2.2.2.2.1 cJ.2.2.2.2.2.2.2.2.2.2.2.2 st' (ns++[cJ.1]) (es++[cJ.2.1])) (λr=>∃nx ng la,oy c t nx ng la/\BQ c t nx ng la r):=λst' hst hg=>by
  have hgk:br c.Places k=false:=hpn.trans hg;refine W.call (aiJ (n:=c.Places.length) h2 hk rfl hF.ul hF.ok g1 (by rw[g2 k hk];exact hgk)) λr hr=>?_;obtain⟨ne,en,few,cells⟩:=r;obtain⟨hcell,hr,hr'⟩:=hr;dsimp only at hcell hr hr';subst hcell;dsimp only;rw[W.cond];refine⟨λhw=>W.ret.2 ⟨s.Next,g7,s.Last,gF,.inr ⟨good,.inr ⟨hnl,.inl ⟨rfl,k,hk,hgk,hr (by simpa using hw)⟩⟩⟩⟩,λhw=>?_⟩;exact next _ _ _ hst (λh=>by rw[hg]at h;cases h) λ_=>hr' (by simpa using hw)
 rw[W.cond];refine⟨λhf=>?_,λhf=>?_⟩
 ·have hst:dI t k++[aa.mk (k:Int) 0]=dI t (k+1):=by rw[dI,if_pos hf]
  rw[W.cond];refine⟨λhg=>two _ hst (by simpa using hg),λhg=>?_⟩;have hg:p.Neg=true:=by simpa using hg
  exact next _ _ _ hst (λ_=>⟨rfl,rfl⟩) λh=>by rw[hg]at h;cases h
 ·have hst:dI t k=dI t (k+1):=by rw[dI,if_neg (by rw[hf];decide),List.append_nil]
  rw[W.cond];refine⟨λhg=>two _ hst (by simpa using hg),λhg=>?_⟩;have hg:p.Neg=true:=by simpa using hg
  exact next _ _ _ hst (λ_=>⟨rfl,rfl⟩) λh=>by rw[hg]at h;cases h
end
section
variable {c:bc} {t:CT} {nx:List Int} {ng la:Int}
theorem afK {s:bH} (h2:c.Places.length<=24) (hS:gm c.Places.length t s) (gF:oy c t nx ng la) (good:¬Bad c t) (hnl:t.nl=false):
 W (λN=>ce (yk N c.Nodes c.Places c.Within c.By c.Mode s.Null s.First s.Last s.Next (dI t c.Places.length)) N 0 [] []) (BQ c t nx ng la):=by
 refine W.ce (λ(x:Int) ns es=>∃k:Nat,x=(k:Int)/\k<=c.Places.length/\qp c t nx ng la k ns es) (λ(x:Int) _ _=>(c.Places.length-x).toNat) ⟨0,rfl,Nat.zero_le _,⟨rfl,rfl,λi h=>by omega,λi h=>by omega⟩⟩ ?_;rintro F x ns es ⟨k,rfl,k0,k1⟩ hm;unfold yk;rw[bV,W.cond];refine⟨λhk=>?_,λhk=>?_⟩
 rotate_left
 ·have hk:=of_decide_eq_false hk;have hkn:k=c.Places.length:=by omega
  rw[hkn]at k1;exact W.ret.2 (.inr ⟨good,.inr ⟨hnl,.inr ⟨rfl,rfl,k1.nl,k1.el,k1.nn,k1.tl⟩⟩⟩)
 have hk:=of_decide_eq_true hk;obtain⟨p,hp1,hp2⟩:=iE (l:=c.Places) (i:=(k:Int)) (by omega) (by omega);have hpn:br c.Places k=p.Neg:=by unfold br;rw[show c.Places[k]?=some p by simpa using hp2]
 have e1:=k1.nl;have e2:=k1.el;have b1:Nat.ble ((List.length ns+1)*24) 140737488355328=true:=Nat.ble_eq_true_of_le (by omega);have b2:Nat.ble ((List.length es+1)*24) 140737488355328=true:=Nat.ble_eq_true_of_le (by omega);have b4:ae ((k:Int)+1)=true:=bA.2 (by omega);simp only[hp1,Option.bind_some];rw[W.cond];refine⟨λhg=>?_,λhg=>?_⟩
 rotate_left
 ·have hg:p.Neg=true:=by simpa using hg
  refine W.lF λG=>?_;unfold FS;simp only[b1,b2,b4,ba];exact(hm _ _ _ ⟨k+1,by omega,hk,k1.add (λ_=>⟨rfl,rfl⟩) λh=>by rw[hpn,hg]at h;cases h⟩ (by omega)).lift
 have hg:p.Neg=false:=by simpa using hg
 have hgk:br c.Places k=false:=hpn.trans hg;refine W.call (f:=λN=>tp N c s (k:Int)) (akc (n:=c.Places.length) rfl h2 hS hk (by rw[gF.gg k hk];exact hgk) gF.xx gF.gg gF.ll) λr hr=>?_;rcases hr with⟨rfl,hr⟩|⟨hf,hb,en,he,htl⟩
 ·exact W.ret.2 (.inr ⟨good,.inr ⟨hnl,.inl ⟨rfl,k,hk,hgk,hr⟩⟩⟩)
 have hen:=hf.2.2 en htl.pe λS hS=>(htl.me S).1 hS;simp only[hb,Bool.not_true,cond_false,he];refine W.gR (λ(x:Int) ns' es' l=>∃m:Nat,x=(m:Int)/\m<=en.length/\ns'=ns/\es'=es/\l=en.take m) (λ(x:Int) _ _ _=>(en.length-x).toNat) ⟨0,rfl,Nat.zero_le _,rfl,rfl,rfl⟩ ?_;rintro G x ns' es' l ⟨m,rfl,m0,rfl,rfl,rfl⟩ hn;unfold FR;rw[Az,bV,W.cond];refine⟨λh=>?_,λh=>?_⟩
 ·have hmn:=of_decide_eq_true h;have hx:ix (fE en) (m:Int)=some ⟨-1,en[m]⟩:=by rw[fm'];unfold fE;rw[List.getElem?_map,List.getElem?_eq_getElem hmn];rfl
  simp only[hx,Option.bind_some,W.gd];exact⟨Nat.ble_eq_true_of_le (by rw[List.length_take];omega),bA.2 (by omega),hn _ _ _ _ ⟨m+1,by omega,hmn,rfl,rfl,by rw[List.take_add_one,List.getElem?_eq_getElem hmn];rfl⟩ (by omega)⟩
 ·have hmn:m=en.length:=by have:=of_decide_eq_false h;omega
  subst hmn;simp only[b1,b2,b4,ba,List.take_length];exact(hm _ _ _ ⟨k+1,by omega,hk,k1.add (λh=>by rw[hgk]at h;cases h) λ_=>⟨hf,htl⟩⟩ (by omega)).lift
theorem agd (hl:c.Nodes.length<=1000000) (hf:fG c=true) (ht:c.Nodes=t.fl) (hlv:t.lv c.Places.length) (gF:oy c t nx ng la):W (λN=>nO N c) (BQ c t nx ng la):=by
 unfold nO;have h2:=(tF hf).1;refine W.call (ON c hl) λr0 hq=>?_;obtain⟨s,e⟩:=r0;obtain⟨hS,rfl⟩:gm c.Places.length t s/\e=0:=by
  rcases hq with⟨h,_⟩|⟨_,h,h'⟩
  ·rw[hf]at h;cases h
  ·exact⟨h' t ht hlv,h⟩
 simp only[show((0:Int) != 0)=false from rfl,cond_false];refine W.lp2 (λ(x:Int) st=>∃k:Nat,x=(k:Int)/\k<=c.Places.length/\st=dI t k/\∀i,i<k->br c.Places i=true->t.fi i=false/\jS c.Places.length t.nx (br c.Places) i=false) (λ(x:Int) _=>(c.Places.length-x).toNat) ⟨0,rfl,Nat.zero_le _,rfl,λi h=>by omega⟩ ?_;rintro F x st ⟨k,rfl,k0,rfl,k1⟩ hm;unfold FQ;rw[bV,W.cond];refine⟨λhk=>?_,λhk=>?_⟩
 rotate_left
 ·have hk:=of_decide_eq_false hk;have hkn:k=c.Places.length:=by omega
  subst hkn;have good:¬Bad c t:=λ⟨i,i1,i2,i3⟩=>by
   obtain⟨q1,q2⟩:=k1 i i1 i2;rcases i3 with h|h
   ·rw[q1]at h;cases h
   ·rw[q2]at h;cases h
  rw[W.cond];exact⟨λhn=>W.ret.2 (.inr ⟨good,.inl ⟨rfl,hS.nl.symm.trans hn⟩⟩),λhn=>(afK h2 hS gF good (hS.nl.symm.trans hn)).lift⟩
 have hk:=of_decide_eq_true hk;obtain⟨p,hp1,hp2⟩:=iE (l:=c.Places) (i:=(k:Int)) (by omega) (by omega);have hpn:br c.Places k=p.Neg:=by unfold br;rw[show c.Places[k]?=some p by simpa using hp2]
 have hsl:=Aw t k;have b3:Nat.ble ((List.length (dI t k)+1)*16) 140737488355328=true:=Nat.ble_eq_true_of_le (by omega);have b4:ae ((k:Int)+1)=true:=bA.2 (by omega);have dw:∀i,i<k+1->i<k\/i=k:=λi h=>by omega
 have hfi:(ah.l s.First).getD k false=t.fi k:=hS.fi k (by omega);simp only[hp1,Option.bind_some,show leB 0 (k:Int)=true from a8.2 (by omega),show aj (k:Int) 32=true from bJ.2 (by omega),ba,iD s.First (show k<32 by omega) false,hfi,b3,b4];have next:(p.Neg=true->t.fi k=false/\jS c.Places.length t.nx (br c.Places) k=false)->W (λq:Nat×Nat=>bif t.fi k then F q ((k:Int)+1) (dI t k++[aa.mk (k:Int) 0])else F q ((k:Int)+1) (dI t k)) (BQ c t nx ng la):=λhh=>by
  rw[W.cond];have go:∀st',st'=dI t (k+1)->W (λq:Nat×Nat=>F q ((k:Int)+1) st') (BQ c t nx ng la):=λst' hs=>hm _ _ ⟨k+1,by omega,hk,hs,λi hi hg=>by
   rcases dw i hi with h|rfl
   ·exact k1 i h hg
   ·exact hh (hpn.symm.trans hg)⟩ (by omega)
  exact⟨λh=>go _ (by rw[dI,if_pos h]),λh=>go _ (by rw[dI,if_neg (by rw[h];decide),List.append_nil])⟩
 rw[W.cond];refine⟨λhg=>?_,λhg=>next λh=>by rw[hg]at h;cases h⟩;have hgk:=hpn.trans hg;rw[W.cond];refine⟨λh=>W.ret.2 (.inl ⟨rfl,k,hk,hgk,.inl h⟩),λhfk=>?_⟩;refine W.call (f:=λN=>s9 N c s (k:Int)) (ajW h2 hS hk) ?_;rintro _ rfl;rw[W.cond];exact⟨λh=>W.ret.2 (.inl ⟨rfl,k,hk,hgk,.inr h⟩),λh=>next λ_=>⟨hfk,h⟩⟩
theorem agl (hl:c.Nodes.length<=1000000) (hf:fG c=false):W (λN=>kD N c) (·=(oH,2))/\W (λN=>nO N c) (·=(oH,2)):=by
 constructor
 ·unfold kD;refine W.call (Pc c hl) λr0 hq=>?_;rcases hq with⟨_,rfl⟩|⟨h,_⟩
  ·exact W.ret.2 rfl
  ·rw[hf]at h;cases h
 ·unfold nO;refine W.call (ON c hl) λr0 hq=>?_;rcases hq with⟨_,h⟩|⟨h,_⟩
  ·rw[h];exact W.ret.2 rfl
  ·rw[hf]at h;cases h
end
theorem SX {ι:Type} [bm ι] {N:ι->Nat}:W (λi=>(sK (N i)).bind λBc=>some Bc) (·=true):=by
 simp only[sK,Option.bind_some,W.ret]
structure qu (r:aV):Prop where
 s1:r.Start.length<=1000
 s2:r.Next.length<=1000
 s3:r.Ends.length<=1000
 s4:∀x∈r.Next,x.length<=1000
 s5:∀x∈r.Ends,x.length<=1000
theorem Lb {l:List aa} (hl:l.length<=1000):W (λN=>tg N l) (·=l):=by
 unfold tg;refine lZ (l:=l) (λpre y=>y=pre) [] rfl rfl (by omega) rfl ?_ ?_
 ·rintro F pre e rest y hl' h1 h2 h3 rfl hn;have:y.length<=l.length:=by rw[hl'];simp
  unfold zp;simp only[h1,h2,h3,cond_true,Option.bind_some,ba,W.gd];exact⟨Nat.ble_eq_true_of_le (by omega),hn _ rfl⟩
 ·rintro F y h1 rfl;unfold zp;simp only[h1,cond_false];exact W.ret.2 rfl
theorem ajU {r:aV} (h:qu r):W (λN=>zO N r) (·=r):=by
 have h2:=h.s2;have h3:=h.s3;unfold zO;refine W.call (Lb h.s1) ?_;rintro _ rfl;refine lZ (l:=r.Next) (λpre y=>y=pre) [] rfl rfl (by omega) rfl ?_ ?_
 ·rintro F pre e rest y hl' e1 e2 e3 rfl hn;have:y.length<=r.Next.length:=by rw[hl'];simp
  unfold yt;simp only[fO,e1,e2,cond_true,Option.bind_some];refine W.call (Lb (h.s4 e (by rw[hl'];simp))) ?_;rintro _ rfl;simp only[e3,ba,W.gd];exact⟨Nat.ble_eq_true_of_le (by omega),hn _ rfl⟩
 ·rintro F y e1 rfl;unfold yt;simp only[e1,cond_false];refine lZ (l:=r.Ends) (λpre y=>y=pre) [] rfl rfl (by omega) rfl ?_ ?_
  ·rintro G pre e rest y hl' e1 e2 e3 rfl hn;have:y.length<=r.Ends.length:=by rw[hl'];simp
   have:=h.s5 e (by rw[hl'];simp);unfold yu;simp only[fO,e1,e2,e3,cond_true,Option.bind_some,ba,W.gd];exact⟨Nat.ble_eq_true_of_le (by omega),Nat.ble_eq_true_of_le (by omega),hn _ rfl⟩
  ·rintro G y e1 rfl;unfold yu;simp only[e1,cond_false];exact W.ret.2 rfl
theorem Ai {z:Int}:(z != z)=false:=by simp
theorem ajV {r:aV} (h:qu r):W (λN=>zQ N r r) (·=true):=by
 have h2:=h.s2;have h3:=h.s3;unfold zQ FT yl;have hl:(r.Next++[r.Start]).length<=1001:=by simp;omega
 have hx:∀x∈r.Next++[r.Start],x.length<=1000:=λx hx=>by
  rcases List.mem_append.1 hx with hx|hx
  ·exact h.s4 x hx
  ·rw[List.mem_singleton.1 hx];exact h.s1
 generalize r.Next++[r.Start]=l at hl hx;simp only[fO,show Nat.ble ((0+r.Next.length)*24) 140737488355328=true from Nat.ble_eq_true_of_le (by omega),show Nat.ble ((r.Next.length+1)*24) 140737488355328=true from Nat.ble_eq_true_of_le (by omega),ba,Ai,cond_false];refine wf1 (l:=l) (λ_=>True) [] rfl rfl (by omega) trivial ?_ ?_
 ·intro F pre e rest hl' e1 e2 e3 _ hn;have he:=hx e (by rw[hl'];simp);unfold yx;simp only[e1,e2,cond_true,Option.bind_some,Ai,cond_false];refine wf1 (l:=e) (λ_=>True) [] rfl rfl (by omega) trivial ?_ ?_
  ·intro G pre' v rest' hv v1 v2 v3 _ hm;unfold yz;simp only[e2,v1,v2,v3,cond_true,Option.bind_some,ba,beq_self_eq_true,Bool.and_self,Bool.not_true,cond_false];exact hm trivial
  ·intro G v1 _;unfold yz;simp only[e2,v1,e3,cond_false,Option.bind_some,ba];exact(hn trivial).lift
 ·intro F e1 _;unfold yx;simp only[e1,cond_false];refine wf1 (l:=r.Ends) (λ_=>True) [] rfl rfl (by omega) trivial ?_ ?_
  ·intro G pre e rest hl' e1 e2 e3 _ hn;have he:=h.s5 e (by rw[hl'];simp);unfold yA;simp only[e1,e2,cond_true,Option.bind_some,Ai,cond_false];refine wf1 (l:=e) (λ_=>True) [] rfl rfl (by omega) trivial ?_ ?_
   ·intro H pre' v rest' hv v1 v2 v3 _ hm;unfold yB;simp only[e2,v1,v2,v3,cond_true,Option.bind_some,ba,Ai,cond_false];exact hm trivial
   ·intro H v1 _;unfold yB;simp only[e2,v1,e3,cond_false,Option.bind_some,ba];exact(hn trivial).lift
  ·intro G e1 _;unfold yA;simp only[e1,cond_false];exact W.ret.2 rfl
theorem AQ:qu oH:=⟨Nat.zero_le _,Nat.zero_le _,Nat.zero_le _,(λx hx=>by cases hx),λx hx=>by cases hx⟩
theorem BQ.WT {c:bc} {t:CT} {nx:List Int} {ng la:Int} {r:aV×Int} (hn:c.Places.length<=24) (h:BQ c t nx ng la r):qu r.1:=by
 rcases h with⟨rfl,_⟩|⟨_,⟨rfl,_⟩|⟨_,⟨rfl,_⟩|⟨_,h⟩⟩⟩
 ·exact AQ
 ·exact AQ
 ·exact AQ
 have hs:=Aw t c.Places.length;have h1:=h.nl;have h2:=h.el;have each:∀i,i<c.Places.length->(r.1.Next.getD i []).length<=64/\(r.1.Ends.getD i []).length<=64:=λi hi=>by
  cases hg:br c.Places i with
  | true=>
    obtain⟨a1,a2⟩:=h.nn i hi hg;rw[a1,a2];simp
  | false=>
    obtain⟨⟨_,f1,f2⟩,q⟩:=h.tl i hi hg;exact⟨f1 _ q.pn λe he=>(q.mn e).1 he,f2 _ q.pe λe he=>(q.me e).1 he⟩
 refine⟨by rw[h.st];omega,by omega,by omega,λx hx=>?_,λx hx=>?_⟩
 ·obtain⟨i,hi,e⟩:=List.mem_iff_getElem.1 hx;have:=(each i (by omega)).1;rw[List.getD,List.getElem?_eq_getElem hi,e]at this;exact Nat.le_trans this (by omega)
 ·obtain⟨i,hi,e⟩:=List.mem_iff_getElem.1 hx;have:=(each i (by omega)).2;rw[List.getD,List.getElem?_eq_getElem hi,e]at this;exact Nat.le_trans this (by omega)
theorem abv (c:bc) (hc:GF c):W (λN=>xU N c) (·=true):=by
 unfold xU;refine W.call (aiF c hc.1.2 hc.2.1.2 λq hq=>⟨λn hn=>((hc.2.1.1 q hq).2.2.2.1 n hn).2.2.2.2.2.2.2,(hc.2.1.1 q hq).2.2.2.2⟩) λb hb=>?_;rw[W.cond];refine⟨λ_=>SX,λhb0=>?_⟩;obtain⟨a1,a2,a3⟩:=hb (by have:=dg.1 hb0;omega);refine W.call (ajZ c ⟨by omega,by omega,λp hp=>by have:=(a3 p hp).2;omega⟩) ?_;rintro _ rfl;rename_i c;have both:∃r:aV×Int,qu r.1/\W (λN=>kD N c) (·=r)/\W (λN=>nO N c) (·=r):=by
  cases hf:fG c with
  | false=>
    obtain⟨q1,q2⟩:=agl (c:=c) (by omega) hf;exact⟨_,AQ,q1,q2⟩
  | true=>
    obtain⟨h3,_,t,ht,hlv⟩:=tF hf;obtain⟨r,r1,nx,ng,la,gF,hb⟩:=ahF (c:=c) (by omega) hf ht hlv;obtain⟨r',r2,hb'⟩:=agd (c:=c) (by omega) hf ht hlv gF;have:=hb.uniq hb';subst this;exact⟨r,hb.WT h3,⟨r,r1,rfl⟩,⟨r,r2,rfl⟩⟩
 obtain⟨r,hs,q1,q2⟩:=both;refine W.call q1 ?_;rintro _ rfl;rename_i r;refine W.call q2 ?_;rintro _ rfl;rename_i r;simp only[beq_self_eq_true,cond_true];refine W.call (ajU hs) ?_;rintro _ he;rw[he];refine W.call (ajV hs) ?_;rintro _ rfl;simp only[cond_true];exact SX
end Go.Proofs.YtmfkphajohcklaaGreat.U
