/- The program's reader of words: what it keeps is right, and so is what it answers. No premise beyond what each theorem says. -/
import Derived.Test.YtmllclbhdmajmaaGreatWG6
import Derived.Test.YtmllclbhdmajmaaGreatWG5
import Derived.Test.YtmllclbhdmajmaaGreatWA4
import Derived.Tactics
import Derived.Tactics2
import Derived.Defers
import Derived.Recover
import Derived.WalkKit
set_option linter.all false
set_option linter.unusedSimpArgs false
set_option linter.unusedVariables false
namespace Go.Proofs.YtmllclbhdmajmaaGreat.W
open Go
section
theorem W.lp9 {ι:Type} [Lim ι] {α0 α1 α2 α3 α4 α5 α6 α7 α8 R:Type} {f:ι→(α0→α1→α2→α3→α4→α5→α6→α7→α8→Option R)→α0→α1→α2→α3→α4→α5→α6→α7→α8→Option R} {Q:R→Prop} (P:α0→α1→α2→α3→α4→α5→α6→α7→α8→Prop) (m:α0→α1→α2→α3→α4→α5→α6→α7→α8→Nat) {N:ι→Nat} [Tends N] {u0 u1 u2 u3 u4 u5 u6 u7 u8}
 (hv:P u0 u1 u2 u3 u4 u5 u6 u7 u8) (h:∀ (F:ι×Nat→α0→α1→α2→α3→α4→α5→α6→α7→α8→Option R) v0 v1 v2 v3 v4 v5 v6 v7 v8,P v0 v1 v2 v3 v4 v5 v6 v7 v8→(∀ w0 w1 w2 w3 w4 w5 w6 w7 w8,P w0 w1 w2 w3 w4 w5 w6 w7 w8→m w0 w1 w2 w3 w4 w5 w6 w7 w8 < m v0 v1 v2 v3 v4 v5 v6 v7 v8→W (fun p=>F p w0 w1 w2 w3 w4 w5 w6 w7 w8) Q)→W (fun p:ι×Nat=>f p.1 (F p) v0 v1 v2 v3 v4 v5 v6 v7 v8) Q):
 W (fun i=>Go.Proofs.YtmllclbhdmajmaaGreat.W.lp9 (f i) (N i) u0 u1 u2 u3 u4 u5 u6 u7 u8) Q:=
 W.loop (f:=fun i next v=>f i (fun u0 u1 u2 u3 u4 u5 u6 u7 u8=>next (u0,u1,u2,u3,u4,u5,u6,u7,u8)) v.1 v.2.1 v.2.2.1 v.2.2.2.1 v.2.2.2.2.1 v.2.2.2.2.2.1 v.2.2.2.2.2.2.1 v.2.2.2.2.2.2.2.1 v.2.2.2.2.2.2.2.2) N (fun v=>P v.1 v.2.1 v.2.2.1 v.2.2.2.1 v.2.2.2.2.1 v.2.2.2.2.2.1 v.2.2.2.2.2.2.1 v.2.2.2.2.2.2.2.1 v.2.2.2.2.2.2.2.2) (fun v=>m v.1 v.2.1 v.2.2.1 v.2.2.2.1 v.2.2.2.2.1 v.2.2.2.2.2.1 v.2.2.2.2.2.2.1 v.2.2.2.2.2.2.2.1 v.2.2.2.2.2.2.2.2) (fun F v hp hn=>h (fun p u0 u1 u2 u3 u4 u5 u6 u7 u8=>F p (u0,u1,u2,u3,u4,u5,u6,u7,u8)) (v.1) (v.2.1) (v.2.2.1) (v.2.2.2.1) (v.2.2.2.2.1) (v.2.2.2.2.2.1) (v.2.2.2.2.2.2.1) (v.2.2.2.2.2.2.2.1) (v.2.2.2.2.2.2.2.2) hp fun w0 w1 w2 w3 w4 w5 w6 w7 w8 hw hm=>hn (w0,w1,w2,w3,w4,w5,w6,w7,w8) hw hm) (u0,u1,u2,u3,u4,u5,u6,u7,u8) hv
theorem lt128 {S:Nat} (h:S < 2 ^ 101):S < 2 ^ 128:=Nat.lt_of_lt_of_le h (Nat.pow_le_pow_right (by decide) (by decide))
theorem mkm_i (S:Nat):xZ8.mk (mkm S).i0 (mkm S).i1=mkm S:=rfl
section
variable {nodes:List xZ1} {pl:List xZ3} {wi:Int} {by_:List UInt8} {md:Int} {w:List (List UInt8)}
theorem xZsJ {S:Nat} (hS:S < 2 ^ 101) (hw:w.length≤100) (s:List UInt8) (xs:List Ent105):W (fun N=>xZ1B N (mkm S) s nodes pl wi by_ md w xs) (·=(mkm (ovL s S 0 w 0),nodes,pl,wi,by_,md,w,xs)):=by
 simp only [xZ1B]
 refine wf3a (l:=w) (fun pre a b=>∃ acc,xZ8.mk a b=mkm acc∧acc < 2 ^ 128∧ovL s S pre.length (w.drop pre.length) acc=ovL s S 0 w 0) [] rfl rfl (by omega) ⟨0,rfl,by decide,rfl⟩ ?_ ?_
 ·rintro F pre e rest a b hl h1 h2 h3 ⟨acc,q1,q2,q3⟩ hn
  have hlen:pre.length+1≤w.length:=by rw [hl];simp
  have hd:w.drop pre.length=e::rest:=by rw [hl];simp
  have hd1:w.drop (pre++[e]).length=rest:=by rw [hl];simp
  rw [hd,ovL] at q3
  simp only [xZ1o,h1,h2,h3,Option.bind_some,cond_true,xZF,mkm_i,e_has (lt128 hS) (show pre.length < 128 by omega)]
  cases he:e==s
  ·simp only [cond_false]
   rw [he] at q3
   simp only [Bool.false_and,cond_false] at q3
   exact hn _ _ ⟨acc,q1,q2,by rw [hd1];simpa using q3⟩
  ·simp only [cond_true]
   rw [he] at q3
   cases hb:S.testBit pre.length
   ·rw [hb] at q3
    simp only [Bool.and_false,cond_false] at q3 ⊢
    exact hn _ _ ⟨acc,q1,q2,by rw [hd1];simpa using q3⟩
   ·rw [hb] at q3
    simp only [Bool.and_true,cond_true] at q3 ⊢
    have:=xZqJ q2 (show pre.length+1 < 128 by omega)
    rw [show ((pre.length+1:Nat):Int)=(pre.length:Int)+1 by omega] at this
    simp only [q1,this,Option.bind_some]
    exact hn _ _ ⟨acc ||| 2 ^ (pre.length+1),rfl,Nat.or_lt_two_pow q2 (Nat.pow_lt_pow_right (by decide) (by omega)),by rw [hd1];simpa using q3⟩
 ·rintro F a b h1 ⟨acc,q1,q2,q3⟩
  rw [List.drop_length,ovL] at q3
  simp only [xZ1o,h1,cond_false,W.ret]
  rw [q1,q3]
def Kn (nodes:List xZ1) (w:List (List UInt8)) (pl:List xZ3) (xs:List Ent105):Prop:=∀ e∈xs,∀ (pre:List xZ1) (t:CT) (post:List xZ1) (S:Nat),nodes=pre++(t.fl++post)→e.k.at_=(pre.length:Int)→e.k.from_=mkm S→e.v=mkm (t.bh w pl S)
theorem xZmI {α:Type} {p:α→Bool} {y z:α}:∀ {l:List α},z∈mup p y l→z=y∨z∈l
 | [],h=>.inl (by simpa [mup] using h)
 | x::l,h=>by
   rw [mup] at h
   cases hp:p x with
   | true=>
     rw [hp] at h
     rcases List.mem_cons.1 h with h | h
     ·exact .inl h
     ·exact .inr (List.mem_cons_of_mem _ h)
   | false=>
     rw [hp] at h
     rcases List.mem_cons.1 h with h | h
     ·exact .inr (by rw [h];exact List.mem_cons_self ..)
     ·rcases xZmI h with h | h
      ·exact .inl h
      ·exact .inr (List.mem_cons_of_mem _ h)
theorem Kn.put {xs:List Ent105} (h:Kn nodes w pl xs) {pre post:List xZ1} {t:CT} (hn:nodes=pre++(t.fl++post)) (S:Nat) {q:Int} (hq:q=(pre.length:Int)) (p:Ent105→Bool):Kn nodes w pl (mup p ⟨⟨q,mkm S⟩,mkm (t.bh w pl S)⟩ xs):=by
 intro e he pre' t' post' S' hn' h1 h2
 rcases xZmI he with rfl | he
 ·simp only at h1 h2 ⊢
  have hlen:pre.length=pre'.length:=by omega
  rw [hn] at hn'
  obtain ⟨e1,e2⟩:=List.append_inj hn' hlen
  obtain ⟨rfl,_⟩:=xZqO _ _ _ _ e2
  rw [xZmH h2]
 ·exact h e he pre' t' post' S' hn' h1 h2
theorem e_kw {n:Nat} {S:Nat} {q:Int} (hq:q=(n:Int)) (hn:n≤1000000) (hS:S < 2 ^ 128):kwB ([.i64,.u64,.u64]:List IntKind) [q,(mkm S).i0,(mkm S).i1]=true:=by
 have h1:S % 18446744073709551616 < 18446744073709551616:=Nat.mod_lt _ (by decide)
 have h2:=xZlt hS
 simp only [kwB,Bool.and_true,Bool.and_eq_true,xZt,mkm]
 refine ⟨?_,?_,?_,?_,?_,?_⟩
 ·show (-9223372036854775808:Int)≤_;omega
 ·show _≤(9223372036854775807:Int);omega
 ·show (0:Int)≤_;omega
 ·show _≤(18446744073709551615:Int);omega
 ·show (0:Int)≤_;omega
 ·show _≤(18446744073709551615:Int);omega
def RT (nodes:List xZ1) (pl:List xZ3) (wi:Int) (by_:List UInt8) (md:Int) (w:List (List UInt8)) (T:Nat) (r:xZ8×List xZ1×List xZ3×Int×List UInt8×Int×List (List UInt8)×List Ent105):Prop:=∃ xs',Kn nodes w pl xs'∧r=(mkm T,nodes,pl,wi,by_,md,w,xs')
def TRd (nodes:List xZ1) (pl:List xZ3) (wi:Int) (by_:List UInt8) (md:Int) (w:List (List UInt8)) (t:CT):Prop:=∀ (pre post:List xZ1) (S:Nat) (xs:List Ent105) (q:Int),q=(pre.length:Int)→S < 2 ^ 101→nodes=pre++(t.fl++post)→Kn nodes w pl xs→W (fun N=>(xZc N).1 q (mkm S) nodes pl wi by_ md w xs) (RT nodes pl wi by_ md w (t.bh w pl S))
def CT.pk (n:Nat):CT→Prop
 | .eps _=>True
 | .leaf p=>0≤p∧p < (n:Int)
 | .cat _ a b=>a.pk n∧b.pk n
 | .or _ a b=>a.pk n∧b.pk n
 | .loop _ a=>a.pk n
theorem w_hit {t:CT} {pre post:List xZ1} {S:Nat} {xs:List Ent105} {q:Int} (hq:q=(pre.length:Int)) (hn:nodes=pre++(t.fl++post)) (hK:Kn nodes w pl xs) {e:Ent105} (hf:List.find? (fun y7=>((y7.k.at_==q)&&((y7.k.from_.i0==(mkm S).i0)&&(y7.k.from_.i1==(mkm S).i1)))) xs=some e):e.v=mkm (t.bh w pl S):=by
 have h1:=List.mem_of_find?_eq_some hf
 have h2:=List.find?_some hf
 simp only [Bool.and_eq_true,beq_iff_eq] at h2
 obtain ⟨h2,h3,h4⟩:=h2
 refine hK e h1 pre t post S hn (h2.trans hq) ?_
 obtain ⟨⟨a,⟨b,c⟩⟩,v⟩:=e
 simp only at h3 h4 ⊢
 rw [h3,h4]
theorem xZgi (hlen:nodes.length≤1000) {t:CT} {pre post:List xZ1} {S:Nat} {xs:List Ent105} {q:Int} (hq:q=(pre.length:Int)) (hS:S < 2 ^ 101) (hn:nodes=pre++(t.fl++post)) (hK:Kn nodes w pl xs)
 {f:Nat→Option (xZ8×List xZ1×List xZ3×Int×List UInt8×Int×List (List UInt8)×List Ent105)} (hf:W f (RT nodes pl wi by_ md w (t.bh w pl S))):
 W (fun N=>gd (kwB ([.i64,.u64,.u64]:List IntKind) [q,(mkm S).i0,(mkm S).i1]) (mcs (List.find? (fun y7=>((y7.k.at_==q)&&((y7.k.from_.i0==(mkm S).i0)&&(y7.k.from_.i1==(mkm S).i1)))) xs) (f N) fun y7=>some (y7.v,nodes,pl,wi,by_,md,w,xs))) (RT nodes pl wi by_ md w (t.bh w pl S)):=by
 have hpl:pre.length≤1000:=by rw [hn] at hlen;simp at hlen;omega
 rw [e_kw hq (by omega) (lt128 hS)]
 simp only [xZF]
 cases hfi:List.find? (fun y7:Ent105=>((y7.k.at_==q)&&((y7.k.from_.i0==(mkm S).i0)&&(y7.k.from_.i1==(mkm S).i1)))) xs with
 | none=>exact hf
 | some e=>exact W.ret.2 ⟨xs,hK,by rw [w_hit hq hn hK hfi]⟩
theorem xZrI (hlen:nodes.length≤1000) {p:Int}:TRd nodes pl wi by_ md w (.eps p):=by
 intro pre post S xs q hq hS hn hK
 have hpl:pre.length≤1000:=by rw [hn] at hlen;simp at hlen;omega
 have hix:ix nodes q=some ⟨1,p⟩:=by rw [hq,hn,ix_nat'];simp [CT.fl]
 refine W.shift ?_
 show W (fun N=>xZf N (xZc N) _ _ _ _ _ _ _ _ _) _
 simp only [xZf,xZ8R,hix,Option.bind_some,show ((1:Int)==2)=false from rfl,show ((1:Int)==3)=false from rfl,show ((1:Int)==4)=false from rfl,show ((1:Int)==5)=false from rfl,cond_false]
 refine xZgi hlen hq hS hn hK ?_
 rw [e_kw hq (by omega) (lt128 hS)]
 simp only [xZF,W.ret]
 exact ⟨_,hK.put hn S hq _,rfl⟩
theorem xZqj (hlen:nodes.length≤1000) (hw:w.length≤100) (hv:∀ q∈pl,q.Var.length≤1000000000000000) {p:Int} (hp:(CT.leaf p).pk pl.length):TRd nodes pl wi by_ md w (.leaf p):=by
 intro pre post S xs q hq hS hn hK
 have hpl:pre.length≤1000:=by rw [hn] at hlen;simp at hlen;omega
 have hix:ix nodes q=some ⟨2,p⟩:=by rw [hq,hn,ix_nat'];simp [CT.fl]
 obtain ⟨e,he1,he2⟩:=ix_lt hp.1 hp.2
 have hbh:CT.bh w pl (.leaf p) S=ovL (ltr e.Neg e.Var) S 0 w 0:=by rw [CT.bh,he2]
 have hem:e∈pl:=List.mem_of_getElem? he2
 refine W.shift ?_
 show W (fun N=>xZf N (xZc N) _ _ _ _ _ _ _ _ _) _
 simp only [xZf,xZ8R,hix,Option.bind_some,show ((2:Int)==2)=true from rfl,cond_true,he1,xZlx _ _ (hv e hem)]
 refine xZgi hlen hq hS hn hK ?_
 refine W.call (xZsJ hS hw _ xs) ?_
 rintro _ rfl
 simp only [e_kw hq (show pre.length≤1000000 by omega) (lt128 hS),xZF,W.ret]
 rw [← hbh]
 exact ⟨_,hK.put hn S hq _,rfl⟩
theorem xZrH (hlen:nodes.length≤1000) (hw:w.length≤100) {p:Int} {a b:CT} (iha:TRd nodes pl wi by_ md w a) (ihb:TRd nodes pl wi by_ md w b):TRd nodes pl wi by_ md w (.cat p a b):=by
 intro pre post S xs q hq hS hn hK
 have hn1:nodes=(pre++[⟨3,p⟩])++(a.fl++(b.fl++post)):=by rw [hn];simp [CT.fl]
 have hn2:nodes=(pre++[⟨3,p⟩]++a.fl)++(b.fl++post):=by rw [hn];simp [CT.fl]
 have hl2:=congrArg List.length hn2
 simp only [List.length_append,List.length_cons,List.length_nil] at hl2
 have hix:ix nodes q=some ⟨3,p⟩:=by rw [hq,hn,ix_nat'];simp [CT.fl]
 have g1:i64b (q+1)=true:=xZq.2 (by omega)
 refine W.shift ?_
 show W (fun N=>xZf N (xZc N) _ _ _ _ _ _ _ _ _) _
 simp only [xZf,xZ8R,hix,Option.bind_some,show ((3:Int)==2)=false from rfl,show ((3:Int)==3)=true from rfl,cond_true,cond_false,g1,xZF]
 refine xZgi hlen hq hS hn hK ?_
 obtain ⟨_,t1,xs1,k1,rfl⟩:=iha _ _ S xs (q+1) (by simp;omega) hS hn1 hK
 have hS1:=bh_lt w pl (show w.length < 101 by omega) a S hS
 obtain ⟨_,t2,xs2,k2,rfl⟩:=ihb _ _ (a.bh w pl S) xs1 (q+1+(a.fl.length:Int)) (by simp;omega) hS1 hn2 k1
 have hsz:=(xZl7 hn1 (by omega)).tl
 rw [show ((pre++[(⟨3,p⟩:xZ1)]).length:Int)=q+1 by simp;omega] at hsz
 have fin:RT nodes pl wi by_ md w (CT.bh w pl (.cat p a b) S) (mkm (b.bh w pl (a.bh w pl S)),nodes,pl,wi,by_,md,w,mup (fun y10=>((y10.k.at_==q)&&((y10.k.from_.i0==(mkm S).i0)&&(y10.k.from_.i1==(mkm S).i1)))) (Ent105.mk (xZ3W.mk q (mkm S)) (mkm (b.bh w pl (a.bh w pl S)))) xs2):=⟨_,k2.put (t:=.cat p a b) hn S hq _,rfl⟩
 refine W.mp (P:=(·=_)) (W.both ?_ ?_) (fun _ e=>by subst e;exact fin)
 all_goals
  refine (W.bindTl hsz).2 ?_
  refine W.gd.2 ⟨xZq.2 (by omega),?_⟩
  refine (W.bindTl t1).2 ?_
  refine (W.bindTl t2).2 ?_
  rw [e_kw hq (show pre.length≤1000000 by omega) (lt128 hS),xZF]
  exact W.ret.2 rfl
theorem tr_or (hlen:nodes.length≤1000) (hw:w.length≤100) {p:Int} {a b:CT} (iha:TRd nodes pl wi by_ md w a) (ihb:TRd nodes pl wi by_ md w b):TRd nodes pl wi by_ md w (.or p a b):=by
 intro pre post S xs q hq hS hn hK
 have hn1:nodes=(pre++[⟨4,p⟩])++(a.fl++(b.fl++post)):=by rw [hn];simp [CT.fl]
 have hn2:nodes=(pre++[⟨4,p⟩]++a.fl)++(b.fl++post):=by rw [hn];simp [CT.fl]
 have hl2:=congrArg List.length hn2
 simp only [List.length_append,List.length_cons,List.length_nil] at hl2
 have hix:ix nodes q=some ⟨4,p⟩:=by rw [hq,hn,ix_nat'];simp [CT.fl]
 have g1:i64b (q+1)=true:=xZq.2 (by omega)
 refine W.shift ?_
 show W (fun N=>xZf N (xZc N) _ _ _ _ _ _ _ _ _) _
 simp only [xZf,xZ8R,hix,Option.bind_some,show ((4:Int)==2)=false from rfl,show ((4:Int)==3)=false from rfl,show ((4:Int)==4)=true from rfl,cond_true,cond_false,g1,xZF]
 refine xZgi hlen hq hS hn hK ?_
 obtain ⟨_,t1,xs1,k1,rfl⟩:=iha _ _ S xs (q+1) (by simp;omega) hS hn1 hK
 obtain ⟨_,t2,xs2,k2,rfl⟩:=ihb _ _ S xs1 (q+1+(a.fl.length:Int)) (by simp;omega) hS hn2 k1
 have hS1:=bh_lt w pl (show w.length < 101 by omega) a S hS
 have hS2:=bh_lt w pl (show w.length < 101 by omega) b S hS
 have hsz:=(xZl7 hn1 (by omega)).tl
 rw [show ((pre++[(⟨4,p⟩:xZ1)]).length:Int)=q+1 by simp;omega] at hsz
 have fin:RT nodes pl wi by_ md w (CT.bh w pl (.or p a b) S) (mkm (a.bh w pl S ||| b.bh w pl S),nodes,pl,wi,by_,md,w,mup (fun y10=>((y10.k.at_==q)&&((y10.k.from_.i0==(mkm S).i0)&&(y10.k.from_.i1==(mkm S).i1)))) (Ent105.mk (xZ3W.mk q (mkm S)) (mkm (a.bh w pl S ||| b.bh w pl S))) xs2):=⟨_,k2.put (t:=.or p a b) hn S hq _,rfl⟩
 refine W.mp (P:=(·=_)) (W.both ?_ (W.both ?_ (W.both ?_ (W.both ?_ (W.both ?_ ?_))))) (fun _ e=>by subst e;exact fin)
 all_goals
  refine (W.bindTl t1).2 ?_
  refine (W.bindTl hsz).2 ?_
  refine W.gd.2 ⟨xZq.2 (by omega),?_⟩
  refine (W.bindTl t2).2 ?_
  simp only [e_or (lt128 hS1) (lt128 hS2),Option.bind_some]
  rw [e_kw hq (show pre.length≤1000000 by omega) (lt128 hS),xZF]
  exact W.ret.2 rfl
theorem xZqk (hlen:nodes.length≤1000) (hw:w.length≤100) {p:Int} {a:CT} (iha:TRd nodes pl wi by_ md w a):TRd nodes pl wi by_ md w (.loop p a):=by
 intro pre post S xs q hq hS hn hK
 have hn1:nodes=(pre++[⟨5,p⟩])++(a.fl++post):=by rw [hn];simp [CT.fl]
 have hl1:=congrArg List.length hn1
 simp only [List.length_append,List.length_cons,List.length_nil] at hl1
 have hix:ix nodes q=some ⟨5,p⟩:=by rw [hq,hn,ix_nat'];simp [CT.fl]
 have g1:i64b (q+1)=true:=xZq.2 (by omega)
 have hlt:=fun s hs=>bh_lt w pl (show w.length < 101 by omega) a s hs
 refine W.shift ?_
 show W (fun N=>xZf N (xZc N) _ _ _ _ _ _ _ _ _) _
 simp only [xZf,xZ8R,hix,Option.bind_some,show ((5:Int)==2)=false from rfl,show ((5:Int)==3)=false from rfl,show ((5:Int)==4)=false from rfl,show ((5:Int)==5)=true from rfl,cond_true,cond_false,g1,xZF]
 refine xZgi hlen hq hS hn hK ?_
 have loop:W (fun N=>(xZc N).2 (q+1) (mkm S) nodes pl wi by_ md w xs) (RT nodes pl wi by_ md w (lpf (a.bh w pl) 102 (a.bh w pl S))):=by
  refine W.shift ?_
  show W (fun N=>xZ2l N (xZc N) _ _ _ _ _ _ _ _ _) _
  simp only [xZ2l]
  refine W.bind (iha _ _ S xs (q+1) (by simp;omega) hS hn1 hK) ?_
  rintro _ ⟨xs1,k1,rfl⟩
  have h0:=hlt S hS
  refine W.lp9 (N:=fun N=>N) (P:=fun y7 y8 y9 y10 y11 y12 y13 y14 ys=>∃ T k,y7=nodes∧y8=pl∧y9=wi∧y10=by_∧y11=md∧y12=w∧xZ8.mk y13 y14=mkm T∧T < 2 ^ 101∧Kn nodes w pl ys∧102≤cnt T 101+k∧lpf (a.bh w pl) k T=lpf (a.bh w pl) 102 (a.bh w pl S)) (m:=fun _ _ _ _ _ _ y13 y14 _=>101 - cnt (y13.toNat+18446744073709551616 * y14.toNat) 101)
   ⟨a.bh w pl S,102,rfl,rfl,rfl,rfl,rfl,rfl,rfl,h0,k1,by omega,rfl⟩ ?_
  rintro F y7 y8 y9 y10 y11 y12 y13 y14 ys ⟨T,k,rfl,rfl,rfl,rfl,rfl,rfl,hT,hTl,kT,hk,hL⟩ hn
  have hTn:∀ {x y:Int} {U:Nat},xZ8.mk x y=mkm U→x.toNat+18446744073709551616 * y.toNat=U:=fun {x y U} h=>by
   injection h with h1 h2
   rw [h1,h2];simp only [Int.toNat_natCast];omega
  simp only [xZ1Y,xZ8R,hT]
  refine W.bind (W.lift (iha _ _ T ys (q+1) (by simp;omega) hTl hn1 kT)) ?_
  rintro _ ⟨ys',kT',rfl⟩
  have hf:=hlt T hTl
  simp only [e_or (lt128 hTl) (lt128 hf),Option.bind_some]
  have hc:cnt T 101≤101:=xZlo T 101
  obtain ⟨k',rfl⟩:∃ k',k=k'+1:=⟨k - 1,by omega⟩
  rw [lpf] at hL
  have hm0:(mkm T).i0=y13:=by rw [← hT]
  have hm1:(mkm T).i1=y14:=by rw [← hT]
  have hcond:(((mkm (T ||| a.bh y12 y8 T)).i0==y13)&&((mkm (T ||| a.bh y12 y8 T)).i1==y14))=Nat.beq (T ||| a.bh y12 y8 T) T:=by
   by_cases he:T ||| a.bh y12 y8 T=T
   ·rw [he,Nat.beq_refl,hm0,hm1];simp
   ·have hb:Nat.beq (T ||| a.bh y12 y8 T) T=false:=by
     cases h:Nat.beq (T ||| a.bh y12 y8 T) T with
     | false=>rfl
     | true=>exact absurd (Nat.eq_of_beq_eq_true h) he
    rw [hb,Bool.eq_false_iff]
    intro hh
    simp only [Bool.and_eq_true,beq_iff_eq] at hh
    refine he (xZmH ?_)
    rw [← hT,← hh.1,← hh.2]
  rw [hcond]
  cases hb:Nat.beq (T ||| a.bh y12 y8 T) T
  ·rw [hb] at hL
   simp only [cond_false] at hL ⊢
   have hne:T ||| a.bh y12 y8 T≠T:=fun h=>by rw [h,Nat.beq_refl] at hb;cases hb
   have hcl:=xZoF hTl hf hne
   have hol:=Nat.or_lt_two_pow hTl hf
   refine hn _ _ _ _ _ _ _ _ _ ⟨T ||| a.bh y12 y8 T,k',rfl,rfl,rfl,rfl,rfl,rfl,rfl,hol,kT',by omega,hL⟩ ?_
   rw [hTn hT,hTn (mkm_i _)]
   have:=xZlo (T ||| a.bh y12 y8 T) 101
   omega
  ·rw [hb] at hL
   simp only [cond_true] at hL ⊢
   rw [← hL]
   exact W.ret.2 ⟨ys',kT',rfl⟩
 refine W.bind loop ?_
 rintro _ ⟨xs1,k1,rfl⟩
 simp only [e_kw hq (show pre.length≤1000000 by omega) (lt128 hS),xZF,W.ret]
 exact ⟨_,k1.put (t:=.loop p a) hn S hq _,rfl⟩
theorem tr (hlen:nodes.length≤1000) (hw:w.length≤100) (hv:∀ q∈pl,q.Var.length≤1000000000000000):∀ t:CT,t.pk pl.length→TRd nodes pl wi by_ md w t
 | .eps p,_=>xZrI hlen
 | .leaf p,h=>xZqj hlen hw hv h
 | .cat p a b,h=>xZrH hlen hw (tr hlen hw hv a h.1) (tr hlen hw hv b h.2)
 | .or p a b,h=>tr_or hlen hw (tr hlen hw hv a h.1) (tr hlen hw hv b h.2)
 | .loop p a,h=>xZqk hlen hw (tr hlen hw hv a h)
end
def okCn (n:Nat) (e:xZ1):Bool:=leB 1 e.Kind&&(leB e.Kind 5&&(!(e.Kind==2) || (leB 0 e.Place&&ltB e.Place (n:Int))))
def fineB (c:xZn):Bool:=Nat.ble c.Nodes.length 200&&((cz c.Nodes 0==(c.Nodes.length:Int))&&(!((c.Nodes.length:Int)==0)&&c.Nodes.all (okCn c.Places.length)))
theorem e_fL (N:Nat) (e:xZ1) (y:List xZ1) (y2:List xZ3) (y3:Int) (y4:List UInt8) (y5:Int):xZ2n N e y y2 y3 y4 y5=some (!okCn y2.length e,y,y2,y3,y4,y5):=by
 obtain ⟨K,p⟩:=e
 simp only [xZ2n,okCn]
 have e1:ltB K 1=!leB 1 K:=rfl
 have e2:ltB 5 K=!leB K 5:=rfl
 have e3:ltB p 0=!leB 0 p:=rfl
 have e4:leB (y2.length:Int) p=!ltB p (y2.length:Int):=by simp [ltB]
 rw [e1,e2,e3,e4]
 cases leB 1 K<;>cases leB K 5<;>cases (K==2)<;>cases leB 0 p<;>rfl
theorem xZqo (c:xZn) (hl:c.Nodes.length≤1000000):W (fun N=>xZ9n N c) (·=fineB c):=by
 simp only [xZ9n,fineB]
 by_cases h1:200 < c.Nodes.length
 ·have:Nat.ble c.Nodes.length 200=false:=by
   cases h:Nat.ble c.Nodes.length 200 with
   | false=>rfl
   | true=>have:=Nat.le_of_ble_eq_true h;omega
  simp only [show ltB 200 (c.Nodes.length:Int)=true from xZe.2 (by omega),cond_true,this,Bool.false_and,W.ret]
 simp only [show ltB 200 (c.Nodes.length:Int)=false from xZP.2 (by omega),cond_false,show Nat.ble c.Nodes.length 200=true from Nat.ble_eq_true_of_le (by omega),Bool.true_and]
 refine W.call (xZn1 _ _ hl) ?_
 rintro _ rfl
 by_cases h2:cz c.Nodes 0=(c.Nodes.length:Int)
 rotate_left
 ·simp only [show (cz c.Nodes 0 != (c.Nodes.length:Int))=true by simpa using h2,cond_true,show (cz c.Nodes 0==(c.Nodes.length:Int))=false by simpa using h2,Bool.false_and,W.ret]
 simp only [show (cz c.Nodes 0 != (c.Nodes.length:Int))=false by simpa using h2,cond_false,show (cz c.Nodes 0==(c.Nodes.length:Int))=true by simpa using h2,Bool.true_and]
 cases h3:((c.Nodes.length:Int)==0)
 rotate_left
 ·simp only [cond_true,Bool.not_true,Bool.false_and,W.ret]
 simp only [cond_false,Bool.not_false,Bool.true_and]
 have key:W (fun N=>xZw N c.Nodes c.Nodes c.Places c.Within c.By c.Mode) fun r=>r.1=!c.Nodes.all (okCn c.Places.length):=by
  simp only [xZw]
  have:W (fun N=>xZC N c.Nodes c.Nodes c.Places c.Within c.By c.Mode) fun r=>leB 0 r.1=!c.Nodes.all (okCn c.Places.length):=by
   simp only [xZC]
   refine wf6a (l:=c.Nodes) (fun pre a b d e f=>b=c.Places∧pre.all (okCn c.Places.length)=true) [] rfl rfl (by omega) ⟨rfl,rfl⟩ ?_ ?_
   ·rintro F pre e rest a _ d g f hl' k1 k2 k3 ⟨rfl,hp⟩ hn
    simp only [xZz,k1,k2,Option.bind_some,cond_true,e_fL]
    cases ho:okCn c.Places.length e
    ·simp only [Bool.not_false,cond_true,W.ret]
     rw [xZt.2 (by omega),hl']
     simp [ho]
    ·simp only [Bool.not_true,cond_false,k3,xZF]
     exact hn _ _ _ _ _ ⟨rfl,by rw [List.all_append,hp];simp [ho]⟩
   ·rintro F a _ d g f k1 ⟨rfl,hp⟩
    simp only [xZz,k1,cond_false,W.ret]
    rw [hp];rfl
  refine W.call this fun r hr=>?_
  simp only [W.ret];exact hr
 refine W.call key fun r hr=>?_
 rw [hr,Bool.not_not]
 exact W.ret.2 rfl
theorem xZil {c:xZn} (h:fineB c=true):c.Nodes.length≤200∧∃ t:CT,c.Nodes=t.fl∧t.pk c.Places.length:=by
 simp only [fineB,Bool.and_eq_true,beq_iff_eq,Bool.not_eq_true',beq_eq_false_iff_ne] at h
 obtain ⟨h1,h2,h3,h4⟩:=h
 have h1:=Nat.le_of_ble_eq_true h1
 have hk:∀ e∈c.Nodes,1≤e.Kind∧e.Kind≤5:=fun e he=>by
  have:=List.all_eq_true.1 h4 e he
  simp only [okCn,Bool.and_eq_true,xZt] at this
  exact ⟨this.1,this.2.1⟩
 rw [cz,if_neg (by omega),if_neg (by omega)] at h2
 obtain ⟨ts,r,q1,q2,q3⟩:=xZed c.Nodes 1 0 c.Nodes.length hk (by omega) (by omega) (by omega) (by simpa using h2)
 match ts,q1,q2,q3 with
 | [],_,q2,_=>simp at q2
 | _::_::_,_,q2,_=>simp at q2;omega
 | [t],q1,_,q3=>
   have hr:r=[]:=by
    have:=congrArg List.length q1
    simp at this q3
    exact List.length_eq_zero_iff.1 (by omega)
   rw [hr] at q1
   simp [CT.fls] at q1
   refine ⟨h1,t,q1,?_⟩
   have hp:∀ t:CT,(∀ e∈t.fl,okCn c.Places.length e=true)→t.pk c.Places.length:=fun t=>by
    induction t with
    | eps p=>exact fun _=>trivial
    | leaf p=>
      intro h
      have:=h _ (List.mem_singleton.2 rfl)
      simp only [okCn,Bool.and_eq_true,xZt,xZe,show ((2:Int)==2)=true from rfl,Bool.not_true,Bool.false_or] at this
      exact this.2.2
    | cat p a b iha ihb=>intro h;exact ⟨iha fun e he=>h e (by simp [CT.fl,he]),ihb fun e he=>h e (by simp [CT.fl,he])⟩
    | or p a b iha ihb=>intro h;exact ⟨iha fun e he=>h e (by simp [CT.fl,he]),ihb fun e he=>h e (by simp [CT.fl,he])⟩
    | loop p a iha=>intro h;exact iha fun e he=>h e (by simp [CT.fl,he])
   exact hp t fun e he=>List.all_eq_true.1 h4 e (by rw [q1];exact he)
def prs:Nat→List xZ1→Option (CT×List xZ1)
 | 0,_=>none
 | _+1,[]=>none
 | n+1,e::r=>bif e.Kind==1 then some (.eps e.Place,r) else bif e.Kind==2 then some (.leaf e.Place,r) else
   bif e.Kind==3 then (prs n r).bind fun x=>(prs n x.2).bind fun y=>some (.cat e.Place x.1 y.1,y.2) else
   bif e.Kind==4 then (prs n r).bind fun x=>(prs n x.2).bind fun y=>some (.or e.Place x.1 y.1,y.2) else
   (prs n r).bind fun x=>some (.loop e.Place x.1,x.2)
theorem xZjr:∀ (t:CT) (r:List xZ1) (n:Nat),t.fl.length≤n→prs n (t.fl++r)=some (t,r)
 | .eps p,r,0,h=>by simp [CT.fl] at h
 | .leaf p,r,0,h=>by simp [CT.fl] at h
 | .cat p a b,r,0,h=>by simp [CT.fl] at h
 | .or p a b,r,0,h=>by simp [CT.fl] at h
 | .loop p a,r,0,h=>by simp [CT.fl] at h
 | .eps p,r,n+1,h=>rfl
 | .leaf p,r,n+1,h=>rfl
 | .cat p a b,r,n+1,h=>by
   simp only [CT.fl,List.length_cons,List.length_append] at h
   have h1:=xZjr a (b.fl++r) n (by omega)
   have h2:=xZjr b r n (by omega)
   simp only [CT.fl,List.cons_append,List.append_assoc,prs,show ((3:Int)==1)=false from rfl,show ((3:Int)==2)=false from rfl,show ((3:Int)==3)=true from rfl,cond_true,cond_false,h1,h2,Option.bind_some]
 | .or p a b,r,n+1,h=>by
   simp only [CT.fl,List.length_cons,List.length_append] at h
   have h1:=xZjr a (b.fl++r) n (by omega)
   have h2:=xZjr b r n (by omega)
   simp only [CT.fl,List.cons_append,List.append_assoc,prs,show ((4:Int)==1)=false from rfl,show ((4:Int)==2)=false from rfl,show ((4:Int)==3)=false from rfl,show ((4:Int)==4)=true from rfl,cond_true,cond_false,h1,h2,Option.bind_some]
 | .loop p a,r,n+1,h=>by
   simp only [CT.fl,List.length_cons] at h
   have h1:=xZjr a r n (by omega)
   simp only [CT.fl,List.cons_append,prs,show ((5:Int)==1)=false from rfl,show ((5:Int)==2)=false from rfl,show ((5:Int)==3)=false from rfl,show ((5:Int)==4)=false from rfl,cond_false,h1,Option.bind_some]
def accB (c:xZn) (w:List (List UInt8)):Bool:=bif fineB c then (bif Nat.ble w.length 100 then (match prs 201 c.Nodes with
 | some x=>(x.1.bh w c.Places 1).testBit w.length
 | none=>false) else false) else false
theorem xZos {c:xZn} {t:CT} (hf:fineB c=true) (ht:c.Nodes=t.fl) (hl:c.Nodes.length≤200) {w:List (List UInt8)} (hw:w.length≤100):accB c w=(t.bh w c.Places 1).testBit w.length:=by
 have:=xZjr t [] 201 (by rw [← ht];omega)
 rw [List.append_nil] at this
 rw [accB,hf,show Nat.ble w.length 100=true from Nat.ble_eq_true_of_le hw,ht,this];rfl
theorem xZgh (c:xZn) (w:List (List UInt8)) (hl:c.Nodes.length≤1000000) (hv:∀ q∈c.Places,q.Var.length≤1000000000000000):W (fun N=>xZ5r N c w) (·=accB c w):=by
 simp only [xZ5r]
 refine W.call (xZqo c hl) ?_
 rintro _ rfl
 cases hf:fineB c
 ·simp only [Bool.not_false,cond_true,W.ret]
  rw [accB,hf];rfl
 simp only [Bool.not_true,cond_false]
 by_cases hw:100 < w.length
 ·have:Nat.ble w.length 100=false:=by
   cases h:Nat.ble w.length 100 with
   | false=>rfl
   | true=>have:=Nat.le_of_ble_eq_true h;omega
  simp only [show ltB 100 (w.length:Int)=true from xZe.2 (by omega),cond_true,W.ret]
  rw [accB,hf,this];rfl
 simp only [show ltB 100 (w.length:Int)=false from xZP.2 (by omega),cond_false]
 obtain ⟨h1,t,h2,h3⟩:=xZil hf
 refine W.call (f:=fun N=>xZ2m N 0 (mkm 1) c.Nodes c.Places c.Within c.By c.Mode w []) (tr (by omega) (by omega) hv t h3 [] [] 1 [] 0 rfl (by decide) (by rw [h2];simp) (fun e he=>by cases he)) ?_
 rintro _ ⟨xs,_,rfl⟩
 have hlt:=bh_lt w c.Places (show w.length < 101 by omega) t 1 (by decide)
 simp only [e_has (lt128 hlt) (show w.length < 128 by omega),Option.bind_some,W.ret]
 rw [xZos hf h2 h1 (by omega)]
end
section
open Go.Proofs.Tryz
set_option maxRecDepth 1000000
set_option maxHeartbeats 8000000
def okAcc (c:xZn):Bool:=Nat.ble c.Nodes.length 1000000&&c.Places.all fun q=>Nat.ble q.Var.length 1000000
noncomputable def xZor:Con tb:={ xZ50 with sh:=fun _ a=>gd (okAcc a.1) (some (accB a.1 a.2.1)) }
theorem xZqE (N:Nat):xZor.Ok prog N:=⟨(xZ7J N).ent,fun a r h=>by
 have h:gd (okAcc a.1) (some (accB a.1 a.2.1))=some r:=h
 cases hc:okAcc a.1 with
 | false=>rw [hc] at h;cases h
 | true=>
   rw [hc] at h
   cases h
   rw [okAcc,Bool.and_eq_true,List.all_eq_true] at hc
   obtain ⟨b,⟨K,hK⟩,rfl⟩:=xZgh a.1 a.2.1 (Nat.le_of_ble_eq_true hc.1) fun q hq=>by have:=Nat.le_of_ble_eq_true (hc.2 q hq);omega
   exact (xZ7J K).res a _ (hK K (Nat.le_refl _))⟩
end
section
open Go.Proofs.Tryz
set_option maxRecDepth 1000000
set_option maxHeartbeats 8000000
open Go.RowKit
set_option maxHeartbeats 4000000
theorem uta_g (w:World):(Instr.typeAssert .nilIface 20 167 true).run Tryz.prog w=.ok (.tuple #[.pointer none,.bool false]) w:=by
 obtain ⟨z,hz⟩:∃ z,cTa Tryz.prog 167=some z:=⟨.v (.pointer none),by kernel_rfl⟩
 obtain ⟨⟨d,hd,hn⟩,i,zv,hi,hzv,rfl⟩:=xZbm hz
 have hv:(zeroValue 167).run Tryz.prog w=.ok (.pointer none) w:=Tryz.zeroValue167 w
 simp only [Instr.typeAssert,Sem.run_bind,run_underlying hd,Result.andThen_ok]
 cases d<;>first | exact absurd rfl (hn _) | (simp only [if_true,Sem.run_bind,Sem.run_pure,hv,Result.andThen_ok])
theorem xZog (p q:Addr) (w:World):CallsD Tryz.prog 88 #[.pointer (some p),.pointer (some q)] .returning w fun e u' w'=>
 e=.returned (.tuple #[])∧u'=.returning∧w'=w:=by
 refine callsD_of_wpS Tryz.func88 rfl fun c₀ cs hu=>?_
 simp only [Tryz.ntmps88,List.size_toArray,List.length_cons,List.length_nil,Nat.reduceAdd,Nat.reduceSub,Array.replicate_succ,
  Array.replicate_zero,List.push_toArray,List.append_toArray,List.nil_append,List.cons_append]
 apply wpS_seq
 apply wpS_region
 simp [wpOpsS,go_sem,recoverD,hu,Exit.thenS,uta_g]
 refine wpS_of_wp ?_
 go_wp2
 exact ⟨rfl,_,(by rw [← hu]),_,results_none rfl _ _ _,rfl,rfl,rfl⟩
theorem xZ4U:Idle prog 88 2:=⟨(Is.of (fn:=f88) (by kernel_rfl) (by kernel_rfl)).enters,fun caps hn hp w=>by
 obtain ⟨l⟩:=caps
 match l,hn with
 | [a,b],_=>
   obtain ⟨p,h0⟩:=hp 0 (by decide)
   obtain ⟨q,h1⟩:=hp 1 (by decide)
   cases h0
   cases h1
   refine (xZog p q w).mono ?_
   rintro e u' w' ⟨rfl,rfl,rfl⟩
   exact ⟨⟨_,rfl⟩,rfl,.refl _⟩⟩
end
end Go.Proofs.YtmllclbhdmajmaaGreat.W
