/- Plain functions with fuel: what they tell if there is enough of it. No premise beyond what each theorem says. -/
import Derived.Test.YtbioikdfpfafaaaGreatDoorTA3
import Derived.Test.YtbioikdfpfafaaaGreatDoorTA2
set_option linter.all false
set_option linter.unusedSimpArgs false
set_option linter.unusedVariables false
namespace Go.Proofs.YtbioikdfpfafaaaGreatDoor.T
open Go
section
class Lim (ι:Type) where
 ev:(ι→Prop)→Prop
 mono:∀ {P Q:ι→Prop},(∀ i,P i→Q i)→ev P→ev Q
 and:∀ {P Q:ι→Prop},ev P→ev Q→ev fun i=>P i∧Q i
 all:∀ {P:ι→Prop},(∀ i,P i)→ev P
 ex:∀ {P:ι→Prop},ev P→∃ i,P i
instance:Lim Nat where
 ev P:=∃ K,∀ N,K≤N→P N
 mono h:=fun ⟨K,hK⟩=>⟨K,fun N hN=>h N (hK N hN)⟩
 and:=fun ⟨K,hK⟩ ⟨L,hL⟩=>⟨max K L,fun N hN=>⟨hK N (by omega),hL N (by omega)⟩⟩
 all h:=⟨0,fun N _=>h N⟩
 ex:=fun ⟨K,hK⟩=>⟨K,hK K (Nat.le_refl _)⟩
instance {ι:Type} [Lim ι]:Lim (ι×Nat) where
 ev P:=∃ K,Lim.ev fun i:ι=>∀ n,K≤n→P (i,n)
 mono h:=fun ⟨K,hK⟩=>⟨K,Lim.mono (fun i hi n hn=>h _ (hi n hn)) hK⟩
 and:=fun ⟨K,hK⟩ ⟨L,hL⟩=>⟨max K L,Lim.mono (fun i hi n hn=>⟨hi.1 n (by omega),hi.2 n (by omega)⟩) (Lim.and hK hL)⟩
 all h:=⟨0,Lim.all fun i n _=>h (i,n)⟩
 ex:=fun ⟨K,hK⟩=>let ⟨i,hi⟩:=Lim.ex hK;⟨(i,K),hi K (Nat.le_refl _)⟩
class Tends {ι:Type} [Lim ι] (N:ι→Nat):Prop where
 to:∀ K,Lim.ev fun i=>K≤N i
instance:Tends (fun n:Nat=>n):=⟨fun K=>⟨K,fun _ h=>h⟩⟩
instance {ι:Type} [Lim ι]:Tends (fun p:ι×Nat=>p.2):=⟨fun K=>⟨K,Lim.all fun _ _ h=>h⟩⟩
instance {ι:Type} [Lim ι] {N:ι→Nat} [h:Tends N]:Tends (fun p:ι×Nat=>N p.1):=⟨fun K=>⟨0,Lim.mono (fun _ hi _ _=>hi) (h.to K)⟩⟩
instance:Tends (fun p:Nat×Nat=>p.1):=⟨fun K=>⟨0,K,fun _ h _ _=>h⟩⟩
instance:Tends (fun p:(Nat×Nat)×Nat=>p.1.1):=⟨fun K=>⟨0,0,K,fun _ h _ _ _ _=>h⟩⟩
instance:Tends (fun p:((Nat×Nat)×Nat)×Nat=>p.1.1.1):=⟨fun K=>⟨0,0,0,K,fun _ h _ _ _ _ _ _=>h⟩⟩
def Tl {ι:Type} [Lim ι] {α:Type} (f:ι→Option α) (a:α):Prop:=Lim.ev fun i=>f i=some a
def W {ι:Type} [Lim ι] {α:Type} (f:ι→Option α) (Q:α→Prop):Prop:=∃ a,Tl f a∧Q a
section
variable {ι:Type} [Lim ι] {α β:Type}
theorem Tl.uniq {f:ι→Option α} {a b:α} (h:Tl f a) (h':Tl f b):a=b:=by
 obtain ⟨i,h1,h2⟩:=Lim.ex (Lim.and h h')
 rw [h1] at h2;exact Option.some.inj h2
theorem Tl.w {f:ι→Option α} {a:α} (h:Tl f a):W f (·=a):=⟨a,h,rfl⟩
theorem W.tl {f:ι→Option α} {a:α} (h:W f (·=a)):Tl f a:=by obtain ⟨_,h,rfl⟩:=h;exact h
theorem W.mp {f:ι→Option α} {P Q:α→Prop} (h:W f P) (hi:∀ a,P a→Q a):W f Q:=let ⟨a,h1,h2⟩:=h;⟨a,h1,hi a h2⟩
theorem W.and {f:ι→Option α} {P Q:α→Prop} (h:W f P) (h':W f Q):W f fun a=>P a∧Q a:=by
 obtain ⟨a,h1,h2⟩:=h
 obtain ⟨b,h3,h4⟩:=h'
 obtain rfl:=h1.uniq h3
 exact ⟨a,h1,h2,h4⟩
theorem W.ret {a:α} {Q:α→Prop}:W (fun _:ι=>some a) Q ↔ Q a:=
 ⟨fun ⟨b,h,hq⟩=>by obtain ⟨_,h⟩:=Lim.ex h;cases h;exact hq,fun h=>⟨a,Lim.all fun _=>rfl,h⟩⟩
theorem W.none {Q:α→Prop}:W (fun _:ι=>(Option.none:Option α)) Q ↔ False:=
 ⟨fun ⟨b,h,_⟩=>by (obtain ⟨_,h⟩:=Lim.ex h;cases h),fun h=>h.elim⟩
theorem W.cond {c:Bool} {f g:ι→Option α} {Q:α→Prop}:W (fun i=>bif c then f i else g i) Q ↔ (c=true→W f Q)∧(c=false→W g Q):=by
 cases c
 ·exact ⟨fun h=>⟨fun h'=>by (cases h'),fun _=>h⟩,fun h=>h.2 rfl⟩
 ·exact ⟨fun h=>⟨fun _=>h,fun h'=>by (cases h')⟩,fun h=>h.1 rfl⟩
theorem W.gd {c:Bool} {f:ι→Option α} {Q:α→Prop}:W (fun i=>gd c (f i)) Q ↔ c=true∧W f Q:=by
 cases c with
 | true=>exact ⟨fun h=>⟨rfl,h⟩,fun h=>h.2⟩
 | false=>
   refine ⟨?_,fun h=>by cases h.1⟩
   rintro ⟨a,h,_⟩
   obtain ⟨_,h⟩:=Lim.ex h
   cases h
theorem W.obind {x:Option β} {k:ι→β→Option α} {Q:α→Prop}:W (fun i=>x.bind (k i)) Q ↔ ∃ a,x=some a∧W (fun i=>k i a) Q:=by
 cases x with
 | none=>
   refine ⟨?_,fun h=>by obtain ⟨_,h,_⟩:=h;cases h⟩
   rintro ⟨a,h,_⟩
   obtain ⟨_,h⟩:=Lim.ex h
   cases h
 | some a=>exact ⟨fun h=>⟨a,rfl,h⟩,fun h=>by obtain ⟨_,h,h'⟩:=h;cases h;exact h'⟩
theorem W.some {b:β} {k:ι→β→Option α} {Q:α→Prop}:W (fun i=>(some b:Option β).bind (k i)) Q ↔ W (fun i=>k i b) Q:=Iff.rfl
theorem W.sum {γ:Type} {x:β⊕γ} {f:ι→β→Option α} {g:ι→γ→Option α} {Q:α→Prop}:
 W (fun i=>Sum.elim (f i) (g i) x) Q ↔ (∀ b,x=.inl b→W (fun i=>f i b) Q)∧(∀ b,x=.inr b→W (fun i=>g i b) Q):=by
 cases x
 ·exact ⟨fun h=>⟨fun _ h'=>by (cases h';exact h),fun _ h'=>by (cases h')⟩,fun h=>h.1 _ rfl⟩
 ·exact ⟨fun h=>⟨fun _ h'=>by (cases h'),fun _ h'=>by (cases h';exact h)⟩,fun h=>h.2 _ rfl⟩
theorem W.bind {f:ι→Option β} {k:ι→β→Option α} {P:β→Prop} {Q:α→Prop} (h:W f P) (hk:∀ b,P b→W (fun i=>k i b) Q):W (fun i=>(f i).bind (k i)) Q:=by
 obtain ⟨b,hb,hp⟩:=h
 obtain ⟨a,ha,hq⟩:=hk b hp
 refine ⟨a,Lim.mono (fun i hi=>?_) (Lim.and hb ha),hq⟩
 obtain ⟨h1,h2⟩:=hi
 show (f i).bind (k i)=_
 rw [h1];exact h2
theorem W.congr {f g:ι→Option α} {Q:α→Prop} (h:Lim.ev fun i=>f i=g i) (h':W g Q):W f Q:=
 let ⟨a,ha,hq⟩:=h';⟨a,Lim.mono (fun _ hi=>hi.1.trans hi.2) (Lim.and h ha),hq⟩
theorem Tl.lift {f:ι→Option α} {b:α} (h:Tl f b):Tl (fun p:ι×Nat=>f p.1) b:=⟨0,Lim.mono (fun _ hi _ _=>hi) h⟩
theorem W.lift {f:ι→Option α} {Q:α→Prop} (h:W f Q):W (fun p:ι×Nat=>f p.1) Q:=let ⟨a,h1,h2⟩:=h;⟨a,h1.lift,h2⟩
theorem Tl.of {f:Nat→Option α} {b:α} (h:Tl f b) (N:ι→Nat) [hN:Tends N]:Tl (fun i=>f (N i)) b:=by
 obtain ⟨K,hK⟩:=h
 exact Lim.mono (fun i hi=>hK _ hi) (hN.to K)
theorem W.of {f:Nat→Option α} {Q:α→Prop} (h:W f Q) (N:ι→Nat) [hN:Tends N]:W (fun i=>f (N i)) Q:=let ⟨a,h1,h2⟩:=h;⟨a,h1.of N,h2⟩
theorem W.call {f:Nat→Option β} {P:β→Prop} (h:W f P) {k:ι→β→Option α} {Q:α→Prop} {N:ι→Nat} [Tends N] (hk:∀ b,P b→W (fun i=>k i b) Q):W (fun i=>(f (N i)).bind (k i)) Q:=W.bind (h.of N) hk
theorem W.loopQ {V R:Type} {f:ι→(V→Option R)→V→Option R} (N:ι→Nat) [hN:Tends N] (P:V→Prop) (m:V→Nat) (Q:V→R→Prop)
 (h:∀ (F:ι×Nat→V→Option R) v,P v→(∀ v',P v'→m v' < m v→W (fun p=>F p v') (Q v'))→W (fun p:ι×Nat=>f p.1 (F p) v) (Q v)) (v:V) (hv:P v):
 W (fun i=>loopV (f i) (N i) v) (Q v):=by
 have key:∀ q v,P v→m v=q→W (fun p:ι×Nat=>loopV (f p.1) p.2 v) (Q v):=by
  intro q
  induction q using Nat.strongRecOn with
  | ind q ih=>
    intro v hv hq
    obtain ⟨a,⟨K,hK⟩,ha⟩:=h (fun p=>loopV (f p.1) p.2) v hv fun v' hv' hm=>ih _ (by omega) v' hv' rfl
    refine ⟨a,⟨K+1,Lim.mono (fun i hi n hn=>?_) hK⟩,ha⟩
    obtain ⟨z,rfl⟩:∃ z,n=z+1:=⟨n - 1,by omega⟩
    exact hi z (by omega)
 obtain ⟨a,⟨K,hK⟩,ha⟩:=key _ v hv rfl
 exact ⟨a,Lim.mono (fun i hi=>hi.1 _ hi.2) (Lim.and hK (hN.to K)),ha⟩
theorem W.loop {V R:Type} {f:ι→(V→Option R)→V→Option R} {Q:R→Prop} (N:ι→Nat) [hN:Tends N] (P:V→Prop) (m:V→Nat)
 (h:∀ (F:ι×Nat→V→Option R) v,P v→(∀ v',P v'→m v' < m v→W (fun p=>F p v') Q)→W (fun p:ι×Nat=>f p.1 (F p) v) Q) (v:V) (hv:P v):
 W (fun i=>loopV (f i) (N i) v) Q:=W.loopQ N P m (fun _=>Q) h v hv
theorem W.lp1 {α0 R:Type} {f:ι→(α0→Option R)→α0→Option R} {Q:R→Prop} (P:α0→Prop) (m:α0→Nat) {N:ι→Nat} [Tends N] {u0}
 (hv:P u0) (h:∀ (F:ι×Nat→α0→Option R) v0,P v0→(∀ w0,P w0→m w0 < m v0→W (fun p=>F p w0) Q)→W (fun p:ι×Nat=>f p.1 (F p) v0) Q):
 W (fun i=>lp1 (f i) (N i) u0) Q:=
 W.loop (f:=fun i next v=>f i (fun u0=>next u0) v) N (fun v=>P v) (fun v=>m v) (fun F v hp hn=>h (fun p u0=>F p u0) (v) hp fun w0 hw hm=>hn (w0) hw hm) u0 hv
theorem W.lp2 {α0 α1 R:Type} {f:ι→(α0→α1→Option R)→α0→α1→Option R} {Q:R→Prop} (P:α0→α1→Prop) (m:α0→α1→Nat) {N:ι→Nat} [Tends N] {u0 u1}
 (hv:P u0 u1) (h:∀ (F:ι×Nat→α0→α1→Option R) v0 v1,P v0 v1→(∀ w0 w1,P w0 w1→m w0 w1 < m v0 v1→W (fun p=>F p w0 w1) Q)→W (fun p:ι×Nat=>f p.1 (F p) v0 v1) Q):
 W (fun i=>lp2 (f i) (N i) u0 u1) Q:=
 W.loop (f:=fun i next v=>f i (fun u0 u1=>next (u0,u1)) v.1 v.2) N (fun v=>P v.1 v.2) (fun v=>m v.1 v.2) (fun F v hp hn=>h (fun p u0 u1=>F p (u0,u1)) (v.1) (v.2) hp fun w0 w1 hw hm=>hn (w0,w1) hw hm) (u0,u1) hv
theorem W.lp3 {α0 α1 α2 R:Type} {f:ι→(α0→α1→α2→Option R)→α0→α1→α2→Option R} {Q:R→Prop} (P:α0→α1→α2→Prop) (m:α0→α1→α2→Nat) {N:ι→Nat} [Tends N] {u0 u1 u2}
 (hv:P u0 u1 u2) (h:∀ (F:ι×Nat→α0→α1→α2→Option R) v0 v1 v2,P v0 v1 v2→(∀ w0 w1 w2,P w0 w1 w2→m w0 w1 w2 < m v0 v1 v2→W (fun p=>F p w0 w1 w2) Q)→W (fun p:ι×Nat=>f p.1 (F p) v0 v1 v2) Q):
 W (fun i=>lp3 (f i) (N i) u0 u1 u2) Q:=
 W.loop (f:=fun i next v=>f i (fun u0 u1 u2=>next (u0,u1,u2)) v.1 v.2.1 v.2.2) N (fun v=>P v.1 v.2.1 v.2.2) (fun v=>m v.1 v.2.1 v.2.2) (fun F v hp hn=>h (fun p u0 u1 u2=>F p (u0,u1,u2)) (v.1) (v.2.1) (v.2.2) hp fun w0 w1 w2 hw hm=>hn (w0,w1,w2) hw hm) (u0,u1,u2) hv
theorem W.lp4 {α0 α1 α2 α3 R:Type} {f:ι→(α0→α1→α2→α3→Option R)→α0→α1→α2→α3→Option R} {Q:R→Prop} (P:α0→α1→α2→α3→Prop) (m:α0→α1→α2→α3→Nat) {N:ι→Nat} [Tends N] {u0 u1 u2 u3}
 (hv:P u0 u1 u2 u3) (h:∀ (F:ι×Nat→α0→α1→α2→α3→Option R) v0 v1 v2 v3,P v0 v1 v2 v3→(∀ w0 w1 w2 w3,P w0 w1 w2 w3→m w0 w1 w2 w3 < m v0 v1 v2 v3→W (fun p=>F p w0 w1 w2 w3) Q)→W (fun p:ι×Nat=>f p.1 (F p) v0 v1 v2 v3) Q):
 W (fun i=>lp4 (f i) (N i) u0 u1 u2 u3) Q:=
 W.loop (f:=fun i next v=>f i (fun u0 u1 u2 u3=>next (u0,u1,u2,u3)) v.1 v.2.1 v.2.2.1 v.2.2.2) N (fun v=>P v.1 v.2.1 v.2.2.1 v.2.2.2) (fun v=>m v.1 v.2.1 v.2.2.1 v.2.2.2) (fun F v hp hn=>h (fun p u0 u1 u2 u3=>F p (u0,u1,u2,u3)) (v.1) (v.2.1) (v.2.2.1) (v.2.2.2) hp fun w0 w1 w2 w3 hw hm=>hn (w0,w1,w2,w3) hw hm) (u0,u1,u2,u3) hv
theorem W.lp5 {α0 α1 α2 α3 α4 R:Type} {f:ι→(α0→α1→α2→α3→α4→Option R)→α0→α1→α2→α3→α4→Option R} {Q:R→Prop} (P:α0→α1→α2→α3→α4→Prop) (m:α0→α1→α2→α3→α4→Nat) {N:ι→Nat} [Tends N] {u0 u1 u2 u3 u4}
 (hv:P u0 u1 u2 u3 u4) (h:∀ (F:ι×Nat→α0→α1→α2→α3→α4→Option R) v0 v1 v2 v3 v4,P v0 v1 v2 v3 v4→(∀ w0 w1 w2 w3 w4,P w0 w1 w2 w3 w4→m w0 w1 w2 w3 w4 < m v0 v1 v2 v3 v4→W (fun p=>F p w0 w1 w2 w3 w4) Q)→W (fun p:ι×Nat=>f p.1 (F p) v0 v1 v2 v3 v4) Q):
 W (fun i=>lp5 (f i) (N i) u0 u1 u2 u3 u4) Q:=
 W.loop (f:=fun i next v=>f i (fun u0 u1 u2 u3 u4=>next (u0,u1,u2,u3,u4)) v.1 v.2.1 v.2.2.1 v.2.2.2.1 v.2.2.2.2) N (fun v=>P v.1 v.2.1 v.2.2.1 v.2.2.2.1 v.2.2.2.2) (fun v=>m v.1 v.2.1 v.2.2.1 v.2.2.2.1 v.2.2.2.2) (fun F v hp hn=>h (fun p u0 u1 u2 u3 u4=>F p (u0,u1,u2,u3,u4)) (v.1) (v.2.1) (v.2.2.1) (v.2.2.2.1) (v.2.2.2.2) hp fun w0 w1 w2 w3 w4 hw hm=>hn (w0,w1,w2,w3,w4) hw hm) (u0,u1,u2,u3,u4) hv
theorem W.lp6 {α0 α1 α2 α3 α4 α5 R:Type} {f:ι→(α0→α1→α2→α3→α4→α5→Option R)→α0→α1→α2→α3→α4→α5→Option R} {Q:R→Prop} (P:α0→α1→α2→α3→α4→α5→Prop) (m:α0→α1→α2→α3→α4→α5→Nat) {N:ι→Nat} [Tends N] {u0 u1 u2 u3 u4 u5}
 (hv:P u0 u1 u2 u3 u4 u5) (h:∀ (F:ι×Nat→α0→α1→α2→α3→α4→α5→Option R) v0 v1 v2 v3 v4 v5,P v0 v1 v2 v3 v4 v5→(∀ w0 w1 w2 w3 w4 w5,P w0 w1 w2 w3 w4 w5→m w0 w1 w2 w3 w4 w5 < m v0 v1 v2 v3 v4 v5→W (fun p=>F p w0 w1 w2 w3 w4 w5) Q)→W (fun p:ι×Nat=>f p.1 (F p) v0 v1 v2 v3 v4 v5) Q):
 W (fun i=>lp6 (f i) (N i) u0 u1 u2 u3 u4 u5) Q:=
 W.loop (f:=fun i next v=>f i (fun u0 u1 u2 u3 u4 u5=>next (u0,u1,u2,u3,u4,u5)) v.1 v.2.1 v.2.2.1 v.2.2.2.1 v.2.2.2.2.1 v.2.2.2.2.2) N (fun v=>P v.1 v.2.1 v.2.2.1 v.2.2.2.1 v.2.2.2.2.1 v.2.2.2.2.2) (fun v=>m v.1 v.2.1 v.2.2.1 v.2.2.2.1 v.2.2.2.2.1 v.2.2.2.2.2) (fun F v hp hn=>h (fun p u0 u1 u2 u3 u4 u5=>F p (u0,u1,u2,u3,u4,u5)) (v.1) (v.2.1) (v.2.2.1) (v.2.2.2.1) (v.2.2.2.2.1) (v.2.2.2.2.2) hp fun w0 w1 w2 w3 w4 w5 hw hm=>hn (w0,w1,w2,w3,w4,w5) hw hm) (u0,u1,u2,u3,u4,u5) hv
theorem W.lp8 {α0 α1 α2 α3 α4 α5 α6 α7 R:Type} {f:ι→(α0→α1→α2→α3→α4→α5→α6→α7→Option R)→α0→α1→α2→α3→α4→α5→α6→α7→Option R} {Q:R→Prop} (P:α0→α1→α2→α3→α4→α5→α6→α7→Prop) (m:α0→α1→α2→α3→α4→α5→α6→α7→Nat) {N:ι→Nat} [Tends N] {u0 u1 u2 u3 u4 u5 u6 u7}
 (hv:P u0 u1 u2 u3 u4 u5 u6 u7) (h:∀ (F:ι×Nat→α0→α1→α2→α3→α4→α5→α6→α7→Option R) v0 v1 v2 v3 v4 v5 v6 v7,P v0 v1 v2 v3 v4 v5 v6 v7→(∀ w0 w1 w2 w3 w4 w5 w6 w7,P w0 w1 w2 w3 w4 w5 w6 w7→m w0 w1 w2 w3 w4 w5 w6 w7 < m v0 v1 v2 v3 v4 v5 v6 v7→W (fun p=>F p w0 w1 w2 w3 w4 w5 w6 w7) Q)→W (fun p:ι×Nat=>f p.1 (F p) v0 v1 v2 v3 v4 v5 v6 v7) Q):
 W (fun i=>lp8 (f i) (N i) u0 u1 u2 u3 u4 u5 u6 u7) Q:=
 W.loop (f:=fun i next v=>f i (fun u0 u1 u2 u3 u4 u5 u6 u7=>next (u0,u1,u2,u3,u4,u5,u6,u7)) v.1 v.2.1 v.2.2.1 v.2.2.2.1 v.2.2.2.2.1 v.2.2.2.2.2.1 v.2.2.2.2.2.2.1 v.2.2.2.2.2.2.2) N (fun v=>P v.1 v.2.1 v.2.2.1 v.2.2.2.1 v.2.2.2.2.1 v.2.2.2.2.2.1 v.2.2.2.2.2.2.1 v.2.2.2.2.2.2.2) (fun v=>m v.1 v.2.1 v.2.2.1 v.2.2.2.1 v.2.2.2.2.1 v.2.2.2.2.2.1 v.2.2.2.2.2.2.1 v.2.2.2.2.2.2.2) (fun F v hp hn=>h (fun p u0 u1 u2 u3 u4 u5 u6 u7=>F p (u0,u1,u2,u3,u4,u5,u6,u7)) (v.1) (v.2.1) (v.2.2.1) (v.2.2.2.1) (v.2.2.2.2.1) (v.2.2.2.2.2.1) (v.2.2.2.2.2.2.1) (v.2.2.2.2.2.2.2) hp fun w0 w1 w2 w3 w4 w5 w6 w7 hw hm=>hn (w0,w1,w2,w3,w4,w5,w6,w7) hw hm) (u0,u1,u2,u3,u4,u5,u6,u7) hv
end
theorem ix_nat' {α:Type} (l:List α) (i:Nat):ix l (i:Int)=l[i]?:=by simp [ix]
theorem ix_lt {α:Type} {l:List α} {i:Int} (h0:0≤i) (h1:i < l.length):∃ e,ix l i=some e∧l[i.toNat]?=some e:=by
 obtain ⟨n,rfl⟩:=Int.eq_ofNat_of_zero_le h0
 have:n < l.length:=by omega
 exact ⟨l[n],by rw [ix_nat'];simp [this],by simp [this]⟩
theorem W.ix {ι:Type} [Lim ι] {α β:Type} {l:List β} {j:Int} {k:ι→β→Option α} {Q:α→Prop} (h0:0≤j) (h1:j < l.length) (h:∀ e,ix l j=Option.some e→l[j.toNat]?=Option.some e→W (fun i=>k i e) Q):
 W (fun i=>(ix l j).bind (k i)) Q:=W.obind.2 (let ⟨e,h2,h3⟩:=ix_lt h0 h1;⟨e,h2,h e h2 h3⟩)
theorem xZc {n:Int}:i64b n=true ↔ -9223372036854775808≤n∧n≤9223372036854775807:=xZgN n
theorem xZ9 {a b:Int}:ltB a b=true ↔ a < b:=by rw [xZ50];simp
theorem xZf {a b:Int}:ltB a b=false ↔ b≤a:=by rw [xZ50];simp
theorem xZdG {a b:Int}:leB a b=false ↔ b < a:=by rw [xZ4g];simp
theorem W.clone {ι:Type} [Lim ι] {α β:Type} {z:Nat} {l:List β} {k:ι→List β→Option α} {Q:α→Prop} (h:l.length * z≤140737488355328):W (fun i=>(shClone z l).bind (k i)) Q ↔ W (fun i=>k i l) Q:=by
 have:shClone z l=Option.some l:=by
  unfold shClone
  rw [show Nat.ble ((0+l.length) * z) 140737488355328=true from Nat.ble_eq_true_of_le (by rw [Nat.zero_add];exact h)];rfl
 rw [this];exact W.some
end
section
theorem xZn {R:Type} {x:Option R}:gd true x=x:=rfl
section
variable {ι:Type} [Lim ι]
theorem xZob {β:Type} {l pre rest:List β} {e:β} (h:l=pre++e::rest) (hb:(l.length:Int)≤9223372036854775807):
 ltB (pre.length:Int) (l.length:Int)=true∧ix l (pre.length:Int)=some e∧i64b ((pre.length:Int)+1)=true∧e∈l:=by
 subst h
 have:((pre++e::rest).length:Int)=pre.length+1+rest.length:=by simp;omega
 refine ⟨xZ9.2 (by omega),by rw [ix_nat'];simp,xZc.2 (by omega),by simp⟩
theorem xZlb (n:Int):ltB n n=false:=xZf.2 (Int.le_refl _)
theorem wf1 {β R:Type} {l:List β} {f:ι→(Int→Option R)→Int→Option R} {Q:R→Prop} (P:List β→Prop) {N:ι→Nat} [Tends N] {n:Int}
 (pre:List β) {rest:List β} (hl:l=pre++rest) (hi:n=(pre.length:Int)) (hb:(l.length:Int)≤9223372036854775807) (h0:P pre)
 (step:∀ (F:ι×Nat→Int→Option R) pre e rest,l=pre++e::rest→ltB (pre.length:Int) (l.length:Int)=true→ix l (pre.length:Int)=some e→i64b ((pre.length:Int)+1)=true→P pre→
   (P (pre++[e])→W (fun p=>F p ((pre.length:Int)+1)) Q)→W (fun p:ι×Nat=>f p.1 (F p) (pre.length:Int)) Q)
 (done:∀ (F:ι×Nat→Int→Option R),ltB (l.length:Int) (l.length:Int)=false→P l→W (fun p:ι×Nat=>f p.1 (F p) (l.length:Int)) Q):
 W (fun i=>lp1 (f i) (N i) n) Q:=by
 subst hi
 refine W.lp1 (fun x0=>∃ pre rest,l=pre++rest∧x0=(pre.length:Int)∧P pre) (fun x0=>((l.length:Int) - x0).toNat) ⟨pre,rest,hl,rfl,h0⟩ ?_
 rintro F x0 ⟨pre,rest,hl,rfl,hp⟩ hn
 cases rest with
 | nil=>
   rw [List.append_nil] at hl
   subst hl
   exact done F (xZlb _) hp
 | cons e rest=>
   obtain ⟨h1,h2,h3,_⟩:=xZob hl hb
   refine step F pre e rest hl h1 h2 h3 hp fun  hw=>hn _ ⟨pre++[e],rest,by rw [hl];simp,by simp,hw⟩ ?_
   have:=xZ9.1 h1
   omega
theorem wf2a {β R:Type} {α1:Type} {l:List β} {f:ι→(Int→α1→Option R)→Int→α1→Option R} {Q:R→Prop} (P:List β→α1→Prop) {N:ι→Nat} [Tends N] {u1:α1} {n:Int}
 (pre:List β) {rest:List β} (hl:l=pre++rest) (hi:n=(pre.length:Int)) (hb:(l.length:Int)≤9223372036854775807) (h0:P pre u1)
 (step:∀ (F:ι×Nat→Int→α1→Option R) pre e rest v1,l=pre++e::rest→ltB (pre.length:Int) (l.length:Int)=true→ix l (pre.length:Int)=some e→i64b ((pre.length:Int)+1)=true→P pre v1→
   (∀ w1,P (pre++[e]) w1→W (fun p=>F p ((pre.length:Int)+1) w1) Q)→W (fun p:ι×Nat=>f p.1 (F p) (pre.length:Int) v1) Q)
 (done:∀ (F:ι×Nat→Int→α1→Option R) v1,ltB (l.length:Int) (l.length:Int)=false→P l v1→W (fun p:ι×Nat=>f p.1 (F p) (l.length:Int) v1) Q):
 W (fun i=>lp2 (f i) (N i) n u1) Q:=by
 subst hi
 refine W.lp2 (fun x0 x1=>∃ pre rest,l=pre++rest∧x0=(pre.length:Int)∧P pre x1) (fun x0 x1=>((l.length:Int) - x0).toNat) ⟨pre,rest,hl,rfl,h0⟩ ?_
 rintro F x0 x1 ⟨pre,rest,hl,rfl,hp⟩ hn
 cases rest with
 | nil=>
   rw [List.append_nil] at hl
   subst hl
   exact done F x1 (xZlb _) hp
 | cons e rest=>
   obtain ⟨h1,h2,h3,_⟩:=xZob hl hb
   refine step F pre e rest x1 hl h1 h2 h3 hp fun  w1 hw=>hn _ w1 ⟨pre++[e],rest,by rw [hl];simp,by simp,hw⟩ ?_
   have:=xZ9.1 h1
   omega
theorem wf3a {β R:Type} {α1 α2:Type} {l:List β} {f:ι→(Int→α1→α2→Option R)→Int→α1→α2→Option R} {Q:R→Prop} (P:List β→α1→α2→Prop) {N:ι→Nat} [Tends N] {u1:α1} {u2:α2} {n:Int}
 (pre:List β) {rest:List β} (hl:l=pre++rest) (hi:n=(pre.length:Int)) (hb:(l.length:Int)≤9223372036854775807) (h0:P pre u1 u2)
 (step:∀ (F:ι×Nat→Int→α1→α2→Option R) pre e rest v1 v2,l=pre++e::rest→ltB (pre.length:Int) (l.length:Int)=true→ix l (pre.length:Int)=some e→i64b ((pre.length:Int)+1)=true→P pre v1 v2→
   (∀ w1 w2,P (pre++[e]) w1 w2→W (fun p=>F p ((pre.length:Int)+1) w1 w2) Q)→W (fun p:ι×Nat=>f p.1 (F p) (pre.length:Int) v1 v2) Q)
 (done:∀ (F:ι×Nat→Int→α1→α2→Option R) v1 v2,ltB (l.length:Int) (l.length:Int)=false→P l v1 v2→W (fun p:ι×Nat=>f p.1 (F p) (l.length:Int) v1 v2) Q):
 W (fun i=>lp3 (f i) (N i) n u1 u2) Q:=by
 subst hi
 refine W.lp3 (fun x0 x1 x2=>∃ pre rest,l=pre++rest∧x0=(pre.length:Int)∧P pre x1 x2) (fun x0 x1 x2=>((l.length:Int) - x0).toNat) ⟨pre,rest,hl,rfl,h0⟩ ?_
 rintro F x0 x1 x2 ⟨pre,rest,hl,rfl,hp⟩ hn
 cases rest with
 | nil=>
   rw [List.append_nil] at hl
   subst hl
   exact done F x1 x2 (xZlb _) hp
 | cons e rest=>
   obtain ⟨h1,h2,h3,_⟩:=xZob hl hb
   refine step F pre e rest x1 x2 hl h1 h2 h3 hp fun  w1 w2 hw=>hn _ w1 w2 ⟨pre++[e],rest,by rw [hl];simp,by simp,hw⟩ ?_
   have:=xZ9.1 h1
   omega
theorem wr1 {β R:Type} {l:List β} {f:ι→(Int→Option R)→Int→Option R} (g:List β→List β→R) {N:ι→Nat} [Tends N] {n:Int}
 (pre:List β) (rest:List β) (hl:l=pre++rest) (hi:n=(pre.length:Int)) (hb:(l.length:Int)≤9223372036854775807)
 (step:∀ (F:ι×Nat→Int→Option R) pre e rest,l=pre++e::rest→ltB (pre.length:Int) (l.length:Int)=true→ix l (pre.length:Int)=some e→i64b ((pre.length:Int)+1)=true→
   (W (fun p=>F p ((pre.length:Int)+1)) (·=g (pre++[e]) rest))→W (fun p:ι×Nat=>f p.1 (F p) (pre.length:Int)) (·=g pre (e::rest)))
 (done:∀ (F:ι×Nat→Int→Option R),ltB (l.length:Int) (l.length:Int)=false→W (fun p:ι×Nat=>f p.1 (F p) (l.length:Int)) (·=g l [])):
 W (fun i=>lp1 (f i) (N i) n) (·=g pre rest):=by
 subst hi
 have hk:∀ (pre':List β) rest',l=pre'++rest'→l.take pre'.length=pre'∧l.drop pre'.length=rest':=fun pre' rest' h=>by subst h;simp
 have key:=W.loopQ (f:=fun i next v=>f i (fun u0=>next u0) v) N (fun v=>∃ pre' rest',l=pre'++rest'∧v=(pre'.length:Int)) (fun v=>((l.length:Int) - v).toNat)
  (fun v r=>r=g (l.take (v).toNat) (l.drop (v).toNat)) (by
    rintro F j ⟨pre',rest',hl',rfl⟩ hn
    obtain ⟨q1,q2⟩:=hk pre' rest' hl'
    simp only [Int.toNat_natCast,q1,q2]
    cases rest' with
    | nil=>
      rw [List.append_nil] at hl'
      subst hl'
      exact done (fun p u0=>F p u0) (xZlb _)
    | cons e rest'=>
      obtain ⟨h1,h2,h3,_⟩:=xZob hl' hb
      refine step (fun p u0=>F p u0) pre' e rest' hl' h1 h2 h3 ?_
      have hl2:l=(pre'++[e])++rest':=by rw [hl'];simp
      obtain ⟨q3,q4⟩:=hk _ _ hl2
      have:=hn ((pre'.length:Int)+1) ⟨pre'++[e],rest',hl2,by simp⟩ (by have:=xZ9.1 h1;first | omega | (simp only;omega))
      have e1:(((pre'.length:Int)+1).toNat)=(pre'++[e]).length:=by simp
      simp only [e1,q3,q4] at this
      exact this) (pre.length:Int) ⟨pre,rest,hl,rfl⟩
 obtain ⟨q1,q2⟩:=hk pre rest hl
 simp only [Int.toNat_natCast,q1,q2] at key
 exact key
end
end
def inK (k:IntKind) (n:Int):Prop:=k.min≤n∧n≤k.max
def okS (s:List UInt8):Prop:=s.length≤maxLen
def okL {α:Type} (ok:α→Prop) (l:List α):Prop:=(∀ x∈l,ok x)∧l.length≤maxLen
theorem xZsB {n:Int} (h:inK .u64 n):0≤n∧n≤18446744073709551615:=⟨(show IntKind.u64.min=0 by decide) ▸ h.1,(show IntKind.u64.max=18446744073709551615 by decide) ▸ h.2⟩
theorem xZuQ {s:List UInt8} (h:okS s):s.length≤9223372036854775807:=h
section
section
variable {T:Nat→Type}
structure EqT (T:Nat→Type) where
 f:(i:Nat)→T i→T i→Bool
 ok:∀ i x y,f i x y=true→x=y
def eqL {α:Type} (g:α→α→Bool):List α→List α→Bool
 | [],[]=>true
 | x::a,y::b=>g x y&&eqL g a b
 | _,_=>false
theorem xZet {α:Type} {g:α→α→Bool} (h:∀ x y,g x y=true→x=y):∀ a b,eqL g a b=true→a=b
 | [],[],_=>rfl
 | x::a,y::b,q=>by
   simp only [eqL,Bool.and_eq_true] at q
   rw [h x y q.1,xZet h a b q.2]
 | [],_::_,q=>by cases q
 | _::_,[],q=>by cases q
def eqSl (E:EqT T) (i j:Nat) (l:List (T i)) (m:List (T j)):Bool:=if h:i=j then eqL (E.f j) (h ▸ l) m else false
theorem xZmp {E:EqT T} {i j:Nat} {l:List (T i)} {m:List (T j)} (h:eqSl E i j l m=true):∃ e:i=j,e ▸ l=m:=by
 unfold eqSl at h
 split at h
 ·rename_i e;exact ⟨e,xZet (E.ok j) _ _ h⟩
 ·cases h
def eqTr (E:EqT T) (i j:Nat) (x:T i) (y:T j):Bool:=if h:i=j then E.f j (h ▸ x) y else false
theorem xZu6 {E:EqT T} {i j:Nat} {x:T i} {y:T j} (h:eqTr E i j x y=true):∃ e:i=j,e ▸ x=y:=by
 unfold eqTr at h
 split at h
 ·rename_i e;exact ⟨e,E.ok j _ _ h⟩
 ·cases h
def rawEq:AV→AV→Bool
 | .any,.any=>true
 | .v .nilIface,.v .nilIface=>true
 | .v .nilFunc,.v .nilFunc=>true
 | .v (.pointer none),.v (.pointer none)=>true
 | _,_=>false
theorem xZqj:∀ {x y:AV},rawEq x y=true→x=y:=by
 intro x y h
 unfold rawEq at h
 split at h<;>first | rfl | cases h
mutual
def BV.beq (E:EqT T):BV T→BV T→Bool
 | .raw x,y=>match y with
   | .raw z=>rawEq x z
   | _=>false
 | .emp,y=>match y with
   | .emp=>true
   | _=>false
 | .int k n,y=>match y with
   | .int k' n'=>decide (k=k')&&n==n'
   | _=>false
 | .bool a,y=>match y with
   | .bool b=>a==b
   | _=>false
 | .str a,y=>match y with
   | .str b=>a==b
   | _=>false
 | .flt k n,y=>match y with
   | .flt k' n'=>decide (k=k')&&n==n'
   | _=>false
 | .agg a,y=>match y with
   | .agg b=>BVs.beq E a b
   | _=>false
 | .tup a,y=>match y with
   | .tup b=>BVs.beq E a b
   | _=>false
 | .sl i l,y=>match y with
   | .sl j m=>eqSl E i j l m
   | _=>false
 | .own a,y=>match y with
   | .own b=>a==b
   | _=>false
 | .ptr a b,y=>match y with
   | .ptr c d=>a==c&&b==d
   | _=>false
 | .dptr a,y=>match y with
   | .dptr b=>BVs.beq E a b
   | _=>false
 | .ifc t x,y=>match y with
   | .ifc t' z=>t==t'&&BV.beq E x z
   | _=>false
 | .tr i a,y=>match y with
   | .tr j b=>eqTr E i j a b
   | _=>false
 | .eptr ..,_=>false
 | .aptr _ _ _,_=>false
 | .fn ..,_=>false
def BVs.beq (E:EqT T):List (BV T)→List (BV T)→Bool
 | [],y=>match y with
   | []=>true
   | _=>false
 | x::a,y=>match y with
   | z::b=>BV.beq E x z&&BVs.beq E a b
   | []=>false
end
mutual
theorem BV.beq_ok (E:EqT T):∀ x y:BV T,BV.beq E x y=true→x=y
 | .raw x,y,h=>by cases y<;>simp only [BV.beq] at h<;>first | (rw [xZqj h]) | cases h
 | .emp,y,h=>by cases y<;>simp only [BV.beq] at h<;>first | rfl | cases h
 | .int k n,y,h=>by cases y<;>simp only [BV.beq] at h<;>first | (simp only [Bool.and_eq_true,decide_eq_true_eq,beq_iff_eq] at h;rw [h.1,h.2]) | cases h
 | .bool a,y,h=>by cases y<;>simp only [BV.beq] at h<;>first | (rw [eq_of_beq h]) | cases h
 | .str a,y,h=>by cases y<;>simp only [BV.beq] at h<;>first | (rw [eq_of_beq h]) | cases h
 | .flt k n,y,h=>by cases y<;>simp only [BV.beq] at h<;>first | (simp only [Bool.and_eq_true,decide_eq_true_eq,beq_iff_eq] at h;rw [h.1,h.2]) | cases h
 | .agg a,y,h=>by cases y<;>simp only [BV.beq] at h<;>first | (rw [BVs.beq_ok E a _ h]) | cases h
 | .tup a,y,h=>by cases y<;>simp only [BV.beq] at h<;>first | (rw [BVs.beq_ok E a _ h]) | cases h
 | .sl i l,y,h=>by cases y<;>simp only [BV.beq] at h<;>first | (obtain ⟨e,q⟩:=xZmp h;subst e;subst q;rfl) | cases h
 | .own a,y,h=>by cases y<;>simp only [BV.beq] at h<;>first | (rw [eq_of_beq h]) | cases h
 | .ptr a b,y,h=>by cases y<;>simp only [BV.beq] at h<;>first | (simp only [Bool.and_eq_true,beq_iff_eq] at h;rw [h.1,h.2]) | cases h
 | .dptr a,y,h=>by cases y<;>simp only [BV.beq] at h<;>first | (rw [BVs.beq_ok E a _ h]) | cases h
 | .ifc t x,y,h=>by cases y<;>simp only [BV.beq] at h<;>first | (simp only [Bool.and_eq_true,beq_iff_eq] at h;rw [h.1,BV.beq_ok E x _ h.2]) | cases h
 | .eptr ..,y,h=>by simp only [BV.beq] at h;cases h
 | .aptr ..,y,h=>by simp only [BV.beq] at h;cases h
 | .fn ..,y,h=>by simp only [BV.beq] at h;cases h
 | .tr i a,y,h=>by cases y<;>simp only [BV.beq] at h<;>first | (obtain ⟨e,q⟩:=xZu6 h;subst e;subst q;rfl) | cases h
theorem BVs.beq_ok (E:EqT T):∀ x y:List (BV T),BVs.beq E x y=true→x=y
 | [],y,h=>by cases y<;>simp only [BVs.beq] at h<;>first | rfl | cases h
 | x::a,y,h=>by cases y<;>simp only [BVs.beq] at h<;>first | (simp only [Bool.and_eq_true] at h;rw [BV.beq_ok E x _ h.1,BVs.beq_ok E a _ h.2]) | cases h
end
def BB.beq (E:EqT T):BB T→BB T→Bool
 | .dead,.dead=>true
 | .live i l,.live j m=>eqSl E i j l m
 | .froz i l,.froz j m=>eqSl E i j l m
 | _,_=>false
theorem BB.beq_ok (E:EqT T) (x y:BB T) (h:BB.beq E x y=true):x=y:=by
 unfold BB.beq at h
 split at h
 ·rfl
 ·obtain ⟨e,q⟩:=xZmp h;subst e;subst q;rfl
 ·obtain ⟨e,q⟩:=xZmp h;subst e;subst q;rfl
 ·cases h
def BH.beq (E:EqT T) (x y:BH T):Bool:=eqL (BVs.beq E) x.box y.box&&eqL (BB.beq E) x.buf y.buf
theorem BH.beq_ok (E:EqT T) (x y:BH T) (h:BH.beq E x y=true):x=y:=by
 simp only [BH.beq,Bool.and_eq_true] at h
 cases x;cases y
 simp only at h
 rw [xZet (BVs.beq_ok E) _ _ h.1,xZet (BB.beq_ok E) _ _ h.2]
noncomputable def EqR.or {R:Type} (g:R→R→Bool) (h:∀ x y,g x y=true→x=y):EqR R:=
 ⟨fun x y=>match g x y with
   | true=>true
   | false=>EqR.cls.f x y,fun x y q=>(by
     split at q
     ·rename_i e;exact h x y e
     ·exact EqR.cls.eq x y q),fun x=>(by
     split
     ·rfl
     ·exact EqR.cls.refl x)⟩
noncomputable def EqT.q1 (E:EqT T):EqR (BV T):=.or (BV.beq E) (BV.beq_ok E)
noncomputable def EqT.q2 (E:EqT T):EqR (BV T×BH T):=.or (fun x y=>BV.beq E x.1 y.1&&BH.beq E x.2 y.2) fun x y h=>by
 simp only [Bool.and_eq_true] at h
 exact Prod.ext (BV.beq_ok E _ _ h.1) (BH.beq_ok E _ _ h.2)
end
end
section
def SC.strip:SC→SC
 | .alts o _=>match o with
   | some l=>.ops true l
   | none=>.bad
 | .seq a b=>.seq a.strip b.strip
 | .cond v a b=>.cond v a.strip b.strip
 | .block i a=>.block i a.strip
 | .loop a=>.loop a.strip
 | .scope a=>.scope a.strip
 | c=>c
def SI.strip:SI→SI
 | .c z=>.c z.strip
 | .lp b=>.lp b.strip
 | x=>x
theorem xZfJ (id:Nat):∀ k:List SI,exitS id (k.map SI.strip)=(exitS id k).map (List.map SI.strip)
 | []=>rfl
 | x::k=>by
   have ih:=xZfJ id k
   cases x with
   | blk i=>simp only [List.map_cons,SI.strip,exitS];split<;>simp_all
   | _=>simpa only [List.map_cons,SI.strip,exitS] using ih
theorem xZ5K:∀ (c:SC) (k:List SI),lpL c.strip (k.map SI.strip)=(lpL c k).map fun p=>(p.1,p.2.map SI.strip)
 | .seq a b,k=>by
   have h1:=xZ5K a (.c b::k)
   have h2:=xZ5K b k
   simp only [SC.strip,lpL,List.map_append,← h1,← h2,List.map_cons,SI.strip]
 | .cond v a b,k=>by simp only [SC.strip,lpL,List.map_append,← xZ5K a k,← xZ5K b k]
 | .block i a,k=>by
   have h1:=xZ5K a (.blk i::k)
   simp only [SC.strip,lpL,← h1,List.map_cons,SI.strip]
 | .scope a,k=>by
   have h1:=xZ5K a (.scp::k)
   simp only [SC.strip,lpL,← h1,List.map_cons,SI.strip]
 | .loop b,k=>by
   have h1:=xZ5K b (.lp b::k)
   cases k with
   | nil=>simpa only [SC.strip,lpL,List.map_cons,SI.strip,List.map_nil] using h1
   | cons x k=>cases x<;>simp only [SC.strip,lpL,List.map_cons,SI.strip] at h1 ⊢<;>first | exact h1 | (rw [h1])
 | .alts o l,k=>by cases o<;>rfl
 | .skip,k=>rfl
 | .ops _ _,k=>rfl
 | .priv _ _,k=>rfl
 | .exit _,k=>rfl
 | .ret,k=>rfl
 | .bad,k=>rfl
theorem xZla:∀ (l:List (Nat×List SI)) (n:Nat),lkp (l.map fun p=>(p.1,p.2.map SI.strip)) n=(lkp l n).map SI.strip
 | [],_=>rfl
 | (m,x)::l,n=>by
   simp only [List.map_cons,lkp]
   split
   ·rfl
   ·exact xZla l n
theorem xZm9 (c:SC) (id:Nat):stkO [] c.strip id=(stkO [] c id).map SI.strip:=by
 have:=xZ5K c []
 simp only [List.map_nil] at this
 show lkp (lpL c.strip []) id=_
 rw [this,xZla];rfl
theorem xZoA (c:SC) (id:Nat):stk [] c.strip id=(stk [] c id).map SI.strip:=by
 unfold stk
 rw [xZm9]
 cases stkO [] c id with
 | nil=>rfl
 | cons x k=>cases x<;>rfl
theorem xZo1 (c:SC):idsOk [] c.strip=idsOk [] c:=by
 have:=xZ5K c []
 simp only [List.map_nil] at this
 show nodupN ((lpL c.strip []).map (·.1))=nodupN ((lpL c []).map (·.1))
 rw [this,List.map_map];rfl
section
variable {T:Nat→Type} {B:Tb T} {R:Type} {G:Set B R}
theorem xZlp {go go':List SI→SE T→BH T→Option R} {dr:Bool} {k k':List SI} (h:∀ e H,go k e H=go' k' e H) (h2:∀ l e H,go (.ops dr l::k) e H=go' (.ops dr l::k') e H) (l:List SL) (e:SE T) (H:BH T):
 sxOps G go dr l k e H=sxOps G go' dr l k' e H:=by
 unfold sxOps sxGrp sxOp sxCall0 sxCallv sxRaw sxInv sxCall
 simp only [h,h2]
theorem xZgH:∀ (n:Nat) {G:Set B R} (_:G.alt=none) (_:G.jm=[]) (todo:List SI) (e:SE T) (H:BH T),sx G n (todo.map SI.strip) e H=sx G n todo e H
 | 0,_,_,_,_,_,_=>rfl
 | n+1,G,ha,hj,todo,e,H=>by
   have ih:=xZgH n ha hj
   have ihf:=xZgH n (G:=G.off) ha hj
   have hJ:∀ (rec off:List SI→SE T→BH T→Option R) (c:SC) (k:List SI),sxJ G rec off c k e H=sxC G rec off c k e H:=fun rec off c k=>by unfold sxJ;rw [hj];rfl
   have iho:∀ dr l k e H,sx G n (.ops dr l::k.map SI.strip) e H=sx G n (.ops dr l::k) e H:=fun dr l k e H=>ih (.ops dr l::k) e H
   rw [xZij,xZij]
   have hlp:∀ k:List SI,sxLoop G (k.map SI.strip) e H=sxLoop G k e H:=fun k=>by
    cases k with
    | nil=>rfl
    | cons x k=>cases x<;>rfl
   cases todo with
   | nil=>rfl
   | cons x k=>
     cases x with
     | blk i=>exact ih k e H
     | scp=>exact ih k e H
     | pv bs=>simp only [List.map_cons,SI.strip,sxT,ih]
     | lp b=>exact hlp k
     | ops dr l=>exact xZlp (fun e H=>ih k e H) (fun l e H=>iho dr l k e H) l e H
     | c c=>
       show sxJ G (sx G n) (sx G.off n) c.strip (k.map SI.strip) e H=sxJ G (sx G n) (sx G.off n) c k e H
       rw [hJ,hJ]
       cases c with
       | skip=>exact ih k e H
       | ops d l=>
         simp only [List.map_cons,SI.strip,SC.strip,sxT,sxC,sxReg,sxDefer,iho,ihf]
       | priv l bs=>exact ih (.ops true l::.pv bs::k) e H
       | alts o ls=>
         cases o with
         | none=>simp only [List.map_cons,SI.strip,SC.strip,sxT,sxC,sxAlts,ha]
         | some l=>simp only [List.map_cons,SI.strip,SC.strip,sxT,sxC,sxAlts,ha];exact (by
           have h0:sxReg G (sx G n) (sx G.off n) true l (k.map SI.strip) e H=sx G n (.ops true l::k.map SI.strip) e H:=by
            unfold sxReg
            split
            ·rfl
            ·split
             ·rename_i h _;cases h
             ·rfl
           rw [h0];exact iho true l k e H)
       | seq a b=>exact ih (.c a::.c b::k) e H
       | cond v a b=>
         have h1:∀ e H,sx G n (.c a.strip::k.map SI.strip) e H=sx G n (.c a::k) e H:=fun e H=>ih (.c a::k) e H
         have h2:∀ e H,sx G n (.c b.strip::k.map SI.strip) e H=sx G n (.c b::k) e H:=fun e H=>ih (.c b::k) e H
         simp only [List.map_cons,SI.strip,SC.strip,sxT,sxC,h1,h2]
       | block i a=>exact ih (.c a::.blk i::k) e H
       | loop b=>exact hlp k
       | scope a=>exact ih (.c a::.scp::k) e H
       | exit i=>
         simp only [List.map_cons,SI.strip,SC.strip,sxT,sxC,xZfJ]
         cases exitS i k with
         | none=>rfl
         | some k'=>exact ih k' e H
       | ret=>rfl
       | bad=>rfl
end
def hintQ:List (Nat×List Nat×Bool)→Nat→List Nat×Bool
 | [],_=>([],false)
 | (m,x)::l,n=>match Nat.beq m n with
   | true=>x
   | false=>hintQ l n
def regQ (P:Program) (ops:Array Oper) (draw:Bool) (w:List Nat×Bool):SC:=
 match cList (cFE P (false,w.1) ops) ops.toList with
 | some l=>match w.2 with
   | false=>.ops draw (grpL l)
   | true=>match privB (privS l) (privD l) with
     | some bs=>.priv (grpL (l.filter (FE.main (privD l)))) bs
     | none=>.bad
 | none=>.bad
def compQ (P:Program) (q:List (Nat×List Nat×Bool)):Code→SC
 | .skip=>.skip
 | .region id ops draw=>regQ P ops draw (hintQ q id)
 | .seq a b=>.seq (compQ P q a) (compQ P q b)
 | .cond c a b=>.cond (cOd c) (compQ P q a) (compQ P q b)
 | .block id a=>.block id (compQ P q a)
 | .loop a=>.loop (compQ P q a)
 | .scope a=>.scope (compQ P q a)
 | .exit id=>.exit id
 | .ret=>.ret
 | .label _=>.skip
 | _=>.bad
def bdQ (P:Program) (q:List (Nat×List Nat×Bool)) (fn:Func):SC:=match fn.body with
 | some c=>compQ P q c
 | none=>.bad
section
variable {T:Nat→Type}
structure UF (T:Nat→Type) where
 f:FuncId
 fn:Func
 c:SC
 h:Hint T
 md:List Bool
 lv:List (Nat×List Nat)
 own:Bool
 df:List (FuncId×Nat):=[]
 pd:List Bool:=[]
 q:Option (EqT T):=none
variable (B:Tb T)
def uOut:Out B (BV T×BH T):=⟨fun x H=>some (x,H),fun r=>r,fun r K=>K r.1 r.2,fun _ _=>rfl,fun x H r h=>by cases h;exact ⟨.refl _,.refl _⟩⟩
def uOutP:Out B (BV T):=⟨fun x H=>match H with
 | ⟨[],[]⟩=>some x
 | _=>none,fun x=>(x,⟨[],[]⟩),fun r K=>K r ⟨[],[]⟩,fun _ _=>rfl,fun x H r h=>by
 split at h
 ·cases h;exact ⟨.refl _,.refl _⟩
 ·cases h⟩
def uM (f:FuncId) (sh:List (BV T)×BH T→Option (BV T×BH T)):Con B:=
 ⟨f,List (BV T)×BH T,BV T×BH T,[],fun xs H=>some (xs,H),fun a=>a,fun _=>sh,uOut B,false,false,fun xs H a h=>(by cases h;exact ⟨.refl _,.refl _⟩),fun h=>(by cases h),fun h=>(by cases h)⟩
def uP (f:FuncId) (pd:List Bool) (sh:List (BV T)→Option (BV T)):Con B:=
 ⟨f,List (BV T),BV T,pd,fun xs H=>match H with
   | ⟨[],[]⟩=>some xs
   | _=>none,fun a=>(a,⟨[],[]⟩),fun _=>sh,uOutP B,true,false,fun xs H a h=>(by
 split at h
 ·cases h;exact ⟨.refl _,.refl _⟩
 ·cases h),fun _=>⟨fun _=>rfl,fun _=>rfl⟩,fun h=>(by cases h)⟩
def uLp {R:Type} (ks:List Nat) (run:SE T→BH T→Option R):Lp B R:=
 ⟨{ e:SE T // e.map (·.1)=ks }×BH T,ks,[],ks,fun e H=>if h:e.map (·.1)=ks then some (⟨e,h⟩,H) else none,fun a=>(a.1.1,a.2),fun a=>run a.1.1 a.2,fun a=>a.1.2,fun e H a h=>by
 split at h
 ·cases h;exact ⟨fun _=>.inl (.refl _),.refl _⟩
 ·cases h⟩
noncomputable def uLps (F0:Nat) {R:Type} (G:List (Nat×Lp B R)→Set B R) (c:SC) (lv:List (Nat×List Nat)):Nat→List (Nat×Lp B R)
 | 0=>[]
 | n+1=>lv.map fun p=>(p.1,uLp B p.2 fun e H=>sx (G (uLps F0 G c lv n)) F0 (stk [] c p.1) e H)
noncomputable def uSet (P:Program) (ex:List (FuncId×EK')) (con:FuncId→List (Con B)) (N:Nat) (u:UF T) {R:Type} (md:List Bool) (o:Out B R) (al:EqT T→EqR R) (nb nt:Nat) (l:List (Nat×Lp B R)):Set B R:=⟨P,ex,u.h,N,con,l,resOf P u.fn,⟨md,none,o⟩,nb,nt,u.fn.ntmps,fun _ _=>true,u.q.map al,u.df,[]⟩
noncomputable def uRun (F0:Nat) (P:Program) (ex:List (FuncId×EK')) (con:FuncId→List (Con B)) (N:Nat) (u:UF T) {R:Type} (md:List Bool) (o:Out B R) (al:EqT T→EqR R) (xs:List (BV T)) (H:BH T):Option R:=gd (Nat.ble xs.length u.fn.ntmps) (sx (uSet B P ex con N u md o al H.box.length H.buf.length (uLps B F0 (uSet B P ex con N u md o al H.box.length H.buf.length) u.c u.lv F0)) F0 [.c u.c] (argE xs) H)
noncomputable def uCon (F0:Nat) (P:Program) (ex:List (FuncId×EK')) (con:FuncId→List (Con B)) (N:Nat) (u:UF T):List (Con B):=
 match u.own with
 | true=>[uM B u.f fun a=>uRun B F0 P ex con N u [] (uOut B) EqT.q2 a.1 a.2,uP B u.f u.pd fun a=>uRun B F0 P ex con N u u.md (uOutP B) EqT.q1 a ⟨[],[]⟩]
 | false=>[uP B u.f u.pd fun a=>uRun B F0 P ex con N u u.md (uOutP B) EqT.q1 a ⟨[],[]⟩,uM B u.f fun a=>uRun B F0 P ex con N u u.md (uOut B) EqT.q2 a.1 a.2]
inductive UT (T:Nat→Type) where
 | nil
 | node (l:UT T) (k:Nat) (u:UF T) (r:UT T)
def UT.look:UT T→Nat→Option (UF T)
 | .nil,_=>none
 | .node l k u r,n=>match Nat.beq n k with
   | true=>some u
   | false=>match Nat.blt n k with
     | true=>l.look n
     | false=>r.look n
noncomputable def uCons (F0:Nat) (P:Program) (ex:List (FuncId×EK')) (hands:FuncId→List (Con B)) (us:UT T) (N:Nat) (n:Nat):FuncId→List (Con B):=
 Nat.rec (motive:=fun _=>FuncId→List (Con B)) hands (fun _ ih f=>match us.look f with
  | some u=>uCon B F0 P ex ih N u
  | none=>hands f) n
structure UF.Ok (P:Program) (u:UF T):Prop where
 is:Is P u.f u.fn.ntmps (resOf P u.fn) (bd P u.fn)
 c:(match u.q with | none=>(bd P u.fn).strip | some _=>bd P u.fn)=u.c
 ids:idsOk [] u.c=true
 hint:u.h.Ok B
 mks:mkOk P B u.h.mks
 lv:(u.lv.all fun p=>p.2.all fun i=>Nat.blt i u.fn.ntmps)=true
 df:∀ p∈u.df,Idle P p.1 p.2
variable {B}
theorem xZlh {F0:Nat} {P:Program} {ex:List (FuncId×EK')} {con:FuncId→List (Con B)} {N:Nat} {u:UF T} (hu:u.Ok B P) (hB:B.Ok) (hm:P.follows .mixedOrders=true) (he:exOk P ex) (hc:∀ f,conOk P N (con f)) {R:Type} {md:List Bool} {o:Out B R} {al:EqT T→EqR R} {xs:List (BV T)} {H:BH T} {r:R}
 (h:uRun B F0 P ex con N u md o al xs H=some r):CRes P u.f (BV.avs B xs) (H.av B) (aeA ((o.enc r).1.av B)) ((o.enc r).2.av B):=by
 have hcode:=hu.c
 unfold uRun gd at h
 cases hl:Nat.ble xs.length u.fn.ntmps with
 | false=>rw [hl] at h;cases h
 | true=>
   rw [hl] at h
   let c:Con B:=⟨u.f,Unit,R,md,fun _ _=>none,fun _=>(xs,H),fun _ _=>uRun B F0 P ex con N u md o al xs H,o,false,false,fun _ _ _ h=>(by cases h),fun h=>(by cases h),fun h=>(by cases h)⟩
   let F:Fn c:=⟨u.fn,ex,u.h,con,md,none,H.box.length,H.buf.length,fun _ _=>true,u.q.map al,u.df,[]⟩
   have hids:idsOk [] (bd P u.fn)=true:=by
    cases hq:u.q with
    | none=>rw [hq] at hcode;rw [← xZo1,show (bd P u.fn).strip=u.c from hcode];exact hu.ids
    | some E=>rw [hq] at hcode;rw [show bd P u.fn=u.c from hcode];exact hu.ids
   have ok:F.Ok P:=⟨hu.is,hids,hu.hint,hu.mks,he,fun _=>by
    show (Nat.ble xs.length u.fn.ntmps&&Nat.beq H.box.length H.box.length&&Nat.beq H.buf.length H.buf.length)=true
    rw [hl];simp⟩
   have key:c.Ok P N:=ok.give hB hm N N hc (hdf:=hu.df) fun a r s hr=>by
    have hr:uRun B F0 P ex con N u md o al xs H=some r:=hr
    unfold uRun gd at hr
    rw [hl] at hr
    have hlps:∀ n,s.lpsOk (uLps B F0 (uSet B P ex con N u md o al H.box.length H.buf.length) u.c u.lv n):=by
     intro n
     induction n with
     | zero=>exact trivial
     | succ n ih=>
       have:∀ l:List (Nat×List Nat),(l.all fun p=>p.2.all fun i=>Nat.blt i u.fn.ntmps)=true→s.lpsOk (l.map fun p=>(p.1,uLp B p.2 fun e H'=>sx (uSet B P ex con N u md o al H.box.length H.buf.length (uLps B F0 (uSet B P ex con N u md o al H.box.length H.buf.length) u.c u.lv n)) F0 (stk [] u.c p.1) e H')):=by
        intro l
        induction l with
        | nil=>intro _;exact trivial
        | cons p l ihl=>
          intro hl
          simp only [List.all_cons,Bool.and_eq_true] at hl
          refine ⟨fun x hx=>?_,ihl hl.2⟩
          obtain ⟨⟨e,hk⟩,H'⟩:=x
          exact xZuh (sx_ok (s.sx ih) F0 _ _ _ _ (RelE.of hk hl.1) (xZmL ok.ids p.1) (by
           show sx _ F0 (stk [] (bd P F.fn) p.1) _ _=some r
           cases hq:u.q with
           | none=>
             rw [hq] at hcode
             rw [← xZgH _ (by show u.q.map al=none;rw [hq];rfl) rfl,← xZoA,show (bd P F.fn).strip=u.c from hcode];exact hx
           | some E=>
             rw [hq] at hcode
             rw [show bd P F.fn=u.c from hcode];exact hx))
       exact this _ hu.lv
    exact s.main0 F0 _ (hlps F0) (by
     cases hq:u.q with
     | none=>
       rw [hq] at hcode
       rw [← xZgH _ (by show u.q.map al=none;rw [hq];rfl) rfl];show sx _ F0 [.c (bd P F.fn).strip] _ _=some r;rw [show (bd P F.fn).strip=u.c from hcode];exact hr
     | some E=>
       rw [hq] at hcode
       show sx _ F0 [.c (bd P F.fn)] _ _=some r
       rw [show bd P F.fn=u.c from hcode];exact hr)
   have h':uRun B F0 P ex con N u md o al xs H=some r:=by unfold uRun gd;rw [hl];exact h
   exact key.res () r h'
def UT.Ok (B:Tb T) (P:Program):UT T→Prop
 | .nil=>True
 | .node l _ u r=>l.Ok B P∧u.Ok B P∧r.Ok B P
theorem UT.look_ok {P:Program}:∀ {t:UT T},t.Ok B P→∀ {n u},t.look n=some u→u.Ok B P
 | .nil,_,_,_,h=>by cases h
 | .node l k v r,ht,n,u,h=>by
   simp only [UT.look] at h
   split at h
   ·cases h;exact ht.2.1
   ·split at h
    ·exact look_ok ht.1 h
    ·exact look_ok ht.2.2 h
theorem xZjZ {F0:Nat} {P:Program} {ex:List (FuncId×EK')} {hands:FuncId→List (Con B)} {us:UT T} {N:Nat} (hB:B.Ok) (hm:P.follows .mixedOrders=true) (he:exOk P ex) (hh:∀ f,conOk P N (hands f)) (hu:us.Ok B P):∀ n f,conOk P N (uCons B F0 P ex hands us N n f)
 | 0,f=>hh f
 | n+1,f=>by
   have ih:=xZjZ (F0:=F0) hB hm he hh hu n
   show conOk P N (match us.look f with
    | some u=>uCon B F0 P ex (uCons B F0 P ex hands us N n) N u
    | none=>hands f)
   split
   ·rename_i u hl
    have h0:=UT.look_ok hu hl
    have a1:∀ md,(uM B u.f fun a=>uRun B F0 P ex (uCons B F0 P ex hands us N n) N u md (uOut B) EqT.q2 a.1 a.2).Ok P N:=fun md=>⟨h0.is.enters,fun a r hr=>xZlh h0 hB hm he ih hr⟩
    have a2:(uP B u.f u.pd fun a=>uRun B F0 P ex (uCons B F0 P ex hands us N n) N u u.md (uOutP B) EqT.q1 a ⟨[],[]⟩).Ok P N:=⟨h0.is.enters,fun a r hr=>xZlh (o:=uOutP B) h0 hB hm he ih hr⟩
    unfold uCon
    split
    ·exact ⟨a1 _,a2,trivial⟩
    ·exact ⟨a2,a1 _,trivial⟩
   ·exact hh f
theorem UF.of {P:Program} {u:UF T} (hf:P.funcs[u.f]?=some u.fn) (hc:(match u.q with | none=>(bd P u.fn).strip | some _=>bd P u.fn)=u.c) (h:(isOk P u.fn&&idsOk [] u.c&&u.lv.all fun p=>p.2.all fun i=>Nat.blt i u.fn.ntmps)=true) (hh:u.h.Ok B) (hm:mkOk P B u.h.mks) (hdf:∀ p∈u.df,Idle P p.1 p.2:=by intro p h;cases h):u.Ok B P:=by
 simp only [Bool.and_eq_true] at h
 exact ⟨Is.of hf h.1.1,hc,h.1.2,hh,hm,h.2,hdf⟩
variable (B) in
def uLit (f:FuncId) (s:List UInt8) (r:BV T):Con B:=
 ⟨f,Unit,Unit,[],fun xs H=>match xs,H with
   | [.str s'],⟨[],[]⟩=>match s'==s with
     | true=>some ()
     | false=>none
   | _,_=>none,fun _=>([.str s],⟨[],[]⟩),fun _ _=>some (),⟨fun _ _=>none,fun _=>(r,⟨[],[]⟩),fun _ K=>K r ⟨[],[]⟩,fun _ _=>rfl,fun _ _ _ h=>(by cases h)⟩,true,false,fun xs H a h=>(by
 split at h
 ·split at h
  ·rename_i hs
   rw [eq_of_beq hs]
   exact ⟨.refl _,.refl _⟩
  ·cases h
 ·cases h),fun _=>⟨fun _=>rfl,fun _=>rfl⟩,fun h=>(by cases h)⟩
theorem xZfW {F0:Nat} {P:Program} {ex:List (FuncId×EK')} {con:FuncId→List (Con B)} {N:Nat} {u:UF T} (hu:u.Ok B P) (hB:B.Ok) (hm:P.follows .mixedOrders=true) (he:exOk P ex) (hc:∀ f,conOk P N (con f)) {md:List Bool} {s:List UInt8} {r:BV T}
 (h:uRun B F0 P ex con N u md (uOutP B) EqT.q1 [.str s] ⟨[],[]⟩=some r):(uLit B u.f s r).Ok P N:=
 ⟨hu.is.enters,fun _ _ _=>xZlh (o:=uOutP B) hu hB hm he hc h⟩
end
end
end Go.Proofs.YtbioikdfpfafaaaGreatDoor.T
