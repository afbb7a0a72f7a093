/- How many nodes a core's tree has; a leaf's letter; two orders of one region. No premise beyond what each theorem says. -/
import Derived.Test.YtmllclbhdmajmaaGreatWG1
import Derived.Test.YtmllclbhdmajmaaGreatWA4
set_option linter.all false
set_option linter.unusedSimpArgs false
set_option linter.unusedVariables false
namespace Go.Proofs.YtmllclbhdmajmaaGreat.W
open Go
theorem W.shift {α:Type} {f:Nat→Option α} {Q:α→Prop} (h:W (fun N=>f (N+1)) Q):W f Q:=by
 obtain ⟨a,⟨n,hn⟩,hq⟩:=h
 refine ⟨a,⟨n+1,fun N hN=>?_⟩,hq⟩
 obtain ⟨M,rfl⟩:∃ M,N=M+1:=⟨N - 1,by omega⟩
 exact hn M (by omega)
theorem W.both {ι:Type} [Lim ι] {α:Type} {q:EqR α} {f g:ι→Option α} {r:α} (h1:W f (·=r)) (h2:W g (·=r)):W (fun i=>Go.Proofs.YtmllclbhdmajmaaGreat.W.both q (f i) (g i)) (·=r):=by
 exact ⟨r,Lim.mono (fun i h=>by show Go.Proofs.YtmllclbhdmajmaaGreat.W.both q (f i) (g i)=Option.some r;rw [h.1,h.2];exact xZi9 rfl) (Lim.and h1.tl h2.tl),rfl⟩
def kc (k:Int):Int:=if k=3 then 2 else if k=4 then 2 else if k=5 then 1 else 0
theorem kc_le (k:Int):0≤kc k∧kc k≤2:=by unfold kc;repeat' split
                                        all_goals omega
theorem xZoV (k:Int) (N:Nat):xZ9o N k=some (kc k):=by
 simp only [xZ9o,kc]
 by_cases h3:k=3
 ·simp [h3]
 by_cases h4:k=4
 ·simp [h4]
 by_cases h5:k=5
 ·simp [h5]
 simp [h3,h4,h5,show (k==3)=false by simpa using h3,show (k==4)=false by simpa using h4,show (k==5)=false by simpa using h5]
def csz:Int→List xZ1→Int→Int
 | _,[],_=>0
 | k,e::r,n=>if k+(kc e.Kind - 1)=0 then n+1 else csz (k+(kc e.Kind - 1)) r (n+1)
def cz (l:List xZ1) (a:Int):Int:=if a < 0 then 0 else if (l.length:Int)≤a then 0 else csz 1 (l.drop a.toNat) 0
theorem xZn1 (l:List xZ1) (a:Int) (hl:l.length≤1000000):W (fun N=>xZ1t N l a) (·=cz l a):=by
 simp only [xZ1t,cz]
 by_cases h1:a < 0
 ·simp only [show ltB a 0=true from xZe.2 h1,cond_true,if_pos h1,W.ret]
 simp only [show ltB a 0=false from xZP.2 (by omega),cond_false,if_neg h1]
 by_cases h2:(l.length:Int)≤a
 ·simp only [show leB (l.length:Int) a=true from xZt.2 h2,cond_true,if_pos h2,W.ret]
 simp only [show leB (l.length:Int) a=false from xZaY.2 (by omega),cond_false,if_neg h2,W.gd,xZt]
 refine ⟨by omega,by omega,?_⟩
 generalize hm:l.drop a.toNat=m
 have hml:m.length≤1000000:=by rw [← hm];simp;omega
 refine wf2z (l:=m) (fun pre v=>1≤v∧v≤(pre.length:Int)+1∧csz v (m.drop pre.length) pre.length=csz 1 m 0) [] rfl rfl (by omega) ⟨by simp,by simp,by simp⟩ ?_ ?_
 ·rintro F pre e rest v hl' k1 k2 k3 ⟨p1,p2,p3⟩ hn
  have hd:m.drop pre.length=e::rest:=by rw [hl'];simp
  have hd1:m.drop (pre++[e]).length=rest:=by rw [hl'];simp
  have hlen:pre.length+1≤m.length:=by rw [hl'];simp
  have hk:=kc_le e.Kind
  rw [hd,csz] at p3
  simp only [xZ6A,k1,k2,Option.bind_some,cond_true,xZoV,W.gd,xZq,k3,true_and]
  refine ⟨by omega,by omega,?_⟩
  by_cases hz:v+(kc e.Kind - 1)=0
  ·rw [if_pos hz] at p3
   simp only [show (v+(kc e.Kind - 1)==0)=true by simpa using hz,cond_true,k3,xZF,W.ret]
   exact p3
  ·rw [if_neg hz] at p3
   simp only [show (v+(kc e.Kind - 1)==0)=false by simpa using hz,cond_false,k3,xZF]
   exact hn _ ⟨by omega,by simp;omega,by rw [hd1];rw [← p3];simp⟩
 ·rintro F v k1 ⟨p1,p2,p3⟩
  rw [List.drop_length,csz] at p3
  simp only [xZ6A,k1,cond_false,W.ret]
  exact p3
def ltr (neg:Bool) (v:List UInt8):List UInt8:=if neg then 33::v else v
theorem xZlx (neg:Bool) (v:List UInt8) (h:v.length≤1000000000000000) (N:Nat):xZ6B N neg v=some (ltr neg v):=by
 unfold xZ6B ltr
 rw [show Nat.ble (1+v.length) 9223372036854775807=true from Nat.ble_eq_true_of_le (by omega)]
 cases neg<;>rfl
section
inductive CT where
 | eps (p:Int)
 | leaf (p:Int)
 | cat (p:Int) (a b:CT)
 | or (p:Int) (a b:CT)
 | loop (p:Int) (a:CT)
def CT.fl:CT→List xZ1
 | .eps p=>[⟨1,p⟩]
 | .leaf p=>[⟨2,p⟩]
 | .cat p a b=>⟨3,p⟩::(a.fl++b.fl)
 | .or p a b=>⟨4,p⟩::(a.fl++b.fl)
 | .loop p a=>⟨5,p⟩::a.fl
def CT.fls:List CT→List xZ1
 | []=>[]
 | a::r=>a.fl++CT.fls r
theorem xZni:∀ t:CT,1≤t.fl.length
 | .eps _=>Nat.le_refl _
 | .leaf _=>Nat.le_refl _
 | .cat _ a b=>by simp [CT.fl]
 | .or _ a b=>by simp [CT.fl]
 | .loop _ a=>by simp [CT.fl]
theorem xZfy:∀ (t:CT) (r:List xZ1) (k n:Int),1≤k→csz k (t.fl++r) n=if k=1 then n+t.fl.length else csz (k - 1) r (n+t.fl.length)
 | .eps _,r,k,n,h=>by
   simp only [CT.fl,List.cons_append,List.nil_append,csz,show kc 1=0 from rfl]
   by_cases hk:k=1
   ·rw [if_pos (by omega),if_pos hk];rfl
   ·rw [if_neg (by omega),if_neg hk,show k+(0 - 1)=k - 1 by omega];rfl
 | .leaf _,r,k,n,h=>by
   simp only [CT.fl,List.cons_append,List.nil_append,csz,show kc 2=0 from rfl]
   by_cases hk:k=1
   ·rw [if_pos (by omega),if_pos hk];rfl
   ·rw [if_neg (by omega),if_neg hk,show k+(0 - 1)=k - 1 by omega];rfl
 | .cat _ a b,r,k,n,h=>by
   simp only [CT.fl,List.cons_append,csz,show kc 3=2 from rfl,List.append_assoc,List.length_cons,List.length_append]
   rw [if_neg (by omega),xZfy a _ _ _ (by omega),if_neg (by omega),xZfy b _ _ _ (by omega),show k+(2 - 1) - 1=k by omega]
   have:n+1+(a.fl.length:Int)+(b.fl.length:Int)=n+((a.fl.length+b.fl.length+1:Nat):Int):=by omega
   rw [this]
 | .or _ a b,r,k,n,h=>by
   simp only [CT.fl,List.cons_append,csz,show kc 4=2 from rfl,List.append_assoc,List.length_cons,List.length_append]
   rw [if_neg (by omega),xZfy a _ _ _ (by omega),if_neg (by omega),xZfy b _ _ _ (by omega),show k+(2 - 1) - 1=k by omega]
   have:n+1+(a.fl.length:Int)+(b.fl.length:Int)=n+((a.fl.length+b.fl.length+1:Nat):Int):=by omega
   rw [this]
 | .loop _ a,r,k,n,h=>by
   simp only [CT.fl,List.cons_append,csz,show kc 5=1 from rfl,List.length_cons]
   rw [if_neg (by omega),xZfy a _ _ _ (by omega),show k+(1 - 1)=k by omega]
   have:n+1+(a.fl.length:Int)=n+((a.fl.length+1:Nat):Int):=by omega
   rw [this]
theorem xZed:∀ (l:List xZ1) (k n m:Int),(∀ e∈l,1≤e.Kind∧e.Kind≤5)→1≤k→0≤n→1≤m→csz k l n=n+m→∃ (ts:List CT) (r:List xZ1),l=CT.fls ts++r∧(ts.length:Int)=k∧((CT.fls ts).length:Int)=m
 | [],k,n,m,_,h1,h2,h3,h=>by rw [csz] at h;omega
 | e::l,k,n,m,hk,h1,h2,h3,h=>by
   have he:=hk e (by simp)
   have hl:∀ e∈l,1≤e.Kind∧e.Kind≤5:=fun x hx=>hk x (by simp [hx])
   obtain ⟨K,p⟩:=e
   simp only at he
   rw [csz] at h
   have lf:kc K=0→∀ t:CT,t.fl=[⟨K,p⟩]→∃ (ts:List CT) (r:List xZ1),(⟨K,p⟩:xZ1)::l=CT.fls ts++r∧(ts.length:Int)=k∧((CT.fls ts).length:Int)=m:=by
    intro h0 t ht
    simp only [h0] at h
    by_cases hz:k+(0 - 1)=0
    ·rw [if_pos hz] at h
     exact ⟨[t],l,by simp [CT.fls,ht],by simp;omega,by simp [CT.fls,ht];omega⟩
    ·rw [if_neg hz] at h
     by_cases hm:m=1
     ·
      exfalso
      have pos:∀ (l:List xZ1) (k n:Int),1≤k→0≤n→csz k l n=0∨n < csz k l n:=fun l=>by
       induction l with
       | nil=>intro k n _ _;exact .inl rfl
       | cons x l ih=>
         intro k n a b
         rw [csz]
         have:=kc_le x.Kind
         split
         ·exact .inr (by omega)
         ·rcases ih (k+(kc x.Kind - 1)) (n+1) (by omega) (by omega) with h | h
          ·exact .inl h
          ·exact .inr (by omega)
      rcases pos l (k+(0 - 1)) (n+1) (by omega) (by omega) with h' | h'<;>omega
     ·obtain ⟨ts,r,q1,q2,q3⟩:=xZed l (k+(0 - 1)) (n+1) (m - 1) hl (by omega) (by omega) (by omega) (by rw [h];omega)
      exact ⟨t::ts,r,by simp [CT.fls,ht,q1],by simp;omega,by simp [CT.fls,ht];omega⟩
   have pos:∀ (l:List xZ1) (k n:Int),1≤k→0≤n→csz k l n=0∨n < csz k l n:=fun l=>by
    induction l with
    | nil=>intro k n _ _;exact .inl rfl
    | cons x l ih=>
      intro k n a b
      rw [csz]
      have:=kc_le x.Kind
      split
      ·exact .inr (by omega)
      ·rcases ih (k+(kc x.Kind - 1)) (n+1) (by omega) (by omega) with h | h
       ·exact .inl h
       ·exact .inr (by omega)
   have two:kc K=2→(∀ a b:CT,∃ t:CT,t.fl=⟨K,p⟩::(a.fl++b.fl))→∃ (ts:List CT) (r:List xZ1),(⟨K,p⟩:xZ1)::l=CT.fls ts++r∧(ts.length:Int)=k∧((CT.fls ts).length:Int)=m:=by
    intro h0 ht
    simp only [h0] at h
    rw [if_neg (by omega)] at h
    have hm:2≤m:=by
     rcases pos l (k+(2 - 1)) (n+1) (by omega) (by omega) with h' | h'<;>omega
    obtain ⟨ts,r,q1,q2,q3⟩:=xZed l (k+(2 - 1)) (n+1) (m - 1) hl (by omega) (by omega) (by omega) (by rw [h];omega)
    match ts,q1,q2,q3 with
    | [],_,q2,_=>simp at q2;omega
    | [_],_,q2,_=>simp at q2;omega
    | a::b::ts,q1,q2,q3=>
      obtain ⟨t,ht⟩:=ht a b
      exact ⟨t::ts,r,by simp [CT.fls,ht,q1],by simp at q2 ⊢;omega,by simp [CT.fls,ht] at q3 ⊢;omega⟩
   rcases (show K=1∨K=2∨K=3∨K=4∨K=5 by omega) with rfl | rfl | rfl | rfl | rfl
   ·exact lf rfl (.eps p) rfl
   ·exact lf rfl (.leaf p) rfl
   ·exact two rfl fun a b=>⟨.cat p a b,rfl⟩
   ·exact two rfl fun a b=>⟨.or p a b,rfl⟩
   ·simp only [show kc 5=1 from rfl] at h
    rw [if_neg (by omega)] at h
    have hm:2≤m:=by
     rcases pos l (k+(1 - 1)) (n+1) (by omega) (by omega) with h' | h'<;>omega
    obtain ⟨ts,r,q1,q2,q3⟩:=xZed l (k+(1 - 1)) (n+1) (m - 1) hl (by omega) (by omega) (by omega) (by rw [h];omega)
    match ts,q1,q2,q3 with
    | [],_,q2,_=>simp at q2;omega
    | a::ts,q1,q2,q3=>exact ⟨.loop p a::ts,r,by simp [CT.fls,CT.fl,q1],by simp at q2 ⊢;omega,by simp [CT.fls,CT.fl] at q3 ⊢;omega⟩
theorem xZqO:∀ (t t':CT) (r r':List xZ1),t.fl++r=t'.fl++r'→t=t'∧r=r':=by
 intro t
 induction t with
 | eps p=>intro t' r r' h;cases t'<;>simp [CT.fl] at h ⊢;exact h
 | leaf p=>intro t' r r' h;cases t'<;>simp [CT.fl] at h ⊢;exact h
 | cat p a b iha ihb=>
   intro t' r r' h
   cases t'<;>simp [CT.fl] at h ⊢
   obtain ⟨e0,h1⟩:=h
   obtain ⟨e1,h2⟩:=iha _ _ _ h1
   obtain ⟨e2,h3⟩:=ihb _ _ _ h2
   exact ⟨⟨e0,e1,e2⟩,h3⟩
 | or p a b iha ihb=>
   intro t' r r' h
   cases t'<;>simp [CT.fl] at h ⊢
   obtain ⟨e0,h1⟩:=h
   obtain ⟨e1,h2⟩:=iha _ _ _ h1
   obtain ⟨e2,h3⟩:=ihb _ _ _ h2
   exact ⟨⟨e0,e1,e2⟩,h3⟩
 | loop p a iha=>
   intro t' r r' h
   cases t'<;>simp [CT.fl] at h ⊢
   obtain ⟨e0,h1⟩:=h
   obtain ⟨e1,h2⟩:=iha _ _ _ h1
   exact ⟨⟨e0,e1⟩,h2⟩
theorem xZl7 {pre post:List xZ1} {t:CT} {l:List xZ1} (hl:l=pre++(t.fl++post)) (hb:l.length≤1000000):W (fun N=>xZ1t N l (pre.length:Int)) (·=(t.fl.length:Int)):=by
 refine (xZn1 l pre.length hb).mp ?_
 rintro _ rfl
 have:=xZni t
 have hlen:l.length=pre.length+(t.fl.length+post.length):=by rw [hl];simp
 rw [cz,if_neg (by omega),if_neg (by omega),Int.toNat_natCast,hl,List.drop_left,xZfy t post 1 0 (by omega),if_pos rfl];omega
def ovL (s:List UInt8) (S:Nat):Nat→List (List UInt8)→Nat→Nat
 | _,[],acc=>acc
 | i,x::r,acc=>ovL s S (i+1) r (bif x==s&&S.testBit i then acc ||| 2 ^ (i+1) else acc)
def lpf (f:Nat→Nat):Nat→Nat→Nat
 | 0,s=>s
 | n+1,s=>bif Nat.beq (s ||| f s) s then s else lpf f n (s ||| f s)
section
variable (w:List (List UInt8)) (pl:List xZ3)
def CT.bh:CT→Nat→Nat
 | .eps _,S=>S
 | .leaf p,S=>match pl[p.toNat]? with
   | some q=>ovL (ltr q.Neg q.Var) S 0 w 0
   | none=>0
 | .cat _ a b,S=>b.bh (a.bh S)
 | .or _ a b,S=>a.bh S ||| b.bh S
 | .loop _ a,S=>lpf a.bh 102 (a.bh S)
end
theorem xZo2 (s:List UInt8) (S:Nat) {B:Nat}:∀ (r:List (List UInt8)) (i acc:Nat),i+r.length < B→acc < 2 ^ B→ovL s S i r acc < 2 ^ B
 | [],i,acc,_,h=>h
 | x::r,i,acc,hi,h=>by
   rw [ovL]
   simp only [List.length_cons] at hi
   refine xZo2 s S r (i+1) _ (by omega) ?_
   cases x==s&&S.testBit i
   ·exact h
   ·exact Nat.or_lt_two_pow h (Nat.pow_lt_pow_right (by decide) (by omega))
theorem xZfJ {f:Nat→Nat} {B:Nat} (hf:∀ s,s < 2 ^ B→f s < 2 ^ B):∀ n s,s < 2 ^ B→lpf f n s < 2 ^ B
 | 0,s,h=>h
 | n+1,s,h=>by
   rw [lpf]
   cases Nat.beq (s ||| f s) s
   ·exact xZfJ hf n _ (Nat.or_lt_two_pow h (hf s h))
   ·exact h
theorem bh_lt (w:List (List UInt8)) (pl:List xZ3) {B:Nat} (hw:w.length < B):∀ (t:CT) (S:Nat),S < 2 ^ B→t.bh w pl S < 2 ^ B
 | .eps _,S,h=>h
 | .leaf p,S,h=>by
   rw [CT.bh]
   split
   ·exact xZo2 _ _ _ _ _ (by omega) (Nat.two_pow_pos _)
   ·exact Nat.two_pow_pos _
 | .cat _ a b,S,h=>bh_lt w pl hw b _ (bh_lt w pl hw a _ h)
 | .or _ a b,S,h=>Nat.or_lt_two_pow (bh_lt w pl hw a _ h) (bh_lt w pl hw b _ h)
 | .loop _ a,S,h=>xZfJ (fun s hs=>bh_lt w pl hw a s hs) _ _ (bh_lt w pl hw a _ h)
def cnt (S:Nat):Nat→Nat
 | 0=>0
 | n+1=>cnt S n+(if S.testBit n then 1 else 0)
theorem xZlo (S:Nat):∀ n,cnt S n≤n
 | 0=>Nat.le_refl _
 | n+1=>by rw [cnt];have:=xZlo S n;split<;>omega
theorem xZjM {S T:Nat} (h:∀ i,S.testBit i=true→T.testBit i=true):∀ n,cnt S n≤cnt T n
 | 0=>Nat.le_refl _
 | n+1=>by
   rw [cnt,cnt]
   have:=xZjM h n
   have:=h n
   split<;>split<;>first | omega | simp_all
theorem xZoE {S T:Nat} (h:∀ i,S.testBit i=true→T.testBit i=true):∀ {n i:Nat},i < n→S.testBit i=false→T.testBit i=true→cnt S n < cnt T n
 | 0,i,hi,_,_=>by omega
 | n+1,i,hi,h1,h2=>by
   rw [cnt,cnt]
   by_cases hin:i=n
   ·subst hin
    have:=xZjM h i
    rw [if_neg (by rw [h1];decide),if_pos h2];omega
   ·have:=xZoE h (n:=n) (i:=i) (by omega) h1 h2
    have:=h n
    split<;>split<;>first | omega | simp_all
theorem xZoF {S T B:Nat} (hS:S < 2 ^ B) (hT:T < 2 ^ B) (hne:S ||| T≠S):cnt S B < cnt (S ||| T) B:=by
 have hsub:∀ i,S.testBit i=true→(S ||| T).testBit i=true:=fun i hi=>by rw [Nat.testBit_or,hi];rfl
 have:∃ i,(S ||| T).testBit i≠S.testBit i:=by
  refine Classical.byContradiction fun hc=>hne (Nat.eq_of_testBit_eq fun i=>?_)
  exact Classical.byContradiction fun h=>hc ⟨i,h⟩
 obtain ⟨i,hi⟩:=this
 have h1:S.testBit i=false:=by
  cases h:S.testBit i with
  | false=>rfl
  | true=>rw [h,hsub i h] at hi;exact absurd rfl hi
 have h2:(S ||| T).testBit i=true:=by
  cases h:(S ||| T).testBit i with
  | true=>rfl
  | false=>rw [h,h1] at hi;exact absurd rfl hi
 have hlt:i < B:=by
  refine Classical.byContradiction fun hc=>?_
  have:=Nat.testBit_lt_two_pow (x:=S ||| T) (i:=i) (Nat.lt_of_lt_of_le (Nat.or_lt_two_pow hS hT) (Nat.pow_le_pow_right (by decide) (by omega)))
  rw [this] at h2;cases h2
 exact xZoE hsub hlt h1 h2
def mkm (S:Nat):xZ8:=⟨((S % 18446744073709551616:Nat):Int),((S / 18446744073709551616:Nat):Int)⟩
theorem xZmH {S T:Nat} (h:mkm S=mkm T):S=T:=by
 unfold mkm at h
 injection h with h1 h2
 omega
theorem bw_or {a b:Nat} (ha:a < 18446744073709551616) (hb:b < 18446744073709551616):bwO .u64 (a:Int) (b:Int)=((a ||| b:Nat):Int):=by
 unfold bwO
 rw [BitVec.toNat_or,BitVec.toNat_ofInt,BitVec.toNat_ofInt,show IntKind.u64.bits=64 from rfl]
 rw [show ((a:Int) % ((2 ^ 64:Nat):Int)).toNat=a by omega,show ((b:Int) % ((2 ^ 64:Nat):Int)).toNat=b by omega,IntKind.wrap_u64]
 have:=Nat.or_lt_two_pow (n:=64) (x:=a) (y:=b) (by omega) (by omega)
 omega
theorem xZqD {a b:Nat} (ha:a < 18446744073709551616) (hb:b < 18446744073709551616):bwA .u64 (a:Int) (b:Int)=((a &&& b:Nat):Int):=by
 unfold bwA
 rw [BitVec.toNat_and,BitVec.toNat_ofInt,BitVec.toNat_ofInt,show IntKind.u64.bits=64 from rfl]
 rw [show ((a:Int) % ((2 ^ 64:Nat):Int)).toNat=a by omega,show ((b:Int) % ((2 ^ 64:Nat):Int)).toNat=b by omega,IntKind.wrap_u64]
 have:=Nat.and_lt_two_pow (n:=64) a (y:=b) (by omega)
 omega
theorem xZpF (S T:Nat):(S ||| T) % 18446744073709551616=(S % 18446744073709551616) ||| (T % 18446744073709551616):=Nat.or_mod_two_pow (n:=64)
theorem xZpE (S T:Nat):(S ||| T) / 18446744073709551616=(S / 18446744073709551616) ||| (T / 18446744073709551616):=by
 have:=Nat.shiftRight_or_distrib (a:=S) (b:=T) (i:=64)
 simpa only [Nat.shiftRight_eq_div_pow] using this
theorem xZlt {S:Nat} (h:S < 2 ^ 128):S / 18446744073709551616 < 18446744073709551616:=by
 have:(2:Nat) ^ 128=18446744073709551616 * 18446744073709551616:=by decide
 omega
theorem e_or {S T:Nat} (hS:S < 2 ^ 128) (hT:T < 2 ^ 128) (N:Nat):xZT N (mkm S) (mkm T)=some (mkm (S ||| T)):=by
 unfold xZT mkm
 simp only
 rw [bw_or (Nat.mod_lt _ (by decide)) (Nat.mod_lt _ (by decide)),bw_or (xZlt hS) (xZlt hT),xZpF,xZpE]
theorem tdiv64 {i:Nat} (h:i < 128):IntKind.i64.wrap (Int.tdiv (i:Int) 64)=((i / 64:Nat):Int):=by
 rw [show Int.tdiv (i:Int) 64=((i / 64:Nat):Int) from rfl,IntKind.wrap_i64];omega
theorem tmod64 (i:Nat):Int.tmod (i:Int) 64=((i % 64:Nat):Int):=rfl
def hf (S j:Nat):Nat:=if j=0 then S % 18446744073709551616 else S / 18446744073709551616
theorem xZqR (S:Nat) {i:Nat} (h:i < 128):(hf S (i / 64)).testBit (i % 64)=S.testBit i:=by
 unfold hf
 by_cases h0:i / 64=0
 ·rw [if_pos h0]
  have:=Nat.testBit_mod_two_pow S 64 (i % 64)
  rw [show (2:Nat) ^ 64=18446744073709551616 from by decide] at this
  rw [this,decide_eq_true (by omega),Bool.true_and,show i % 64=i by omega]
 ·rw [if_neg h0]
  have:=Nat.testBit_div_two_pow (n:=64) (x:=S) (i:=i % 64)
  rw [show (2:Nat) ^ 64=18446744073709551616 from by decide] at this
  rw [this,show i % 64+64=i by omega]
theorem hf_ix {S:Nat} {i:Nat} (h:i < 128):ix ([(mkm S).i0,(mkm S).i1]:List Int) ((i / 64:Nat):Int)=some ((hf S (i / 64):Nat):Int):=by
 rcases (show i / 64=0∨i / 64=1 by omega) with h0 | h0<;>rw [h0]<;>rfl
theorem hf_lt {S:Nat} (hS:S < 2 ^ 128) (j:Nat):hf S j < 18446744073709551616:=by
 unfold hf;split
 ·exact Nat.mod_lt _ (by decide)
 ·exact xZlt hS
theorem e_has {S i:Nat} (hS:S < 2 ^ 128) (h:i < 128) (N:Nat):xZ2z N (mkm S) (i:Int)=some (S.testBit i):=by
 unfold xZ2z
 rw [tdiv64 h,tmod64,xZt.2 (by omega),xZe.2 (by omega),hf_ix h,xZF,xZF,Option.bind_some,xZt.2 (by omega),xZF]
 have hl:=hf_lt hS (i / 64)
 have hb:=xZqR S h
 generalize hf S (i / 64)=e at *
 rw [show min (Int.toNat ((i % 64:Nat):Int)) IntKind.u64.bits=i % 64 by rw [Int.toNat_natCast,show IntKind.u64.bits=64 from rfl];omega]
 have hd:Int.fdiv (e:Int) (2 ^ (i % 64))=((e / 2 ^ (i % 64):Nat):Int):=by
  rw [show (2:Int) ^ (i % 64)=((2 ^ (i % 64):Nat):Int) by simp,Int.fdiv_eq_ediv_of_nonneg _ (Int.natCast_nonneg _)];exact (Int.natCast_ediv _ _).symm
 have hq:e / 2 ^ (i % 64) < 18446744073709551616:=Nat.lt_of_le_of_lt (Nat.div_le_self _ _) hl
 rw [hd,show (1:Int)=((1:Nat):Int) from rfl,xZqD hq (by decide),← hb]
 have h1:(e / 2 ^ (i % 64) &&& 1)≤1:=Nat.and_le_right
 rw [Nat.testBit,Nat.shiftRight_eq_div_pow,Nat.and_comm 1]
 generalize e / 2 ^ (i % 64) &&& 1=z at *
 rcases (show z=0∨z=1 by omega) with rfl | rfl<;>rfl
theorem hf_or (S T j:Nat):hf (S ||| T) j=hf S j ||| hf T j:=by
 unfold hf;split
 ·exact xZpF S T
 ·exact xZpE S T
theorem xZpa {i:Nat} (h:i < 128) (j:Nat):hf (2 ^ i) j=if (j=0)=(i / 64=0) then 2 ^ (i % 64) else 0:=by
 have e:(2:Nat) ^ 64=18446744073709551616:=by decide
 unfold hf
 by_cases h0:i / 64=0
 ·have hlt:(2:Nat) ^ i < 18446744073709551616:=by rw [← e];exact Nat.pow_lt_pow_right (by decide) (by omega)
  rw [show i % 64=i by omega]
  by_cases hj:j=0
  ·rw [if_pos hj,if_pos (by simp [hj,h0]),Nat.mod_eq_of_lt hlt]
  ·rw [if_neg hj,if_neg (by simp [hj,h0]),Nat.div_eq_of_lt hlt]
 ·have hp:(2:Nat) ^ i=18446744073709551616 * 2 ^ (i % 64):=by rw [← e,← Nat.pow_add];congr 1;omega
  by_cases hj:j=0
  ·rw [if_pos hj,if_neg (by simp [hj,h0]),hp,Nat.mul_mod_right]
  ·rw [if_neg hj,if_pos (by simp [hj,h0]),hp,Nat.mul_div_cancel_left _ (by decide)]
theorem xZqV (S:Nat):mkm S=⟨((hf S 0:Nat):Int),((hf S 1:Nat):Int)⟩:=rfl
theorem xZqJ {S i:Nat} (hS:S < 2 ^ 128) (h:i < 128) (N:Nat):xZ3j N (mkm S) (i:Int)=some (mkm (S ||| 2 ^ i)):=by
 unfold xZ3j
 rw [tdiv64 h,tmod64,xZt.2 (by omega),xZe.2 (by omega),hf_ix h,xZF,xZF,Option.bind_some,xZt.2 (by omega),xZF,xZF,xZF,Option.bind_some]
 rw [show min (Int.toNat ((i % 64:Nat):Int)) IntKind.u64.bits=i % 64 by rw [Int.toNat_natCast,show IntKind.u64.bits=64 from rfl];omega]
 have hw:IntKind.u64.wrap (1 * 2 ^ (i % 64))=((2 ^ (i % 64):Nat):Int):=by
  have:(2:Nat) ^ (i % 64) < 2 ^ 64:=Nat.pow_lt_pow_right (by decide) (by omega)
  rw [Int.one_mul,show (2:Int) ^ (i % 64)=((2 ^ (i % 64):Nat):Int) by simp,IntKind.wrap_u64]
  generalize (2:Nat) ^ (i % 64)=q at *
  omega
 have hp:(2:Nat) ^ (i % 64) < 18446744073709551616:=by
  have:(2:Nat) ^ (i % 64) < 2 ^ 64:=Nat.pow_lt_pow_right (by decide) (by omega)
  omega
 rw [hw,bw_or (hf_lt hS _) hp,xZqV (S ||| 2 ^ i),hf_or,hf_or,xZpa h,xZpa h]
 rcases (show i / 64=0∨i / 64=1 by omega) with h0 | h0
 ·rw [h0]
  simp [ieq,leB,mkm,hf]
  exact ⟨rfl,rfl⟩
 ·rw [h0]
  simp [ieq,leB,mkm,hf]
  exact ⟨rfl,rfl⟩
end
end Go.Proofs.YtmllclbhdmajmaaGreat.W
