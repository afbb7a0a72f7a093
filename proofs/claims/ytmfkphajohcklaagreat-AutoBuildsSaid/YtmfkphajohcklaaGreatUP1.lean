/- What the law is handed, told as what its plain text takes. No premise beyond what each theorem says. -/
import Derived.Test.YtmfkphajohcklaaGreatUG2
import Derived.Test.YtmfkphajohcklaaGreatUA2
import Derived.Test.YtmfkphajohcklaaGreatUA4
import Derived.Test.YtmfkphajohcklaaGreatUG1
import Derived.Sort.AssemblyPlain
set_option linter.all false
set_option linter.unusedSimpArgs false
set_option linter.unusedVariables false
namespace Go.Proofs.YtmfkphajohcklaaGreat.U
open Go
section
open Go.Proofs.Tryz
set_option maxRecDepth 1000000
def zH (x:ai):Prop:=(ic .u8) x.Kind/\(ic .i64) x.Place
def NE (x:bM):Prop:=(ic .u8) x.Kind/\(ic .i64) x.N/\(ic .u64) x.Bits/\okS x.Text
def zI (x:az):Prop:=(ic .u8) x.Kind/\(ic .u8) x.Op/\okS x.Var/\okS x.Name/\NE x.Val
def zx (x:aA):Prop:=(λ(_:Bool)=>True) x.Neg/\okS x.Var/\okS x.jQ/\(lN zI) x.Test
def GF (x:bc):Prop:=(lN zH) x.Nodes/\(lN zx) x.Places/\(ic .i64) x.Within/\okS x.By/\(ic .u8) x.Mode
theorem sv {H:Type} (d:DataW H) (cs:List AV) (h:bT prog 5 d cs):∃x:Int,cs=[.v (.int .u8 x)]/\(ic .u8) x:=by
 obtain⟨x,h,h1,h2⟩:=Ir (k:=.u8) (by kernel_rfl) h;exact⟨x,h,h1,h2⟩
theorem Fs {H:Type} (d:DataW H) (cs:List AV) (h:bT prog 3 d cs):∃x:Int,cs=[.v (.int .i64 x)]/\(ic .i64) x:=by
 obtain⟨x,h,h1,h2⟩:=Ir (k:=.i64) (by kernel_rfl) h;exact⟨x,h,h1,h2⟩
theorem aaz {H:Type} (d:DataW H) (cs:List AV) (h:bT prog 82 d cs):∃x:ai,cs=[.v (.int .u8 x.Kind),.v (.int .i64 x.Place)]/\zH x:=by
 obtain⟨_,h⟩:=tz (ts:=[5,3]) (by kernel_rfl) h;obtain⟨_,_,_,_,rfl,h0,h⟩:=eL h;obtain⟨_,_,_,_,rfl,h1,h⟩:=eL h;obtain rfl:=tM h;obtain⟨x0,rfl,k0⟩:=sv _ _ h0;obtain⟨x1,rfl,k1⟩:=Fs _ _ h1;exact⟨⟨x0,x1⟩,rfl,⟨k0,k1⟩⟩
theorem aau {H:Type} (d:DataW H) (cs:List AV) (h:bT prog 22 d cs):∃x:List ai,cs=[.sl 2 (List.map lm x)]/\(lN zH) x:=by
 obtain⟨x,h,h1,h2⟩:=HB (e:=82) (k:=2) lm zH (by kernel_rfl) (by kernel_rfl) (λd cs h=>by obtain⟨x,h1,h2⟩:=aaz d cs h;subst h1;exact⟨x,AJ (by kernel_rfl),h2⟩) h;exact⟨x,h,h1,h2⟩
theorem aaG {H:Type} (d:DataW H) (cs:List AV) (h:bT prog 4 d cs):∃x:Bool,cs=[.v (.bool x)]/\(λ(_:Bool)=>True) x:=by
 obtain⟨x,h⟩:=ahu (by kernel_rfl) h;exact⟨x,h,trivial⟩
theorem pz {H:Type} (d:DataW H) (cs:List AV) (h:bT prog 9 d cs):∃x:List UInt8,cs=[.v (.string (bs x))]/\okS x:=by
 obtain⟨x,h,h1⟩:=af0 (by kernel_rfl) h;exact⟨x,h,h1⟩
theorem aaq {H:Type} (d:DataW H) (cs:List AV) (h:bT prog 105 d cs):∃x:Int,cs=[.v (.int .u64 x)]/\(ic .u64) x:=by
 obtain⟨x,h,h1,h2⟩:=Ir (k:=.u64) (by kernel_rfl) h;exact⟨x,h,h1,h2⟩
theorem aar {H:Type} (d:DataW H) (cs:List AV) (h:bT prog 107 d cs):∃x:bM,cs=[.v (.int .u8 x.Kind),.v (.int .i64 x.N),.v (.int .u64 x.Bits),.v (.string (bs x.Text))]/\NE x:=by
 obtain⟨_,h⟩:=tz (ts:=[5,3,105,9]) (by kernel_rfl) h;obtain⟨_,_,_,_,rfl,h0,h⟩:=eL h;obtain⟨_,_,_,_,rfl,h1,h⟩:=eL h;obtain⟨_,_,_,_,rfl,h2,h⟩:=eL h;obtain⟨_,_,_,_,rfl,h3,h⟩:=eL h;obtain rfl:=tM h;obtain⟨x0,rfl,k0⟩:=sv _ _ h0;obtain⟨x1,rfl,k1⟩:=Fs _ _ h1;obtain⟨x2,rfl,k2⟩:=aaq _ _ h2;obtain⟨x3,rfl,k3⟩:=pz _ _ h3;exact⟨⟨x0,x1,x2,x3⟩,rfl,⟨k0,k1,k2,k3⟩⟩
theorem aas {H:Type} (d:DataW H) (cs:List AV) (h:bT prog 109 d cs):∃x:az,cs=[.v (.int .u8 x.Kind),.v (.int .u8 x.Op),.v (.string (bs x.Var)),.v (.string (bs x.Name)),.v (.int .u8 x.Val.Kind),.v (.int .i64 x.Val.N),.v (.int .u64 x.Val.Bits),.v (.string (bs x.Val.Text))]/\zI x:=by
 obtain⟨_,h⟩:=tz (ts:=[5,5,9,9,107]) (by kernel_rfl) h;obtain⟨_,_,_,_,rfl,h0,h⟩:=eL h;obtain⟨_,_,_,_,rfl,h1,h⟩:=eL h;obtain⟨_,_,_,_,rfl,h2,h⟩:=eL h;obtain⟨_,_,_,_,rfl,h3,h⟩:=eL h;obtain⟨_,_,_,_,rfl,h4,h⟩:=eL h;obtain rfl:=tM h;obtain⟨x0,rfl,k0⟩:=sv _ _ h0;obtain⟨x1,rfl,k1⟩:=sv _ _ h1;obtain⟨x2,rfl,k2⟩:=pz _ _ h2;obtain⟨x3,rfl,k3⟩:=pz _ _ h3;obtain⟨x4,rfl,k4⟩:=aar _ _ h4;exact⟨⟨x0,x1,x2,x3,x4⟩,rfl,⟨k0,k1,k2,k3,k4⟩⟩
theorem aax {H:Type} (d:DataW H) (cs:List AV) (h:bT prog 67 d cs):∃x:List az,cs=[.sl 8 (List.map fV x)]/\(lN zI) x:=by
 obtain⟨x,h,h1,h2⟩:=HB (e:=109) (k:=8) fV zI (by kernel_rfl) (by kernel_rfl) (λd cs h=>by obtain⟨x,h1,h2⟩:=aas d cs h;subst h1;exact⟨x,AJ (by kernel_rfl),h2⟩) h;exact⟨x,h,h1,h2⟩
theorem aay {H:Type} (d:DataW H) (cs:List AV) (h:bT prog 69 d cs):∃x:aA,cs=[.v (.bool x.Neg),.v (.string (bs x.Var)),.v (.string (bs x.jQ)),.sl 8 (List.map fV x.Test)]/\zx x:=by
 obtain⟨_,h⟩:=tz (ts:=[4,9,9,67]) (by kernel_rfl) h;obtain⟨_,_,_,_,rfl,h0,h⟩:=eL h;obtain⟨_,_,_,_,rfl,h1,h⟩:=eL h;obtain⟨_,_,_,_,rfl,h2,h⟩:=eL h;obtain⟨_,_,_,_,rfl,h3,h⟩:=eL h;obtain rfl:=tM h;obtain⟨x0,rfl,k0⟩:=aaG _ _ h0;obtain⟨x1,rfl,k1⟩:=pz _ _ h1;obtain⟨x2,rfl,k2⟩:=pz _ _ h2;obtain⟨x3,rfl,k3⟩:=aax _ _ h3;exact⟨⟨x0,x1,x2,x3⟩,rfl,⟨k0,k1,k2,k3⟩⟩
theorem aav {H:Type} (d:DataW H) (cs:List AV) (h:bT prog 23 d cs):∃x:List aA,cs=[.sl 4 (List.map lj x)]/\(lN zx) x:=by
 obtain⟨x,h,h1,h2⟩:=HB (e:=69) (k:=4) lj zx (by kernel_rfl) (by kernel_rfl) (λd cs h=>by obtain⟨x,h1,h2⟩:=aay d cs h;subst h1;exact⟨x,AJ (by kernel_rfl),h2⟩) h;exact⟨x,h,h1,h2⟩
theorem aaw {H:Type} (d:DataW H) (cs:List AV) (h:bT prog 25 d cs):∃x:bc,cs=[.sl 2 (List.map lm x.Nodes),.sl 4 (List.map lj x.Places),.v (.int .i64 x.Within),.v (.string (bs x.By)),.v (.int .u8 x.Mode)]/\GF x:=by
 obtain⟨_,h⟩:=tz (ts:=[22,23,3,9,5]) (by kernel_rfl) h;obtain⟨_,_,_,_,rfl,h0,h⟩:=eL h;obtain⟨_,_,_,_,rfl,h1,h⟩:=eL h;obtain⟨_,_,_,_,rfl,h2,h⟩:=eL h;obtain⟨_,_,_,_,rfl,h3,h⟩:=eL h;obtain⟨_,_,_,_,rfl,h4,h⟩:=eL h;obtain rfl:=tM h;obtain⟨x0,rfl,k0⟩:=aau _ _ h0;obtain⟨x1,rfl,k1⟩:=aav _ _ h1;obtain⟨x2,rfl,k2⟩:=Fs _ _ h2;obtain⟨x3,rfl,k3⟩:=pz _ _ h3;obtain⟨x4,rfl,k4⟩:=sv _ _ h4;exact⟨⟨x0,x1,x2,x3,x4⟩,rfl,⟨k0,k1,k2,k3,k4⟩⟩
theorem abb {H:Type} (ds:List (DataW H)) (xs:List AV) (h:iX prog [25] ds xs):
 ∃(c:bc),xs=[.agg [.sl 2 (List.map lm c.Nodes),.sl 4 (List.map lj c.Places),.v (.int .i64 c.Within),.v (.string (bs c.By)),.v (.int .u8 c.Mode)]]/\GF c:=by
 obtain⟨_,_,_,_,rfl,rfl,h0,h⟩:=agY h;obtain⟨rfl,rfl⟩:=ahv h;obtain⟨x0,rfl,k0⟩:=aaw _ _ h0;exact⟨x0,by rw[AJ (by kernel_rfl)],k0⟩
end
section
section
variable {α:Type} [Inhabited α]
def gx (l:List α) (i:Nat):α:=l.toArray[i]!
def sw (l:List α) (i j:Nat):List α:=(Sort.swp l.toArray i j).toList
theorem Uh {l:List α} {i:Nat} (h:i<l.length):gx l i=l[i]:=by simp[gx,h]
theorem aS {l:List α} {i:Nat} (h:i<l.length):ix l (i:Int)=some (gx l i):=by rw[fm',Uh h];simp[h]
theorem ixs {l:List α} {v:α} {i j:Nat} (h:i<l.length):ix (l.set j v) (i:Int)=some (gx (l.set j v) i):=aS (by simpa using h)
theorem cN (l:List α) (i j:Nat):(sw l i j).toArray=Sort.swp l.toArray i j:=by simp[sw]
theorem cf {l:List α} {i j:Nat}:(l.set i (gx l j)).set j (gx l i)=sw l i j:=by simp[sw,Sort.swp,gx]
theorem cg {l:List α} {i j:Nat}:(sw l i j).length=l.length:=by simp[sw,Sort.swp]
theorem bL {j:Nat} (h:1<=j):((j:Int)-1)=((j-1:Nat):Int):=by omega
theorem bF (j:Nat):((j:Int)+1)=((j+1:Nat):Int):=by omega
theorem eF {i j:Nat} (h:i<=j):((j:Int)-(i:Int))=((j-i:Nat):Int):=by omega
theorem gC (i j:Nat):((i:Int)+(j:Int))=((i+j:Nat):Int):=by omega
theorem aD {n:Nat} (h:n<=9223372036854775807):ae (n:Int)=true:=bA.2 (by omega)
theorem bV {i j:Nat}:aj (i:Int) (j:Int)=decide (i<j):=by rw[fS];simp
theorem eC {i j:Nat}:leB (i:Int) (j:Int)=decide (i<=j):=by rw[g6];simp
theorem Ki (i j:Nat):((i:Int)*(j:Int))=((i*j:Nat):Int):=by simp
theorem Kh (j:Nat):(2*(j:Int))=((2*j:Nat):Int):=by simp
theorem eV {b:Bool}:((!b)=true)↔b=false:=by cases b<;>simp
theorem o7 {b:Bool}:((!b)=false)↔b=true:=by cases b<;>simp
theorem wB {n:Nat} (h:n<=9223372036854775807):IntKind.i64.wrap (n:Int)=(n:Int):=by
 rw[IntKind.wrap_i64];omega
theorem jA (m k:Nat) (h:m<=9223372036854775807):IntKind.i64.wrap (Int.tdiv (m:Int) (k:Int))=((m/k:Nat):Int):=by
 rw[show Int.tdiv (m:Int) (k:Int)=((m/k:Nat):Int)from rfl];exact wB (Nat.le_trans (Nat.div_le_self _ _) h)
theorem W.sh {β:Type} {f:Nat->Option β} {Q:β->Prop} (h:W (λN=>f (N+1)) Q):W f Q:=by
 obtain⟨a,⟨n,hn⟩,hq⟩:=h;refine⟨a,⟨n+1,λN hN=>?_⟩,hq⟩;obtain⟨M,rfl⟩:∃M,N=M+1:=⟨N-1,by omega⟩
 exact hn M (by omega)
def jq:Sort.Hint->Int
 | .unknown=>0
 | .increasing=>1
 | .decreasing=>2
end
end
theorem fR (N:Nat) (x y:Int):er N x y=some (Sort.ltInt x y):=by
 simp[er,nK,Sort.ltInt,fS]
theorem aj1 {a b:Nat} {xs:List Int} (hb:b<=xs.length) (hs:xs.length<=4611686018427387904) (ha:a<=b):W (λN=>wK N a b xs) (λr=>r=(Sort.insertionSort Sort.ltInt xs.toArray a b).toList/\r.length=xs.length):=by
 unfold wK;simp only[W.gd,bF];refine⟨aD (by omega),?_⟩;refine W.lp2 (λi ys=>∃i':Nat,i=(i':Int)/\a+1<=i'/\ys.length=xs.length/\Sort.insOuter Sort.ltInt a b i' ys.toArray=Sort.insertionSort Sort.ltInt xs.toArray a b) (λi ys=>b-i.toNat) ⟨a+1,rfl,Nat.le_refl _,rfl,rfl⟩ ?_;rintro F i ys ⟨i,rfl,h1,h2,h3⟩ hn;unfold EF;simp only[W.cond,W.ret,bV,decide_eq_true_eq,decide_eq_false_iff_not,bF];refine⟨λhc=>?_,λhc=>?_⟩
 ·rw[Sort.insOuter,if_pos hc]at h3;refine W.lp2 (λj zs=>∃j':Nat,j=(j':Int)/\j'<=i/\zs.length=xs.length/\Sort.insOuter Sort.ltInt a b (i+1) (Sort.insInner Sort.ltInt a j' zs.toArray)=Sort.insertionSort Sort.ltInt xs.toArray a b) (λj _=>j.toNat) ⟨i,rfl,Nat.le_refl _,h2,h3⟩ ?_;rintro G j zs ⟨j,rfl,q1,q2,q3⟩ hm;have out:∀us:List Int,us.length=xs.length->Sort.insOuter Sort.ltInt a b (i+1) us.toArray=Sort.insertionSort Sort.ltInt xs.toArray a b->W (λp:(Nat×Nat)×Nat=>F p.1 ((i+1:Nat):Int) us) (λr=>r=(Sort.insertionSort Sort.ltInt xs.toArray a b).toList/\r.length=xs.length):=λus e1 e2=>
   (hn _ us ⟨i+1,rfl,by omega,e1,e2⟩ (by simp;omega)).lift
  unfold EG;simp only[W.cond,W.ret,W.gd,bV,decide_eq_true_eq,decide_eq_false_iff_not,bF];have hi1:ae ((i+1:Nat):Int)=true:=aD (by omega);refine⟨λhj=>?_,λhj=>⟨hi1,out zs q2 ?_⟩⟩
  ·obtain⟨k,rfl⟩:∃k,j=k+1:=⟨j-1,by omega⟩
   simp only[bL (show 1<=k+1 by omega),Nat.add_sub_cancel,aS (l:=zs) (i:=k+1) (by omega),aS (l:=zs) (i:=k) (by omega),Option.bind_some,W.gd,aD (show k<=9223372036854775807 by omega),true_and,fR,W.cond,Int.toNat_natCast,ixs (l:=zs) (i:=k) (by omega),cf];rw[Sort.insInner]at q3;refine⟨λhl=>?_,λhl=>⟨hi1,out zs q2 ?_⟩⟩
   ·rw[if_pos (by simp only[Bool.and_eq_true,decide_eq_true_eq];exact⟨hj,hl⟩)]at q3;exact hm _ _ ⟨k,rfl,by omega,by rw[cg];exact q2,by rw[cN];exact q3⟩ (by simp)
   ·rw[if_neg (by simp only[Bool.and_eq_true,decide_eq_true_eq];intro h;have:=h.2;simp only[gx]at hl;rw[hl]at this;cases this)]at q3;exact q3
  ·cases j with
   | zero=>rw[Sort.insInner]at q3;exact q3
   | succ k=>rw[Sort.insInner,if_neg (by simp only[Bool.and_eq_true,decide_eq_true_eq];omega)]at q3;exact q3
 ·rw[Sort.insOuter,if_neg hc]at h3;exact⟨by rw[<- h3],h2⟩
theorem QH {lo hi fi:Nat} {xs:List Int} (hb:fi+hi<=xs.length) (hs:xs.length<=1152921504606846976) (hl:lo<=xs.length):W (λN=>rZ N lo hi fi xs) (λr=>r=(Sort.siftDown Sort.ltInt hi fi lo xs.toArray).toList/\r.length=xs.length):=by
 unfold rZ;refine W.lp2 (λi ys=>∃r:Nat,i=(r:Int)/\r<=xs.length/\ys.length=xs.length/\Sort.siftDown Sort.ltInt hi fi r ys.toArray=Sort.siftDown Sort.ltInt hi fi lo xs.toArray) (λi ys=>hi-i.toNat) ⟨lo,rfl,hl,rfl,rfl⟩ ?_;rintro F i ys ⟨r,rfl,h1,h2,h3⟩ hn;unfold EY;simp only[W.gd,W.cond,W.ret,Kh,bF,eC,bV,gC,decide_eq_true_eq,decide_eq_false_iff_not];refine⟨aD (by omega),aD (by omega),λhc=>?_,λhc=>⟨aD (by omega),?_⟩⟩
 ·rw[Sort.siftDown,dif_pos hc]at h3;exact⟨by rw[<- h3],h2⟩
 rw[Sort.siftDown,dif_neg hc]at h3;have go:∀c:Nat,r<c->c<hi->Sort.siftDown Sort.ltInt hi fi c (Sort.swp ys.toArray (fi+r) (fi+c))=Sort.siftDown Sort.ltInt hi fi lo xs.toArray->W (λp=>F p ((c:Nat):Int) (sw ys (fi+r) (fi+c))) (λr=>r=(Sort.siftDown Sort.ltInt hi fi lo xs.toArray).toList/\r.length=xs.length):=λc q1 q2 q3=>
  hn _ _ ⟨c,rfl,by omega,by rw[cg];exact h2,by rw[cN];exact q3⟩ (by simp;omega)
 refine⟨λhd=>?_,λhd=>?_⟩
 rotate_left
 ·rw[if_neg (by simp only[Bool.and_eq_true,decide_eq_true_eq];omega)]at h3;simp only[aS (l:=ys) (i:=fi+r) (by omega),aS (l:=ys) (i:=fi+(2*r+1)) (by omega),Option.bind_some,W.gd,aD (show fi+r<=9223372036854775807 by omega),aD (show fi+(2*r+1)<=9223372036854775807 by omega),true_and,fR,W.cond,W.ret,Int.toNat_natCast,ixs (l:=ys) (i:=fi+(2*r+1)) (by omega),cf,eV,o7];refine⟨λhx=>?_,λhx=>?_⟩
  ·rw[if_pos (by simp only[eV];exact hx)]at h3;exact⟨by rw[<- h3],h2⟩
  ·rw[if_neg (by simp only[eV];intro h;exact absurd (hx.symm.trans h) (by decide))]at h3;exact go _ (by omega) (by omega) h3
 simp only[aS (l:=ys) (i:=fi+(2*r+1)) (by omega),aS (l:=ys) (i:=fi+(2*r+1)+1) (by omega),Option.bind_some,W.gd,aD (show fi+(2*r+1)<=9223372036854775807 by omega),aD (show fi+(2*r+1)+1<=9223372036854775807 by omega),true_and,fR,W.cond];refine⟨λhy=>?_,λhy=>?_⟩
 ·rw[if_pos (by simp only[Bool.and_eq_true,decide_eq_true_eq];exact⟨hd,hy⟩)]at h3;simp only[aS (l:=ys) (i:=fi+r) (by omega),aS (l:=ys) (i:=fi+(2*r+1+1)) (by omega),Option.bind_some,W.gd,aD (show fi+r<=9223372036854775807 by omega),aD (show 2*r+1+1<=9223372036854775807 by omega),aD (show fi+(2*r+1+1)<=9223372036854775807 by omega),true_and,fR,W.cond,W.ret,Int.toNat_natCast,ixs (l:=ys) (i:=fi+(2*r+1+1)) (by omega),cf,eV,o7];refine⟨λhx=>?_,λhx=>?_⟩
  ·rw[if_pos (by simp only[eV];exact hx)]at h3;exact⟨by rw[<- h3],h2⟩
  ·rw[if_neg (by simp only[eV];intro h;exact absurd (hx.symm.trans h) (by decide)),dif_pos hd]at h3;exact go _ (by omega) (by omega) h3
 ·rw[if_neg (by simp only[Bool.and_eq_true,decide_eq_true_eq];intro h;exact absurd (hy.symm.trans h.2) (by decide))]at h3;simp only[aS (l:=ys) (i:=fi+r) (by omega),aS (l:=ys) (i:=fi+(2*r+1)) (by omega),Option.bind_some,W.gd,aD (show fi+r<=9223372036854775807 by omega),aD (show fi+(2*r+1)<=9223372036854775807 by omega),true_and,fR,W.cond,W.ret,Int.toNat_natCast,ixs (l:=ys) (i:=fi+(2*r+1)) (by omega),cf,eV,o7];refine⟨λhx=>?_,λhx=>?_⟩
  ·rw[if_pos (by simp only[eV];exact hx)]at h3;exact⟨by rw[<- h3],h2⟩
  ·rw[if_neg (by simp only[eV];intro h;exact absurd (hx.symm.trans h) (by decide))]at h3;exact go _ (by omega) (by omega) h3
theorem aiL {a b:Nat} {xs:List Int} (hb:b<=xs.length) (hs:xs.length<=1152921504606846976) (ha:a<b):W (λN=>xv N a b xs) (λr=>r=(Sort.heapSort Sort.ltInt xs.toArray a b).toList/\r.length=xs.length):=by
 unfold xv;simp only[W.gd,eF (Nat.le_of_lt ha),bL (show 1<=b-a by omega)];refine⟨aD (by omega),aD (by omega),?_⟩;rw[show(2:Int)=((2:Nat):Int)from rfl,jA _ _ (show b-a-1<=9223372036854775807 by omega)];refine W.lp2 (λi ys=>∃k:Nat,i=(k:Int)-1/\k<=(b-a-1)/2+1/\ys.length=xs.length/\Sort.heapPop Sort.ltInt a (b-a) (Sort.heapBuild Sort.ltInt (b-a) a k ys.toArray)=Sort.heapSort Sort.ltInt xs.toArray a b) (λi ys=>(i+1).toNat) ⟨(b-a-1)/2+1,by omega,Nat.le_refl _,rfl,rfl⟩ ?_;rintro F i ys ⟨k,rfl,h1,h2,h3⟩ hn;unfold EV;simp only[W.cond,W.gd,bL (show 1<=b-a by omega)];refine⟨λhc=>?_,λhc=>⟨aD (by omega),?_⟩⟩
 ·have hc:=a8.1 hc;obtain⟨k,rfl⟩:∃j,k=j+1:=⟨k-1,by omega⟩
  rw[show((k+1:Nat):Int)-1=(k:Int) by omega];refine W.call (QH (by omega) (by omega) (by omega)) λr hr=>?_;rw[W.gd];refine⟨bA.2 (by omega),hn _ _ ⟨k,rfl,by omega,?_,?_⟩ (by omega)⟩
  ·rw[hr.2];exact h2
  ·rw[Sort.heapBuild]at h3;rw[hr.1];exact h3
 ·have hc:=dz.1 hc;obtain rfl:k=0:=by omega
  rw[Sort.heapBuild]at h3;refine W.lp2 (λi zs=>∃k:Nat,i=(k:Int)-1/\k<=b-a/\zs.length=xs.length/\Sort.heapPop Sort.ltInt a k zs.toArray=Sort.heapSort Sort.ltInt xs.toArray a b) (λi _=>(i+1).toNat) ⟨b-a,by omega,Nat.le_refl _,h2,h3⟩ ?_;rintro G i zs ⟨k,rfl,q1,q2,q3⟩ hm;unfold EW;simp only[W.cond,W.gd,W.ret];refine⟨λhc=>?_,λhc=>?_⟩
  ·have hc:=a8.1 hc;obtain⟨k,rfl⟩:∃j,k=j+1:=⟨k-1,by omega⟩
   rw[show((k+1:Nat):Int)-1=(k:Int) by omega];simp only[gC,aD (show a+k<=9223372036854775807 by omega),true_and,aS (l:=zs) (i:=a+k) (by omega),aS (l:=zs) (i:=a) (by omega),Option.bind_some,Int.toNat_natCast,ixs (l:=zs) (i:=a+k) (by omega),cf];refine W.call (QH (lo:=0) (hi:=k) (fi:=a) (xs:=sw zs a (a+k)) (by rw[cg];omega) (by rw[cg];omega) (by omega)) λr hr=>?_;rw[W.gd];refine⟨bA.2 (by omega),hm _ _ ⟨k,rfl,by omega,?_,?_⟩ (by omega)⟩
   ·rw[hr.2,cg];exact q2
   ·rw[Sort.heapPop]at q3;rw[hr.1,cN];exact q3
  ·have hc:=dz.1 hc;obtain rfl:k=0:=by omega
   rw[Sort.heapPop]at q3;exact⟨by rw[<- q3],q2⟩
theorem akb {a b:Nat} {xs:List Int} (hb:b<=xs.length) (hs:xs.length<=1152921504606846976) (ha:a<b):W (λN=>wM N a b xs) (λr=>r=(Sort.reverseRange xs.toArray a b).toList/\r.length=xs.length):=by
 unfold wM;simp only[W.gd,bL (show 1<=b by omega)];refine⟨aD (by omega),?_⟩;refine W.ce (λi j ys=>∃k l:Nat,i=(k:Int)/\j=(l:Int)/\l<xs.length/\ys.length=xs.length/\Sort.reverseLoop k l ys.toArray=Sort.reverseRange xs.toArray a b) (λi j ys=>(j-i).toNat) ⟨a,b-1,rfl,rfl,by omega,rfl,rfl⟩ ?_;rintro F i j ys ⟨k,l,rfl,rfl,h1,h2,h3⟩ hn;unfold EN;simp only[W.cond,W.ret,bV,decide_eq_true_eq,decide_eq_false_iff_not];refine⟨λhc=>?_,λhc=>?_⟩
 ·rw[Sort.reverseLoop,if_pos hc]at h3;simp only[aS (l:=ys) (i:=l) (by omega),aS (l:=ys) (i:=k) (by omega),Option.bind_some,W.gd,Int.toNat_natCast,ixs (l:=ys) (i:=l) (by omega),cf,bF,bL (show 1<=l by omega),aD (show k+1<=9223372036854775807 by omega),aD (show l-1<=9223372036854775807 by omega),true_and];exact hn _ _ _ ⟨k+1,l-1,rfl,rfl,by omega,by rw[cg];exact h2,by rw[cN];exact h3⟩ (by omega)
 ·rw[Sort.reverseLoop,if_neg hc]at h3;exact⟨by rw[<- h3],h2⟩
theorem HV {N a b y:Nat} {xs:List Int} (ha:a<xs.length) (hb:b<xs.length) (hy:y<=100):∃a' b' y':Nat,Sort.order2 Sort.ltInt xs.toArray a b y=(a',b',y')/\pw N a b y xs=some ((a':Int),(b':Int),(y':Int),xs)/\(a'=a/\b'=b\/a'=b/\b'=a)/\y'<=y+1:=by
 unfold pw Sort.order2;simp only[aS ha,aS hb,Option.bind_some,fR];cases h:Sort.ltInt (gx xs b) (gx xs a)with
 | true=>
   simp only[gx]at h;rw[if_pos h];exact⟨b,a,y+1,rfl,by simp only[cond_true,bF,aD (show y+1<=9223372036854775807 by omega),ba],.inr ⟨rfl,rfl⟩,Nat.le_refl _⟩
 | false=>
   simp only[gx]at h;rw[if_neg (by rw[h];decide)];exact⟨a,b,y,rfl,rfl,.inl ⟨rfl,rfl⟩,by omega⟩
theorem Iw {N a b c y:Nat} {xs:List Int} (ha:a<xs.length) (hb:b<xs.length) (hc:c<xs.length) (hy:y<=50):∃m y':Nat,Sort.median Sort.ltInt xs.toArray a b c y=(m,y')/\nT N a b c y xs=some ((m:Int),(y':Int),xs)/\(m=a\/m=b\/m=c)/\y'<=y+3:=by
 obtain⟨a1,b1,y1,p1,q1,r1,s1⟩:=HV (N:=N) ha hb (show y<=100 by omega);obtain⟨b2,c2,y2,p2,q2,r2,s2⟩:=HV (N:=N) (a:=b1) (b:=c) (xs:=xs) (y:=y1) (by omega) hc (by omega);obtain⟨a3,b3,y3,p3,q3,r3,s3⟩:=HV (N:=N) (a:=a1) (b:=b2) (xs:=xs) (y:=y2) (by omega) (by omega) (by omega);refine⟨b3,y3,?_,?_,by omega,by omega⟩
 ·unfold Sort.median;simp only[p1,p2,p3]
 ·unfold nT;simp only[q1,q2,q3,Option.bind_some]
theorem Iu {N a y:Nat} {xs:List Int} (h1:1<=a) (ha:a+1<xs.length) (hs:xs.length<=1152921504606846976) (hy:y<=50):∃m y':Nat,Sort.medianAdjacent Sort.ltInt xs.toArray a y=(m,y')/\oi N a y xs=some ((m:Int),(y':Int),xs)/\m<xs.length/\y'<=y+3:=by
 obtain⟨m,y',p,q,r,s⟩:=Iw (N:=N) (a:=a-1) (b:=a) (c:=a+1) (xs:=xs) (by omega) (by omega) ha hy;refine⟨m,y',p,?_,by omega,s⟩;unfold oi;simp only[bL h1,bF,aD (show a-1<=9223372036854775807 by omega),aD (show a+1<=9223372036854775807 by omega),ba,q,Option.bind_some]
theorem Re {N a b:Nat} {xs:List Int} (hb:b<=xs.length) (hs:xs.length<=1152921504606846976) (ha:a<b):∃(m:Nat) (h:Sort.Hint),Sort.choosePivot Sort.ltInt xs.toArray a b=(m,h)/\rQ N a b xs=some ((m:Int),jq h,xs):=by
 have fin:∀(m y:Nat),(bif ((y:Int)==0)then some ((m:Int),(1:Int),xs)else bif ((y:Int)==12)then some ((m:Int),(2:Int),xs)else some ((m:Int),(0:Int),xs))=some ((m:Int),jq (if y=0 then Sort.Hint.increasing else if y=12 then .decreasing else .unknown),xs):=by
  intro m y;by_cases h0:y=0
  ·subst h0;rfl
  ·by_cases h1:y=12
   ·subst h1;rfl
   ·rw[if_neg h0,if_neg h1,show((y:Int)==0)=false by simpa using h0,show((y:Int)==12)=false by rw[beq_eq_false_iff_ne];omega];rfl
 unfold rQ Sort.choosePivot;simp only[eF (Nat.le_of_lt ha),show(4:Int)=((4:Nat):Int)from rfl,jA _ _ (show b-a<=9223372036854775807 by omega)];simp only[show(1:Int)=((1:Nat):Int)from rfl,show(2:Int)=((2:Nat):Int)from rfl,show(3:Int)=((3:Nat):Int)from rfl,show(8:Int)=((8:Nat):Int)from rfl,show(50:Int)=((50:Nat):Int)from rfl,Ki,gC,eC,aD (show b-a<=9223372036854775807 by omega),aD (show(b-a)/4*1<=9223372036854775807 by omega),aD (show(b-a)/4*2<=9223372036854775807 by omega),aD (show(b-a)/4*3<=9223372036854775807 by omega),
  aD (show a+(b-a)/4*1<=9223372036854775807 by omega),aD (show a+(b-a)/4*2<=9223372036854775807 by omega),aD (show a+(b-a)/4*3<=9223372036854775807 by omega),ba]
 by_cases h8:8<=b-a
 ·simp only[h8,decide_true,cond_true,ge_iff_le,if_true];by_cases h50:50<=b-a
  ·simp only[h50,decide_true,cond_true,if_true];obtain⟨i,y1,p1,q1,r1,s1⟩:=Iu (N:=N) (a:=a+(b-a)/4*1) (xs:=xs) (y:=0) (by omega) (by omega) hs (by omega);obtain⟨j,y2,p2,q2,r2,s2⟩:=Iu (N:=N) (a:=a+(b-a)/4*2) (xs:=xs) (y:=y1) (by omega) (by omega) hs (by omega);obtain⟨k,y3,p3,q3,r3,s3⟩:=Iu (N:=N) (a:=a+(b-a)/4*3) (xs:=xs) (y:=y2) (by omega) (by omega) hs (by omega);obtain⟨m,y4,p4,q4,r4,s4⟩:=Iw (N:=N) (a:=i) (b:=j) (c:=k) (xs:=xs) (y:=y3) r1 r2 r3 (by omega);have q1:oi N ((a+(b-a)/4*1:Nat):Int) 0 xs=some ((i:Int),(y1:Int),xs):=q1;simp only[p1,p2,p3,p4,q1,q2,q3,q4,Option.bind_some];exact⟨m,_,rfl,fin m y4⟩
  ·simp only[h50,decide_false,cond_false,if_false];obtain⟨m,y4,p4,q4,r4,s4⟩:=Iw (N:=N) (a:=a+(b-a)/4*1) (b:=a+(b-a)/4*2) (c:=a+(b-a)/4*3) (xs:=xs) (y:=0) (by omega) (by omega) (by omega) (by omega);have q4:nT N ((a+(b-a)/4*1:Nat):Int) ((a+(b-a)/4*2:Nat):Int) ((a+(b-a)/4*3:Nat):Int) 0 xs=some ((m:Int),(y4:Int),xs):=q4;simp only[p4,q4,Option.bind_some];exact⟨m,_,rfl,fin m y4⟩
 ·simp only[h8,decide_false,cond_false,ge_iff_le,if_false];exact⟨_,_,rfl,rfl⟩
theorem W.oE {ι α:Type} [bm ι] {c d:Bool} {f g:ι->Option α} {Q:α->Prop} (h1:c=true->d=true->W f Q) (h2:(c&&d)=false->W g Q):W (λi=>bif c then bif d then f i else g i else g i) Q:=by
 cases c
 ·exact h2 rfl
 ·cases d
  ·exact h2 rfl
  ·exact h1 rfl rfl
theorem qe {p:Prop} [Decidable p] {c:Bool} (h:(decide p&&c)=false):¬(decide p&&c)=true:=by rw[h];decide
theorem qa {α:Type} [Inhabited α] {p:α->Bool} {d:List α} {k l:Nat} (h:1<=k):Sort.scanDown p d.toArray k l=if (decide (k<=l)&&p (gx d l))=true then Sort.scanDown p d.toArray k (l-1)else l:=by
 cases l with
 | zero=>rw[Sort.scanDown,if_neg (by simp only[Bool.and_eq_true,decide_eq_true_eq];omega)]
 | succ l=>rw[Sort.scanDown];rfl
theorem qb {α:Type} [Inhabited α] {p:α->Bool} {d:List α} {j i:Nat}:Sort.scanUp p d.toArray j i=if (decide (i<=j)&&p (gx d i))=true then Sort.scanUp p d.toArray j (i+1)else i:=by
 rw[Sort.scanUp];rfl
instance akn {ι:Type} [bm ι] {N:ι->Nat} [h:cD N]:cD (λp:(ι×Nat)×Nat=>N p.1.1):=⟨λK=>⟨0,0,bm.mono (λ_ hi _ _ _ _=>hi) (h.to K)⟩⟩
theorem Xj {ι:Type} [bm ι] {N:ι->Nat} [cD N] {a b n i0 j0:Nat} {ys:List Int} {Q:Int×Bool×List Int->Prop} (hb:b<=n) (hab:a<b) (hs:n<=1152921504606846976) (h1:a<i0) (h2:i0<=j0+2) (h3:j0<b) (hl:ys.length=n)
 (hQ:∀(m:Nat) (zs:List Int),Sort.partLoop Sort.ltInt a i0 j0 ys.toArray=(m,zs.toArray)->zs.length=n->Q ((m:Int),false,sw zs m a)):W (λi=>ce (rS (N i) a) (N i) i0 j0 ys) Q:=by
 refine W.ce (λi j zs=>∃k l:Nat,i=(k:Int)/\j=(l:Int)/\a<k/\k<=l+2/\l<b/\zs.length=n/\Sort.partLoop Sort.ltInt a k l zs.toArray=Sort.partLoop Sort.ltInt a i0 j0 ys.toArray) (λi j _=>(j+1-i).toNat) ⟨i0,j0,rfl,rfl,h1,h2,h3,hl,rfl⟩ ?_;rintro F i j zs ⟨i,j,rfl,rfl,p1,p2,p3,p4,p5⟩ hn;rw[Sort.partLoop_eq]at p5;obtain⟨I,hI⟩:∃I,I=Sort.scanUp (λx=>Sort.ltInt x (gx zs a)) zs.toArray j i:=⟨_,rfl⟩
 obtain⟨J,hJ⟩:∃J,J=Sort.scanDown (λx=>!Sort.ltInt x (gx zs a)) zs.toArray I j:=⟨_,rfl⟩
 have p5:(if I>J then(J,zs.toArray)else Sort.partLoop Sort.ltInt a (I+1) (J-1) (Sort.swp zs.toArray I J))=Sort.partLoop Sort.ltInt a i0 j0 ys.toArray:=by
  rw[<- p5,hJ,hI];rfl
 unfold rS;refine W.bj (λx=>∃k:Nat,x=(k:Int)/\i<=k/\k<=j+2/\Sort.scanUp (λx=>Sort.ltInt x (gx zs a)) zs.toArray j k=I) (λx=>(j+1-x).toNat) ⟨i,rfl,Nat.le_refl _,p2,hI.symm⟩ ?_;rintro G x ⟨k,rfl,q1,q2,q3⟩ hm;have down:k=I->W (λp:(ι×Nat)×Nat=>bj (rT (N p.1.1) a k zs (F p.1)) (N p.1.1) j) Q:=by
  rintro rfl;refine W.bj (λx=>∃l:Nat,x=(l:Int)/\k<=l+2/\l<=j/\Sort.scanDown (λx=>!Sort.ltInt x (gx zs a)) zs.toArray k l=J) (λx=>x.toNat) ⟨j,rfl,by omega,Nat.le_refl _,hJ.symm⟩ ?_;rintro H x ⟨l,rfl,r1,r2,r3⟩ ho;rw[qa (by omega)]at r3;unfold rT;simp only[aS (l:=zs) (i:=l) (by omega),aS (l:=zs) (i:=a) (by omega),Option.bind_some,fR,eC,bV,Int.toNat_natCast,ixs (l:=zs) (i:=a) (by omega),ixs (l:=zs) (i:=l) (by omega),cf];refine W.oE (λc1 c2=>?_) λc=>?_
  ·have c1:=of_decide_eq_true c1;rw[if_pos (by rw[Bool.and_eq_true];exact⟨decide_eq_true c1,c2⟩)]at r3;rw[W.gd,bL (show 1<=l by omega)];exact⟨aD (by omega),ho _ ⟨l-1,rfl,by omega,by omega,r3⟩ (by omega)⟩
  ·rw[if_neg (qe c)]at r3;subst r3;simp only[W.cond,decide_eq_true_eq,decide_eq_false_iff_not];refine⟨λhc=>?_,λhc=>?_⟩
   ·rw[W.ret];rw[if_pos hc]at p5;exact hQ _ _ p5.symm p4
   ·rw[if_neg hc,<- cN]at p5;simp only[aS (l:=zs) (i:=k) (by omega),ixs (l:=zs) (i:=l) (by omega),Option.bind_some,W.gd,bF,bL (show 1<=l by omega),aD (show k+1<=9223372036854775807 by omega),aD (show l-1<=9223372036854775807 by omega),true_and,cf];exact(hn _ _ _ ⟨k+1,l-1,rfl,rfl,by omega,by omega,by omega,by rw[cg];exact p4,p5⟩ (by omega)).lift.lift
 unfold Ex;simp only[W.cond,eC,decide_eq_true_eq,decide_eq_false_iff_not];rw[qb]at q3;refine⟨λhc=>?_,λhc=>?_⟩
 ·simp only[aS (l:=zs) (i:=k) (by omega),aS (l:=zs) (i:=a) (by omega),Option.bind_some,fR,W.cond,W.gd,bF];refine⟨λhl=>⟨aD (by omega),hm _ ⟨k+1,rfl,by omega,by omega,?_⟩ (by omega)⟩,λhl=>down ?_⟩
  ·rw[if_pos (by simp only[Bool.and_eq_true,decide_eq_true_eq];exact⟨hc,hl⟩)]at q3;exact q3
  ·rw[if_neg (by simp only[Bool.and_eq_true,decide_eq_true_eq];intro h;exact absurd (hl.symm.trans h.2) (by decide))]at q3;exact q3
 ·rw[if_neg (by simp only[Bool.and_eq_true,decide_eq_true_eq];intro h;exact hc h.1)]at q3;exact down q3
def PQ (xs:List Int) (a b pv:Nat) (r:Int×Bool×List Int):Prop:=r.1=((Sort.partition Sort.ltInt xs.toArray a b pv).1:Int)/\r.2.1=(Sort.partition Sort.ltInt xs.toArray a b pv).2.1/\r.2.2=(Sort.partition Sort.ltInt xs.toArray a b pv).2.2.toList/\r.2.2.length=xs.length
theorem ajf {a b pv:Nat} {xs:List Int} (hb:b<=xs.length) (hs:xs.length<=1152921504606846976) (ha:a<=pv) (hpv:pv<b):W (λN=>xr N a b pv xs) (PQ xs a b pv):=by
 obtain⟨ds,hds⟩:∃ds:List Int,ds=sw xs a pv:=⟨_,rfl⟩
 have hdl:ds.length=xs.length:=by rw[hds,cg]
 obtain⟨I,hI⟩:∃I,I=Sort.scanUp (λx=>Sort.ltInt x (gx ds a)) ds.toArray (b-1) (a+1):=⟨_,rfl⟩
 obtain⟨J,hJ⟩:∃J,J=Sort.scanDown (λx=>!Sort.ltInt x (gx ds a)) ds.toArray I (b-1):=⟨_,rfl⟩
 have hp:Sort.partition Sort.ltInt xs.toArray a b pv=if I>J then(J,true,Sort.swp ds.toArray J a)else((Sort.partLoop Sort.ltInt a (I+1) (J-1) (Sort.swp ds.toArray I J)).1,false,Sort.swp (Sort.partLoop Sort.ltInt a (I+1) (J-1) (Sort.swp ds.toArray I J)).2 (Sort.partLoop Sort.ltInt a (I+1) (J-1) (Sort.swp ds.toArray I J)).1 a):=by
  unfold Sort.partition;simp only[<- cN,<- hds];simp only[gx]at hI hJ;rw[<- hI,<- hJ]
 unfold xr;simp only[aS (l:=xs) (i:=pv) (by omega),aS (l:=xs) (i:=a) (by omega),Option.bind_some,Int.toNat_natCast,ixs (l:=xs) (i:=pv) (by omega),cf,<- hds,W.gd,bF,bL (show 1<=b by omega)];refine⟨aD (by omega),aD (by omega),?_⟩;refine W.bj (λi=>∃k:Nat,i=(k:Int)/\a+1<=k/\k<=b/\Sort.scanUp (λx=>Sort.ltInt x (gx ds a)) ds.toArray (b-1) k=I) (λi=>(b-i).toNat) ⟨a+1,rfl,Nat.le_refl _,by omega,hI.symm⟩ ?_;rintro F i ⟨k,rfl,h1,h2,h3⟩ hn;have down:k=I->W (λp:Nat×Nat=>bj (rR p.1 (a:Int) (k:Int) ds) p.1 ((b-1:Nat):Int)) (PQ xs a b pv):=by
  rintro rfl;refine W.bj (λj=>∃l:Nat,j=(l:Int)/\k<=l+1/\l<b/\Sort.scanDown (λx=>!Sort.ltInt x (gx ds a)) ds.toArray k l=J) (λj=>j.toNat) ⟨b-1,rfl,by omega,by omega,hJ.symm⟩ ?_;rintro G j ⟨l,rfl,q1,q2,q3⟩ hm;rw[qa (by omega)]at q3;unfold rR;simp only[aS (l:=ds) (i:=l) (by omega),aS (l:=ds) (i:=a) (by omega),Option.bind_some,fR,eC,bV,Int.toNat_natCast,ixs (l:=ds) (i:=a) (by omega),ixs (l:=ds) (i:=l) (by omega),cf];refine W.oE (λc1 c2=>?_) λc=>?_
  ·have c1:=of_decide_eq_true c1;rw[if_pos (by rw[Bool.and_eq_true];exact⟨decide_eq_true c1,c2⟩)]at q3;rw[W.gd,bL (show 1<=l by omega)];exact⟨aD (by omega),hm _ ⟨l-1,rfl,by omega,by omega,q3⟩ (by omega)⟩
  ·rw[if_neg (qe c)]at q3;subst q3;simp only[W.cond,decide_eq_true_eq,decide_eq_false_iff_not];refine⟨λhc=>?_,λhc=>?_⟩
   ·rw[W.ret];rw[if_pos hc]at hp;refine⟨by rw[hp],by rw[hp],?_,by rw[cg,hdl]⟩;rw[hp,<- cN]
   ·rw[if_neg hc]at hp;simp only[aS (l:=ds) (i:=k) (by omega),ixs (l:=ds) (i:=l) (by omega),Option.bind_some,W.gd,bF,bL (show 1<=l by omega),aD (show k+1<=9223372036854775807 by omega),aD (show l-1<=9223372036854775807 by omega),true_and,cf];refine Xj (b:=b) (n:=xs.length) hb (by omega) hs (by omega) (by omega) (by omega) (by rw[cg];exact hdl) λm zs e1 e2=>?_;rw[<- cN,e1]at hp;refine⟨by rw[hp],by rw[hp],?_,by rw[cg];exact e2⟩;rw[hp,<- cN]
 unfold Ew;simp only[W.cond,eC,decide_eq_true_eq,decide_eq_false_iff_not];rw[qb]at h3;refine⟨λhc=>?_,λhc=>?_⟩
 ·simp only[aS (l:=ds) (i:=k) (by omega),aS (l:=ds) (i:=a) (by omega),Option.bind_some,fR,W.cond,W.gd,bF];refine⟨λhl=>⟨aD (by omega),hn _ ⟨k+1,rfl,by omega,by omega,?_⟩ (by omega)⟩,λhl=>down ?_⟩
  ·rw[if_pos (by simp only[Bool.and_eq_true,decide_eq_true_eq];exact⟨hc,hl⟩)]at h3;exact h3
  ·rw[if_neg (by simp only[Bool.and_eq_true,decide_eq_true_eq];intro h;exact absurd (hl.symm.trans h.2) (by decide))]at h3;exact h3
 ·rw[if_neg (by simp only[Bool.and_eq_true,decide_eq_true_eq];intro h;exact hc h.1)]at h3;exact down h3
theorem Xh {ι:Type} [bm ι] {N:ι->Nat} [cD N] {a b n i0 j0:Nat} {ys:List Int} {Q:Int×List Int->Prop} (hb:b<=n) (hab:a<b) (hs:n<=1152921504606846976) (h1:a<i0) (h2:i0<=j0+2) (h3:j0<b) (hl:ys.length=n)
 (hQ:∀(m:Nat) (zs:List Int),Sort.partEqLoop Sort.ltInt a i0 j0 ys.toArray=(m,zs.toArray)->zs.length=n->Q ((m:Int),zs)):W (λi=>ce (wY (N i) a) (N i) i0 j0 ys) Q:=by
 refine W.ce (λi j zs=>∃k l:Nat,i=(k:Int)/\j=(l:Int)/\a<k/\k<=l+2/\l<b/\zs.length=n/\Sort.partEqLoop Sort.ltInt a k l zs.toArray=Sort.partEqLoop Sort.ltInt a i0 j0 ys.toArray) (λi j _=>(j+1-i).toNat) ⟨i0,j0,rfl,rfl,h1,h2,h3,hl,rfl⟩ ?_;rintro F i j zs ⟨i,j,rfl,rfl,p1,p2,p3,p4,p5⟩ hn;rw[Sort.partEqLoop_eq]at p5;obtain⟨I,hI⟩:∃I,I=Sort.scanUp (λx=>!Sort.ltInt (gx zs a) x) zs.toArray j i:=⟨_,rfl⟩
 obtain⟨J,hJ⟩:∃J,J=Sort.scanDown (λx=>Sort.ltInt (gx zs a) x) zs.toArray I j:=⟨_,rfl⟩
 have p5:(if I>J then(I,zs.toArray)else Sort.partEqLoop Sort.ltInt a (I+1) (J-1) (Sort.swp zs.toArray I J))=Sort.partEqLoop Sort.ltInt a i0 j0 ys.toArray:=by
  rw[<- p5,hJ,hI];rfl
 unfold wY;refine W.bj (λx=>∃k:Nat,x=(k:Int)/\i<=k/\k<=j+2/\Sort.scanUp (λx=>!Sort.ltInt (gx zs a) x) zs.toArray j k=I) (λx=>(j+1-x).toNat) ⟨i,rfl,Nat.le_refl _,p2,hI.symm⟩ ?_;rintro G x ⟨k,rfl,q1,q2,q3⟩ hm;have down:k=I->W (λp:(ι×Nat)×Nat=>bj (sS (N p.1.1) a k zs (F p.1)) (N p.1.1) j) Q:=by
  rintro rfl;refine W.bj (λx=>∃l:Nat,x=(l:Int)/\k<=l+2/\l<=j/\Sort.scanDown (λx=>Sort.ltInt (gx zs a) x) zs.toArray k l=J) (λx=>x.toNat) ⟨j,rfl,by omega,Nat.le_refl _,hJ.symm⟩ ?_;rintro H x ⟨l,rfl,r1,r2,r3⟩ ho;rw[qa (by omega)]at r3;unfold sS;simp only[aS (l:=zs) (i:=l) (by omega),aS (l:=zs) (i:=a) (by omega),Option.bind_some,fR,eC,bV,Int.toNat_natCast,ixs (l:=zs) (i:=a) (by omega),ixs (l:=zs) (i:=l) (by omega),cf];refine W.oE (λc1 c2=>?_) λc=>?_
  ·have c1:=of_decide_eq_true c1;rw[if_pos (by rw[Bool.and_eq_true];exact⟨decide_eq_true c1,c2⟩)]at r3;rw[W.gd,bL (show 1<=l by omega)];exact⟨aD (by omega),ho _ ⟨l-1,rfl,by omega,by omega,r3⟩ (by omega)⟩
  ·rw[if_neg (qe c)]at r3;subst r3;simp only[W.cond,decide_eq_true_eq,decide_eq_false_iff_not];refine⟨λhc=>?_,λhc=>?_⟩
   ·rw[W.ret];rw[if_pos hc]at p5;exact hQ _ _ p5.symm p4
   ·rw[if_neg hc,<- cN]at p5;simp only[aS (l:=zs) (i:=k) (by omega),ixs (l:=zs) (i:=l) (by omega),Option.bind_some,W.gd,bF,bL (show 1<=l by omega),aD (show k+1<=9223372036854775807 by omega),aD (show l-1<=9223372036854775807 by omega),true_and,cf];exact(hn _ _ _ ⟨k+1,l-1,rfl,rfl,by omega,by omega,by omega,by rw[cg];exact p4,p5⟩ (by omega)).lift.lift
 unfold EC;simp only[W.cond,eC,decide_eq_true_eq,decide_eq_false_iff_not];rw[qb]at q3;refine⟨λhc=>?_,λhc=>?_⟩
 ·simp only[aS (l:=zs) (i:=k) (by omega),aS (l:=zs) (i:=a) (by omega),Option.bind_some,fR,W.cond,W.gd,bF];refine⟨λhl=>⟨aD (by omega),hm _ ⟨k+1,rfl,by omega,by omega,?_⟩ (by omega)⟩,λhl=>down ?_⟩
  ·rw[if_pos (by simp only[Bool.and_eq_true,decide_eq_true_eq];exact⟨hc,hl⟩)]at q3;exact q3
  ·rw[if_neg (by simp only[Bool.and_eq_true,decide_eq_true_eq];intro h;exact absurd (hl.symm.trans h.2) (by decide))]at q3;exact q3
 ·rw[if_neg (by simp only[Bool.and_eq_true,decide_eq_true_eq];intro h;exact hc h.1)]at q3;exact down q3
theorem Xl {a b pv:Nat} {xs:List Int} (hb:b<=xs.length) (hs:xs.length<=1152921504606846976) (ha:a<=pv) (hpv:pv<b):W (λN=>xk N a b pv xs) (λr=>r.1=((Sort.partitionEqual Sort.ltInt xs.toArray a b pv).1:Int)/\r.2=(Sort.partitionEqual Sort.ltInt xs.toArray a b pv).2.toList/\r.2.length=xs.length):=by
 unfold xk;simp only[aS (l:=xs) (i:=pv) (by omega),aS (l:=xs) (i:=a) (by omega),Option.bind_some,Int.toNat_natCast,ixs (l:=xs) (i:=pv) (by omega),cf,W.gd,bF,bL (show 1<=b by omega)];refine⟨aD (by omega),aD (by omega),?_⟩;refine Xh (b:=b) (n:=xs.length) hb (by omega) hs (by omega) (by omega) (by omega) (by rw[cg]) λm zs e1 e2=>?_;unfold Sort.partitionEqual;rw[<- cN,e1];exact⟨rfl,rfl,e2⟩
theorem Xo {ι:Type} [bm ι] {N:ι->Nat} [cD N] {b n i2 j0:Nat} {j:Int} {F:ι->Int->Int->List Int->Option (Bool×List Int)} {ys:List Int} {Q:Bool×List Int->Prop} (hb:b<=n) (hs:n<=1152921504606846976) (h1:1<=j0) (hl:ys.length=n)
 (hF:∀zs:List Int,zs.length=n->zs.toArray=Sort.shiftUp Sort.ltInt b j0 ys.toArray->W (λi=>gd (ae (j+1)) (F i i2 (j+1) zs)) Q):W (λi=>lp2 (kJ (N i) b i2 j (F i)) (N i) j0 ys) Q:=by
 refine W.lp2 (λx zs=>∃k:Nat,x=(k:Int)/\1<=k/\zs.length=n/\Sort.shiftUp Sort.ltInt b k zs.toArray=Sort.shiftUp Sort.ltInt b j0 ys.toArray) (λx _=>(b-x).toNat) ⟨j0,rfl,h1,hl,rfl⟩ ?_;rintro G x zs ⟨k,rfl,p1,p2,p3⟩ hn;rw[Sort.shiftUp]at p3;unfold kJ;rw[W.cond,bV];refine⟨λhc=>?_,λhc=>?_⟩
 ·have hc:=of_decide_eq_true hc;rw[if_pos hc]at p3;simp only[bL p1,aS (l:=zs) (i:=k) (by omega),aS (l:=zs) (i:=k-1) (by omega),Option.bind_some,fR,aD (show k-1<=9223372036854775807 by omega),ba,Int.toNat_natCast,ixs (l:=zs) (i:=k-1) (by omega),cf];rw[W.cond];refine⟨λhl=>?_,λhl=>?_⟩
  ·simp only[gx]at hl;rw[if_pos hl]at p3;exact(hF zs p2 p3).lift
  ·simp only[gx]at hl;rw[if_neg (by rw[hl];decide)]at p3;rw[W.gd,bF];exact⟨aD (by omega),hn _ _ ⟨k+1,rfl,by omega,by rw[cg];exact p2,by rw[cN];exact p3⟩ (by omega)⟩
 ·have hc:=of_decide_eq_false hc;rw[if_neg hc]at p3;exact(hF zs p2 p3).lift
theorem Xf {ι:Type} [bm ι] {N:ι->Nat} [cD N] {b n i2 j0:Nat} {j:Int} {F:ι->Int->Int->List Int->Option (Bool×List Int)} {ys:List Int} {Q:Bool×List Int->Prop} (hb:b<=n) (hs:n<=1152921504606846976) (h1:j0<n) (hl:ys.length=n)
 (hF:∀zs:List Int,zs.length=n->zs.toArray=Sort.shiftDown Sort.ltInt j0 ys.toArray->W (λi=>gd (ae ((b:Int)-(i2:Int))) (bif leB 2 ((b:Int)-(i2:Int))then gd (ae ((i2:Int)+1)) (lp2 (kJ (N i) b i2 j (F i)) (N i) ((i2:Int)+1) zs)else gd (ae (j+1)) (F i i2 (j+1) zs))) Q):
 W (λi=>lp2 (t8 (N i) b i2 j (F i)) (N i) j0 ys) Q:=by
 refine W.lp2 (λx zs=>∃k:Nat,x=(k:Int)/\k<n/\zs.length=n/\Sort.shiftDown Sort.ltInt k zs.toArray=Sort.shiftDown Sort.ltInt j0 ys.toArray) (λx _=>x.toNat) ⟨j0,rfl,h1,hl,rfl⟩ ?_;rintro G x zs ⟨k,rfl,p1,p2,p3⟩ hn;unfold t8;rw[W.cond];cases k with
 | zero=>
   refine⟨λhc=>absurd hc (by decide),λhc=>?_⟩;rw[Sort.shiftDown]at p3;exact(hF zs p2 p3).lift
 | succ k=>
   refine⟨λhc=>?_,λhc=>absurd hc (by rw[g6];simp;omega)⟩;rw[Sort.shiftDown]at p3;simp only[bL (show 1<=k+1 by omega),Nat.add_sub_cancel,aS (l:=zs) (i:=k+1) (by omega),aS (l:=zs) (i:=k) (by omega),Option.bind_some,fR,aD (show k<=9223372036854775807 by omega),ba,Int.toNat_natCast,ixs (l:=zs) (i:=k) (by omega),cf];rw[W.cond];refine⟨λhl=>?_,λhl=>?_⟩
   ·simp only[gx]at hl;rw[if_pos hl]at p3;exact(hF zs p2 p3).lift
   ·simp only[gx]at hl;rw[if_neg (by rw[hl];decide)]at p3;exact hn _ _ ⟨k,rfl,by omega,by rw[cg];exact p2,by rw[cN];exact p3⟩ (by omega)
theorem aj8 {a b:Nat} {xs:List Int} (hb:b<=xs.length) (hs:xs.length<=1152921504606846976) (ha:a<b):W (λN=>zc N a b xs) (λr=>r.1=(Sort.partialInsertionSort Sort.ltInt xs.toArray a b).2/\r.2=(Sort.partialInsertionSort Sort.ltInt xs.toArray a b).1.toList/\r.2.length=xs.length):=by
 obtain⟨R,hR⟩:∃R,R=Sort.partialInsertionSort Sort.ltInt xs.toArray a b:=⟨_,rfl⟩
 rw[<- hR];unfold zc;rw[W.gd,bF];refine⟨aD (by omega),?_⟩;refine W.ce (λi j ys=>∃k s:Nat,i=(k:Int)/\j=5-(s:Int)/\s<=5/\a<k/\k<=b/\ys.length=xs.length/\Sort.partialIns Sort.ltInt a b s k ys.toArray=R) (λ_ j _=>(5-j).toNat) ⟨a+1,5,rfl,rfl,by omega,by omega,by omega,rfl,hR.symm⟩ ?_;rintro F i j ys ⟨i,s,rfl,rfl,h0,h1,h2,h3,h4⟩ hn;unfold Ef;rw[W.cond];refine⟨λhc=>?_,λhc=>?_⟩
 rotate_left
 ·have hc:=dg.1 hc;obtain rfl:s=0:=by omega
  rw[Sort.partialIns]at h4;rw[W.ret,<- h4];exact⟨rfl,rfl,h3⟩
 have hc:=bJ.1 hc;obtain⟨s,rfl⟩:∃t,s=t+1:=⟨s-1,by omega⟩
 rw[Sort.partialIns]at h4;simp only[]at h4;obtain⟨I,hI⟩:∃I,I=Sort.scanSorted Sort.ltInt ys.toArray b i:=⟨_,rfl⟩
 rw[<- hI]at h4;refine W.bj (λx=>∃k:Nat,x=(k:Int)/\i<=k/\k<=b/\Sort.scanSorted Sort.ltInt ys.toArray b k=I) (λx=>(b-x).toNat) ⟨i,rfl,Nat.le_refl _,h2,hI.symm⟩ ?_;rintro G x ⟨k,rfl,q1,q2,q3⟩ hm;rw[Sort.scanSorted]at q3;unfold Eg;rw[W.cond,bV];refine⟨λhk=>?_,λhk=>?_⟩
 rotate_left
 ·have hk:=of_decide_eq_false hk;obtain rfl:k=b:=by omega
  rw[if_neg (by simp)]at q3;subst q3;rw[if_pos rfl]at h4;rw[show((k:Int)==(k:Int))=true by simp,W.cond];exact⟨λ_=>W.ret.2 (by rw[<- h4];exact⟨rfl,rfl,h3⟩),λh=>by cases h⟩
 have hk:=of_decide_eq_true hk;simp only[bL (show 1<=k by omega),aS (l:=ys) (i:=k) (by omega),aS (l:=ys) (i:=k-1) (by omega),Option.bind_some,fR,aD (show k-1<=9223372036854775807 by omega),ba,Int.toNat_natCast,ixs (l:=ys) (i:=k-1) (by omega),cf];rw[W.cond];refine⟨λhl=>?_,λhl=>?_⟩
 ·rw[if_pos (by rw[Bool.and_eq_true];exact⟨decide_eq_true hk,hl⟩)]at q3;rw[W.gd,bF];exact⟨aD (by omega),hm _ ⟨k+1,rfl,by omega,by omega,q3⟩ (by omega)⟩
 rw[if_neg (by rw[Bool.and_eq_true];intro h;exact absurd (hl.symm.trans h.2) (by decide))]at q3;subst q3;rw[if_neg (show ¬k=b by omega)]at h4;rw[show((k:Int)==(b:Int))=false by rw[beq_eq_false_iff_ne];omega];rw[W.cond];refine⟨(λh=>by cases h),λ_=>?_⟩;rw[W.gd,eF (show a<=b by omega),W.cond];refine⟨aD (by omega),λh50=>?_,λh50=>?_⟩
 ·have h50:=bJ.1 h50;rw[if_pos (by omega)]at h4;rw[W.ret,<- h4];exact⟨rfl,rfl,h3⟩
 have h50:=dg.1 h50;rw[if_neg (by omega)]at h4;have next:∀zs:List Int,zs.length=xs.length->Sort.partialIns Sort.ltInt a b s k zs.toArray=R->W (λp:Nat×Nat=>gd (ae (5-((s+1:Nat):Int)+1)) (F p (k:Int) (5-((s+1:Nat):Int)+1) zs)) (λr=>r.1=R.2/\r.2=R.1.toList/\r.2.length=xs.length):=λzs e1 e2=>by
  rw[W.gd];exact⟨bA.2 (by omega),hn _ _ _ ⟨k,s,rfl,by omega,by omega,by omega,by omega,e1,e2⟩ (by omega)⟩
 have up:∀zs:List Int,zs.length=xs.length->Sort.partialIns Sort.ltInt a b s k (if b-k>=2 then Sort.shiftUp Sort.ltInt b (k+1) zs.toArray else zs.toArray)=R->W (λp:Nat×Nat=>gd (ae ((b:Int)-(k:Int))) (bif leB 2 ((b:Int)-(k:Int))then gd (ae ((k:Int)+1)) (lp2 (kJ p.1 b k (5-((s+1:Nat):Int)) (F p)) p.1 ((k:Int)+1) zs)else gd (ae (5-((s+1:Nat):Int)+1)) (F p (k:Int) (5-((s+1:Nat):Int)+1) zs))) (λr=>r.1=R.2/\r.2=R.1.toList/\r.2.length=xs.length):=λzs e1 e2=>by
  rw[W.gd,W.cond];refine⟨bA.2 (by omega),λh=>?_,λh=>?_⟩
  ·have h:=a8.1 h;rw[if_pos (by omega)]at e2;rw[W.gd,bF];refine⟨aD (by omega),Xo (n:=xs.length) hb hs (by omega) e1 λus f1 f2=>next us f1 ?_⟩;rw[f2];exact e2
  ·have h:=dz.1 h;rw[if_neg (by omega)]at e2;exact next zs e1 e2
 rw[<- cN]at h4;rw[W.gd,W.cond];refine⟨bA.2 (by omega),λh=>?_,λh=>?_⟩
 ·have h:=a8.1 h;rw[if_pos (show k-a>=2 by omega)]at h4;refine Xf (ι:=(Nat×Nat)×Nat) (F:=λp=>F p.1) (n:=xs.length) hb hs (by omega) (by rw[cg];exact h3) λzs e1 e2=>(up zs e1 ?_).lift;rw[e2];exact h4
 ·have h:=dz.1 h;rw[if_neg (show ¬k-a>=2 by omega)]at h4;exact(up _ (by rw[cg];exact h3) h4).lift
section
set_option maxRecDepth 100000
theorem len8:∀k:Fin 256,nN 0 ((k.val:Nat):Int)=some ((Sort.bitsLen k.val:Nat):Int):=by decide +kernel
theorem mu {x:Nat} (h:2<=x):Sort.bitsLen x=Sort.bitsLen (x/2)+1:=by
 unfold Sort.bitsLen;rw[if_neg (by omega),if_neg (by omega),Nat.log2_def x,if_pos h]
theorem oB {x:Nat} (h:256<=x):Sort.bitsLen x=Sort.bitsLen (x/256)+8:=by
 rw[mu (by omega),mu (x:=x/2) (by omega),mu (x:=x/2/2) (by omega),mu (x:=x/2/2/2) (by omega),mu (x:=x/2/2/2/2) (by omega),mu (x:=x/2/2/2/2/2) (by omega),mu (x:=x/2/2/2/2/2/2) (by omega),mu (x:=x/2/2/2/2/2/2/2) (by omega)];simp only[Nat.div_div_eq_div_mul]
theorem IJ {n:Nat} (h:1<=n):2^Sort.bitsLen n<=2*n:=by
 unfold Sort.bitsLen;rw[if_neg (by omega),Nat.pow_succ];have:=Nat.log2_self_le (n:=n) (by omega);omega
theorem uq {n:Nat} (h:n<4294967296):Sort.bitsLen n<=32:=by
 unfold Sort.bitsLen;split
 ·omega
 ·have:=(Nat.log2_lt (n:=n) (k:=32) (by omega)).2 (by simpa using h);omega
theorem Ue (x:Nat):Int.fdiv (x:Int) (2^8)=((x/256:Nat):Int):=by rw[show Int.fdiv (x:Int) (2^8)=(x:Int)/256 from Int.fdiv_eq_ediv_of_nonneg _ (by decide)];omega
theorem Ud (x:Nat):Int.fdiv (x:Int) (2^16)=((x/65536:Nat):Int):=by rw[show Int.fdiv (x:Int) (2^16)=(x:Int)/65536 from Int.fdiv_eq_ediv_of_nonneg _ (by decide)];omega
theorem wr8 {k:Nat} (h:k<256):IntKind.u8.wrap (k:Int)=(k:Int):=by rw[IntKind.wrap_u8];omega
theorem uA {x:Nat} (h:x<4294967296) (N:Nat):pC N (x:Int)=some ((Sort.bitsLen x:Nat):Int):=by
 have tab:∀k:Nat,k<256->∀(m:Int),m=(k:Int)->nN 0 m=some ((Sort.bitsLen k:Nat):Int):=λk hk m e=>by subst e;exact len8 ⟨k,hk⟩
 unfold pC;have e1:nN N (x:Int)=some ((Sort.bitsLen x:Nat):Int):=by
  have c0:leB 4294967296 (x:Int)=false:=by rw[g6];simp;omega
  have small:∀k:Nat,k<256->leB 4294967296 (k:Int)=false/\leB 65536 (k:Int)=false/\leB 256 (k:Int)=false:=λk hk=>by
   simp only[g6];simp;omega
  have step:∀k:Nat,k<256->∀(d:Nat),d<=24->∀l:List UInt8,(∀n:Nat,n<256->((ix l (IntKind.u8.wrap (n:Int))).bind λc=>gd (ae (0+(IntKind.i64.wrap (UInt8.toNat c:Int)))) (some (0+(IntKind.i64.wrap (UInt8.toNat c:Int)))))=some ((Sort.bitsLen n:Nat):Int))->
   ((ix l (IntKind.u8.wrap (k:Int))).bind λc=>gd (ae ((d:Int)+(IntKind.i64.wrap (UInt8.toNat c:Int)))) (some ((d:Int)+(IntKind.i64.wrap (UInt8.toNat c:Int)))))=some ((d+Sort.bitsLen k:Nat):Int):=by
   intro k hk d hd l hl;have:=hl k hk;rw[wr8 hk]at this ⊢;cases hx:ix l (k:Int)with
   | none=>rw[hx]at this;cases this
   | some c=>
     rw[hx]at this;have hc:=UInt8.toNat_lt c;rw[Option.bind_some,wB (by omega)]at this ⊢;obtain⟨_,this⟩:=bW this;have this:=Option.some.inj this;rw[show ae ((d:Int)+(UInt8.toNat c:Int))=true from bA.2 (by omega),ba];congr 1;omega
  have wa:∀n:Nat,n<256->_:=λn hn=>by
   have:=len8 ⟨n,hn⟩;unfold nN at this;simp only[(small n hn).1,(small n hn).2.1,(small n hn).2.2,cond_false]at this;exact this
  unfold nN;simp only[c0,cond_false,Ue,Ud];by_cases h16:65536<=x
  ·rw[show leB 65536 (x:Int)=true from a8.2 (by omega),cond_true];by_cases h24:256<=x/65536
   ·rw[show leB 256 ((x/65536:Nat):Int)=true from a8.2 (by omega),cond_true];refine(step (x/65536/256) (by omega) 24 (by omega) _ wa).trans ?_;rw[oB (x:=x) (by omega),oB (x:=x/256) (by omega),oB (x:=x/256/256) (by omega),show x/65536/256=x/256/256/256 by omega];congr 2;omega
   ·rw[show leB 256 ((x/65536:Nat):Int)=false from dz.2 (by omega),cond_false];refine(step (x/65536) (by omega) 16 (by omega) _ wa).trans ?_;rw[oB (x:=x) (by omega),oB (x:=x/256) (by omega),show x/65536=x/256/256 by omega];congr 2;omega
  ·rw[show leB 65536 (x:Int)=false from dz.2 (by omega),cond_false];by_cases h8:256<=x
   ·rw[show leB 256 (x:Int)=true from a8.2 (by omega),cond_true];refine(step (x/256) (by omega) 8 (by omega) _ wa).trans ?_;rw[oB (x:=x) (by omega)];congr 2;omega
   ·rw[show leB 256 (x:Int)=false from dz.2 (by omega),cond_false];exact wa x (by omega)
 rw[e1];rfl
theorem jC {n:Nat} (h:n<18446744073709551616):IntKind.u64.wrap (n:Int)=(n:Int):=by rw[IntKind.wrap_u64];omega
theorem vz (n:Nat):(BitVec.ofInt 64 (n:Int)).toNat=n%2^64:=by
 rw[BitVec.toNat_ofInt];rw[<- Int.natCast_emod,Int.toNat_natCast]
theorem ake (a b:UInt64):fA .u64 (a.toNat:Int) (b.toNat:Int)=((a ^^^ b).toNat:Int):=by
 unfold fA;rw[show IntKind.u64.bits=64 from rfl,BitVec.toNat_xor,vz,vz,Nat.mod_eq_of_lt a.toNat_lt,Nat.mod_eq_of_lt b.toNat_lt,<- UInt64.toNat_xor];exact jC (UInt64.toNat_lt _)
theorem S7 (a b:Nat) (ha:a<18446744073709551616) (hb:b<18446744073709551616):bI .u64 (a:Int) (b:Int)=((a &&& b:Nat):Int):=by
 unfold bI;rw[show IntKind.u64.bits=64 from rfl,BitVec.toNat_and,vz,vz,Nat.mod_eq_of_lt (by simpa using ha),Nat.mod_eq_of_lt (by simpa using hb)];exact jC (Nat.lt_of_le_of_lt Nat.and_le_left ha)
theorem S8 (a:UInt64) (k:Nat) (hk:k<64):IntKind.u64.wrap ((a.toNat:Int)*2^k)=((a <<< (UInt64.ofNat k)).toNat:Int):=by
 rw[IntKind.wrap_u64,UInt64.toNat_shiftLeft,UInt64.toNat_ofNat',Nat.mod_eq_of_lt (show k<2^64 by omega),Nat.mod_eq_of_lt hk,Nat.shiftLeft_eq];rw[show((a.toNat:Int)*2^k)=((a.toNat*2^k:Nat):Int) by simp];omega
theorem akd (a:UInt64) (k:Nat) (hk:k<64):Int.fdiv (a.toNat:Int) (2^k)=((a >>> (UInt64.ofNat k)).toNat:Int):=by
 rw[Int.fdiv_eq_ediv_of_nonneg _ (Int.le_of_lt (Int.pow_pos (by decide))),UInt64.toNat_shiftRight,UInt64.toNat_ofNat',Nat.mod_eq_of_lt (show k<2^64 by omega),Nat.mod_eq_of_lt hk,Nat.shiftRight_eq_div_pow];simp
theorem Jv (N:Nat) (r:UInt64):sf N (r.toNat:Int)=some (((Sort.xorNext r).toNat:Int),((Sort.xorNext r).toNat:Int)):=by
 unfold sf Sort.xorNext;simp only[S8 _ _ (show 13<64 by decide),ake,akd _ _ (show 7<64 by decide),S8 _ _ (show 17<64 by decide)];rfl
def brk {α:Type} [Inhabited α] (a length modulus:Nat):Nat->Nat->UInt64×Array α->UInt64×Array α
 | 0,_,st=>st
 | n+1,idx,st=>brk a length modulus n (idx+1) (Sort.breakStep a length modulus st idx)
theorem ajY {a b:Nat} {xs:List Int} (hb:b<=xs.length) (hs:xs.length<4294967296) (ha:a+12<b):W (λN=>wJ N a b xs) (λr=>r=(Sort.breakPatterns xs.toArray a b).toList/\r.length=xs.length):=by
 obtain⟨L,hL⟩:∃L,L=b-a:=⟨_,rfl⟩
 have hp:Sort.breakPatterns xs.toArray a b=(brk a L (1 <<< Sort.bitsLen L) 3 (a+L/4*2-1) (UInt64.ofNat L,xs.toArray)).2:=by
  unfold Sort.breakPatterns;simp only[<- hL];rw[if_pos (by omega)];rfl
 have hbl:=IJ (n:=L) (by omega);have Ux:=uq (n:=L) (by omega);have hbp:0<2^Sort.bitsLen L:=Nat.pow_pos (by decide);rw[hp];unfold wJ sm;rw[eF (show a<=b by omega),<- hL];have h8:leB 8 (L:Int)=true:=a8.2 (by omega);have hw:IntKind.u64.wrap (L:Int)=(L:Int):=jC (by omega);have hm:IntKind.u64.wrap (1*2^(min (Int.toNat (Sort.bitsLen L:Int)) (IntKind.u64.bits)))=((2^Sort.bitsLen L:Nat):Int):=by
  rw[Int.toNat_natCast,show min (Sort.bitsLen L) IntKind.u64.bits=Sort.bitsLen L from Nat.min_eq_left (by show _<=64;omega),Int.one_mul];rw[show((2:Int)^Sort.bitsLen L)=((2^Sort.bitsLen L:Nat):Int) by simp];exact jC (by omega)
 simp only[W.gd,h8,cond_true,hw,uA (show L<4294967296 by omega),Option.bind_some,show leB 0 ((Sort.bitsLen L:Nat):Int)=true from a8.2 (by omega),ba,hm,show(4:Int)=((4:Nat):Int)from rfl,jA _ _ (show L<=9223372036854775807 by omega)];rw[show((L/4:Nat):Int)*2=((L/4*2:Nat):Int) by omega,gC,bL (show 1<=a+L/4*2 by omega)];refine⟨aD (by omega),aD (by omega),aD (by omega),aD (by omega),?_⟩;refine W.ce (λx y ys=>∃(m:Nat) (st:UInt64×Array Int),m<=3/\x=((a+L/4*2-1+m:Nat):Int)/\y=(st.1.toNat:Int)/\ys.toArray=st.2/\ys.length=xs.length/\brk a L (1 <<< Sort.bitsLen L) (3-m) (a+L/4*2-1+m) st=brk a L (1 <<< Sort.bitsLen L) 3 (a+L/4*2-1) (UInt64.ofNat L,xs.toArray)) (λx _ _=>((a+L/4*2+2:Nat)-x).toNat) ⟨0,(UInt64.ofNat L,xs.toArray),by omega,rfl,?_,rfl,rfl,rfl⟩ ?_
 ·rw[UInt64.toNat_ofNat',Nat.mod_eq_of_lt (by omega)]
 rintro F x y ys ⟨m,⟨r,d⟩,h1,rfl,rfl,rfl,h2,h3⟩ hn;unfold EE;simp only[W.gd,show(4:Int)=((4:Nat):Int)from rfl,jA _ _ (show L<=9223372036854775807 by omega)];rw[show((L/4:Nat):Int)*2=((L/4*2:Nat):Int) by omega,gC,bF];refine⟨aD (by omega),aD (by omega),aD (by omega),?_⟩;rw[W.cond];refine⟨λhc=>?_,λhc=>?_⟩
 ·have hc:=a8.1 hc;obtain⟨q,hq⟩:∃q,3-m=q+1:=⟨3-m-1,by omega⟩
  rw[hq,brk]at h3;obtain⟨o,ho⟩:∃o,o=(Sort.xorNext r).toNat &&& (2^Sort.bitsLen L-1):=⟨_,rfl⟩
  have hox:IntKind.i64.wrap (bI .u64 ((Sort.xorNext r).toNat:Int) (IntKind.u64.wrap (((2^Sort.bitsLen L:Nat):Int)-1)))=(o:Int):=by
   rw[bL hbp,jC (by omega),S7 _ _ (UInt64.toNat_lt _) (by omega),<- ho];exact wB (Nat.le_trans (by rw[ho];exact Nat.and_le_right) (by omega))
  have hol:o<=2^Sort.bitsLen L-1:=by rw[ho];exact Nat.and_le_right
  simp only[Jv,Option.bind_some,hox];have st:Sort.breakStep a L (1 <<< Sort.bitsLen L) (r,ys.toArray) (a+L/4*2-1+m)=(Sort.xorNext r,(sw ys (a+L/4*2-1+m) (a+(if o>=L then o-L else o))).toArray):=by
   unfold Sort.breakStep;simp only[cN,Nat.one_shiftLeft,<- ho]
  rw[st]at h3;rw[W.cond];refine⟨λhg=>?_,λhg=>?_⟩
  ·have hg:=a8.1 hg;rw[if_pos (by omega)]at h3;simp only[eF (show L<=o by omega),gC,aD (show o-L<=9223372036854775807 by omega),aD (show a+(o-L)<=9223372036854775807 by omega),ba,aS (l:=ys) (i:=a+(o-L)) (by omega),aS (l:=ys) (i:=a+L/4*2-1+m) (by omega),Option.bind_some,Int.toNat_natCast,ixs (l:=ys) (i:=a+(o-L)) (by omega),cf,bF];rw[W.gd];exact⟨aD (by omega),hn _ _ _ ⟨m+1,_,by omega,rfl,rfl,rfl,by rw[cg];exact h2,by rw[show 3-(m+1)=q by omega];exact h3⟩ (by omega)⟩
  ·have hg:=dz.1 hg;rw[if_neg (by omega)]at h3;simp only[gC,aD (show a+o<=9223372036854775807 by omega),ba,aS (l:=ys) (i:=a+o) (by omega),aS (l:=ys) (i:=a+L/4*2-1+m) (by omega),Option.bind_some,Int.toNat_natCast,ixs (l:=ys) (i:=a+o) (by omega),cf,bF];rw[W.gd];exact⟨aD (by omega),hn _ _ _ ⟨m+1,_,by omega,rfl,rfl,rfl,by rw[cg];exact h2,by rw[show 3-(m+1)=q by omega];exact h3⟩ (by omega)⟩
 ·have hc:=dz.1 hc;rw[show 3-m=0 by omega,brk]at h3;rw[W.ret,<- h3];exact⟨rfl,h2⟩
end
theorem Pw {α:Type} [Inhabited α] (lt:α->α->Bool) (d:Array α) {a b pv:Nat} (ha:a<=pv) (hp:pv<b) (hb:b<=d.size):a<(Sort.partitionEqual lt d a b pv).1/\(Sort.partitionEqual lt d a b pv).1<=b:=by
 unfold Sort.partitionEqual;have:=Sort.partEqLoop_spec (lt:=lt) a b _ (a+1) (b-1) (Sort.swp d a pv) (Nat.le_refl _) (by omega) (by omega) (by omega) (by rw[Sort.size_swp];exact hb) (λt h1 h2=>by omega) (λt h1 h2=>by omega);exact⟨this.1,this.2.1⟩
def vD {α:Type} [Inhabited α] (lt:α->α->Bool) (d1:Array α) (a b limit:Nat) (wasBalanced wasPartitioned:Bool):Array α:=
 let c:=Sort.choosePivot lt d1 a b
 let d2:=if c.2=.decreasing then Sort.reverseRange d1 a b else d1
 let pivot:=if c.2=.decreasing then(b-1)-(c.1-a)else c.1
 let hint:=if c.2=.decreasing then Sort.Hint.increasing else c.2
 let pi:=if wasBalanced&&wasPartitioned&&hint=.increasing then Sort.partialInsertionSort lt d2 a b else(d2,false)
 if pi.2 then pi.1 else
 let d3:=pi.1
 if a>0&&!lt d3[a-1]! d3[pivot]! then
  match Sort.partitionEqual lt d3 a b pivot with
  | (mid,d4)=>if _h:a<mid/\mid<=b then Sort.pdq lt d4 mid b limit wasBalanced wasPartitioned else d4
 else
  match Sort.partition lt d3 a b pivot with
  | (mid,alreadyPartitioned,d4)=>
    if _h:a<=mid/\mid<b then
     if mid-a<b-mid then
      Sort.pdq lt (Sort.pdq lt d4 a mid limit true true) (mid+1) b limit (decide (mid-a>=(b-a)/8)) alreadyPartitioned
     else
      Sort.pdq lt (Sort.pdq lt d4 (mid+1) b limit true true) a mid limit (decide (b-mid>=(b-a)/8)) alreadyPartitioned
    else d4
theorem aj6 (n:Nat) (hs:n<4294967296):∀(s a b l:Nat) (ys:List Int),b-a<=s->a<=b->b<=n->ys.length=n->l<=64->W (λN=>gc N a b l ys) (λr=>r=(Sort.pdq Sort.ltInt ys.toArray a b l true true).toList/\r.length=n):=by
 intro s
 induction s using Nat.strongRecOn with
 | ind s ih=>
 intro a0 b0 l0 ys0 hs0 hab hb0 hl0 hlim;obtain⟨R,hR⟩:∃R,R=Sort.pdq Sort.ltInt ys0.toArray a0 b0 l0 true true:=⟨_,rfl⟩
 rw[<- hR];refine W.sh ?_;show W (λN=>E5 N (gc N) _ _ _ _) _;unfold E5;refine W.o6 (λx y z wb wp zs=>∃a b l:Nat,x=(a:Int)/\y=(b:Int)/\z=(l:Int)/\l<=64/\a<=b/\b<=n/\b-a<=s/\zs.length=n/\Sort.pdq Sort.ltInt zs.toArray a b l wb wp=R) (λx y _ _ _ _=>(y-x).toNat) ⟨a0,b0,l0,rfl,rfl,rfl,hlim,hab,hb0,hs0,hl0,hR.symm⟩ ?_;rintro F x y z wb wp ys ⟨a,b,l,rfl,rfl,rfl,h1,h2,h3,h4,h5,h6⟩ hn;rw[Sort.pdq]at h6;unfold E2;rw[W.gd,eF h2,W.cond];refine⟨aD (by omega),λhc=>?_,λhc=>?_⟩
 ·have hc:=a8.1 hc;rw[if_pos (by omega)]at h6;refine W.call (aj1 (by omega) (by omega) h2) λr hr=>?_;rw[W.ret,<- h6];exact⟨hr.1,hr.2.trans h5⟩
 have hc:=dz.1 hc;rw[if_neg (by omega)]at h6;rw[W.cond];refine⟨λhz=>?_,λhz=>?_⟩
 ·have hz:l=0:=by simpa using hz
  rw[if_pos hz]at h6;refine W.call (aiL (by omega) (by omega) (by omega)) λr hr=>?_;rw[W.ret,<- h6];exact⟨hr.1,hr.2.trans h5⟩
 have hz:l≠0:=by simpa using hz
 rw[if_neg hz]at h6;have j3:∀(l' pv:Nat) (zs:List Int) (x:Bool),l'<=64->a<=pv->pv<b->zs.length=n->
  (if x=true then(match Sort.partitionEqual Sort.ltInt zs.toArray a b pv with|(mid,d4)=>if _h:a<mid/\mid<=b then Sort.pdq Sort.ltInt d4 mid b l' wb wp else d4)else
    (match Sort.partition Sort.ltInt zs.toArray a b pv with|(mid,ap,d4)=>if _h:a<=mid/\mid<b then(if mid-a<b-mid then Sort.pdq Sort.ltInt (Sort.pdq Sort.ltInt d4 a mid l' true true) (mid+1) b l' (decide (mid-a>=(b-a)/8)) ap else Sort.pdq Sort.ltInt (Sort.pdq Sort.ltInt d4 (mid+1) b l' true true) a mid l' (decide (b-mid>=(b-a)/8)) ap)else d4))=R->
  W (λp:Nat×Nat=>kP p.1 (gc p.1) a b l' wb wp ((b-a:Nat):Int) pv x zs (F p)) (λr=>r=R.toList/\r.length=n):=by
  intro l' pv zs x q1 q2 q3 q4 q5;unfold kP;rw[W.cond];refine⟨λhx=>?_,λhx=>?_⟩
  ·rw[if_pos hx]at q5;have hr:=Pw Sort.ltInt zs.toArray q2 q3 (by simp;omega);refine W.call (Xl (by omega) (by omega) q2 q3) λr he=>?_;obtain⟨⟨mid,d4⟩,hpe⟩:∃x,Sort.partitionEqual Sort.ltInt zs.toArray a b pv=x:=⟨_,rfl⟩
   rw[hpe]at q5 hr he;dsimp only at q5 hr he;rw[he.1];rw[dif_pos hr]at q5;exact hn _ _ _ _ _ _ ⟨mid,b,l',rfl,rfl,rfl,q1,hr.2,h3,by omega,he.2.2.trans q4,by rw[he.2.1];exact q5⟩ (by omega)
  ·rw[if_neg (by rw[hx];decide)]at q5;have hr:=Sort.partition_holds Sort.ltInt Sort.swo_ltInt zs.toArray a b pv q2 q3 (by simp;omega);refine W.call (ajf (by omega) (by omega) q2 q3) λr he=>?_;obtain⟨⟨mid,ap,d4⟩,hpe⟩:∃x,Sort.partition Sort.ltInt zs.toArray a b pv=x:=⟨_,rfl⟩
   unfold PQ at he;rw[hpe]at q5 hr he;dsimp only at q5 hr he;obtain⟨e1,e2,e3,e4⟩:=he;obtain⟨r1,r2,_⟩:=hr;rw[dif_pos ⟨r1,r2⟩,<- e2]at q5;have q5:(if mid-a<b-mid then Sort.pdq Sort.ltInt (Sort.pdq Sort.ltInt r.2.2.toArray a mid l' true true) (mid+1) b l' (decide (mid-a>=(b-a)/8)) r.2.1 else Sort.pdq Sort.ltInt (Sort.pdq Sort.ltInt r.2.2.toArray (mid+1) b l' true true) a mid l' (decide (b-mid>=(b-a)/8)) r.2.1)=R:=by rw[e3];exact q5
   rw[e1];simp only[eF r1,eF (Nat.le_of_lt r2),W.gd,bF,bV,W.cond,decide_eq_true_eq,decide_eq_false_iff_not];rw[show(8:Int)=((8:Nat):Int)from rfl,jA _ _ (show b-a<=9223372036854775807 by omega),eC,eC];refine⟨aD (by omega),aD (by omega),λhm=>?_,λhm=>⟨aD (by omega),?_⟩⟩
   ·rw[if_pos hm]at q5;refine W.call (ih (mid-a) (by omega) a mid l' r.2.2 (Nat.le_refl _) r1 (by omega) (e4.trans q4) q1) λu hu=>?_;rw[W.gd];exact⟨aD (by omega),hn _ _ _ _ _ _ ⟨mid+1,b,l',rfl,rfl,rfl,q1,by omega,h3,by omega,hu.2,by rw[hu.1];exact q5⟩ (by omega)⟩
   ·rw[if_neg hm]at q5;refine W.call (ih (b-(mid+1)) (by omega) (mid+1) b l' r.2.2 (Nat.le_refl _) (by omega) h3 (e4.trans q4) q1) λu hu=>?_;exact hn _ _ _ _ _ _ ⟨a,mid,l',rfl,rfl,rfl,q1,r1,by omega,by omega,hu.2,by rw[hu.1];exact q5⟩ (by omega)
 have j2:∀(l' pv:Nat) (zs:List Int) (x:Bool),l'<=64->a<=pv->pv<b->zs.length=n->
  (let pi:=if x=true then Sort.partialInsertionSort Sort.ltInt zs.toArray a b else(zs.toArray,false)
   if pi.2 then pi.1 else if (decide (a>0)&&!Sort.ltInt pi.1[a-1]! pi.1[pv]!)=true then(match Sort.partitionEqual Sort.ltInt pi.1 a b pv with|(mid,d4)=>if _h:a<mid/\mid<=b then Sort.pdq Sort.ltInt d4 mid b l' wb wp else d4)else
    (match Sort.partition Sort.ltInt pi.1 a b pv with|(mid,ap,d4)=>if _h:a<=mid/\mid<b then(if mid-a<b-mid then Sort.pdq Sort.ltInt (Sort.pdq Sort.ltInt d4 a mid l' true true) (mid+1) b l' (decide (mid-a>=(b-a)/8)) ap else Sort.pdq Sort.ltInt (Sort.pdq Sort.ltInt d4 (mid+1) b l' true true) a mid l' (decide (b-mid>=(b-a)/8)) ap)else d4))=R->
  W (λp:Nat×Nat=>pM p.1 (gc p.1) a b l' wb wp ((b-a:Nat):Int) pv x zs (F p)) (λr=>r=R.toList/\r.length=n):=by
  intro l' pv zs x q1 q2 q3 q4 q5;have low:∀us:List Int,us.length=n->(if (decide (a>0)&&!Sort.ltInt us.toArray[a-1]! us.toArray[pv]!)=true then(match Sort.partitionEqual Sort.ltInt us.toArray a b pv with|(mid,d4)=>if _h:a<mid/\mid<=b then Sort.pdq Sort.ltInt d4 mid b l' wb wp else d4)else
   (match Sort.partition Sort.ltInt us.toArray a b pv with|(mid,ap,d4)=>if _h:a<=mid/\mid<b then(if mid-a<b-mid then Sort.pdq Sort.ltInt (Sort.pdq Sort.ltInt d4 a mid l' true true) (mid+1) b l' (decide (mid-a>=(b-a)/8)) ap else Sort.pdq Sort.ltInt (Sort.pdq Sort.ltInt d4 (mid+1) b l' true true) a mid l' (decide (b-mid>=(b-a)/8)) ap)else d4))=R->
   ∀f g:Nat×Nat->Option (List Int),(∀p,f p=gd (ae ((a:Int)-1)) ((ix us ((a:Int)-1)).bind λe=>(ix us ((a:Int)-1)).bind λe2=>(ix us (pv:Int)).bind λe3=>(ix us (pv:Int)).bind λe4=>(er p.1 e2 e4).bind λu=>kP p.1 (gc p.1) a b l' wb wp ((b-a:Nat):Int) pv (!u) us (F p)))->
   (∀p,g p=kP p.1 (gc p.1) a b l' wb wp ((b-a:Nat):Int) pv false us (F p))->W (λp=>bif aj 0 (a:Int)then f p else g p) (λr=>r=R.toList/\r.length=n):=by
   intro us u1 u2 f g hf hg;obtain rfl:f=_:=funext hf;obtain rfl:g=_:=funext hg;rw[W.cond];refine⟨λhx=>?_,λhx=>?_⟩
   ·have hx:=bJ.1 hx;simp only[bL (show 1<=a by omega),aD (show a-1<=9223372036854775807 by omega),ba,aS (l:=us) (i:=a-1) (by omega),aS (l:=us) (i:=pv) (by omega),Option.bind_some,fR];refine j3 l' pv us _ q1 q2 q3 u1 ?_;rw[decide_eq_true (show a>0 by omega),Bool.true_and]at u2;exact u2
   ·have hx:=dg.1 hx;refine j3 l' pv us _ q1 q2 q3 u1 ?_;rw[decide_eq_false (show ¬a>0 by omega),Bool.false_and]at u2;exact u2
  unfold pM;rw[W.cond];refine⟨λhx=>?_,λhx=>?_⟩
  ·subst hx;simp only[if_true]at q5;refine W.call (aj8 (by omega) (by omega) (by omega)) λr hr=>?_;obtain⟨e1,e2,e3⟩:=hr;rw[W.cond];refine⟨λhy=>?_,λhy=>?_⟩
   ·rw[e1]at hy;rw[if_pos hy]at q5;rw[W.ret,<- q5];exact⟨e2,e3.trans q4⟩
   ·rw[e1]at hy;rw[if_neg (by rw[hy];decide)]at q5;have e2':r.2.toArray=(Sort.partialInsertionSort Sort.ltInt zs.toArray a b).1:=by rw[e2]
    rw[<- e2']at q5;exact low r.2 (e3.trans q4) q5 _ _ (λ_=>rfl) λ_=>rfl
  ·subst hx;exact low zs q4 q5 _ _ (λ_=>rfl) λ_=>rfl
 have j1:∀(l' pv:Nat) (h:Sort.Hint) (zs:List Int),l'<=64->a<=pv->pv<b->zs.length=n->
  (let pi:=if (wb&&wp&&decide (h=.increasing))=true then Sort.partialInsertionSort Sort.ltInt zs.toArray a b else(zs.toArray,false)
   if pi.2 then pi.1 else if (decide (a>0)&&!Sort.ltInt pi.1[a-1]! pi.1[pv]!)=true then(match Sort.partitionEqual Sort.ltInt pi.1 a b pv with|(mid,d4)=>if _h:a<mid/\mid<=b then Sort.pdq Sort.ltInt d4 mid b l' wb wp else d4)else
    (match Sort.partition Sort.ltInt pi.1 a b pv with|(mid,ap,d4)=>if _h:a<=mid/\mid<b then(if mid-a<b-mid then Sort.pdq Sort.ltInt (Sort.pdq Sort.ltInt d4 a mid l' true true) (mid+1) b l' (decide (mid-a>=(b-a)/8)) ap else Sort.pdq Sort.ltInt (Sort.pdq Sort.ltInt d4 (mid+1) b l' true true) a mid l' (decide (b-mid>=(b-a)/8)) ap)else d4))=R->
  W (λp:Nat×Nat=>rY p.1 (gc p.1) a b l' wb wp ((b-a:Nat):Int) pv (jq h) zs (F p)) (λr=>r=R.toList/\r.length=n):=by
  intro l' pv h zs q1 q2 q3 q4 q5;have hh:(jq h==1)=decide (h=.increasing):=by cases h<;>rfl
  unfold rY;rw[hh];have key:=j2 l' pv zs _ q1 q2 q3 q4 q5
  revert key
  cases wb<;>cases wp<;>intro key<;>exact key
 have j0:∀(l':Nat) (zs:List Int),l'<=64->zs.length=n->vD Sort.ltInt zs.toArray a b l' wb wp=R->
  W (λp:Nat×Nat=>rX p.1 (gc p.1) a b l' wb wp ((b-a:Nat):Int) zs (F p)) (λr=>r=R.toList/\r.length=n):=by
  intro l' zs q1 q2 q3;obtain⟨m,h,e1,_⟩:=Re (N:=0) (a:=a) (b:=b) (xs:=zs) (by omega) (by omega) (by omega);have e2:∀N,rQ N a b zs=some ((m:Int),jq h,zs):=λN=>by
   obtain⟨m',h',f1,f2⟩:=Re (N:=N) (a:=a) (b:=b) (xs:=zs) (by omega) (by omega) (by omega);rw[e1]at f1;cases f1;exact f2
  have hr:=Sort.choosePivot_holds Sort.ltInt zs.toArray a b (by omega);unfold vD at q3;rw[e1]at q3 hr;dsimp only at q3 hr;unfold rX;simp only[e2,Option.bind_some];cases h with
  | decreasing=>
    simp only[if_true]at q3;rw[W.cond];refine⟨λ_=>?_,λhx=>by cases hx⟩;refine W.call (akb (by omega) (by omega) (by omega)) λr he=>?_;simp only[W.gd,bL (show 1<=b by omega),eF hr.1,eF (show m-a<=b-1 by omega)];refine⟨aD (by omega),aD (by omega),aD (by omega),?_⟩;exact j1 l' (b-1-(m-a)) .increasing r q1 (by omega) (by omega) (he.2.trans q2) (by rw[he.1];exact q3)
  | unknown=>
    rw[W.cond];refine⟨(λhx=>by cases hx),λ_=>?_⟩;exact j1 l' m .unknown zs q1 hr.1 hr.2 q2 q3
  | increasing=>
    rw[W.cond];refine⟨(λhx=>by cases hx),λ_=>?_⟩;exact j1 l' m .increasing zs q1 hr.1 hr.2 q2 q3
 rw[W.cond];cases hwb:wb with
 | false=>
   subst hwb;refine⟨λ_=>?_,λh=>by cases h⟩;refine W.call (ajY (by omega) (by omega) (by omega)) λr he=>?_;rw[W.gd,bL (show 1<=l by omega)];exact⟨aD (by omega),j0 (l-1) r (by omega) (he.2.trans h5) (by rw[he.1];exact h6)⟩
 | true=>
   subst hwb;refine⟨(λh=>by cases h),λ_=>?_⟩;exact j0 l ys h1 h5 h6
theorem aji {xs:List Int} (hs:xs.length<4294967296):W (λN=>xR N xs) (·=xs.mergeSort λx y=>decide (x<=y)):=by
 unfold xR;simp only[jC (show xs.length<18446744073709551616 by omega),uA hs,Option.bind_some];have h:=Sort.sortInt xs;unfold Sort.sort at h;have hb:=uq hs;have hx:∀N,E6 N 0 (xs.length:Int) (Sort.bitsLen xs.length:Int) xs=gc N ((0:Nat):Int) (xs.length:Int) (Sort.bitsLen xs.length:Int) xs:=λ_=>rfl
 simp only[hx];refine W.call (aj6 xs.length hs (xs.length-0) 0 xs.length (Sort.bitsLen xs.length) xs (Nat.le_refl _) (Nat.zero_le _) (Nat.le_refl _) rfl (by omega)) λr hr=>?_;rw[W.ret,hr.1,<- h];simp
instance akl:Inhabited aa:=⟨⟨0,0⟩⟩
def jV (x y:Int):Int:=if x<y then -1 else if y<x then 1 else 0
def ut (x y:aa):Int:=if jV x.To y.To≠0 then jV x.To y.To else jV x.aT y.aT
def elt (x y:aa):Bool:=decide (x.To<y.To\/x.To=y.To/\x.aT<y.aT)
theorem Ra (N:Nat) (x y:Int):xX N x y=some (jV x y)/\xS N x y=some (jV x y):=by
 unfold xX xS jV;simp only[yi,nK,bne_self_eq_false,Option.bind_some,cond_false,fS];by_cases h1:x<y
 ·simp[h1]
 ·by_cases h2:y<x
  ·simp[h1,h2]
  ·simp[h1,h2]
theorem fD (N:Nat) (x y:aa):dV N x y=some (ut x y):=by
 unfold dV;simp only[(Ra N _ _).1,(Ra N _ _).2,Option.bind_some];unfold ut;generalize jV x.To y.To=a;generalize jV x.aT y.aT=b;have:GN N [a,b]=some (if a≠0 then a else b):=by
  by_cases ha:a=0
  ·subst ha;by_cases hb:b=0
   ·subst hb;rfl
   ·show(bif (b != 0)then some b else _)=_;rw[show(b != 0)=true by simpa using hb];rfl
  ·show(bif (a != 0)then some a else _)=_;rw[show(a != 0)=true by simpa using ha,if_pos ha];rfl
 rw[this];rfl
theorem fC (x y:aa):aj (ut x y) 0=elt x y:=by
 unfold ut elt jV;rw[fS];congr 1;apply propext
 repeat' split
 all_goals omega
theorem tO {x y:aa}:elt x y=true↔(x.To<y.To\/x.To=y.To/\x.aT<y.aT):=by unfold elt;simp
theorem im {x y:aa}:elt x y=false↔¬(x.To<y.To\/x.To=y.To/\x.aT<y.aT):=by unfold elt;rw[decide_eq_false_iff_not]
theorem Ib:Sort.SWO elt where
 irrefl x:=im.2 (by omega)
 trans x y z h1 h2:=tO.2 (by have:=tO.1 h1;have:=tO.1 h2;omega)
 ntrans x y z h1 h2:=im.2 (by have:=im.1 h1;have:=im.1 h2;omega)
theorem ahx (x y:aa) (h1:elt x y=false) (h2:elt y x=false):x=y:=by
 have:=im.1 h1;have:=im.1 h2;cases x;cases y;simp only at *;congr 1<;>omega
theorem aj0 {a b:Nat} {xs:List aa} (hb:b<=xs.length) (hs:xs.length<=4611686018427387904) (ha:a<=b):W (λN=>wX N a b xs) (λr=>r=(Sort.insertionSort elt xs.toArray a b).toList/\r.length=xs.length):=by
 unfold wX;simp only[W.gd,bF];refine⟨aD (by omega),?_⟩;refine W.lp2 (λi ys=>∃i':Nat,i=(i':Int)/\a+1<=i'/\ys.length=xs.length/\Sort.insOuter elt a b i' ys.toArray=Sort.insertionSort elt xs.toArray a b) (λi ys=>b-i.toNat) ⟨a+1,rfl,Nat.le_refl _,rfl,rfl⟩ ?_;rintro F i ys ⟨i,rfl,h1,h2,h3⟩ hn;unfold En;simp only[W.cond,W.ret,bV,decide_eq_true_eq,decide_eq_false_iff_not,bF];refine⟨λhc=>?_,λhc=>?_⟩
 ·rw[Sort.insOuter,if_pos hc]at h3;refine W.lp2 (λj zs=>∃j':Nat,j=(j':Int)/\j'<=i/\zs.length=xs.length/\Sort.insOuter elt a b (i+1) (Sort.insInner elt a j' zs.toArray)=Sort.insertionSort elt xs.toArray a b) (λj _=>j.toNat) ⟨i,rfl,Nat.le_refl _,h2,h3⟩ ?_;rintro G j zs ⟨j,rfl,q1,q2,q3⟩ hm;have out:∀us:List aa,us.length=xs.length->Sort.insOuter elt a b (i+1) us.toArray=Sort.insertionSort elt xs.toArray a b->W (λp:(Nat×Nat)×Nat=>F p.1 ((i+1:Nat):Int) us) (λr=>r=(Sort.insertionSort elt xs.toArray a b).toList/\r.length=xs.length):=λus e1 e2=>
   (hn _ us ⟨i+1,rfl,by omega,e1,e2⟩ (by simp;omega)).lift
  unfold Eo;simp only[W.cond,W.ret,W.gd,bV,decide_eq_true_eq,decide_eq_false_iff_not,bF];have hi1:ae ((i+1:Nat):Int)=true:=aD (by omega);refine⟨λhj=>?_,λhj=>⟨hi1,out zs q2 ?_⟩⟩
  ·obtain⟨k,rfl⟩:∃k,j=k+1:=⟨j-1,by omega⟩
   simp only[bL (show 1<=k+1 by omega),Nat.add_sub_cancel,aS (l:=zs) (i:=k+1) (by omega),aS (l:=zs) (i:=k) (by omega),Option.bind_some,W.gd,aD (show k<=9223372036854775807 by omega),true_and,fD,fC,W.cond,Int.toNat_natCast,ixs (l:=zs) (i:=k) (by omega),cf];rw[Sort.insInner]at q3;refine⟨λhl=>?_,λhl=>⟨hi1,out zs q2 ?_⟩⟩
   ·rw[if_pos (by simp only[Bool.and_eq_true,decide_eq_true_eq];exact⟨hj,hl⟩)]at q3;exact hm _ _ ⟨k,rfl,by omega,by rw[cg];exact q2,by rw[cN];exact q3⟩ (by simp)
   ·rw[if_neg (by simp only[Bool.and_eq_true,decide_eq_true_eq];intro h;have:=h.2;simp only[gx]at hl;rw[hl]at this;cases this)]at q3;exact q3
  ·cases j with
   | zero=>rw[Sort.insInner]at q3;exact q3
   | succ k=>rw[Sort.insInner,if_neg (by simp only[Bool.and_eq_true,decide_eq_true_eq];omega)]at q3;exact q3
 ·rw[Sort.insOuter,if_neg hc]at h3;exact⟨by rw[<- h3],h2⟩
theorem QG {lo hi fi:Nat} {xs:List aa} (hb:fi+hi<=xs.length) (hs:xs.length<=1152921504606846976) (hl:lo<=xs.length):W (λN=>rU N lo hi fi xs) (λr=>r=(Sort.siftDown elt hi fi lo xs.toArray).toList/\r.length=xs.length):=by
 unfold rU;refine W.lp2 (λi ys=>∃r:Nat,i=(r:Int)/\r<=xs.length/\ys.length=xs.length/\Sort.siftDown elt hi fi r ys.toArray=Sort.siftDown elt hi fi lo xs.toArray) (λi ys=>hi-i.toNat) ⟨lo,rfl,hl,rfl,rfl⟩ ?_;rintro F i ys ⟨r,rfl,h1,h2,h3⟩ hn;unfold ET;simp only[W.gd,W.cond,W.ret,Kh,bF,eC,bV,gC,decide_eq_true_eq,decide_eq_false_iff_not];refine⟨aD (by omega),aD (by omega),λhc=>?_,λhc=>⟨aD (by omega),?_⟩⟩
 ·rw[Sort.siftDown,dif_pos hc]at h3;exact⟨by rw[<- h3],h2⟩
 rw[Sort.siftDown,dif_neg hc]at h3;have go:∀c:Nat,r<c->c<hi->Sort.siftDown elt hi fi c (Sort.swp ys.toArray (fi+r) (fi+c))=Sort.siftDown elt hi fi lo xs.toArray->W (λp=>F p ((c:Nat):Int) (sw ys (fi+r) (fi+c))) (λr=>r=(Sort.siftDown elt hi fi lo xs.toArray).toList/\r.length=xs.length):=λc q1 q2 q3=>
  hn _ _ ⟨c,rfl,by omega,by rw[cg];exact h2,by rw[cN];exact q3⟩ (by simp;omega)
 refine⟨λhd=>?_,λhd=>?_⟩
 rotate_left
 ·rw[if_neg (by simp only[Bool.and_eq_true,decide_eq_true_eq];omega)]at h3;simp only[aS (l:=ys) (i:=fi+r) (by omega),aS (l:=ys) (i:=fi+(2*r+1)) (by omega),Option.bind_some,W.gd,aD (show fi+r<=9223372036854775807 by omega),aD (show fi+(2*r+1)<=9223372036854775807 by omega),true_and,fD,fC,W.cond,W.ret,Int.toNat_natCast,ixs (l:=ys) (i:=fi+(2*r+1)) (by omega),cf,eV,o7];refine⟨λhx=>?_,λhx=>?_⟩
  ·rw[if_pos (by simp only[eV];exact hx)]at h3;exact⟨by rw[<- h3],h2⟩
  ·rw[if_neg (by simp only[eV];intro h;exact absurd (hx.symm.trans h) (by decide))]at h3;exact go _ (by omega) (by omega) h3
 simp only[aS (l:=ys) (i:=fi+(2*r+1)) (by omega),aS (l:=ys) (i:=fi+(2*r+1)+1) (by omega),Option.bind_some,W.gd,aD (show fi+(2*r+1)<=9223372036854775807 by omega),aD (show fi+(2*r+1)+1<=9223372036854775807 by omega),true_and,fD,fC,W.cond];refine⟨λhy=>?_,λhy=>?_⟩
 ·rw[if_pos (by simp only[Bool.and_eq_true,decide_eq_true_eq];exact⟨hd,hy⟩)]at h3;simp only[aS (l:=ys) (i:=fi+r) (by omega),aS (l:=ys) (i:=fi+(2*r+1+1)) (by omega),Option.bind_some,W.gd,aD (show fi+r<=9223372036854775807 by omega),aD (show 2*r+1+1<=9223372036854775807 by omega),aD (show fi+(2*r+1+1)<=9223372036854775807 by omega),true_and,fD,fC,W.cond,W.ret,Int.toNat_natCast,ixs (l:=ys) (i:=fi+(2*r+1+1)) (by omega),cf,eV,o7];refine⟨λhx=>?_,λhx=>?_⟩
  ·rw[if_pos (by simp only[eV];exact hx)]at h3;exact⟨by rw[<- h3],h2⟩
  ·rw[if_neg (by simp only[eV];intro h;exact absurd (hx.symm.trans h) (by decide)),dif_pos hd]at h3;exact go _ (by omega) (by omega) h3
 ·rw[if_neg (by simp only[Bool.and_eq_true,decide_eq_true_eq];intro h;exact absurd (hy.symm.trans h.2) (by decide))]at h3;simp only[aS (l:=ys) (i:=fi+r) (by omega),aS (l:=ys) (i:=fi+(2*r+1)) (by omega),Option.bind_some,W.gd,aD (show fi+r<=9223372036854775807 by omega),aD (show fi+(2*r+1)<=9223372036854775807 by omega),true_and,fD,fC,W.cond,W.ret,Int.toNat_natCast,ixs (l:=ys) (i:=fi+(2*r+1)) (by omega),cf,eV,o7];refine⟨λhx=>?_,λhx=>?_⟩
  ·rw[if_pos (by simp only[eV];exact hx)]at h3;exact⟨by rw[<- h3],h2⟩
  ·rw[if_neg (by simp only[eV];intro h;exact absurd (hx.symm.trans h) (by decide))]at h3;exact go _ (by omega) (by omega) h3
theorem aiK {a b:Nat} {xs:List aa} (hb:b<=xs.length) (hs:xs.length<=1152921504606846976) (ha:a<b):W (λN=>wR N a b xs) (λr=>r=(Sort.heapSort elt xs.toArray a b).toList/\r.length=xs.length):=by
 unfold wR;simp only[W.gd,eF (Nat.le_of_lt ha),bL (show 1<=b-a by omega)];refine⟨aD (by omega),aD (by omega),?_⟩;rw[show(2:Int)=((2:Nat):Int)from rfl,jA _ _ (show b-a-1<=9223372036854775807 by omega)];refine W.lp2 (λi ys=>∃k:Nat,i=(k:Int)-1/\k<=(b-a-1)/2+1/\ys.length=xs.length/\Sort.heapPop elt a (b-a) (Sort.heapBuild elt (b-a) a k ys.toArray)=Sort.heapSort elt xs.toArray a b) (λi ys=>(i+1).toNat) ⟨(b-a-1)/2+1,by omega,Nat.le_refl _,rfl,rfl⟩ ?_;rintro F i ys ⟨k,rfl,h1,h2,h3⟩ hn;unfold EQ;simp only[W.cond,W.gd,bL (show 1<=b-a by omega)];refine⟨λhc=>?_,λhc=>⟨aD (by omega),?_⟩⟩
 ·have hc:=a8.1 hc;obtain⟨k,rfl⟩:∃j,k=j+1:=⟨k-1,by omega⟩
  rw[show((k+1:Nat):Int)-1=(k:Int) by omega];refine W.call (QG (by omega) (by omega) (by omega)) λr hr=>?_;rw[W.gd];refine⟨bA.2 (by omega),hn _ _ ⟨k,rfl,by omega,?_,?_⟩ (by omega)⟩
  ·rw[hr.2];exact h2
  ·rw[Sort.heapBuild]at h3;rw[hr.1];exact h3
 ·have hc:=dz.1 hc;obtain rfl:k=0:=by omega
  rw[Sort.heapBuild]at h3;refine W.lp2 (λi zs=>∃k:Nat,i=(k:Int)-1/\k<=b-a/\zs.length=xs.length/\Sort.heapPop elt a k zs.toArray=Sort.heapSort elt xs.toArray a b) (λi _=>(i+1).toNat) ⟨b-a,by omega,Nat.le_refl _,h2,h3⟩ ?_;rintro G i zs ⟨k,rfl,q1,q2,q3⟩ hm;unfold ER;simp only[W.cond,W.gd,W.ret];refine⟨λhc=>?_,λhc=>?_⟩
  ·have hc:=a8.1 hc;obtain⟨k,rfl⟩:∃j,k=j+1:=⟨k-1,by omega⟩
   rw[show((k+1:Nat):Int)-1=(k:Int) by omega];simp only[gC,aD (show a+k<=9223372036854775807 by omega),true_and,aS (l:=zs) (i:=a+k) (by omega),aS (l:=zs) (i:=a) (by omega),Option.bind_some,Int.toNat_natCast,ixs (l:=zs) (i:=a+k) (by omega),cf];refine W.call (QG (lo:=0) (hi:=k) (fi:=a) (xs:=sw zs a (a+k)) (by rw[cg];omega) (by rw[cg];omega) (by omega)) λr hr=>?_;rw[W.gd];refine⟨bA.2 (by omega),hm _ _ ⟨k,rfl,by omega,?_,?_⟩ (by omega)⟩
   ·rw[hr.2,cg];exact q2
   ·rw[Sort.heapPop]at q3;rw[hr.1,cN];exact q3
  ·have hc:=dz.1 hc;obtain rfl:k=0:=by omega
   rw[Sort.heapPop]at q3;exact⟨by rw[<- q3],q2⟩
theorem aj9 {a b:Nat} {xs:List aa} (hb:b<=xs.length) (hs:xs.length<=1152921504606846976) (ha:a<b):W (λN=>xd N a b xs) (λr=>r=(Sort.reverseRange xs.toArray a b).toList/\r.length=xs.length):=by
 unfold xd;simp only[W.gd,bL (show 1<=b by omega)];refine⟨aD (by omega),?_⟩;refine W.ce (λi j ys=>∃k l:Nat,i=(k:Int)/\j=(l:Int)/\l<xs.length/\ys.length=xs.length/\Sort.reverseLoop k l ys.toArray=Sort.reverseRange xs.toArray a b) (λi j ys=>(j-i).toNat) ⟨a,b-1,rfl,rfl,by omega,rfl,rfl⟩ ?_;rintro F i j ys ⟨k,l,rfl,rfl,h1,h2,h3⟩ hn;unfold Ez;simp only[W.cond,W.ret,bV,decide_eq_true_eq,decide_eq_false_iff_not];refine⟨λhc=>?_,λhc=>?_⟩
 ·rw[Sort.reverseLoop,if_pos hc]at h3;simp only[aS (l:=ys) (i:=l) (by omega),aS (l:=ys) (i:=k) (by omega),Option.bind_some,W.gd,Int.toNat_natCast,ixs (l:=ys) (i:=l) (by omega),cf,bF,bL (show 1<=l by omega),aD (show k+1<=9223372036854775807 by omega),aD (show l-1<=9223372036854775807 by omega),true_and];exact hn _ _ _ ⟨k+1,l-1,rfl,rfl,by omega,by rw[cg];exact h2,by rw[cN];exact h3⟩ (by omega)
 ·rw[Sort.reverseLoop,if_neg hc]at h3;exact⟨by rw[<- h3],h2⟩
theorem HU {N a b y:Nat} {xs:List aa} (ha:a<xs.length) (hb:b<xs.length) (hy:y<=100):∃a' b' y':Nat,Sort.order2 elt xs.toArray a b y=(a',b',y')/\pN N a b y xs=some ((a':Int),(b':Int),(y':Int),xs)/\(a'=a/\b'=b\/a'=b/\b'=a)/\y'<=y+1:=by
 unfold pN Sort.order2;simp only[aS ha,aS hb,Option.bind_some,fD,fC];cases h:elt (gx xs b) (gx xs a)with
 | true=>
   simp only[gx]at h;rw[if_pos h];exact⟨b,a,y+1,rfl,by simp only[cond_true,bF,aD (show y+1<=9223372036854775807 by omega),ba],.inr ⟨rfl,rfl⟩,Nat.le_refl _⟩
 | false=>
   simp only[gx]at h;rw[if_neg (by rw[h];decide)];exact⟨a,b,y,rfl,rfl,.inl ⟨rfl,rfl⟩,by omega⟩
theorem Iv {N a b c y:Nat} {xs:List aa} (ha:a<xs.length) (hb:b<xs.length) (hc:c<xs.length) (hy:y<=50):∃m y':Nat,Sort.median elt xs.toArray a b c y=(m,y')/\om N a b c y xs=some ((m:Int),(y':Int),xs)/\(m=a\/m=b\/m=c)/\y'<=y+3:=by
 obtain⟨a1,b1,y1,p1,q1,r1,s1⟩:=HU (N:=N) ha hb (show y<=100 by omega);obtain⟨b2,c2,y2,p2,q2,r2,s2⟩:=HU (N:=N) (a:=b1) (b:=c) (xs:=xs) (y:=y1) (by omega) hc (by omega);obtain⟨a3,b3,y3,p3,q3,r3,s3⟩:=HU (N:=N) (a:=a1) (b:=b2) (xs:=xs) (y:=y2) (by omega) (by omega) (by omega);refine⟨b3,y3,?_,?_,by omega,by omega⟩
 ·unfold Sort.median;simp only[p1,p2,p3]
 ·unfold om;simp only[q1,q2,q3,Option.bind_some]
theorem It {N a y:Nat} {xs:List aa} (h1:1<=a) (ha:a+1<xs.length) (hs:xs.length<=1152921504606846976) (hy:y<=50):∃m y':Nat,Sort.medianAdjacent elt xs.toArray a y=(m,y')/\n9 N a y xs=some ((m:Int),(y':Int),xs)/\m<xs.length/\y'<=y+3:=by
 obtain⟨m,y',p,q,r,s⟩:=Iv (N:=N) (a:=a-1) (b:=a) (c:=a+1) (xs:=xs) (by omega) (by omega) ha hy;refine⟨m,y',p,?_,by omega,s⟩;unfold n9;simp only[bL h1,bF,aD (show a-1<=9223372036854775807 by omega),aD (show a+1<=9223372036854775807 by omega),ba,q,Option.bind_some]
theorem Rb {N a b:Nat} {xs:List aa} (hb:b<=xs.length) (hs:xs.length<=1152921504606846976) (ha:a<b):∃(m:Nat) (h:Sort.Hint),Sort.choosePivot elt xs.toArray a b=(m,h)/\sU N a b xs=some ((m:Int),jq h,xs):=by
 have fin:∀(m y:Nat),(bif ((y:Int)==0)then some ((m:Int),(1:Int),xs)else bif ((y:Int)==12)then some ((m:Int),(2:Int),xs)else some ((m:Int),(0:Int),xs))=some ((m:Int),jq (if y=0 then Sort.Hint.increasing else if y=12 then .decreasing else .unknown),xs):=by
  intro m y;by_cases h0:y=0
  ·subst h0;rfl
  ·by_cases h1:y=12
   ·subst h1;rfl
   ·rw[if_neg h0,if_neg h1,show((y:Int)==0)=false by simpa using h0,show((y:Int)==12)=false by rw[beq_eq_false_iff_ne];omega];rfl
 unfold sU Sort.choosePivot;simp only[eF (Nat.le_of_lt ha),show(4:Int)=((4:Nat):Int)from rfl,jA _ _ (show b-a<=9223372036854775807 by omega)];simp only[show(1:Int)=((1:Nat):Int)from rfl,show(2:Int)=((2:Nat):Int)from rfl,show(3:Int)=((3:Nat):Int)from rfl,show(8:Int)=((8:Nat):Int)from rfl,show(50:Int)=((50:Nat):Int)from rfl,Ki,gC,eC,aD (show b-a<=9223372036854775807 by omega),aD (show(b-a)/4*1<=9223372036854775807 by omega),aD (show(b-a)/4*2<=9223372036854775807 by omega),aD (show(b-a)/4*3<=9223372036854775807 by omega),
  aD (show a+(b-a)/4*1<=9223372036854775807 by omega),aD (show a+(b-a)/4*2<=9223372036854775807 by omega),aD (show a+(b-a)/4*3<=9223372036854775807 by omega),ba]
 by_cases h8:8<=b-a
 ·simp only[h8,decide_true,cond_true,ge_iff_le,if_true];by_cases h50:50<=b-a
  ·simp only[h50,decide_true,cond_true,if_true];obtain⟨i,y1,p1,q1,r1,s1⟩:=It (N:=N) (a:=a+(b-a)/4*1) (xs:=xs) (y:=0) (by omega) (by omega) hs (by omega);obtain⟨j,y2,p2,q2,r2,s2⟩:=It (N:=N) (a:=a+(b-a)/4*2) (xs:=xs) (y:=y1) (by omega) (by omega) hs (by omega);obtain⟨k,y3,p3,q3,r3,s3⟩:=It (N:=N) (a:=a+(b-a)/4*3) (xs:=xs) (y:=y2) (by omega) (by omega) hs (by omega);obtain⟨m,y4,p4,q4,r4,s4⟩:=Iv (N:=N) (a:=i) (b:=j) (c:=k) (xs:=xs) (y:=y3) r1 r2 r3 (by omega);have q1:n9 N ((a+(b-a)/4*1:Nat):Int) 0 xs=some ((i:Int),(y1:Int),xs):=q1;simp only[p1,p2,p3,p4,q1,q2,q3,q4,Option.bind_some];exact⟨m,_,rfl,fin m y4⟩
  ·simp only[h50,decide_false,cond_false,if_false];obtain⟨m,y4,p4,q4,r4,s4⟩:=Iv (N:=N) (a:=a+(b-a)/4*1) (b:=a+(b-a)/4*2) (c:=a+(b-a)/4*3) (xs:=xs) (y:=0) (by omega) (by omega) (by omega) (by omega);have q4:om N ((a+(b-a)/4*1:Nat):Int) ((a+(b-a)/4*2:Nat):Int) ((a+(b-a)/4*3:Nat):Int) 0 xs=some ((m:Int),(y4:Int),xs):=q4;simp only[p4,q4,Option.bind_some];exact⟨m,_,rfl,fin m y4⟩
 ·simp only[h8,decide_false,cond_false,ge_iff_le,if_false];exact⟨_,_,rfl,rfl⟩
theorem Xi {ι:Type} [bm ι] {N:ι->Nat} [cD N] {a b n i0 j0:Nat} {ys:List aa} {Q:Int×Bool×List aa->Prop} (hb:b<=n) (hab:a<b) (hs:n<=1152921504606846976) (h1:a<i0) (h2:i0<=j0+2) (h3:j0<b) (hl:ys.length=n)
 (hQ:∀(m:Nat) (zs:List aa),Sort.partLoop elt a i0 j0 ys.toArray=(m,zs.toArray)->zs.length=n->Q ((m:Int),false,sw zs m a)):W (λi=>ce (sW (N i) a) (N i) i0 j0 ys) Q:=by
 refine W.ce (λi j zs=>∃k l:Nat,i=(k:Int)/\j=(l:Int)/\a<k/\k<=l+2/\l<b/\zs.length=n/\Sort.partLoop elt a k l zs.toArray=Sort.partLoop elt a i0 j0 ys.toArray) (λi j _=>(j+1-i).toNat) ⟨i0,j0,rfl,rfl,h1,h2,h3,hl,rfl⟩ ?_;rintro F i j zs ⟨i,j,rfl,rfl,p1,p2,p3,p4,p5⟩ hn;rw[Sort.partLoop_eq]at p5;obtain⟨I,hI⟩:∃I,I=Sort.scanUp (λx=>elt x (gx zs a)) zs.toArray j i:=⟨_,rfl⟩
 obtain⟨J,hJ⟩:∃J,J=Sort.scanDown (λx=>!elt x (gx zs a)) zs.toArray I j:=⟨_,rfl⟩
 have p5:(if I>J then(J,zs.toArray)else Sort.partLoop elt a (I+1) (J-1) (Sort.swp zs.toArray I J))=Sort.partLoop elt a i0 j0 ys.toArray:=by
  rw[<- p5,hJ,hI];rfl
 unfold sW;refine W.bj (λx=>∃k:Nat,x=(k:Int)/\i<=k/\k<=j+2/\Sort.scanUp (λx=>elt x (gx zs a)) zs.toArray j k=I) (λx=>(j+1-x).toNat) ⟨i,rfl,Nat.le_refl _,p2,hI.symm⟩ ?_;rintro G x ⟨k,rfl,q1,q2,q3⟩ hm;have down:k=I->W (λp:(ι×Nat)×Nat=>bj (sX (N p.1.1) a k zs (F p.1)) (N p.1.1) j) Q:=by
  rintro rfl;refine W.bj (λx=>∃l:Nat,x=(l:Int)/\k<=l+2/\l<=j/\Sort.scanDown (λx=>!elt x (gx zs a)) zs.toArray k l=J) (λx=>x.toNat) ⟨j,rfl,by omega,Nat.le_refl _,hJ.symm⟩ ?_;rintro H x ⟨l,rfl,r1,r2,r3⟩ ho;rw[qa (by omega)]at r3;unfold sX;simp only[aS (l:=zs) (i:=l) (by omega),aS (l:=zs) (i:=a) (by omega),Option.bind_some,fD,fC,eC,bV,Int.toNat_natCast,ixs (l:=zs) (i:=a) (by omega),ixs (l:=zs) (i:=l) (by omega),cf];refine W.oE (λc1 c2=>?_) λc=>?_
  ·have c1:=of_decide_eq_true c1;rw[if_pos (by rw[Bool.and_eq_true];exact⟨decide_eq_true c1,c2⟩)]at r3;rw[W.gd,bL (show 1<=l by omega)];exact⟨aD (by omega),ho _ ⟨l-1,rfl,by omega,by omega,r3⟩ (by omega)⟩
  ·rw[if_neg (qe c)]at r3;subst r3;simp only[W.cond,decide_eq_true_eq,decide_eq_false_iff_not];refine⟨λhc=>?_,λhc=>?_⟩
   ·rw[W.ret];rw[if_pos hc]at p5;exact hQ _ _ p5.symm p4
   ·rw[if_neg hc,<- cN]at p5;simp only[aS (l:=zs) (i:=k) (by omega),ixs (l:=zs) (i:=l) (by omega),Option.bind_some,W.gd,bF,bL (show 1<=l by omega),aD (show k+1<=9223372036854775807 by omega),aD (show l-1<=9223372036854775807 by omega),true_and,cf];exact(hn _ _ _ ⟨k+1,l-1,rfl,rfl,by omega,by omega,by omega,by rw[cg];exact p4,p5⟩ (by omega)).lift.lift
 unfold EM;simp only[W.cond,eC,decide_eq_true_eq,decide_eq_false_iff_not];rw[qb]at q3;refine⟨λhc=>?_,λhc=>?_⟩
 ·simp only[aS (l:=zs) (i:=k) (by omega),aS (l:=zs) (i:=a) (by omega),Option.bind_some,fD,fC,W.cond,W.gd,bF];refine⟨λhl=>⟨aD (by omega),hm _ ⟨k+1,rfl,by omega,by omega,?_⟩ (by omega)⟩,λhl=>down ?_⟩
  ·rw[if_pos (by simp only[Bool.and_eq_true,decide_eq_true_eq];exact⟨hc,hl⟩)]at q3;exact q3
  ·rw[if_neg (by simp only[Bool.and_eq_true,decide_eq_true_eq];intro h;exact absurd (hl.symm.trans h.2) (by decide))]at q3;exact q3
 ·rw[if_neg (by simp only[Bool.and_eq_true,decide_eq_true_eq];intro h;exact hc h.1)]at q3;exact down q3
def A0 (xs:List aa) (a b pv:Nat) (r:Int×Bool×List aa):Prop:=r.1=((Sort.partition elt xs.toArray a b pv).1:Int)/\r.2.1=(Sort.partition elt xs.toArray a b pv).2.1/\r.2.2=(Sort.partition elt xs.toArray a b pv).2.2.toList/\r.2.2.length=xs.length
theorem aje {a b pv:Nat} {xs:List aa} (hb:b<=xs.length) (hs:xs.length<=1152921504606846976) (ha:a<=pv) (hpv:pv<b):W (λN=>wL N a b pv xs) (A0 xs a b pv):=by
 obtain⟨ds,hds⟩:∃ds:List aa,ds=sw xs a pv:=⟨_,rfl⟩
 have hdl:ds.length=xs.length:=by rw[hds,cg]
 obtain⟨I,hI⟩:∃I,I=Sort.scanUp (λx=>elt x (gx ds a)) ds.toArray (b-1) (a+1):=⟨_,rfl⟩
 obtain⟨J,hJ⟩:∃J,J=Sort.scanDown (λx=>!elt x (gx ds a)) ds.toArray I (b-1):=⟨_,rfl⟩
 have hp:Sort.partition elt xs.toArray a b pv=if I>J then(J,true,Sort.swp ds.toArray J a)else((Sort.partLoop elt a (I+1) (J-1) (Sort.swp ds.toArray I J)).1,false,Sort.swp (Sort.partLoop elt a (I+1) (J-1) (Sort.swp ds.toArray I J)).2 (Sort.partLoop elt a (I+1) (J-1) (Sort.swp ds.toArray I J)).1 a):=by
  unfold Sort.partition;simp only[<- cN,<- hds];simp only[gx]at hI hJ;rw[<- hI,<- hJ]
 unfold wL;simp only[aS (l:=xs) (i:=pv) (by omega),aS (l:=xs) (i:=a) (by omega),Option.bind_some,Int.toNat_natCast,ixs (l:=xs) (i:=pv) (by omega),cf,<- hds,W.gd,bF,bL (show 1<=b by omega)];refine⟨aD (by omega),aD (by omega),?_⟩;refine W.bj (λi=>∃k:Nat,i=(k:Int)/\a+1<=k/\k<=b/\Sort.scanUp (λx=>elt x (gx ds a)) ds.toArray (b-1) k=I) (λi=>(b-i).toNat) ⟨a+1,rfl,Nat.le_refl _,by omega,hI.symm⟩ ?_;rintro F i ⟨k,rfl,h1,h2,h3⟩ hn;have down:k=I->W (λp:Nat×Nat=>bj (sV p.1 (a:Int) (k:Int) ds) p.1 ((b-1:Nat):Int)) (A0 xs a b pv):=by
  rintro rfl;refine W.bj (λj=>∃l:Nat,j=(l:Int)/\k<=l+1/\l<b/\Sort.scanDown (λx=>!elt x (gx ds a)) ds.toArray k l=J) (λj=>j.toNat) ⟨b-1,rfl,by omega,by omega,hJ.symm⟩ ?_;rintro G j ⟨l,rfl,q1,q2,q3⟩ hm;rw[qa (by omega)]at q3;unfold sV;simp only[aS (l:=ds) (i:=l) (by omega),aS (l:=ds) (i:=a) (by omega),Option.bind_some,fD,fC,eC,bV,Int.toNat_natCast,ixs (l:=ds) (i:=a) (by omega),ixs (l:=ds) (i:=l) (by omega),cf];refine W.oE (λc1 c2=>?_) λc=>?_
  ·have c1:=of_decide_eq_true c1;rw[if_pos (by rw[Bool.and_eq_true];exact⟨decide_eq_true c1,c2⟩)]at q3;rw[W.gd,bL (show 1<=l by omega)];exact⟨aD (by omega),hm _ ⟨l-1,rfl,by omega,by omega,q3⟩ (by omega)⟩
  ·rw[if_neg (qe c)]at q3;subst q3;simp only[W.cond,decide_eq_true_eq,decide_eq_false_iff_not];refine⟨λhc=>?_,λhc=>?_⟩
   ·rw[W.ret];rw[if_pos hc]at hp;refine⟨by rw[hp],by rw[hp],?_,by rw[cg,hdl]⟩;rw[hp,<- cN]
   ·rw[if_neg hc]at hp;simp only[aS (l:=ds) (i:=k) (by omega),ixs (l:=ds) (i:=l) (by omega),Option.bind_some,W.gd,bF,bL (show 1<=l by omega),aD (show k+1<=9223372036854775807 by omega),aD (show l-1<=9223372036854775807 by omega),true_and,cf];refine Xi (b:=b) (n:=xs.length) hb (by omega) hs (by omega) (by omega) (by omega) (by rw[cg];exact hdl) λm zs e1 e2=>?_;rw[<- cN,e1]at hp;refine⟨by rw[hp],by rw[hp],?_,by rw[cg];exact e2⟩;rw[hp,<- cN]
 unfold EL;simp only[W.cond,eC,decide_eq_true_eq,decide_eq_false_iff_not];rw[qb]at h3;refine⟨λhc=>?_,λhc=>?_⟩
 ·simp only[aS (l:=ds) (i:=k) (by omega),aS (l:=ds) (i:=a) (by omega),Option.bind_some,fD,fC,W.cond,W.gd,bF];refine⟨λhl=>⟨aD (by omega),hn _ ⟨k+1,rfl,by omega,by omega,?_⟩ (by omega)⟩,λhl=>down ?_⟩
  ·rw[if_pos (by simp only[Bool.and_eq_true,decide_eq_true_eq];exact⟨hc,hl⟩)]at h3;exact h3
  ·rw[if_neg (by simp only[Bool.and_eq_true,decide_eq_true_eq];intro h;exact absurd (hl.symm.trans h.2) (by decide))]at h3;exact h3
 ·rw[if_neg (by simp only[Bool.and_eq_true,decide_eq_true_eq];intro h;exact hc h.1)]at h3;exact down h3
theorem Xg {ι:Type} [bm ι] {N:ι->Nat} [cD N] {a b n i0 j0:Nat} {ys:List aa} {Q:Int×List aa->Prop} (hb:b<=n) (hab:a<b) (hs:n<=1152921504606846976) (h1:a<i0) (h2:i0<=j0+2) (h3:j0<b) (hl:ys.length=n)
 (hQ:∀(m:Nat) (zs:List aa),Sort.partEqLoop elt a i0 j0 ys.toArray=(m,zs.toArray)->zs.length=n->Q ((m:Int),zs)):W (λi=>ce (wD (N i) a) (N i) i0 j0 ys) Q:=by
 refine W.ce (λi j zs=>∃k l:Nat,i=(k:Int)/\j=(l:Int)/\a<k/\k<=l+2/\l<b/\zs.length=n/\Sort.partEqLoop elt a k l zs.toArray=Sort.partEqLoop elt a i0 j0 ys.toArray) (λi j _=>(j+1-i).toNat) ⟨i0,j0,rfl,rfl,h1,h2,h3,hl,rfl⟩ ?_;rintro F i j zs ⟨i,j,rfl,rfl,p1,p2,p3,p4,p5⟩ hn;rw[Sort.partEqLoop_eq]at p5;obtain⟨I,hI⟩:∃I,I=Sort.scanUp (λx=>!elt (gx zs a) x) zs.toArray j i:=⟨_,rfl⟩
 obtain⟨J,hJ⟩:∃J,J=Sort.scanDown (λx=>elt (gx zs a) x) zs.toArray I j:=⟨_,rfl⟩
 have p5:(if I>J then(I,zs.toArray)else Sort.partEqLoop elt a (I+1) (J-1) (Sort.swp zs.toArray I J))=Sort.partEqLoop elt a i0 j0 ys.toArray:=by
  rw[<- p5,hJ,hI];rfl
 unfold wD;refine W.bj (λx=>∃k:Nat,x=(k:Int)/\i<=k/\k<=j+2/\Sort.scanUp (λx=>!elt (gx zs a) x) zs.toArray j k=I) (λx=>(j+1-x).toNat) ⟨i,rfl,Nat.le_refl _,p2,hI.symm⟩ ?_;rintro G x ⟨k,rfl,q1,q2,q3⟩ hm;have down:k=I->W (λp:(ι×Nat)×Nat=>bj (sQ (N p.1.1) a k zs (F p.1)) (N p.1.1) j) Q:=by
  rintro rfl;refine W.bj (λx=>∃l:Nat,x=(l:Int)/\k<=l+2/\l<=j/\Sort.scanDown (λx=>elt (gx zs a) x) zs.toArray k l=J) (λx=>x.toNat) ⟨j,rfl,by omega,Nat.le_refl _,hJ.symm⟩ ?_;rintro H x ⟨l,rfl,r1,r2,r3⟩ ho;rw[qa (by omega)]at r3;unfold sQ;simp only[aS (l:=zs) (i:=l) (by omega),aS (l:=zs) (i:=a) (by omega),Option.bind_some,fD,fC,eC,bV,Int.toNat_natCast,ixs (l:=zs) (i:=a) (by omega),ixs (l:=zs) (i:=l) (by omega),cf];refine W.oE (λc1 c2=>?_) λc=>?_
  ·have c1:=of_decide_eq_true c1;rw[if_pos (by rw[Bool.and_eq_true];exact⟨decide_eq_true c1,c2⟩)]at r3;rw[W.gd,bL (show 1<=l by omega)];exact⟨aD (by omega),ho _ ⟨l-1,rfl,by omega,by omega,r3⟩ (by omega)⟩
  ·rw[if_neg (qe c)]at r3;subst r3;simp only[W.cond,decide_eq_true_eq,decide_eq_false_iff_not];refine⟨λhc=>?_,λhc=>?_⟩
   ·rw[W.ret];rw[if_pos hc]at p5;exact hQ _ _ p5.symm p4
   ·rw[if_neg hc,<- cN]at p5;simp only[aS (l:=zs) (i:=k) (by omega),ixs (l:=zs) (i:=l) (by omega),Option.bind_some,W.gd,bF,bL (show 1<=l by omega),aD (show k+1<=9223372036854775807 by omega),aD (show l-1<=9223372036854775807 by omega),true_and,cf];exact(hn _ _ _ ⟨k+1,l-1,rfl,rfl,by omega,by omega,by omega,by rw[cg];exact p4,p5⟩ (by omega)).lift.lift
 unfold Ei;simp only[W.cond,eC,decide_eq_true_eq,decide_eq_false_iff_not];rw[qb]at q3;refine⟨λhc=>?_,λhc=>?_⟩
 ·simp only[aS (l:=zs) (i:=k) (by omega),aS (l:=zs) (i:=a) (by omega),Option.bind_some,fD,fC,W.cond,W.gd,bF];refine⟨λhl=>⟨aD (by omega),hm _ ⟨k+1,rfl,by omega,by omega,?_⟩ (by omega)⟩,λhl=>down ?_⟩
  ·rw[if_pos (by simp only[Bool.and_eq_true,decide_eq_true_eq];exact⟨hc,hl⟩)]at q3;exact q3
  ·rw[if_neg (by simp only[Bool.and_eq_true,decide_eq_true_eq];intro h;exact absurd (hl.symm.trans h.2) (by decide))]at q3;exact q3
 ·rw[if_neg (by simp only[Bool.and_eq_true,decide_eq_true_eq];intro h;exact hc h.1)]at q3;exact down q3
theorem Xk {a b pv:Nat} {xs:List aa} (hb:b<=xs.length) (hs:xs.length<=1152921504606846976) (ha:a<=pv) (hpv:pv<b):W (λN=>wT N a b pv xs) (λr=>r.1=((Sort.partitionEqual elt xs.toArray a b pv).1:Int)/\r.2=(Sort.partitionEqual elt xs.toArray a b pv).2.toList/\r.2.length=xs.length):=by
 unfold wT;simp only[aS (l:=xs) (i:=pv) (by omega),aS (l:=xs) (i:=a) (by omega),Option.bind_some,Int.toNat_natCast,ixs (l:=xs) (i:=pv) (by omega),cf,W.gd,bF,bL (show 1<=b by omega)];refine⟨aD (by omega),aD (by omega),?_⟩;refine Xg (b:=b) (n:=xs.length) hb (by omega) hs (by omega) (by omega) (by omega) (by rw[cg]) λm zs e1 e2=>?_;unfold Sort.partitionEqual;rw[<- cN,e1];exact⟨rfl,rfl,e2⟩
theorem Xn {ι:Type} [bm ι] {N:ι->Nat} [cD N] {b n i2 j0:Nat} {j:Int} {F:ι->Int->Int->List aa->Option (Bool×List aa)} {ys:List aa} {Q:Bool×List aa->Prop} (hb:b<=n) (hs:n<=1152921504606846976) (h1:1<=j0) (hl:ys.length=n)
 (hF:∀zs:List aa,zs.length=n->zs.toArray=Sort.shiftUp elt b j0 ys.toArray->W (λi=>gd (ae (j+1)) (F i i2 (j+1) zs)) Q):W (λi=>lp2 (kE (N i) b i2 j (F i)) (N i) j0 ys) Q:=by
 refine W.lp2 (λx zs=>∃k:Nat,x=(k:Int)/\1<=k/\zs.length=n/\Sort.shiftUp elt b k zs.toArray=Sort.shiftUp elt b j0 ys.toArray) (λx _=>(b-x).toNat) ⟨j0,rfl,h1,hl,rfl⟩ ?_;rintro G x zs ⟨k,rfl,p1,p2,p3⟩ hn;rw[Sort.shiftUp]at p3;unfold kE;rw[W.cond,bV];refine⟨λhc=>?_,λhc=>?_⟩
 ·have hc:=of_decide_eq_true hc;rw[if_pos hc]at p3;simp only[bL p1,aS (l:=zs) (i:=k) (by omega),aS (l:=zs) (i:=k-1) (by omega),Option.bind_some,fD,fC,aD (show k-1<=9223372036854775807 by omega),ba,Int.toNat_natCast,ixs (l:=zs) (i:=k-1) (by omega),cf];rw[W.cond];refine⟨λhl=>?_,λhl=>?_⟩
  ·simp only[gx]at hl;rw[if_pos hl]at p3;exact(hF zs p2 p3).lift
  ·simp only[gx]at hl;rw[if_neg (by rw[hl];decide)]at p3;rw[W.gd,bF];exact⟨aD (by omega),hn _ _ ⟨k+1,rfl,by omega,by rw[cg];exact p2,by rw[cN];exact p3⟩ (by omega)⟩
 ·have hc:=of_decide_eq_false hc;rw[if_neg hc]at p3;exact(hF zs p2 p3).lift
theorem Xe {ι:Type} [bm ι] {N:ι->Nat} [cD N] {b n i2 j0:Nat} {j:Int} {F:ι->Int->Int->List aa->Option (Bool×List aa)} {ys:List aa} {Q:Bool×List aa->Prop} (hb:b<=n) (hs:n<=1152921504606846976) (h1:j0<n) (hl:ys.length=n)
 (hF:∀zs:List aa,zs.length=n->zs.toArray=Sort.shiftDown elt j0 ys.toArray->W (λi=>gd (ae ((b:Int)-(i2:Int))) (bif leB 2 ((b:Int)-(i2:Int))then gd (ae ((i2:Int)+1)) (lp2 (kE (N i) b i2 j (F i)) (N i) ((i2:Int)+1) zs)else gd (ae (j+1)) (F i i2 (j+1) zs))) Q):
 W (λi=>lp2 (t6 (N i) b i2 j (F i)) (N i) j0 ys) Q:=by
 refine W.lp2 (λx zs=>∃k:Nat,x=(k:Int)/\k<n/\zs.length=n/\Sort.shiftDown elt k zs.toArray=Sort.shiftDown elt j0 ys.toArray) (λx _=>x.toNat) ⟨j0,rfl,h1,hl,rfl⟩ ?_;rintro G x zs ⟨k,rfl,p1,p2,p3⟩ hn;unfold t6;rw[W.cond];cases k with
 | zero=>
   refine⟨λhc=>absurd hc (by decide),λhc=>?_⟩;rw[Sort.shiftDown]at p3;exact(hF zs p2 p3).lift
 | succ k=>
   refine⟨λhc=>?_,λhc=>absurd hc (by rw[g6];simp;omega)⟩;rw[Sort.shiftDown]at p3;simp only[bL (show 1<=k+1 by omega),Nat.add_sub_cancel,aS (l:=zs) (i:=k+1) (by omega),aS (l:=zs) (i:=k) (by omega),Option.bind_some,fD,fC,aD (show k<=9223372036854775807 by omega),ba,Int.toNat_natCast,ixs (l:=zs) (i:=k) (by omega),cf];rw[W.cond];refine⟨λhl=>?_,λhl=>?_⟩
   ·simp only[gx]at hl;rw[if_pos hl]at p3;exact(hF zs p2 p3).lift
   ·simp only[gx]at hl;rw[if_neg (by rw[hl];decide)]at p3;exact hn _ _ ⟨k,rfl,by omega,by rw[cg];exact p2,by rw[cN];exact p3⟩ (by omega)
theorem aj7 {a b:Nat} {xs:List aa} (hb:b<=xs.length) (hs:xs.length<=1152921504606846976) (ha:a<b):W (λN=>yZ N a b xs) (λr=>r.1=(Sort.partialInsertionSort elt xs.toArray a b).2/\r.2=(Sort.partialInsertionSort elt xs.toArray a b).1.toList/\r.2.length=xs.length):=by
 obtain⟨R,hR⟩:∃R,R=Sort.partialInsertionSort elt xs.toArray a b:=⟨_,rfl⟩
 rw[<- hR];unfold yZ;rw[W.gd,bF];refine⟨aD (by omega),?_⟩;refine W.ce (λi j ys=>∃k s:Nat,i=(k:Int)/\j=5-(s:Int)/\s<=5/\a<k/\k<=b/\ys.length=xs.length/\Sort.partialIns elt a b s k ys.toArray=R) (λ_ j _=>(5-j).toNat) ⟨a+1,5,rfl,rfl,by omega,by omega,by omega,rfl,hR.symm⟩ ?_;rintro F i j ys ⟨i,s,rfl,rfl,h0,h1,h2,h3,h4⟩ hn;unfold Ej;rw[W.cond];refine⟨λhc=>?_,λhc=>?_⟩
 rotate_left
 ·have hc:=dg.1 hc;obtain rfl:s=0:=by omega
  rw[Sort.partialIns]at h4;rw[W.ret,<- h4];exact⟨rfl,rfl,h3⟩
 have hc:=bJ.1 hc;obtain⟨s,rfl⟩:∃t,s=t+1:=⟨s-1,by omega⟩
 rw[Sort.partialIns]at h4;simp only[]at h4;obtain⟨I,hI⟩:∃I,I=Sort.scanSorted elt ys.toArray b i:=⟨_,rfl⟩
 rw[<- hI]at h4;refine W.bj (λx=>∃k:Nat,x=(k:Int)/\i<=k/\k<=b/\Sort.scanSorted elt ys.toArray b k=I) (λx=>(b-x).toNat) ⟨i,rfl,Nat.le_refl _,h2,hI.symm⟩ ?_;rintro G x ⟨k,rfl,q1,q2,q3⟩ hm;rw[Sort.scanSorted]at q3;unfold Ek;rw[W.cond,bV];refine⟨λhk=>?_,λhk=>?_⟩
 rotate_left
 ·have hk:=of_decide_eq_false hk;obtain rfl:k=b:=by omega
  rw[if_neg (by simp)]at q3;subst q3;rw[if_pos rfl]at h4;rw[show((k:Int)==(k:Int))=true by simp,W.cond];exact⟨λ_=>W.ret.2 (by rw[<- h4];exact⟨rfl,rfl,h3⟩),λh=>by cases h⟩
 have hk:=of_decide_eq_true hk;simp only[bL (show 1<=k by omega),aS (l:=ys) (i:=k) (by omega),aS (l:=ys) (i:=k-1) (by omega),Option.bind_some,fD,fC,aD (show k-1<=9223372036854775807 by omega),ba,Int.toNat_natCast,ixs (l:=ys) (i:=k-1) (by omega),cf];rw[W.cond];refine⟨λhl=>?_,λhl=>?_⟩
 ·rw[if_pos (by rw[Bool.and_eq_true];exact⟨decide_eq_true hk,hl⟩)]at q3;rw[W.gd,bF];exact⟨aD (by omega),hm _ ⟨k+1,rfl,by omega,by omega,q3⟩ (by omega)⟩
 rw[if_neg (by rw[Bool.and_eq_true];intro h;exact absurd (hl.symm.trans h.2) (by decide))]at q3;subst q3;rw[if_neg (show ¬k=b by omega)]at h4;rw[show((k:Int)==(b:Int))=false by rw[beq_eq_false_iff_ne];omega];rw[W.cond];refine⟨(λh=>by cases h),λ_=>?_⟩;rw[W.gd,eF (show a<=b by omega),W.cond];refine⟨aD (by omega),λh50=>?_,λh50=>?_⟩
 ·have h50:=bJ.1 h50;rw[if_pos (by omega)]at h4;rw[W.ret,<- h4];exact⟨rfl,rfl,h3⟩
 have h50:=dg.1 h50;rw[if_neg (by omega)]at h4;have next:∀zs:List aa,zs.length=xs.length->Sort.partialIns elt a b s k zs.toArray=R->W (λp:Nat×Nat=>gd (ae (5-((s+1:Nat):Int)+1)) (F p (k:Int) (5-((s+1:Nat):Int)+1) zs)) (λr=>r.1=R.2/\r.2=R.1.toList/\r.2.length=xs.length):=λzs e1 e2=>by
  rw[W.gd];exact⟨bA.2 (by omega),hn _ _ _ ⟨k,s,rfl,by omega,by omega,by omega,by omega,e1,e2⟩ (by omega)⟩
 have up:∀zs:List aa,zs.length=xs.length->Sort.partialIns elt a b s k (if b-k>=2 then Sort.shiftUp elt b (k+1) zs.toArray else zs.toArray)=R->W (λp:Nat×Nat=>gd (ae ((b:Int)-(k:Int))) (bif leB 2 ((b:Int)-(k:Int))then gd (ae ((k:Int)+1)) (lp2 (kE p.1 b k (5-((s+1:Nat):Int)) (F p)) p.1 ((k:Int)+1) zs)else gd (ae (5-((s+1:Nat):Int)+1)) (F p (k:Int) (5-((s+1:Nat):Int)+1) zs))) (λr=>r.1=R.2/\r.2=R.1.toList/\r.2.length=xs.length):=λzs e1 e2=>by
  rw[W.gd,W.cond];refine⟨bA.2 (by omega),λh=>?_,λh=>?_⟩
  ·have h:=a8.1 h;rw[if_pos (by omega)]at e2;rw[W.gd,bF];refine⟨aD (by omega),Xn (n:=xs.length) hb hs (by omega) e1 λus f1 f2=>next us f1 ?_⟩;rw[f2];exact e2
  ·have h:=dz.1 h;rw[if_neg (by omega)]at e2;exact next zs e1 e2
 rw[<- cN]at h4;rw[W.gd,W.cond];refine⟨bA.2 (by omega),λh=>?_,λh=>?_⟩
 ·have h:=a8.1 h;rw[if_pos (show k-a>=2 by omega)]at h4;refine Xe (ι:=(Nat×Nat)×Nat) (F:=λp=>F p.1) (n:=xs.length) hb hs (by omega) (by rw[cg];exact h3) λzs e1 e2=>(up zs e1 ?_).lift;rw[e2];exact h4
 ·have h:=dz.1 h;rw[if_neg (show ¬k-a>=2 by omega)]at h4;exact(up _ (by rw[cg];exact h3) h4).lift
theorem ajX {a b:Nat} {xs:List aa} (hb:b<=xs.length) (hs:xs.length<4294967296) (ha:a+12<b):W (λN=>wW N a b xs) (λr=>r=(Sort.breakPatterns xs.toArray a b).toList/\r.length=xs.length):=by
 obtain⟨L,hL⟩:∃L,L=b-a:=⟨_,rfl⟩
 have hp:Sort.breakPatterns xs.toArray a b=(brk a L (1 <<< Sort.bitsLen L) 3 (a+L/4*2-1) (UInt64.ofNat L,xs.toArray)).2:=by
  unfold Sort.breakPatterns;simp only[<- hL];rw[if_pos (by omega)];rfl
 have hbl:=IJ (n:=L) (by omega);have Ux:=uq (n:=L) (by omega);have hbp:0<2^Sort.bitsLen L:=Nat.pow_pos (by decide);rw[hp];unfold wW sm;rw[eF (show a<=b by omega),<- hL];have h8:leB 8 (L:Int)=true:=a8.2 (by omega);have hw:IntKind.u64.wrap (L:Int)=(L:Int):=jC (by omega);have hm:IntKind.u64.wrap (1*2^(min (Int.toNat (Sort.bitsLen L:Int)) (IntKind.u64.bits)))=((2^Sort.bitsLen L:Nat):Int):=by
  rw[Int.toNat_natCast,show min (Sort.bitsLen L) IntKind.u64.bits=Sort.bitsLen L from Nat.min_eq_left (by show _<=64;omega),Int.one_mul];rw[show((2:Int)^Sort.bitsLen L)=((2^Sort.bitsLen L:Nat):Int) by simp];exact jC (by omega)
 simp only[W.gd,h8,cond_true,hw,uA (show L<4294967296 by omega),Option.bind_some,show leB 0 ((Sort.bitsLen L:Nat):Int)=true from a8.2 (by omega),ba,hm,show(4:Int)=((4:Nat):Int)from rfl,jA _ _ (show L<=9223372036854775807 by omega)];rw[show((L/4:Nat):Int)*2=((L/4*2:Nat):Int) by omega,gC,bL (show 1<=a+L/4*2 by omega)];refine⟨aD (by omega),aD (by omega),aD (by omega),aD (by omega),?_⟩;refine W.ce (λx y ys=>∃(m:Nat) (st:UInt64×Array aa),m<=3/\x=((a+L/4*2-1+m:Nat):Int)/\y=(st.1.toNat:Int)/\ys.toArray=st.2/\ys.length=xs.length/\brk a L (1 <<< Sort.bitsLen L) (3-m) (a+L/4*2-1+m) st=brk a L (1 <<< Sort.bitsLen L) 3 (a+L/4*2-1) (UInt64.ofNat L,xs.toArray)) (λx _ _=>((a+L/4*2+2:Nat)-x).toNat) ⟨0,(UInt64.ofNat L,xs.toArray),by omega,rfl,?_,rfl,rfl,rfl⟩ ?_
 ·rw[UInt64.toNat_ofNat',Nat.mod_eq_of_lt (by omega)]
 rintro F x y ys ⟨m,⟨r,d⟩,h1,rfl,rfl,rfl,h2,h3⟩ hn;unfold Em;simp only[W.gd,show(4:Int)=((4:Nat):Int)from rfl,jA _ _ (show L<=9223372036854775807 by omega)];rw[show((L/4:Nat):Int)*2=((L/4*2:Nat):Int) by omega,gC,bF];refine⟨aD (by omega),aD (by omega),aD (by omega),?_⟩;rw[W.cond];refine⟨λhc=>?_,λhc=>?_⟩
 ·have hc:=a8.1 hc;obtain⟨q,hq⟩:∃q,3-m=q+1:=⟨3-m-1,by omega⟩
  rw[hq,brk]at h3;obtain⟨o,ho⟩:∃o,o=(Sort.xorNext r).toNat &&& (2^Sort.bitsLen L-1):=⟨_,rfl⟩
  have hox:IntKind.i64.wrap (bI .u64 ((Sort.xorNext r).toNat:Int) (IntKind.u64.wrap (((2^Sort.bitsLen L:Nat):Int)-1)))=(o:Int):=by
   rw[bL hbp,jC (by omega),S7 _ _ (UInt64.toNat_lt _) (by omega),<- ho];exact wB (Nat.le_trans (by rw[ho];exact Nat.and_le_right) (by omega))
  have hol:o<=2^Sort.bitsLen L-1:=by rw[ho];exact Nat.and_le_right
  simp only[Jv,Option.bind_some,hox];have st:Sort.breakStep a L (1 <<< Sort.bitsLen L) (r,ys.toArray) (a+L/4*2-1+m)=(Sort.xorNext r,(sw ys (a+L/4*2-1+m) (a+(if o>=L then o-L else o))).toArray):=by
   unfold Sort.breakStep;simp only[cN,Nat.one_shiftLeft,<- ho]
  rw[st]at h3;rw[W.cond];refine⟨λhg=>?_,λhg=>?_⟩
  ·have hg:=a8.1 hg;rw[if_pos (by omega)]at h3;simp only[eF (show L<=o by omega),gC,aD (show o-L<=9223372036854775807 by omega),aD (show a+(o-L)<=9223372036854775807 by omega),ba,aS (l:=ys) (i:=a+(o-L)) (by omega),aS (l:=ys) (i:=a+L/4*2-1+m) (by omega),Option.bind_some,Int.toNat_natCast,ixs (l:=ys) (i:=a+(o-L)) (by omega),cf,bF];rw[W.gd];exact⟨aD (by omega),hn _ _ _ ⟨m+1,_,by omega,rfl,rfl,rfl,by rw[cg];exact h2,by rw[show 3-(m+1)=q by omega];exact h3⟩ (by omega)⟩
  ·have hg:=dz.1 hg;rw[if_neg (by omega)]at h3;simp only[gC,aD (show a+o<=9223372036854775807 by omega),ba,aS (l:=ys) (i:=a+o) (by omega),aS (l:=ys) (i:=a+L/4*2-1+m) (by omega),Option.bind_some,Int.toNat_natCast,ixs (l:=ys) (i:=a+o) (by omega),cf,bF];rw[W.gd];exact⟨aD (by omega),hn _ _ _ ⟨m+1,_,by omega,rfl,rfl,rfl,by rw[cg];exact h2,by rw[show 3-(m+1)=q by omega];exact h3⟩ (by omega)⟩
 ·have hc:=dz.1 hc;rw[show 3-m=0 by omega,brk]at h3;rw[W.ret,<- h3];exact⟨rfl,h2⟩
theorem aj3 (n:Nat) (hs:n<4294967296):∀(s a b l:Nat) (ys:List aa),b-a<=s->a<=b->b<=n->ys.length=n->l<=64->W (λN=>gb N a b l ys) (λr=>r=(Sort.pdq elt ys.toArray a b l true true).toList/\r.length=n):=by
 intro s
 induction s using Nat.strongRecOn with
 | ind s ih=>
 intro a0 b0 l0 ys0 hs0 hab hb0 hl0 hlim;obtain⟨R,hR⟩:∃R,R=Sort.pdq elt ys0.toArray a0 b0 l0 true true:=⟨_,rfl⟩
 rw[<- hR];refine W.sh ?_;show W (λN=>EU N (gb N) _ _ _ _) _;unfold EU;refine W.o6 (λx y z wb wp zs=>∃a b l:Nat,x=(a:Int)/\y=(b:Int)/\z=(l:Int)/\l<=64/\a<=b/\b<=n/\b-a<=s/\zs.length=n/\Sort.pdq elt zs.toArray a b l wb wp=R) (λx y _ _ _ _=>(y-x).toNat) ⟨a0,b0,l0,rfl,rfl,rfl,hlim,hab,hb0,hs0,hl0,hR.symm⟩ ?_;rintro F x y z wb wp ys ⟨a,b,l,rfl,rfl,rfl,h1,h2,h3,h4,h5,h6⟩ hn;rw[Sort.pdq]at h6;unfold Es;rw[W.gd,eF h2,W.cond];refine⟨aD (by omega),λhc=>?_,λhc=>?_⟩
 ·have hc:=a8.1 hc;rw[if_pos (by omega)]at h6;refine W.call (aj0 (by omega) (by omega) h2) λr hr=>?_;rw[W.ret,<- h6];exact⟨hr.1,hr.2.trans h5⟩
 have hc:=dz.1 hc;rw[if_neg (by omega)]at h6;rw[W.cond];refine⟨λhz=>?_,λhz=>?_⟩
 ·have hz:l=0:=by simpa using hz
  rw[if_pos hz]at h6;refine W.call (aiK (by omega) (by omega) (by omega)) λr hr=>?_;rw[W.ret,<- h6];exact⟨hr.1,hr.2.trans h5⟩
 have hz:l≠0:=by simpa using hz
 rw[if_neg hz]at h6;have j3:∀(l' pv:Nat) (zs:List aa) (x:Bool),l'<=64->a<=pv->pv<b->zs.length=n->
  (if x=true then(match Sort.partitionEqual elt zs.toArray a b pv with|(mid,d4)=>if _h:a<mid/\mid<=b then Sort.pdq elt d4 mid b l' wb wp else d4)else
    (match Sort.partition elt zs.toArray a b pv with|(mid,ap,d4)=>if _h:a<=mid/\mid<b then(if mid-a<b-mid then Sort.pdq elt (Sort.pdq elt d4 a mid l' true true) (mid+1) b l' (decide (mid-a>=(b-a)/8)) ap else Sort.pdq elt (Sort.pdq elt d4 (mid+1) b l' true true) a mid l' (decide (b-mid>=(b-a)/8)) ap)else d4))=R->
  W (λp:Nat×Nat=>kM p.1 (gb p.1) a b l' wb wp ((b-a:Nat):Int) pv x zs (F p)) (λr=>r=R.toList/\r.length=n):=by
  intro l' pv zs x q1 q2 q3 q4 q5;unfold kM;rw[W.cond];refine⟨λhx=>?_,λhx=>?_⟩
  ·rw[if_pos hx]at q5;have hr:=Pw elt zs.toArray q2 q3 (by simp;omega);refine W.call (Xk (by omega) (by omega) q2 q3) λr he=>?_;obtain⟨⟨mid,d4⟩,hpe⟩:∃x,Sort.partitionEqual elt zs.toArray a b pv=x:=⟨_,rfl⟩
   rw[hpe]at q5 hr he;dsimp only at q5 hr he;rw[he.1];rw[dif_pos hr]at q5;exact hn _ _ _ _ _ _ ⟨mid,b,l',rfl,rfl,rfl,q1,hr.2,h3,by omega,he.2.2.trans q4,by rw[he.2.1];exact q5⟩ (by omega)
  ·rw[if_neg (by rw[hx];decide)]at q5;have hr:=Sort.partition_holds elt Ib zs.toArray a b pv q2 q3 (by simp;omega);refine W.call (aje (by omega) (by omega) q2 q3) λr he=>?_;obtain⟨⟨mid,ap,d4⟩,hpe⟩:∃x,Sort.partition elt zs.toArray a b pv=x:=⟨_,rfl⟩
   unfold A0 at he;rw[hpe]at q5 hr he;dsimp only at q5 hr he;obtain⟨e1,e2,e3,e4⟩:=he;obtain⟨r1,r2,_⟩:=hr;rw[dif_pos ⟨r1,r2⟩,<- e2]at q5;have q5:(if mid-a<b-mid then Sort.pdq elt (Sort.pdq elt r.2.2.toArray a mid l' true true) (mid+1) b l' (decide (mid-a>=(b-a)/8)) r.2.1 else Sort.pdq elt (Sort.pdq elt r.2.2.toArray (mid+1) b l' true true) a mid l' (decide (b-mid>=(b-a)/8)) r.2.1)=R:=by rw[e3];exact q5
   rw[e1];simp only[eF r1,eF (Nat.le_of_lt r2),W.gd,bF,bV,W.cond,decide_eq_true_eq,decide_eq_false_iff_not];rw[show(8:Int)=((8:Nat):Int)from rfl,jA _ _ (show b-a<=9223372036854775807 by omega),eC,eC];refine⟨aD (by omega),aD (by omega),λhm=>?_,λhm=>⟨aD (by omega),?_⟩⟩
   ·rw[if_pos hm]at q5;refine W.call (ih (mid-a) (by omega) a mid l' r.2.2 (Nat.le_refl _) r1 (by omega) (e4.trans q4) q1) λu hu=>?_;rw[W.gd];exact⟨aD (by omega),hn _ _ _ _ _ _ ⟨mid+1,b,l',rfl,rfl,rfl,q1,by omega,h3,by omega,hu.2,by rw[hu.1];exact q5⟩ (by omega)⟩
   ·rw[if_neg hm]at q5;refine W.call (ih (b-(mid+1)) (by omega) (mid+1) b l' r.2.2 (Nat.le_refl _) (by omega) h3 (e4.trans q4) q1) λu hu=>?_;exact hn _ _ _ _ _ _ ⟨a,mid,l',rfl,rfl,rfl,q1,r1,by omega,by omega,hu.2,by rw[hu.1];exact q5⟩ (by omega)
 have j2:∀(l' pv:Nat) (zs:List aa) (x:Bool),l'<=64->a<=pv->pv<b->zs.length=n->
  (let pi:=if x=true then Sort.partialInsertionSort elt zs.toArray a b else(zs.toArray,false)
   if pi.2 then pi.1 else if (decide (a>0)&&!elt pi.1[a-1]! pi.1[pv]!)=true then(match Sort.partitionEqual elt pi.1 a b pv with|(mid,d4)=>if _h:a<mid/\mid<=b then Sort.pdq elt d4 mid b l' wb wp else d4)else
    (match Sort.partition elt pi.1 a b pv with|(mid,ap,d4)=>if _h:a<=mid/\mid<b then(if mid-a<b-mid then Sort.pdq elt (Sort.pdq elt d4 a mid l' true true) (mid+1) b l' (decide (mid-a>=(b-a)/8)) ap else Sort.pdq elt (Sort.pdq elt d4 (mid+1) b l' true true) a mid l' (decide (b-mid>=(b-a)/8)) ap)else d4))=R->
  W (λp:Nat×Nat=>pK p.1 (gb p.1) a b l' wb wp ((b-a:Nat):Int) pv x zs (F p)) (λr=>r=R.toList/\r.length=n):=by
  intro l' pv zs x q1 q2 q3 q4 q5;have low:∀us:List aa,us.length=n->(if (decide (a>0)&&!elt us.toArray[a-1]! us.toArray[pv]!)=true then(match Sort.partitionEqual elt us.toArray a b pv with|(mid,d4)=>if _h:a<mid/\mid<=b then Sort.pdq elt d4 mid b l' wb wp else d4)else
   (match Sort.partition elt us.toArray a b pv with|(mid,ap,d4)=>if _h:a<=mid/\mid<b then(if mid-a<b-mid then Sort.pdq elt (Sort.pdq elt d4 a mid l' true true) (mid+1) b l' (decide (mid-a>=(b-a)/8)) ap else Sort.pdq elt (Sort.pdq elt d4 (mid+1) b l' true true) a mid l' (decide (b-mid>=(b-a)/8)) ap)else d4))=R->
   ∀f g:Nat×Nat->Option (List aa),(∀p,f p=gd (ae ((a:Int)-1)) ((ix us ((a:Int)-1)).bind λe=>(ix us ((a:Int)-1)).bind λe2=>(ix us (pv:Int)).bind λe3=>(ix us (pv:Int)).bind λe4=>(dV p.1 e2 e4).bind λu=>kM p.1 (gb p.1) a b l' wb wp ((b-a:Nat):Int) pv (!(aj u 0)) us (F p)))->
   (∀p,g p=kM p.1 (gb p.1) a b l' wb wp ((b-a:Nat):Int) pv false us (F p))->W (λp=>bif aj 0 (a:Int)then f p else g p) (λr=>r=R.toList/\r.length=n):=by
   intro us u1 u2 f g hf hg;obtain rfl:f=_:=funext hf;obtain rfl:g=_:=funext hg;rw[W.cond];refine⟨λhx=>?_,λhx=>?_⟩
   ·have hx:=bJ.1 hx;simp only[bL (show 1<=a by omega),aD (show a-1<=9223372036854775807 by omega),ba,aS (l:=us) (i:=a-1) (by omega),aS (l:=us) (i:=pv) (by omega),Option.bind_some,fD,fC];refine j3 l' pv us _ q1 q2 q3 u1 ?_;rw[decide_eq_true (show a>0 by omega),Bool.true_and]at u2;exact u2
   ·have hx:=dg.1 hx;refine j3 l' pv us _ q1 q2 q3 u1 ?_;rw[decide_eq_false (show ¬a>0 by omega),Bool.false_and]at u2;exact u2
  unfold pK;rw[W.cond];refine⟨λhx=>?_,λhx=>?_⟩
  ·subst hx;simp only[if_true]at q5;refine W.call (aj7 (by omega) (by omega) (by omega)) λr hr=>?_;obtain⟨e1,e2,e3⟩:=hr;rw[W.cond];refine⟨λhy=>?_,λhy=>?_⟩
   ·rw[e1]at hy;rw[if_pos hy]at q5;rw[W.ret,<- q5];exact⟨e2,e3.trans q4⟩
   ·rw[e1]at hy;rw[if_neg (by rw[hy];decide)]at q5;have e2':r.2.toArray=(Sort.partialInsertionSort elt zs.toArray a b).1:=by rw[e2]
    rw[<- e2']at q5;exact low r.2 (e3.trans q4) q5 _ _ (λ_=>rfl) λ_=>rfl
  ·subst hx;exact low zs q4 q5 _ _ (λ_=>rfl) λ_=>rfl
 have j1:∀(l' pv:Nat) (h:Sort.Hint) (zs:List aa),l'<=64->a<=pv->pv<b->zs.length=n->
  (let pi:=if (wb&&wp&&decide (h=.increasing))=true then Sort.partialInsertionSort elt zs.toArray a b else(zs.toArray,false)
   if pi.2 then pi.1 else if (decide (a>0)&&!elt pi.1[a-1]! pi.1[pv]!)=true then(match Sort.partitionEqual elt pi.1 a b pv with|(mid,d4)=>if _h:a<mid/\mid<=b then Sort.pdq elt d4 mid b l' wb wp else d4)else
    (match Sort.partition elt pi.1 a b pv with|(mid,ap,d4)=>if _h:a<=mid/\mid<b then(if mid-a<b-mid then Sort.pdq elt (Sort.pdq elt d4 a mid l' true true) (mid+1) b l' (decide (mid-a>=(b-a)/8)) ap else Sort.pdq elt (Sort.pdq elt d4 (mid+1) b l' true true) a mid l' (decide (b-mid>=(b-a)/8)) ap)else d4))=R->
  W (λp:Nat×Nat=>sZ p.1 (gb p.1) a b l' wb wp ((b-a:Nat):Int) pv (jq h) zs (F p)) (λr=>r=R.toList/\r.length=n):=by
  intro l' pv h zs q1 q2 q3 q4 q5;have hh:(jq h==1)=decide (h=.increasing):=by cases h<;>rfl
  unfold sZ;rw[hh];have key:=j2 l' pv zs _ q1 q2 q3 q4 q5
  revert key
  cases wb<;>cases wp<;>intro key<;>exact key
 have j0:∀(l':Nat) (zs:List aa),l'<=64->zs.length=n->vD elt zs.toArray a b l' wb wp=R->
  W (λp:Nat×Nat=>sY p.1 (gb p.1) a b l' wb wp ((b-a:Nat):Int) zs (F p)) (λr=>r=R.toList/\r.length=n):=by
  intro l' zs q1 q2 q3;obtain⟨m,h,e1,_⟩:=Rb (N:=0) (a:=a) (b:=b) (xs:=zs) (by omega) (by omega) (by omega);have e2:∀N,sU N a b zs=some ((m:Int),jq h,zs):=λN=>by
   obtain⟨m',h',f1,f2⟩:=Rb (N:=N) (a:=a) (b:=b) (xs:=zs) (by omega) (by omega) (by omega);rw[e1]at f1;cases f1;exact f2
  have hr:=Sort.choosePivot_holds elt zs.toArray a b (by omega);unfold vD at q3;rw[e1]at q3 hr;dsimp only at q3 hr;unfold sY;simp only[e2,Option.bind_some];cases h with
  | decreasing=>
    simp only[if_true]at q3;rw[W.cond];refine⟨λ_=>?_,λhx=>by cases hx⟩;refine W.call (aj9 (by omega) (by omega) (by omega)) λr he=>?_;simp only[W.gd,bL (show 1<=b by omega),eF hr.1,eF (show m-a<=b-1 by omega)];refine⟨aD (by omega),aD (by omega),aD (by omega),?_⟩;exact j1 l' (b-1-(m-a)) .increasing r q1 (by omega) (by omega) (he.2.trans q2) (by rw[he.1];exact q3)
  | unknown=>
    rw[W.cond];refine⟨(λhx=>by cases hx),λ_=>?_⟩;exact j1 l' m .unknown zs q1 hr.1 hr.2 q2 q3
  | increasing=>
    rw[W.cond];refine⟨(λhx=>by cases hx),λ_=>?_⟩;exact j1 l' m .increasing zs q1 hr.1 hr.2 q2 q3
 rw[W.cond];cases hwb:wb with
 | false=>
   subst hwb;refine⟨λ_=>?_,λh=>by cases h⟩;refine W.call (ajX (by omega) (by omega) (by omega)) λr he=>?_;rw[W.gd,bL (show 1<=l by omega)];exact⟨aD (by omega),j0 (l-1) r (by omega) (he.2.trans h5) (by rw[he.1];exact h6)⟩
 | true=>
   subst hwb;refine⟨(λh=>by cases h),λ_=>?_⟩;exact j0 l ys h1 h5 h6
theorem ajh {xs:List aa} (hs:xs.length<4294967296):W (λN=>xu N xs) (·=xs.mergeSort λx y=>!elt y x):=by
 unfold xu;simp only[jC (show xs.length<18446744073709551616 by omega),uA hs,Option.bind_some];have h:=Sort.sort_sorts elt Ib xs.toArray;have h:=Sort.sorted_unique_holds Ib ahx _ _ h.1 h.2;unfold Sort.sort at h;have hb:=uq hs;have hx:∀N,EX N 0 (xs.length:Int) (Sort.bitsLen xs.length:Int) xs=gb N ((0:Nat):Int) (xs.length:Int) (Sort.bitsLen xs.length:Int) xs:=λ_=>rfl
 simp only[hx];refine W.call (aj3 xs.length hs (xs.length-0) 0 xs.length (Sort.bitsLen xs.length) xs (Nat.le_refl _) (Nat.zero_le _) (Nat.le_refl _) rfl (by omega)) λr hr=>?_;rw[W.ret,hr.1];simpa using h
section
theorem W.both {ι:Type} [bm ι] {α:Type} {q:bw α} {f g:ι->Option α} {r:α} (h1:W f (·=r)) (h2:W g (·=r)):W (λi=>Go.Proofs.YtmfkphajohcklaaGreat.U.both q (f i) (g i)) (·=r):=by
 exact⟨r,bm.mono (λi h=>by show Go.Proofs.YtmfkphajohcklaaGreat.U.both q (f i) (g i)=Option.some r;rw[h.1,h.2];exact O1 rfl) (bm.and h1.tl h2.tl),rfl⟩
def kc (k:Int):Int:=if k=3 then 2 else if k=4 then 2 else if k=5 then 1 else 0
theorem vg (k:Int):0<=kc k/\kc k<=2:=by unfold kc;repeat' split
                                        all_goals omega
theorem ahw (k:Int) (N:Nat):zT N k=some (kc k):=by
 simp only[zT,kc];by_cases h3:k=3
 ·simp[h3]
 by_cases h4:k=4
 ·simp[h4]
 by_cases h5:k=5
 ·simp[h5]
 simp[h3,h4,h5,show(k==3)=false by simpa using h3,show(k==4)=false by simpa using h4,show(k==5)=false by simpa using h5]
def c9:Int->List ai->Int->Int
 | _,[],_=>0
 | k,e::r,n=>if k+(kc e.Kind-1)=0 then n+1 else c9 (k+(kc e.Kind-1)) r (n+1)
def cz (l:List ai) (a:Int):Int:=if a<0 then 0 else if (l.length:Int)<=a then 0 else c9 1 (l.drop a.toNat) 0
theorem aiG (l:List ai) (a:Int) (hl:l.length<=1000000):W (λN=>zS N l a) (·=cz l a):=by
 simp only[zS,cz];by_cases h1:a<0
 ·simp only[show aj a 0=true from bJ.2 h1,cond_true,if_pos h1,W.ret]
 simp only[show aj a 0=false from dg.2 (by omega),cond_false,if_neg h1];by_cases h2:(l.length:Int)<=a
 ·simp only[show leB (l.length:Int) a=true from a8.2 h2,cond_true,if_pos h2,W.ret]
 simp only[show leB (l.length:Int) a=false from dz.2 (by omega),cond_false,if_neg h2,W.gd,a8];refine⟨by omega,by omega,?_⟩;generalize hm:l.drop a.toNat=m;have hml:m.length<=1000000:=by rw[<- hm];simp;omega
 refine Xp (l:=m) (λpre v=>1<=v/\v<=(pre.length:Int)+1/\c9 v (m.drop pre.length) pre.length=c9 1 m 0) [] rfl rfl (by omega) ⟨by simp,by simp,by simp⟩ ?_ ?_
 ·rintro F pre e rest v hl' k1 k2 k3 ⟨p1,p2,p3⟩ hn;have hd:m.drop pre.length=e::rest:=by rw[hl'];simp
  have hd1:m.drop (pre++[e]).length=rest:=by rw[hl'];simp
  have hlen:pre.length+1<=m.length:=by rw[hl'];simp
  have hk:=vg e.Kind;rw[hd,c9]at p3;simp only[zi,k1,k2,Option.bind_some,cond_true,ahw,W.gd,bA,k3,true_and];refine⟨by omega,by omega,?_⟩;by_cases hz:v+(kc e.Kind-1)=0
  ·rw[if_pos hz]at p3;simp only[show(v+(kc e.Kind-1)==0)=true by simpa using hz,cond_true,k3,ba,W.ret];exact p3
  ·rw[if_neg hz]at p3;simp only[show(v+(kc e.Kind-1)==0)=false by simpa using hz,cond_false,k3,ba];exact hn _ ⟨by omega,by simp;omega,by rw[hd1];rw[<- p3];simp⟩
 ·rintro F v k1 ⟨p1,p2,p3⟩;rw[List.drop_length,c9]at p3;simp only[zi,k1,cond_false,W.ret];exact p3
end
section
inductive CT where
 | eU (p:Int)
 | leaf (p:Int)
 | cat (p:Int) (a b:CT)
 | or (p:Int) (a b:CT)
 | loop (p:Int) (a:CT)
def CT.fl:CT->List ai
 | .eU p=>[⟨1,p⟩]
 | .leaf p=>[⟨2,p⟩]
 | .cat p a b=>⟨3,p⟩::(a.fl++b.fl)
 | .or p a b=>⟨4,p⟩::(a.fl++b.fl)
 | .loop p a=>⟨5,p⟩::a.fl
def CT.ca:List CT->List ai
 | []=>[]
 | a::r=>a.fl++CT.ca r
theorem Q8:∀t:CT,1<=t.fl.length
 | .eU _=>Nat.le_refl _
 | .leaf _=>Nat.le_refl _
 | .cat _ a b=>by simp[CT.fl]
 | .or _ a b=>by simp[CT.fl]
 | .loop _ a=>by simp[CT.fl]
theorem qh:∀(t:CT) (r:List ai) (k n:Int),1<=k->c9 k (t.fl++r) n=if k=1 then n+t.fl.length else c9 (k-1) r (n+t.fl.length)
 | .eU _,r,k,n,h=>by
   simp only[CT.fl,List.cons_append,List.nil_append,c9,show kc 1=0 from rfl];by_cases hk:k=1
   ·rw[if_pos (by omega),if_pos hk];rfl
   ·rw[if_neg (by omega),if_neg hk,show k+(0-1)=k-1 by omega];rfl
 | .leaf _,r,k,n,h=>by
   simp only[CT.fl,List.cons_append,List.nil_append,c9,show kc 2=0 from rfl];by_cases hk:k=1
   ·rw[if_pos (by omega),if_pos hk];rfl
   ·rw[if_neg (by omega),if_neg hk,show k+(0-1)=k-1 by omega];rfl
 | .cat _ a b,r,k,n,h=>by
   simp only[CT.fl,List.cons_append,c9,show kc 3=2 from rfl,List.append_assoc,List.length_cons,List.length_append];rw[if_neg (by omega),qh a _ _ _ (by omega),if_neg (by omega),qh b _ _ _ (by omega),show k+(2-1)-1=k by omega];have:n+1+(a.fl.length:Int)+(b.fl.length:Int)=n+((a.fl.length+b.fl.length+1:Nat):Int):=by omega
   rw[this]
 | .or _ a b,r,k,n,h=>by
   simp only[CT.fl,List.cons_append,c9,show kc 4=2 from rfl,List.append_assoc,List.length_cons,List.length_append];rw[if_neg (by omega),qh a _ _ _ (by omega),if_neg (by omega),qh b _ _ _ (by omega),show k+(2-1)-1=k by omega];have:n+1+(a.fl.length:Int)+(b.fl.length:Int)=n+((a.fl.length+b.fl.length+1:Nat):Int):=by omega
   rw[this]
 | .loop _ a,r,k,n,h=>by
   simp only[CT.fl,List.cons_append,c9,show kc 5=1 from rfl,List.length_cons];rw[if_neg (by omega),qh a _ _ _ (by omega),show k+(1-1)=k by omega];have:n+1+(a.fl.length:Int)=n+((a.fl.length+1:Nat):Int):=by omega
   rw[this]
theorem Ak:∀(l:List ai) (k n m:Int),(∀e∈l,1<=e.Kind/\e.Kind<=5)->1<=k->0<=n->1<=m->c9 k l n=n+m->∃(ts:List CT) (r:List ai),l=CT.ca ts++r/\(ts.length:Int)=k/\((CT.ca ts).length:Int)=m
 | [],k,n,m,_,h1,h2,h3,h=>by rw[c9]at h;omega
 | e::l,k,n,m,hk,h1,h2,h3,h=>by
   have he:=hk e (by simp);have hl:∀e∈l,1<=e.Kind/\e.Kind<=5:=λx hx=>hk x (by simp[hx])
   obtain⟨K,p⟩:=e;simp only at he;rw[c9]at h;have lf:kc K=0->∀t:CT,t.fl=[⟨K,p⟩]->∃(ts:List CT) (r:List ai),(⟨K,p⟩:ai)::l=CT.ca ts++r/\(ts.length:Int)=k/\((CT.ca ts).length:Int)=m:=by
    intro h0 t ht;simp only[h0]at h;by_cases hz:k+(0-1)=0
    ·rw[if_pos hz]at h;exact⟨[t],l,by simp[CT.ca,ht],by simp;omega,by simp[CT.ca,ht];omega⟩
    ·rw[if_neg hz]at h;by_cases hm:m=1
     ·
      exfalso;have pos:∀(l:List ai) (k n:Int),1<=k->0<=n->c9 k l n=0\/n<c9 k l n:=λl=>by
       induction l with
       | nil=>intro k n _ _;exact .inl rfl
       | cons x l ih=>
         intro k n a b;rw[c9];have:=vg x.Kind;split
         ·exact .inr (by omega)
         ·rcases ih (k+(kc x.Kind-1)) (n+1) (by omega) (by omega)with h|h
          ·exact .inl h
          ·exact .inr (by omega)
      rcases pos l (k+(0-1)) (n+1) (by omega) (by omega)with h'|h'<;>omega
     ·obtain⟨ts,r,q1,q2,q3⟩:=Ak l (k+(0-1)) (n+1) (m-1) hl (by omega) (by omega) (by omega) (by rw[h];omega);exact⟨t::ts,r,by simp[CT.ca,ht,q1],by simp;omega,by simp[CT.ca,ht];omega⟩
   have pos:∀(l:List ai) (k n:Int),1<=k->0<=n->c9 k l n=0\/n<c9 k l n:=λl=>by
    induction l with
    | nil=>intro k n _ _;exact .inl rfl
    | cons x l ih=>
      intro k n a b;rw[c9];have:=vg x.Kind;split
      ·exact .inr (by omega)
      ·rcases ih (k+(kc x.Kind-1)) (n+1) (by omega) (by omega)with h|h
       ·exact .inl h
       ·exact .inr (by omega)
   have two:kc K=2->(∀a b:CT,∃t:CT,t.fl=⟨K,p⟩::(a.fl++b.fl))->∃(ts:List CT) (r:List ai),(⟨K,p⟩:ai)::l=CT.ca ts++r/\(ts.length:Int)=k/\((CT.ca ts).length:Int)=m:=by
    intro h0 ht;simp only[h0]at h;rw[if_neg (by omega)]at h;have hm:2<=m:=by
     rcases pos l (k+(2-1)) (n+1) (by omega) (by omega)with h'|h'<;>omega
    obtain⟨ts,r,q1,q2,q3⟩:=Ak l (k+(2-1)) (n+1) (m-1) hl (by omega) (by omega) (by omega) (by rw[h];omega)
    match ts,q1,q2,q3 with
    | [],_,q2,_=>simp at q2;omega
    | [_],_,q2,_=>simp at q2;omega
    | a::b::ts,q1,q2,q3=>
      obtain⟨t,ht⟩:=ht a b;exact⟨t::ts,r,by simp[CT.ca,ht,q1],by simp at q2 ⊢;omega,by simp[CT.ca,ht]at q3 ⊢;omega⟩
   rcases (show K=1\/K=2\/K=3\/K=4\/K=5 by omega)with rfl|rfl|rfl|rfl|rfl
   ·exact lf rfl (.eU p) rfl
   ·exact lf rfl (.leaf p) rfl
   ·exact two rfl λa b=>⟨.cat p a b,rfl⟩
   ·exact two rfl λa b=>⟨.or p a b,rfl⟩
   ·simp only[show kc 5=1 from rfl]at h;rw[if_neg (by omega)]at h;have hm:2<=m:=by
     rcases pos l (k+(1-1)) (n+1) (by omega) (by omega)with h'|h'<;>omega
    obtain⟨ts,r,q1,q2,q3⟩:=Ak l (k+(1-1)) (n+1) (m-1) hl (by omega) (by omega) (by omega) (by rw[h];omega)
    match ts,q1,q2,q3 with
    | [],_,q2,_=>simp at q2;omega
    | a::ts,q1,q2,q3=>exact⟨.loop p a::ts,r,by simp[CT.ca,CT.fl,q1],by simp at q2 ⊢;omega,by simp[CT.ca,CT.fl]at q3 ⊢;omega⟩
def cnt (S:Nat):Nat->Nat
 | 0=>0
 | n+1=>cnt S n+(if S.testBit n then 1 else 0)
theorem PD {S T:Nat} (h:∀i,S.testBit i=true->T.testBit i=true):∀n,cnt S n<=cnt T n
 | 0=>Nat.le_refl _
 | n+1=>by
   rw[cnt,cnt];have:=PD h n;have:=h n;split<;>split<;>first|omega|simp_all
theorem Rr {S T:Nat} (h:∀i,S.testBit i=true->T.testBit i=true):∀ {n i:Nat},i<n->S.testBit i=false->T.testBit i=true->cnt S n<cnt T n
 | 0,i,hi,_,_=>by omega
 | n+1,i,hi,h1,h2=>by
   rw[cnt,cnt];by_cases hin:i=n
   ·subst hin;have:=PD h i;rw[if_neg (by rw[h1];decide),if_pos h2];omega
   ·have:=Rr h (n:=n) (i:=i) (by omega) h1 h2;have:=h n;split<;>split<;>first|omega|simp_all
end
def u32 (x:Int):Prop:=0<=x/\x<4294967296
def aK (x:Int) (i:Nat):Bool:=x.toNat.testBit i
theorem iM {x:Int} (h:u32 x):∃m:Nat,x=(m:Int)/\m<4294967296:=⟨x.toNat,by have:=h.1;omega,by have:=h.2;have:=h.1;omega⟩
theorem wk {m:Nat} (h:m<4294967296):u32 (m:Int):=⟨by omega,by omega⟩
theorem pu {m:Nat} (h:m<4294967296):IntKind.u32.wrap (m:Int)=(m:Int):=by rw[IntKind.wrap_u32];omega
theorem o8 (n:Nat):(BitVec.ofInt 32 (n:Int)).toNat=n%2^32:=by
 rw[BitVec.toNat_ofInt];rw[<- Int.natCast_emod,Int.toNat_natCast]
theorem o32 {a b:Nat} (ha:a<4294967296) (hb:b<4294967296):bE .u32 (a:Int) (b:Int)=((a ||| b:Nat):Int):=by
 unfold bE;rw[show IntKind.u32.bits=32 from rfl,BitVec.toNat_or,o8,o8,Nat.mod_eq_of_lt (by simpa using ha),Nat.mod_eq_of_lt (by simpa using hb)];exact pu (Nat.or_lt_two_pow (n:=32) ha hb)
theorem a32 {a b:Nat} (ha:a<4294967296) (hb:b<4294967296):bI .u32 (a:Int) (b:Int)=((a &&& b:Nat):Int):=by
 unfold bI;rw[show IntKind.u32.bits=32 from rfl,BitVec.toNat_and,o8,o8,Nat.mod_eq_of_lt (by simpa using ha),Nat.mod_eq_of_lt (by simpa using hb)];exact pu (Nat.lt_of_le_of_lt Nat.and_le_left ha)
theorem Cu {i:Nat} (h:i<32):IntKind.u32.wrap (1*2^(min (Int.toNat (i:Int)) (IntKind.u32.bits)))=((2^i:Nat):Int):=by
 rw[Int.toNat_natCast,show min i IntKind.u32.bits=i from Nat.min_eq_left (by show _<=32;omega),Int.one_mul,show((2:Int)^i)=((2^i:Nat):Int) by simp];exact pu (Nat.lt_of_lt_of_le (Nat.pow_lt_pow_right (by decide) h) (by decide))
theorem ajx {m i:Nat} (hm:m<4294967296) (N:Nat):jE N (m:Int) (i:Int)=some (m.testBit i):=by
 unfold jE;rw[show leB 0 (i:Int)=true from a8.2 (by omega),cond_true,ba,show(32:Int)=((32:Nat):Int)from rfl,bV];by_cases h:i<32
 ·rw[decide_eq_true h,cond_true,Int.toNat_natCast,show min i IntKind.u32.bits=i from Nat.min_eq_left (by show _<=32;omega)];rw[Int.fdiv_eq_ediv_of_nonneg _ (Int.le_of_lt (Int.pow_pos (by decide))),show((m:Int)/2^i)=((m/2^i:Nat):Int) by simp,show(1:Int)=((1:Nat):Int)from rfl];have hd:m/2^i<4294967296:=Nat.lt_of_le_of_lt (Nat.div_le_self _ _) hm;rw[a32 hd (by decide),Nat.and_one_is_mod,Nat.testBit_eq_decide_div_mod_eq];congr 1;rw[Bool.eq_iff_iff];simp only[beq_iff_eq,decide_eq_true_eq];omega
 ·rw[decide_eq_false h,cond_false];rw[Nat.testBit_lt_two_pow (Nat.lt_of_lt_of_le hm (show 4294967296<=2^i from Nat.le_trans (by decide:4294967296<=2^32) (Nat.pow_le_pow_right (by decide) (by omega))))]
theorem oG {x:Int} {i:Nat} (h:u32 x) (N:Nat):jE N x (i:Int)=some (aK x i):=by
 obtain⟨m,rfl,hm⟩:=iM h;exact ajx hm N
theorem gH {a b:Int} (ha:u32 a) (hb:u32 b):u32 (bE .u32 a b)/\∀i,aK (bE .u32 a b) i=(aK a i||aK b i):=by
 obtain⟨m,rfl,hm⟩:=iM ha;obtain⟨n,rfl,hn⟩:=iM hb;rw[o32 hm hn];exact⟨wk (Nat.or_lt_two_pow (n:=32) hm hn),λi=>by simp[aK,Nat.testBit_or]⟩
theorem KE {a b:Int} (ha:u32 a) (hb:u32 b):u32 (bI .u32 a b)/\∀i,aK (bI .u32 a b) i=(aK a i&&aK b i):=by
 obtain⟨m,rfl,hm⟩:=iM ha;obtain⟨n,rfl,hn⟩:=iM hb;rw[a32 hm hn];exact⟨wk (Nat.lt_of_le_of_lt Nat.and_le_left hm),λi=>by simp[aK,Nat.testBit_and]⟩
theorem wl {i:Nat} (h:i<32):u32 (IntKind.u32.wrap (1*2^(min (Int.toNat (i:Int)) (IntKind.u32.bits))))/\∀j,aK (IntKind.u32.wrap (1*2^(min (Int.toNat (i:Int)) (IntKind.u32.bits)))) j=decide (i=j):=by
 rw[Cu h];exact⟨wk (Nat.lt_of_lt_of_le (Nat.pow_lt_pow_right (by decide) h) (by decide)),λj=>by unfold aK;rw[Int.toNat_natCast,Nat.testBit_two_pow]⟩
theorem eI:u32 0/\∀i,aK 0 i=false:=⟨⟨by decide,by decide⟩,λi=>by simp[aK]⟩
theorem wj {a b:Int} (ha:u32 a) (hb:u32 b) (h:∀i,aK a i=aK b i):a=b:=by
 obtain⟨m,rfl,hm⟩:=iM ha;obtain⟨n,rfl,hn⟩:=iM hb;have:m=n:=Nat.eq_of_testBit_eq λi=>by simpa[aK]using h i
 rw[this]
def CT.lv (n:Nat):CT->Prop
 | .eU _=>True
 | .leaf p=>0<=p/\p<n
 | .cat _ a b=>a.lv n/\b.lv n
 | .or _ a b=>a.lv n/\b.lv n
 | .loop _ a=>a.lv n
def ie (n:Nat) (xs:List Int):Prop:=xs.length=n/\∀x∈xs,u32 x
theorem aiC {n i:Nat} {xs:List Int} {v:Int} (h:ie n xs) (hv:u32 v):ie n (xs.set i v):=⟨by simp[h.1],λx hx=>by
 rcases List.mem_or_eq_of_mem_set hx with hx|rfl
 ·exact h.2 x hx
 ·exact hv⟩
theorem Iq {n i:Nat} {xs:List Int} (h:ie n xs) (hi:i<n):∃e,ix xs (i:Int)=some e/\u32 e:=by
 obtain⟨e,h1,h2⟩:=iE (l:=xs) (i:=(i:Int)) (by omega) (by rw[h.1];omega);exact⟨e,h1,h.2 e (List.mem_of_getElem? h2)⟩
theorem ajP {a b:Int} (ha:u32 a) (hb:u32 b):u32 (oC .u32 a b)/\∀i,aK (oC .u32 a b) i=(aK a i&&!aK b i):=by
 obtain⟨m,rfl,hm⟩:=iM ha;obtain⟨n,rfl,hn⟩:=iM hb;have e:oC .u32 (m:Int) (n:Int)=(((BitVec.ofInt 32 (m:Int) &&& ~~~(BitVec.ofInt 32 (n:Int))).toNat:Nat):Int):=by
  unfold oC;exact pu (BitVec.isLt _)
 rw[e];refine⟨wk (BitVec.isLt _),λi=>?_⟩;unfold aK;simp only[Int.toNat_natCast];rw[BitVec.testBit_toNat,BitVec.getLsbD_and,BitVec.getLsbD_not,<- BitVec.testBit_toNat,<- BitVec.testBit_toNat,o8,o8,Nat.mod_eq_of_lt (by simpa using hm),Nat.mod_eq_of_lt (by simpa using hn)];by_cases h:i<32
 ·simp[h]
 ·have:m.testBit i=false:=Nat.testBit_lt_two_pow (Nat.lt_of_lt_of_le hm (show 4294967296<=2^i from Nat.le_trans (by decide:4294967296<=2^32) (Nat.pow_le_pow_right (by decide) (by omega))));simp[this]
def cn (x:Int):Nat:=cnt x.toNat 32
theorem Tv {a b:Int} (h:∀i,aK a i=true->aK b i=true) {i:Nat} (hi:i<32) (h1:aK a i=false) (h2:aK b i=true):cn a<cn b:=Rr h hi h1 h2
section
def nb (nx:List Int) (q k:Nat):Bool:=aK (nx.getD q 0) k
def ob (k:Nat):Int:=((2^k:Nat):Int)
theorem lL {k:Nat} (h:k<32):u32 (ob k)/\∀j,aK (ob k) j=decide (k=j):=by
 have:=wl h
 rwa [Cu h]at this
inductive Rc (n:Nat) (nx:List Int) (ng:Int) (at_:Nat):Nat->Int->Prop
 | start:Rc n nx ng at_ at_ 0
 | step {q k:Nat} {S:Int}:Rc n nx ng at_ q S->k<n->nb nx q k=true->aK ng k=true->Rc n nx ng at_ k (bE .u32 S (ob k))
theorem Rc.u {n:Nat} {nx:List Int} {ng:Int} {a q:Nat} {S:Int} (hn:n<=24) (h:Rc n nx ng a q S):u32 S:=by
 induction h with
 | start=>exact eI.1
 | step _ hk _ _ ih=>exact(gH ih (lL (by omega)).1).1
theorem Rc.lt {n:Nat} {nx:List Int} {ng:Int} {a q:Nat} {S:Int} (ha:a<n) (h:Rc n nx ng a q S):q<n:=by
 cases h with
 | start=>exact ha
 | step _ hk _ _=>exact hk
theorem Rc.own {n:Nat} {nx:List Int} {ng:Int} {a q:Nat} {S:Int} (hn:n<=24) (h:Rc n nx ng a q S):q=a\/aK S q=true:=by
 cases h with
 | start=>exact .inl rfl
 | step h hk hb hg=>exact .inr (by rw[(gH (h.u hn) (lL (by omega)).1).2,(lL (by omega)).2];simp)
theorem Rc.in {n:Nat} {nx:List Int} {ng:Int} {a q:Nat} {S:Int} (hn:n<=24) (h:Rc n nx ng a q S):∀j,aK S j=true->j<n/\aK ng j=true:=by
 induction h with
 | start=>intro j hj;rw[eI.2]at hj;cases hj
 | step h hk hb hg ih=>
   intro j hj;rw[(gH (h.u hn) (lL (by omega)).1).2,(lL (by omega)).2]at hj;rcases Bool.or_eq_true _ _▸hj with hj|hj
   ·exact ih j hj
   ·have:=of_decide_eq_true hj;subst this;exact⟨hk,hg⟩
theorem ag9 {x:Int} {S:Int} {l:List bX}:(List.find? (λy=>(y.k.To==x)&&(y.k.aT==S)) l=none->∀y∈l,y.k≠⟨x,S⟩)/\∀y,List.find? (λy=>(y.k.To==x)&&(y.k.aT==S)) l=some y->y∈l/\y.k=⟨x,S⟩:=by
 refine⟨λh y hy e=>?_,λy h=>?_⟩
 ·have:=List.find?_eq_none.1 h y hy;rw[e]at this;simp at this
 ·have h1:=List.mem_of_find?_eq_some h;have h2:=List.find?_some h;simp only[Bool.and_eq_true,beq_iff_eq]at h2;refine⟨h1,?_⟩;cases hy:y.k;rw[hy]at h2;simp only at h2;rw[h2.1,h2.2]
theorem Q4 {p:bX->Bool} {y:bX}:∀ {l:List bX},List.find? p l=none->kj p y l=l++[y]
 | [],_=>rfl
 | x::l,h=>by
   rw[List.find?_cons]at h;cases hp:p x with
   | true=>rw[hp]at h;cases h
   | false=>
     rw[hp]at h;rw[kj,hp,cond_false,Q4 h];rfl
section
variable (n:Nat) (nx:List Int) (ng la:Int) (a:Nat)
def Pd (seen:List bX) (next:List aa) (ends:List Int) (z:aa):Prop:=(∀k,k<n->nb nx z.To.toNat k=true->(aK ng k=false->⟨(k:Int),z.aT⟩∈next)/\(aK ng k=true->∃y∈seen,y.k=⟨(k:Int),bE .u32 z.aT (ob k)⟩))/\(aK la z.To.toNat=true->z.aT∈ends)
def q8 (z:aa):Prop:=∃q:Nat,z.To=(q:Int)/\Rc n nx ng a q z.aT
def lD (e:aa):Prop:=∃q k:Nat,Rc n nx ng a q e.aT/\e.To=(k:Int)/\k<n/\nb nx q k=true/\aK ng k=false
def iC (S:Int):Prop:=∃q:Nat,Rc n nx ng a q S/\aK la q=true
structure Inv (todo:List aa) (seen:List bX) (next:List aa) (ends:List Int):Prop where
 rt:∀z∈todo,q8 n nx ng a z
 rs:∀y∈seen,q8 n nx ng a y.k
 rn:∀e∈next,lD n nx ng a e
 re:∀S∈ends,iC n nx ng la a S
 dn:∀z:aa,(z=⟨(a:Int),0⟩\/∃y∈seen,y.k=z)->z∈todo\/Pd n nx ng la seen next ends z
structure Told (next:List aa) (ends:List Int):Prop where
 tn:∀e∈next,lD n nx ng a e
 te:∀S∈ends,iC n nx ng la a S
 ta:∀(q:Nat) (S:Int),Rc n nx ng a q S->(∀k,k<n->nb nx q k=true->aK ng k=false->(⟨(k:Int),S⟩:aa)∈next)/\(aK la q=true->S∈ends)
end
variable {n:Nat} {nx:List Int} {ng la:Int} {a:Nat}
theorem Pd.mono {seen seen':List bX} {next next':List aa} {ends ends':List Int} {z:aa} (h:Pd n nx ng la seen next ends z) (h1:∀y∈seen,y∈seen') (h2:∀e∈next,e∈next') (h3:∀S∈ends,S∈ends'):Pd n nx ng la seen' next' ends' z:=
 ⟨λk hk hb=>⟨λh0=>h2 _ ((h.1 k hk hb).1 h0),λh0=>let ⟨y,q1,q2⟩:=(h.1 k hk hb).2 h0;⟨y,h1 y q1,q2⟩⟩,λhl=>h3 _ (h.2 hl)⟩
theorem Inv.told {seen:List bX} {next:List aa} {ends:List Int} (h:Inv n nx ng la a [] seen next ends):Told n nx ng la a next ends:=by
 refine⟨h.rn,h.re,λq S hr=>?_⟩;have key:(⟨(q:Int),S⟩:aa)=⟨(a:Int),0⟩\/∃y∈seen,y.k=⟨(q:Int),S⟩:=by
  induction hr with
  | start=>exact .inl rfl
  | step _ hk hb hg ih=>
    rename_i q' k' S' h';rcases h.dn _ ih with h1|h1
    ·cases h1
    ·exact .inr ((h1.1 k' hk (by simpa using hb)).2 hg)
 rcases h.dn _ key with h1|h1
 ·cases h1
 ·exact⟨λk hk hb h0=>(h1.1 k hk (by simpa using hb)).1 h0,λhl=>h1.2 (by simpa using hl)⟩
end
theorem Wu {k:Nat} {S:Int} (hk:k<24) (hS:u32 S):ju ([.i64,.u32]:List IntKind) [(k:Int),S]=true:=by
 have h1:=hS.1;have h2:=hS.2;show(leB IntKind.i64.min (k:Int)&&(leB (k:Int) IntKind.i64.max&&(leB IntKind.u32.min S&&(leB S IntKind.u32.max&&true))))=true;rw[show leB IntKind.i64.min (k:Int)=true from a8.2 (by rw[show IntKind.i64.min=-9223372036854775808 from by decide];omega),show leB (k:Int) IntKind.i64.max=true from a8.2 (by rw[show IntKind.i64.max=9223372036854775807 from by decide];omega),show leB IntKind.u32.min S=true from a8.2 (by rw[show IntKind.u32.min=0 from by decide];omega),show leB S IntKind.u32.max=true from a8.2 (by rw[show IntKind.u32.max=4294967295 from by decide];omega)];rfl
theorem tK:∀(l:List aa) (e:aa),e∈cE l↔e∈l
 | [],e=>by simp[cE]
 | [x],e=>by simp[cE]
 | x::y::l,e=>by
   rw[cE];split
   ·rename_i h;have hxy:x=y:=by cases x;cases y;simp only at h;rw[h.1,h.2]
    rw[tK (y::l) e,hxy];simp
   ·rw[List.mem_cons,tK (y::l) e,List.mem_cons (a:=e) (b:=x)]
theorem tL:∀(l:List Int) (e:Int),e∈cF l↔e∈l
 | [],e=>by simp[cF]
 | [x],e=>by simp[cF]
 | x::y::l,e=>by
   rw[cF];split
   ·rename_i h;rw[tL (y::l) e,h];simp
   ·rw[List.mem_cons,tL (y::l) e,List.mem_cons (a:=e) (b:=x)]
theorem W.vu {ι:Type} [bm ι] {α0 α1 α2 α3 α4 α5 α6 α7 α8 α9 α10 α11 α12 α13 R:Type} {f:ι->(α0->α1->α2->α3->α4->α5->α6->α7->α8->α9->α10->α11->α12->α13->Option R)->α0->α1->α2->α3->α4->α5->α6->α7->α8->α9->α10->α11->α12->α13->Option R} {Q:R->Prop} (P:α0->α1->α2->α3->α4->α5->α6->α7->α8->α9->α10->α11->α12->α13->Prop) (m:α0->α1->α2->α3->α4->α5->α6->α7->α8->α9->α10->α11->α12->α13->Nat) {N:ι->Nat} [cD N] {u0 u1 u2 u3 u4 u5 u6 u7 u8 u9 u10 u11 u12 u13}
 (hv:P u0 u1 u2 u3 u4 u5 u6 u7 u8 u9 u10 u11 u12 u13) (h:∀(F:ι×Nat->α0->α1->α2->α3->α4->α5->α6->α7->α8->α9->α10->α11->α12->α13->Option R) v0 v1 v2 v3 v4 v5 v6 v7 v8 v9 v10 v11 v12 v13,P v0 v1 v2 v3 v4 v5 v6 v7 v8 v9 v10 v11 v12 v13->(∀w0 w1 w2 w3 w4 w5 w6 w7 w8 w9 w10 rN w12 rO,P w0 w1 w2 w3 w4 w5 w6 w7 w8 w9 w10 rN w12 rO->m w0 w1 w2 w3 w4 w5 w6 w7 w8 w9 w10 rN w12 rO<m v0 v1 v2 v3 v4 v5 v6 v7 v8 v9 v10 v11 v12 v13->W (λp=>F p w0 w1 w2 w3 w4 w5 w6 w7 w8 w9 w10 rN w12 rO) Q)->W (λp:ι×Nat=>f p.1 (F p) v0 v1 v2 v3 v4 v5 v6 v7 v8 v9 v10 v11 v12 v13) Q):
 W (λi=>vu (f i) (N i) u0 u1 u2 u3 u4 u5 u6 u7 u8 u9 u10 u11 u12 u13) Q:=
 W.loop (f:=λi next v=>f i (λu0 u1 u2 u3 u4 u5 u6 u7 u8 u9 u10 u11 u12 u13=>next (u0,u1,u2,u3,u4,u5,u6,u7,u8,u9,u10,u11,u12,u13)) v.1 v.2.1 v.2.2.1 v.2.2.2.1 v.2.2.2.2.1 v.2.2.2.2.2.1 v.2.2.2.2.2.2.1 v.2.2.2.2.2.2.2.1 v.2.2.2.2.2.2.2.2.1 v.2.2.2.2.2.2.2.2.2.1 v.2.2.2.2.2.2.2.2.2.2.1 v.2.2.2.2.2.2.2.2.2.2.2.1 v.2.2.2.2.2.2.2.2.2.2.2.2.1 v.2.2.2.2.2.2.2.2.2.2.2.2.2) N (λv=>P v.1 v.2.1 v.2.2.1 v.2.2.2.1 v.2.2.2.2.1 v.2.2.2.2.2.1 v.2.2.2.2.2.2.1 v.2.2.2.2.2.2.2.1 v.2.2.2.2.2.2.2.2.1 v.2.2.2.2.2.2.2.2.2.1 v.2.2.2.2.2.2.2.2.2.2.1 v.2.2.2.2.2.2.2.2.2.2.2.1 v.2.2.2.2.2.2.2.2.2.2.2.2.1 v.2.2.2.2.2.2.2.2.2.2.2.2.2) (λv=>m v.1 v.2.1 v.2.2.1 v.2.2.2.1 v.2.2.2.2.1 v.2.2.2.2.2.1 v.2.2.2.2.2.2.1 v.2.2.2.2.2.2.2.1 v.2.2.2.2.2.2.2.2.1 v.2.2.2.2.2.2.2.2.2.1 v.2.2.2.2.2.2.2.2.2.2.1 v.2.2.2.2.2.2.2.2.2.2.2.1 v.2.2.2.2.2.2.2.2.2.2.2.2.1 v.2.2.2.2.2.2.2.2.2.2.2.2.2) (λF v hp hn=>h (λp u0 u1 u2 u3 u4 u5 u6 u7 u8 u9 u10 u11 u12 u13=>F p (u0,u1,u2,u3,u4,u5,u6,u7,u8,u9,u10,u11,u12,u13)) (v.1) (v.2.1) (v.2.2.1) (v.2.2.2.1) (v.2.2.2.2.1) (v.2.2.2.2.2.1) (v.2.2.2.2.2.2.1) (v.2.2.2.2.2.2.2.1) (v.2.2.2.2.2.2.2.2.1) (v.2.2.2.2.2.2.2.2.2.1) (v.2.2.2.2.2.2.2.2.2.2.1) (v.2.2.2.2.2.2.2.2.2.2.2.1) (v.2.2.2.2.2.2.2.2.2.2.2.2.1) (v.2.2.2.2.2.2.2.2.2.2.2.2.2) hp λw0 w1 w2 w3 w4 w5 w6 w7 w8 w9 w10 rN w12 rO hw hm=>hn (w0,w1,w2,w3,w4,w5,w6,w7,w8,w9,w10,rN,w12,rO) hw hm) (u0,u1,u2,u3,u4,u5,u6,u7,u8,u9,u10,u11,u12,u13) hv
def br (pl:List aA) (i:Nat):Bool:=match pl[i]? with
 | some p=>p.Neg
 | none=>false
section
section
theorem W.shift {α:Type} {f:Nat->Option α} {Q:α->Prop} (h:W (λN=>f (N+1)) Q):W f Q:=by
 obtain⟨a,⟨n,hn⟩,hq⟩:=h;refine⟨a,⟨n+1,λN hN=>?_⟩,hq⟩;obtain⟨M,rfl⟩:∃M,N=M+1:=⟨N-1,by omega⟩
 exact hn M (by omega)
end
section
def hf (S j:Nat):Nat:=if j=0 then S%18446744073709551616 else S/18446744073709551616
end
section
section
variable {nodes:List ai} {pl:List aA} {wi:Int} {aQ:List UInt8} {md:Int} {w:List (List UInt8)}
def CT.pk (n:Nat):CT->Prop
 | .eU _=>True
 | .leaf p=>0<=p/\p<(n:Int)
 | .cat _ a b=>a.pk n/\b.pk n
 | .or _ a b=>a.pk n/\b.pk n
 | .loop _ a=>a.pk n
end
def fK (n:Nat) (e:ai):Bool:=leB 1 e.Kind&&(leB e.Kind 5&&(!(e.Kind==2)||(leB 0 e.Place&&aj e.Place (n:Int))))
def ly (c:bc):Bool:=Nat.ble c.Nodes.length 200&&((cz c.Nodes 0==(c.Nodes.length:Int))&&(!((c.Nodes.length:Int)==0)&&c.Nodes.all (fK c.Places.length)))
theorem Pk {c:bc} (h:ly c=true):c.Nodes.length<=200/\∃t:CT,c.Nodes=t.fl/\t.pk c.Places.length:=by
 simp only[ly,Bool.and_eq_true,beq_iff_eq,Bool.not_eq_true',beq_eq_false_iff_ne]at h;obtain⟨h1,h2,h3,h4⟩:=h;have h1:=Nat.le_of_ble_eq_true h1;have hk:∀e∈c.Nodes,1<=e.Kind/\e.Kind<=5:=λe he=>by
  have:=List.all_eq_true.1 h4 e he;simp only[fK,Bool.and_eq_true,a8]at this;exact⟨this.1,this.2.1⟩
 rw[cz,if_neg (by omega),if_neg (by omega)]at h2;obtain⟨ts,r,q1,q2,q3⟩:=Ak c.Nodes 1 0 c.Nodes.length hk (by omega) (by omega) (by omega) (by simpa using h2)
 match ts,q1,q2,q3 with
 | [],_,q2,_=>simp at q2
 | _::_::_,_,q2,_=>simp at q2;omega
 | [t],q1,_,q3=>
   have hr:r=[]:=by
    have:=congrArg List.length q1;simp at this q3;exact List.length_eq_zero_iff.1 (by omega)
   rw[hr]at q1;simp[CT.ca]at q1;refine⟨h1,t,q1,?_⟩;have hp:∀t:CT,(∀e∈t.fl,fK c.Places.length e=true)->t.pk c.Places.length:=λt=>by
    induction t with
    | eU p=>exact λ_=>trivial
    | leaf p=>
      intro h;have:=h _ (List.mem_singleton.2 rfl);simp only[fK,Bool.and_eq_true,a8,bJ,show((2:Int)==2)=true from rfl,Bool.not_true,Bool.false_or]at this;exact this.2.2
    | cat p a b iha ihb=>intro h;exact⟨iha λe he=>h e (by simp[CT.fl,he]),ihb λe he=>h e (by simp[CT.fl,he])⟩
    | or p a b iha ihb=>intro h;exact⟨iha λe he=>h e (by simp[CT.fl,he]),ihb λe he=>h e (by simp[CT.fl,he])⟩
    | loop p a iha=>intro h;exact iha λe he=>h e (by simp[CT.fl,he])
   exact hp t λe he=>List.all_eq_true.1 h4 e (by rw[q1];exact he)
end
section
section
section
/-! ### Small facts -/
end
section
inductive TU where
 | own (n:List UInt8)
 | of (v n:List UInt8)
 | lit (v:bM)
inductive TS where
 | u (a:TU)
 | op (k:Bool) (s:TS) (a:TU)
inductive TT where
 | or (a b:TT)
 | and (a b:TT)
 | not (a:TT)
 | test (o:Int) (a b:TS)
def TT.ht:TT->Nat
 | .or a b=>1+max a.ht b.ht
 | .and a b=>1+max a.ht b.ht
 | .not a=>1+a.ht
 | .test _ _ _=>1
end
section
open Go Classical
theorem ajg (v:bM) (hv:okS v.Text):W (λN=>zl N v) λr=>¬0<r->v.Text.length<=100:=by
 have:=aiY hv;simp only[zl,W.gd,W.ret,bA];exact⟨by omega,λh=>by omega⟩
theorem aj2 (l:List az) (hl:l.length<=10000):W (λN=>zU N l) (·=l):=by
 simp only[zU];refine lZ (l:=l) (λpre ys=>ys=pre) [] rfl rfl (by omega) rfl ?_ ?_
 ·rintro F pre e rest ys hl' h1 h2 h3 rfl hn;simp only[zm,h1,h2,h3,Option.bind_some,cond_true,W.gd,true_and];refine⟨Nat.ble_eq_true_of_le (by rw[hl']at hl;simp at hl;omega),hn _ rfl⟩
 ·rintro F ys h1 rfl;simp only[zm,h1,cond_false,W.ret]
theorem ajd (l:List az) (hl:lN (λn:az=>okS n.Val.Text) l):W (λN=>zM N l) λb=>¬0<b->l.length<=40/\∀n∈l,n.Var.length<=40/\n.Name.length<=40/\n.Val.Text.length<=100:=by
 have hlen:l.length<=9223372036854775807:=hl.2;simp only[zM,W.cond,W.ret,bJ,dg];refine⟨λh h2=>absurd (by omega) h2,λh=>?_⟩;refine wf1 (l:=l) (λpre=>∀n∈pre,n.Var.length<=40/\n.Name.length<=40/\n.Val.Text.length<=100) [] rfl rfl (by omega) (by simp) ?_ ?_
 ·intro F pre e rest hl' h1 h2 h3 hp hn;have he:=hl.1 e (by rw[hl'];simp);simp only[yq,h1,h2,h3,Option.bind_some,cond_true,W.cond,W.ret,ba,bJ,dg];refine⟨λ_ h=>absurd (by omega) h,λUj=>⟨λ_ h=>absurd (by omega) h,λUk=>?_⟩⟩;refine W.call (ajg e.Val he) λb hb=>?_;simp only[W.cond,W.ret,bJ,dg];refine⟨λ_ h=>absurd (by omega) h,λhb0=>hn λt ht=>?_⟩;rcases List.mem_append.1 ht with ht|ht
  ·exact hp t ht
  ·rw[List.mem_singleton.1 ht];exact⟨by omega,by omega,hb (by omega)⟩
 ·intro F h1 hp;simp only[yq,h1,cond_false,W.ret];exact λ_=>⟨by omega,hp⟩
end
end
end
section
open Go Classical
def cB (c:bc):Prop:=c.Nodes.length<=1000000/\c.Places.length<=1000000/\∀p∈c.Places,p.Test.length<=10000
theorem ajZ (c:bc) (hc:cB c):W (λN=>zV N c) (·=c):=by
 obtain⟨h1,h2,h3⟩:=hc;simp only[zV];refine lZ (l:=c.Nodes) (λpre ys=>ys=pre) [] rfl rfl (by omega) rfl ?_ ?_
 ·rintro F pre e rest ys hl k1 k2 k3 rfl hn;simp only[zn,k1,k2,k3,Option.bind_some,cond_true,W.gd,true_and];exact⟨Nat.ble_eq_true_of_le (by rw[hl]at h1;simp at h1;omega),hn _ rfl⟩
 ·rintro F ys k1 rfl;simp only[zn,k1,cond_false];refine lZ (l:=c.Places) (λpre ys=>ys=pre) [] rfl rfl (by omega) rfl ?_ ?_
  ·rintro F pre e rest ys hl k1 k2 k3 rfl hn;simp only[zo,k1,k2,Option.bind_some,cond_true];refine W.call (aj2 e.Test (h3 e (by rw[hl];simp))) ?_;rintro _ rfl;simp only[k3,W.gd,true_and];exact⟨Nat.ble_eq_true_of_le (by rw[hl]at h2;simp at h2;omega),hn _ rfl⟩
  ·rintro F ys k1 rfl;simp only[zo,k1,cond_false,W.ret]
theorem QK (k:Int) (N:Nat):sP N k=some (kc k):=by
 simp only[sP,kc];by_cases h3:k=3
 ·simp[h3]
 by_cases h4:k=4
 ·simp[h4]
 by_cases h5:k=5
 ·simp[h5]
 simp[h3,h4,h5,show(k==3)=false by simpa using h3,show(k==4)=false by simpa using h4,show(k==5)=false by simpa using h5]
theorem Pe (l:List ai) (a:Int) (hl:l.length<=1000000):W (λN=>nR N l a) (·=cz l a):=by
 simp only[nR,cz];by_cases h1:a<0
 ·simp only[show aj a 0=true from bJ.2 h1,cond_true,if_pos h1,W.ret]
 simp only[show aj a 0=false from dg.2 (by omega),cond_false,if_neg h1];by_cases h2:(l.length:Int)<=a
 ·simp only[show leB (l.length:Int) a=true from a8.2 h2,cond_true,if_pos h2,W.ret]
 simp only[show leB (l.length:Int) a=false from dz.2 (by omega),cond_false,if_neg h2];obtain⟨n,rfl⟩:=Int.eq_ofNat_of_zero_le (show 0<=a by omega);rw[Int.toNat_natCast];refine W.lp2 (N:=λN=>N) (P:=λv i=>∃c:Nat,i=((n+c:Nat):Int)/\n+c<=l.length/\0<=v/\v<=(c:Int)+1/\(if v=0 then(c:Int)else c9 v (l.drop (n+c)) c)=c9 1 (l.drop n) 0) (m:=λ_ i=>l.length-i.toNat)
  ⟨0,by simp,by omega,by omega,by omega,by simp⟩ ?_
 rintro F v i ⟨c,rfl,c1,v0,v1,p3⟩ hn;simp only[Gf];by_cases hv:v=0
 ·subst hv;rw[if_pos rfl]at p3;simp only[show aj 0 0=false from rfl,cond_false,W.gd,W.ret,bA];exact⟨by omega,by rw[<- p3];omega⟩
 rw[if_neg hv]at p3;simp only[show aj 0 v=true from bJ.2 (by omega),cond_true];by_cases hc:n+c=l.length
 ·simp only[show leB (l.length:Int) ((n+c:Nat):Int)=true from a8.2 (by omega),cond_true,W.ret];rw[hc,List.drop_length,c9]at p3;exact p3
 ·have hlt:n+c<l.length:=by omega
  have hd:l.drop (n+c)=l[n+c]::l.drop (n+c+1):=List.drop_eq_getElem_cons hlt;have hg:ix l ((n+c:Nat):Int)=some l[n+c]:=by rw[fm'];exact List.getElem?_eq_getElem hlt
  rw[hd]at p3;generalize l[n+c]=e at *;have hk:=vg e.Kind;rw[c9]at p3;simp only[show leB (l.length:Int) ((n+c:Nat):Int)=false from dz.2 (by omega),cond_false,hg,Option.bind_some,QK,W.gd,bA];refine⟨by omega,by omega,by omega,hn _ _ ⟨c+1,by omega,by omega,by omega,by omega,?_⟩ (by omega)⟩;by_cases hz:v+(kc e.Kind-1)=0
  ·rw[if_pos hz]at p3;rw[if_pos (by omega),<- p3];omega
  ·rw[if_neg hz]at p3;rw[if_neg (by omega),show v-1+kc e.Kind=v+(kc e.Kind-1) by omega,<- p3];rfl
end
section
theorem Hx {pre post:List ai} {t:CT} {l:List ai} (hl:l=pre++(t.fl++post)) (hb:l.length<=1000000):W (λN=>nR N l (pre.length:Int)) (·=(t.fl.length:Int)):=by
 refine(Pe l pre.length hb).mp ?_;rintro _ rfl;have:=Q8 t;have hlen:l.length=pre.length+(t.fl.length+post.length):=by rw[hl];simp
 rw[cz,if_neg (by omega),if_neg (by omega),Int.toNat_natCast,hl,List.drop_left,qh t post 1 0 (by omega),if_pos rfl];omega
theorem QF (c:bc) (hl:c.Nodes.length<=1000000):W (λN=>sO N c) (·=ly c):=by
 simp only[sO,ly];cases h3:((c.Nodes.length:Int)==0)
 rotate_left
 ·simp only[cond_true,Bool.not_true,Bool.false_and,Bool.and_false,W.ret]
 simp only[cond_false,Bool.not_false,Bool.true_and];by_cases h1:200<c.Nodes.length
 ·have:Nat.ble c.Nodes.length 200=false:=by
   cases h:Nat.ble c.Nodes.length 200 with
   | false=>rfl
   | true=>have:=Nat.le_of_ble_eq_true h;omega
  simp only[show aj 200 (c.Nodes.length:Int)=true from bJ.2 (by omega),cond_true,this,Bool.false_and,W.ret]
 simp only[show aj 200 (c.Nodes.length:Int)=false from dg.2 (by omega),cond_false,show Nat.ble c.Nodes.length 200=true from Nat.ble_eq_true_of_le (by omega),Bool.true_and];refine W.call (Pe _ _ hl) ?_;rintro _ rfl;by_cases h2:cz c.Nodes 0=(c.Nodes.length:Int)
 rotate_left
 ·simp only[show(cz c.Nodes 0 != (c.Nodes.length:Int))=true by simpa using h2,cond_true,show(cz c.Nodes 0==(c.Nodes.length:Int))=false by simpa using h2,Bool.false_and,W.ret]
 simp only[show(cz c.Nodes 0 != (c.Nodes.length:Int))=false by simpa using h2,cond_false,show(cz c.Nodes 0==(c.Nodes.length:Int))=true by simpa using h2,Bool.true_and];refine wf1 (l:=c.Nodes) (λpre=>pre.all (fK c.Places.length)=true) [] rfl rfl (by omega) rfl ?_ ?_
 ·rintro F pre e rest hl' k1 k2 k3 hp hn;have nx:fK c.Places.length e=true->W (λp=>F p ((pre.length:Int)+1)) (·=c.Nodes.all (fK c.Places.length)):=λho=>hn (by rw[List.all_append,hp];simp[ho]);have no:fK c.Places.length e=false->c.Nodes.all (fK c.Places.length)=false:=λho=>by rw[hl'];simp[ho]
  obtain⟨K,p⟩:=e;have e1:aj K 1=!leB 1 K:=rfl;have e2:aj 5 K=!leB K 5:=rfl;have e3:aj p 0=!leB 0 p:=rfl;have e4:leB (c.Places.length:Int) p=!aj p (c.Places.length:Int):=by simp[aj]
  simp only[fK]at nx no;simp only[yw,k1,k2,Option.bind_some,cond_true,k3,ba,e1,e2,e3,e4];cases q1:leB 1 K
  ·rw[q1]at no;simp only[Bool.not_false,cond_true,W.ret];exact(no rfl).symm
  cases q2:leB K 5
  ·rw[q1,q2]at no;simp only[Bool.not_false,Bool.not_true,cond_true,cond_false,W.ret];exact(no rfl).symm
  rw[q1,q2]at no nx;simp only[Bool.not_true,cond_false];cases q3:(K==2)
  ·rw[q3]at nx;simp only[cond_false];exact nx rfl
  rw[q3]at no nx;simp only[cond_true];cases q4:leB 0 p
  ·rw[q4]at no;simp only[Bool.not_false,cond_true,W.ret];exact(no rfl).symm
  rw[q4]at no nx;simp only[Bool.not_true,cond_false];cases q5:aj p (c.Places.length:Int)
  ·rw[q5]at no;simp only[Bool.not_false,cond_true,W.ret];exact(no rfl).symm
  ·rw[q5]at nx;simp only[Bool.not_true,cond_false];exact nx rfl
 ·rintro F k1 hp;simp only[yw,k1,cond_false,W.ret];exact hp.symm
end
section
def CT.kd:CT->List CT
 | .eU _=>[]
 | .leaf _=>[]
 | .cat _ a b=>[a,b]
 | .or _ a b=>[a,b]
 | .loop _ a=>[a]
theorem Tz (t:CT):∃e,t.fl=e::CT.ca t.kd/\kc e.Kind=(t.kd.length:Int)/\t.kd.length<=2:=by
 cases t with
 | eU p=>exact⟨_,rfl,rfl,by simp[CT.kd]⟩
 | leaf p=>exact⟨_,rfl,rfl,by simp[CT.kd]⟩
 | cat p a b=>exact⟨_,by simp[CT.fl,CT.kd,CT.ca];rfl,rfl,by simp[CT.kd]⟩
 | or p a b=>exact⟨_,by simp[CT.fl,CT.kd,CT.ca];rfl,rfl,by simp[CT.kd]⟩
 | loop p a=>exact⟨_,by simp[CT.fl,CT.kd,CT.ca];rfl,rfl,by simp[CT.kd]⟩
theorem G1 (a b:List CT):CT.ca (a++b)=CT.ca a++CT.ca b:=by
 induction a with
 | nil=>rfl
 | cons x a ih=>simp only[List.cons_append,CT.ca,ih,List.append_assoc]
def AX (l:List ai) (t:CT):Prop:=∀(pre post:List ai),l=pre++(t.fl++post)->W (λN=>(yE N) l (pre.length:Int)) λr=>0<=r/\r<=(t.fl.length:Int)
theorem tJ {l:List ai} (hl:l.length<=1000) (t:CT) (ih:∀a∈t.kd,AX l a):AX l t:=by
 intro pre post hn;obtain⟨e,he,hk,hk2⟩:=Tz t;have hix:ix l (pre.length:Int)=some e:=by rw[hn,he,fm'];simp
 have hlen:=congrArg List.length hn;simp only[List.length_append,he,List.length_cons]at hlen;refine W.shift ?_;show W (λN=>Ga N (yE N) _ _) _;simp only[Ga,W.gd,bA];refine⟨by omega,?_⟩;refine W.ce (N:=λN=>N) (P:=λout nx i=>∃hD kX,t.kd=hD++kX/\i=(hD.length:Int)/\nx=((pre.length+1+(CT.ca hD).length:Nat):Int)/\0<=out/\out<=((CT.ca hD).length:Int)) (m:=λ_ _ i=>t.kd.length-i.toNat)
  ⟨[],t.kd,rfl,rfl,by simp[CT.ca],by omega,by simp[CT.ca]⟩ ?_
 rintro F out nx i ⟨hD,kX,hs,rfl,rfl,o1,o2⟩ hnx;simp only[FP,hix,Option.bind_some,QK,hk];cases kX with
 | cons b kX=>
   have hbl:t.kd.length=hD.length+(kX.length+1):=by rw[hs];simp
   have hfl:CT.ca t.kd=CT.ca hD++(b.fl++CT.ca kX):=by rw[hs,G1,CT.ca]
   have UE:=congrArg List.length hfl;simp only[List.length_append]at UE;have hb:l=(pre++[e]++CT.ca hD)++(b.fl++(CT.ca kX++post)):=by rw[hn,he,hfl];simp
   have hpl:(pre++[e]++CT.ca hD).length=pre.length+1+(CT.ca hD).length:=by simp;omega
   have h1:=ih b (by rw[hs];simp) _ _ hb;have h2:=Hx hb (by omega);rw[hpl]at h1 h2;simp only[show aj (hD.length:Int) (t.kd.length:Int)=true from bJ.2 (by omega),cond_true];refine W.bind (W.lift h1) λr hr=>?_;refine W.call h2 ?_;rintro _ rfl;simp only[W.gd,bA];refine⟨by omega,by omega,hnx _ _ _ ⟨hD++[b],kX,by rw[hs];simp,by simp,by rw[G1];simp[CT.ca];omega,by omega,?_⟩ (by omega)⟩;rw[G1];simp[CT.ca];omega
 | nil=>
   rw[List.append_nil]at hs;subst hs;simp only[AG,cond_false];refine W.cond.2 ⟨λ_=>W.gd.2 ⟨bA.2 (by omega),W.ret.2 ?_⟩,λ_=>W.ret.2 ?_⟩
   ·rw[he];simp only[List.length_cons];omega
   ·rw[he];simp only[List.length_cons];omega
theorem WA {l:List ai} (hl:l.length<=1000):∀t:CT,AX l t:=by
 intro t
 induction t with
 | eU p=>exact tJ hl _ λa ha=>by cases ha
 | leaf p=>exact tJ hl _ λa ha=>by cases ha
 | cat p a b iha ihb=>exact tJ hl _ λx hx=>by simp[CT.kd]at hx;rcases hx with rfl|rfl<;>assumption
 | or p a b iha ihb=>exact tJ hl _ λx hx=>by simp[CT.kd]at hx;rcases hx with rfl|rfl<;>assumption
 | loop p a iha=>exact tJ hl _ λx hx=>by simp[CT.kd]at hx;subst hx;exact iha
def cT (c:bc):Prop:=c.Nodes.length<=250/\c.Places.length<=40/\∀p∈c.Places,p.Var.length<=40/\p.Test.length<=40
theorem aiF (c:bc) (akj:c.Nodes.length<=9223372036854775807) (akk:c.Places.length<=9223372036854775807) (ht:∀q∈c.Places,lN (λn:az=>okS n.Val.Text) q.Test):W (λN=>zN N c) λb=>¬0<b->cT c:=by
 simp only[zN,W.cond,W.ret,bJ,dg];refine⟨λh h2=>absurd (by omega) h2,λg1=>⟨λh h2=>absurd (by omega) h2,λg2=>⟨λh h2=>absurd (by omega) h2,λg3=>?_⟩⟩⟩;refine wf1 (l:=c.Places) (λpre=>∀n∈pre,n.Var.length<=40/\n.Test.length<=40) [] rfl rfl (by omega) (by simp) ?_ ?_
 ·intro F pre e rest hl' h1 h2 h3 hq hn;simp only[yr,h1,h2,h3,Option.bind_some,cond_true,W.cond,W.ret,ba,bJ,dg];refine⟨λ_ h=>absurd (by omega) h,λUj=>⟨λ_ h=>absurd (by omega) h,λUk=>?_⟩⟩;refine W.call (ajd e.Test (ht e (by rw[hl'];simp))) λb hb=>?_;simp only[W.cond,W.ret,bJ,dg];refine⟨λ_ h=>absurd (by omega) h,λhb0=>hn λt ht=>?_⟩;rcases List.mem_append.1 ht with ht|ht
  ·exact hq t ht
  ·rw[List.mem_singleton.1 ht];exact⟨by omega,(hb (by omega)).1⟩
 ·intro F h1 hq;have hc:cT c:=⟨by omega,by omega,hq⟩
  simp only[yr,h1,cond_false];refine W.call (QF ⟨c.Nodes,c.Places,c.Within,c.By,c.Mode⟩ (by show c.Nodes.length<=_;omega)) ?_;rintro _ rfl;cases hf:ly ⟨c.Nodes,c.Places,c.Within,c.By,c.Mode⟩
  ·simp only[cond_false,W.ret];exact λ_=>hc
  ·obtain⟨_,t,h2,_⟩:=Pk hf;simp only at h2;simp only[cond_true];refine W.call (f:=λN=>Gn N c.Nodes 0) (WA (l:=c.Nodes) (by omega) t [] [] (by rw[h2];simp)) λr _=>?_;refine W.cond.2 ⟨λ_=>W.ret.2 λ_=>hc,λ_=>W.ret.2 λ_=>hc⟩
end
end
def oF {α:Type} (n:Int) (v:α):Nat->List α->List α
 | _,[]=>[]
 | j,x::l=>cond (ieq n (Int.ofNat j)) v x::oF n v (j+1) l
theorem JZ {a b:Int}:ieq a b=true↔a=b:=by simp only[ieq,Bool.and_eq_true,a8];omega
theorem HO {α:Type} (n:Nat) (v:α):∀(l:List α) (j:Nat),oF (n:Int) v j l=if j<=n then l.set (n-j) v else l
 | [],j=>by simp[oF]
 | x::l,j=>by
   rw[oF,HO n v l (j+1)];by_cases h:n=j
   ·subst h;have:ieq (n:Int) (Int.ofNat n)=true:=JZ.2 rfl;rw[this,if_neg (by omega),if_pos (Nat.le_refl _),Nat.sub_self];rfl
   ·have:ieq (n:Int) (Int.ofNat j)=false:=by
     cases hh:ieq (n:Int) (Int.ofNat j)with
     | false=>rfl
     | true=>have:=JZ.1 hh;simp at this;omega
    rw[this];by_cases hj:j<=n
    ·rw[if_pos (by omega),if_pos hj,show n-j=n-(j+1)+1 by omega];rfl
    ·rw[if_neg (by omega),if_neg hj];rfl
theorem kH {α:Type} (l:List α) (n k:Nat) (v d:α) (hn:n<l.length):(l.set n v).getD k d=if k=n then v else l.getD k d:=by
 by_cases h:k=n
 ·subst h;rw[if_pos rfl];simp[List.getD,hn]
 ·rw[if_neg h];simp[List.getD,List.getElem?_set_ne (Ne.symm h)]
theorem aiz {α:Type} (x:bq α) (n:Nat) (v:α):(bq.set x (n:Int) v).l=x.l.set n v:=by rw[show(bq.set x (n:Int) v).l=oF n v 0 x.l from rfl,HO,if_pos (Nat.zero_le _),Nat.sub_zero]
theorem H9 {α:Type} (x:ah α) (n:Nat) (v:α):(ah.set x (n:Int) v).l=x.l.set n v:=by rw[show(ah.set x (n:Int) v).l=oF n v 0 x.l from rfl,HO,if_pos (Nat.zero_le _),Nat.sub_zero]
theorem U0 {α:Type} (x:bq α) {n:Nat} (h:n<24) (d:α):ix x.l (n:Int)=some (x.l.getD n d):=by
 have:n<x.l.length:=h;rw[fm',List.getD,List.getElem?_eq_getElem this];rfl
theorem iD {α:Type} (x:ah α) {n:Nat} (h:n<32) (d:α):ix x.l (n:Int)=some (x.l.getD n d):=by
 have:n<x.l.length:=h;rw[fm',List.getD,List.getElem?_eq_getElem this];rfl
theorem Ks (n p:Nat):(List.replicate n false).getD p false=false:=by
 rw[List.getD,List.getElem?_replicate];split<;>rfl
abbrev ke (a b:ai):Prop:=a.Kind=2->b.Kind=2->a.Place≠b.Place
def fG (c:bc):Bool:=ly c&&(Nat.ble c.Places.length 24&&decide (c.Nodes.Pairwise ke))
theorem aiI (c:bc) (hl:c.Nodes.length<=1000000):W (λN=>zj N c) (·=fG c):=by
 unfold zj fG ly;cases h0:((c.Nodes.length:Int)==0)
 rotate_left
 ·simp only[cond_true,Bool.not_true,Bool.false_and,Bool.and_false,W.ret]
 simp only[cond_false,Bool.not_false,Bool.true_and];by_cases h1:200<c.Nodes.length
 ·have:Nat.ble c.Nodes.length 200=false:=by
   cases h:Nat.ble c.Nodes.length 200 with
   | false=>rfl
   | true=>have:=Nat.le_of_ble_eq_true h;omega
  simp only[show aj 200 (c.Nodes.length:Int)=true from bJ.2 (by omega),cond_true,this,Bool.false_and,W.ret]
 simp only[show aj 200 (c.Nodes.length:Int)=false from dg.2 (by omega),cond_false,show Nat.ble c.Nodes.length 200=true from Nat.ble_eq_true_of_le (by omega),Bool.true_and];by_cases h2:24<c.Places.length
 ·have:Nat.ble c.Places.length 24=false:=by
   cases h:Nat.ble c.Places.length 24 with
   | false=>rfl
   | true=>have:=Nat.le_of_ble_eq_true h;omega
  simp only[show aj 24 (c.Places.length:Int)=true from bJ.2 (by omega),cond_true,this,Bool.false_and,Bool.and_false,W.ret]
 simp only[show aj 24 (c.Places.length:Int)=false from dg.2 (by omega),cond_false,show Nat.ble c.Places.length 24=true from Nat.ble_eq_true_of_le (by omega),Bool.true_and];refine W.call (aiG c.Nodes 0 hl) ?_;rintro _ rfl;by_cases h3:cz c.Nodes 0=(c.Nodes.length:Int)
 rotate_left
 ·simp only[show(cz c.Nodes 0 != (c.Nodes.length:Int))=true by simpa using h3,cond_true,show(cz c.Nodes 0==(c.Nodes.length:Int))=false by simpa using h3,Bool.false_and,W.ret]
 simp only[show(cz c.Nodes 0 != (c.Nodes.length:Int))=false by simpa using h3,cond_false,show(cz c.Nodes 0==(c.Nodes.length:Int))=true by simpa using h3,Bool.true_and];refine lZ (l:=c.Nodes) (λpre y=>pre.all (fK c.Places.length)=true/\pre.Pairwise ke/\∀p,p<24->((bq.l y).getD p false=true↔∃e∈pre,e.Kind=2/\e.Place=(p:Int))) [] rfl rfl (by omega) ⟨rfl,List.Pairwise.nil,λp hp=>⟨λh=>(by
  rw[show(bq.l (bq.c false))=List.replicate 24 false from rfl,Ks]at h;cases h),λ⟨e,he,_⟩=>(by cases he)⟩⟩ ?_ ?_
 ·intro F pre e rest y hl' hlt hix hi ⟨p1,p2,p3⟩ hn;have no:fK c.Places.length e=false->(c.Nodes.all (fK c.Places.length)&&decide (c.Nodes.Pairwise ke))=false:=λho=>by
   have:c.Nodes.all (fK c.Places.length)=false:=by rw[hl'];simp[ho]
   rw[this];rfl
  have snoc:∀x∈pre++[e],x∈pre\/x=e:=λx hx=>by simpa using hx
  unfold yj;simp only[hlt,cond_true,hix,Option.bind_some,hi,ba];have e1:aj e.Kind 1=!leB 1 e.Kind:=rfl;have e2:aj 5 e.Kind=!leB e.Kind 5:=rfl;have e3:aj e.Place 0=!leB 0 e.Place:=rfl;have e4:leB (c.Places.length:Int) e.Place=!aj e.Place (c.Places.length:Int):=by simp[aj]
  rw[e1,e2,e3,e4];have o9:fK c.Places.length e=(leB 1 e.Kind&&(leB e.Kind 5&&(!(e.Kind==2)||(leB 0 e.Place&&aj e.Place (c.Places.length:Int))))):=rfl;cases q1:leB 1 e.Kind
  ·simp only[Bool.not_false,cond_true,W.ret];exact(no (by rw[o9,q1];rfl)).symm
  cases q2:leB e.Kind 5
  ·simp only[Bool.not_false,Bool.not_true,cond_true,cond_false,W.ret];exact(no (by rw[o9,q1,q2];rfl)).symm
  simp only[Bool.not_true,cond_false];by_cases q3:e.Kind=2
  rotate_left
  ·have q3':(e.Kind==2)=false:=by simpa using q3
   simp only[show(e.Kind != 2)=true by simpa using q3,cond_true];refine hn y ⟨by rw[List.all_append,p1];simp[o9,q1,q2,q3'],?_,λp hp=>?_⟩
   ·rw[List.pairwise_append];exact⟨p2,List.pairwise_singleton _ _,λa ha b hb _ h=>absurd (by rw[List.mem_singleton.1 hb]at h;exact h) q3⟩
   ·rw[p3 p hp];exact⟨λ⟨x,h1,h2⟩=>⟨x,by simp[h1],h2⟩,λ⟨x,h1,h2,h3⟩=>by
     rcases snoc x h1 with h|h
     ·exact⟨x,h,h2,h3⟩
     ·rw[h]at h2;exact absurd h2 q3⟩
  have q3':(e.Kind==2)=true:=by simpa using q3
  simp only[show(e.Kind != 2)=false by simpa using q3,cond_false];cases q4:leB 0 e.Place
  ·simp only[Bool.not_false,cond_true,W.ret];exact(no (by rw[o9,q1,q2,q3',q4];rfl)).symm
  cases q5:aj e.Place (c.Places.length:Int)
  ·simp only[Bool.not_false,Bool.not_true,cond_true,cond_false,W.ret];exact(no (by rw[o9,q1,q2,q3',q4,q5];rfl)).symm
  have h4:=a8.1 q4;have h5:=bJ.1 q5;obtain⟨p,hp⟩:∃p:Nat,e.Place=(p:Int):=⟨e.Place.toNat,by omega⟩
  have uT:p<24:=by omega
  rw[hp];simp only[Bool.not_true,cond_false,show leB 0 (p:Int)=true from a8.2 (by omega),show aj (p:Int) 24=true from bJ.2 (by omega),ba,U0 y uT false,Option.bind_some];have ok:fK c.Places.length e=true:=by rw[o9,q1,q2,q3',q4,q5];rfl
  cases hv:(bq.l y).getD p false
  ·simp only[cond_false];refine hn _ ⟨by rw[List.all_append,p1];simp[ok],?_,λk hk=>?_⟩
   ·rw[List.pairwise_append];refine⟨p2,List.pairwise_singleton _ _,λa ha b hb ha2 hb2 heq=>?_⟩;rw[List.mem_singleton.1 hb,hp]at heq;have:=(p3 p uT).2 ⟨a,ha,ha2,heq⟩;rw[hv]at this;cases this
   ·rw[aiz,kH _ _ _ _ _ (show p<(bq.l y).length from uT)];by_cases hkp:k=p
    ·subst hkp;rw[if_pos rfl];exact⟨λ_=>⟨e,by simp,q3,hp⟩,λ_=>rfl⟩
    ·rw[if_neg hkp,p3 k hk];exact⟨λ⟨x,h1,h2⟩=>⟨x,by simp[h1],h2⟩,λ⟨x,h1,h2,h3⟩=>by
      rcases snoc x h1 with h|h
      ·exact⟨x,h,h2,h3⟩
      ·rw[h,hp]at h3;omega⟩
  ·simp only[cond_true,W.ret];obtain⟨x,x1,x2,x3⟩:=(p3 p uT).1 hv;have:decide (c.Nodes.Pairwise ke)=false:=by
    refine decide_eq_false λh=>?_;rw[hl',List.pairwise_append]at h;exact h.2.2 x x1 e (by simp) x2 q3 (by rw[x3,hp])
   rw[this,Bool.and_false]
 ·intro F y hlt ⟨p1,p2,p3⟩;unfold yj;simp only[hlt,cond_false,W.ret,p1,Bool.true_and];exact(decide_eq_true p2).symm
/-! ### The sets of a tree -/
def CT.nl:CT->Bool
 | .eU _=>true
 | .leaf _=>false
 | .cat _ a b=>a.nl&&b.nl
 | .or _ a b=>a.nl||b.nl
 | .loop _ a=>a.nl
def CT.fi:CT->Nat->Bool
 | .eU _,_=>false
 | .leaf p,i=>decide (p=(i:Int))
 | .cat _ a b,i=>a.fi i||(a.nl&&b.fi i)
 | .or _ a b,i=>a.fi i||b.fi i
 | .loop _ a,i=>a.fi i
def CT.la:CT->Nat->Bool
 | .eU _,_=>false
 | .leaf p,i=>decide (p=(i:Int))
 | .cat _ a b,i=>b.la i||(b.nl&&a.la i)
 | .or _ a b,i=>a.la i||b.la i
 | .loop _ a,i=>a.la i
def CT.nx:CT->Nat->Nat->Bool
 | .eU _,_,_=>false
 | .leaf _,_,_=>false
 | .cat _ a b,i,j=>a.nx i j||(b.nx i j||(a.la i&&b.fi j))
 | .or _ a b,i,j=>a.nx i j||b.nx i j
 | .loop _ a,i,j=>a.nx i j||(a.la i&&a.fi j)
theorem SZ {n:Nat} {a b:Int} {y:List ai} {y2:Int} {xs:List Int} (hn:n<=1000) (ha:u32 a) (hb:u32 b) (hx:ie n xs):W (λN=>ss N a b y y2 xs) (λr=>r.1=y/\r.2.1=y2/\ie n r.2.2/\∀i,i<n->∀j,nb r.2.2 i j=(nb xs i j||(aK a i&&aK b j))):=by
 unfold ss;rw[hx.1];refine W.lp2 (λx ys=>∃k:Nat,x=(k:Int)/\k<=n/\ie n ys/\∀i,i<n->∀j,nb ys i j=if i<k then(nb xs i j||(aK a i&&aK b j))else nb xs i j) (λx _=>(n-x).toNat) ⟨0,rfl,by omega,hx,λi hi j=>by rw[if_neg (by omega)]⟩ ?_;rintro F x ys ⟨k,rfl,h0,h1,h2⟩ hg;unfold Fg;simp only[bV,W.cond,decide_eq_true_eq,decide_eq_false_iff_not,oG ha,Option.bind_some,W.gd,bF,W.ret];refine⟨λhi=>⟨λht=>?_,λht=>⟨aD (by omega),hg _ _ ⟨k+1,rfl,hi,h1,λi hin j=>?_⟩ (by omega)⟩⟩,λhk=>⟨trivial,trivial,h1,λi hi j=>by rw[h2 i hi j,if_pos (by omega)]⟩⟩
 ·obtain⟨e,e1,e2⟩:=Iq h1 hi;simp only[e1,Option.bind_some,W.gd];refine⟨aD (by omega),hg _ _ ⟨k+1,rfl,hi,aiC h1 (gH e2 hb).1,λi hin j=>?_⟩ (by omega)⟩;have hl:k<ys.length:=by rw[h1.1];exact hi
  unfold nb at h2 ⊢;rw[Int.toNat_natCast,kH _ _ _ _ _ hl];have he:ys.getD k 0=e:=by
   rw[fm']at e1;simp[List.getD,e1]
  by_cases hik:i=k
  ·subst hik;have:=h2 i hin j;rw[if_neg (by omega),he]at this;rw[if_pos rfl,if_pos (by omega),(gH e2 hb).2,this,ht,Bool.true_and]
  ·rw[if_neg hik,h2 i hin j];by_cases hlt:i<k
   ·rw[if_pos hlt,if_pos (by omega)]
   ·rw[if_neg hlt,if_neg (by omega)]
 ·rw[h2 i hin j];by_cases hik:i=k
  ·subst hik;rw[if_neg (by omega),if_pos (by omega),ht,Bool.false_and,Bool.or_false]
  ·by_cases hlt:i<k
   ·rw[if_pos hlt,if_pos (by omega)]
   ·rw[if_neg hlt,if_neg (by omega)]
theorem PH:∀l:List aa,l.Pairwise (λx y=>(!elt y x)=true)->(cE l).Pairwise λx y=>elt x y=true
 | [],_=>by simp[cE]
 | [x],_=>by simp[cE]
 | x::y::l,h=>by
   rw[List.pairwise_cons]at h;obtain⟨h1,h2⟩:=h;have ih:=PH (y::l) h2;rw[cE];split
   ·exact ih
   ·rename_i hne;rw[List.pairwise_cons];refine⟨λz hz=>?_,ih⟩;rw[tK]at hz;have hy:=im.1 (by simpa using h1 y (by simp));rw[tO];rcases List.mem_cons.1 hz with rfl|hz
    ·omega
    ·have hz1:=im.1 (by simpa using (List.pairwise_cons.1 h2).1 z hz);omega
theorem PK:∀l:List Int,l.Pairwise (λx y=>decide (x<=y)=true)->(cF l).Pairwise λx y=>x<y
 | [],_=>by simp[cF]
 | [x],_=>by simp[cF]
 | x::y::l,h=>by
   rw[List.pairwise_cons]at h;obtain⟨h1,h2⟩:=h;have ih:=PK (y::l) h2;rw[cF];split
   ·exact ih
   ·rename_i hne;rw[List.pairwise_cons];refine⟨λz hz=>?_,ih⟩;rw[tL]at hz;have hy:x<=y:=by simpa using h1 y (by simp)
    rcases List.mem_cons.1 hz with rfl|hz
    ·omega
    ·have hz1:y<=z:=by simpa using (List.pairwise_cons.1 h2).1 z hz
     omega
theorem WO {ne:List aa} (h:∃l:List aa,ne=cE (l.mergeSort λx y=>!elt y x)):ne.Pairwise λx y=>elt x y=true:=by
 obtain⟨l,rfl⟩:=h;refine PH _ (List.pairwise_mergeSort (λa b c h1 h2=>?_) (λa b=>?_) l)
 ·have h1:=im.1 (by simpa using h1);have h2:=im.1 (by simpa using h2);have:=im.2 (show ¬(c.To<a.To\/c.To=a.To/\c.aT<a.aT) by omega);simpa using this
 ·by_cases h:elt b a=true
  ·have h1:=tO.1 h;have:=im.2 (show ¬(a.To<b.To\/a.To=b.To/\a.aT<b.aT) by omega);rw[this];simp
  ·simp only[Bool.not_eq_true]at h;rw[h];rfl
theorem WP {en:List Int} (h:∃l:List Int,en=cF (l.mergeSort λx y=>decide (x<=y))):en.Pairwise λx y=>x<y:=by
 obtain⟨l,rfl⟩:=h;refine PK _ (List.pairwise_mergeSort (λa b c h1 h2=>?_) (λa b=>?_) l)
 ·have h1:a<=b:=by simpa using h1
  have h2:b<=c:=by simpa using h2
  simpa using Int.le_trans h1 h2
 ·rcases Int.le_total a b with h|h
  ·simp[h]
  ·simp[h]
structure Ct (n:Nat) (nodes:List ai) (q:Int) (t:CT) (xs:List Int) (r:cO×List ai×Int×List Int):Prop where
 nd:r.2.1=nodes
 at_:r.2.2.1=q
 ok:ie n r.2.2.2
 uf:u32 r.1.first
 ul:u32 r.1.last
 nl:r.1.null=t.nl
 fi:∀i,aK r.1.first i=t.fi i
 la:∀i,aK r.1.last i=t.la i
 nx:∀i,i<n->∀j,nb r.2.2.2 i j=(nb xs i j||t.nx i j)
theorem ajk {n:Nat} {nodes:List ai} (hn:n<=24) (hl:nodes.length<=1000):∀t:CT,t.lv n->∀(pre post:List ai) (q:Int) (xs:List Int),q=(pre.length:Int)->ie n xs->nodes=pre++(t.fl++post)->
 W (λN=>nF N nodes q xs) (Ct n nodes (q+t.fl.length) t xs):=by
 have iF:∀(pre r:List ai) (e:ai) (q:Int),q=(pre.length:Int)->nodes=pre++e::r->ix nodes q=some e:=λpre r e q h1 h2=>by rw[h1,h2,fm'];simp
 have ib:∀(pre r:List ai) (e:ai) (q:Int),q=(pre.length:Int)->nodes=pre++e::r->ae (q+1)=true:=λpre r e q h1 h2=>by
  have:=congrArg List.length h2;simp at this;exact bA.2 (by omega)
 intro t
 induction t with
 | eU p=>
   intro _ pre post q xs hq hx hm;refine W.sh ?_;show W (λN=>iV N (nF N) _ _ _) _;simp only[iV,iF pre _ _ q hq hm,ib pre _ _ q hq hm,ba,Option.bind_some,show((1:Int)==2)=false from rfl,show((1:Int)==5)=false from rfl,show((1:Int)==4)=false from rfl,show((1:Int)==3)=false from rfl,cond_false,W.ret];exact⟨rfl,by simp[CT.fl],hx,eI.1,eI.1,rfl,eI.2,eI.2,λi hi j=>by rw[CT.nx,Bool.or_false]⟩
 | leaf p=>
   intro hp pre post q xs hq hx hm;refine W.sh ?_;show W (λN=>iV N (nF N) _ _ _) _;obtain⟨m,hm1⟩:∃m:Nat,p=(m:Int):=⟨p.toNat,by have:=hp.1;omega⟩
   subst hm1;have hp2:=hp.2;simp only[iV,iF pre _ _ q hq hm,ib pre _ _ q hq hm,ba,Option.bind_some,show((2:Int)==2)=true from rfl,cond_true,show leB 0 (m:Int)=true from a8.2 (by omega),W.ret];have ho:=wl (i:=m) (by omega);have hb:∀i:Nat,decide (m=i)=decide ((m:Int)=(i:Int)):=λi=>by
    by_cases h:m=i
    ·rw[decide_eq_true h,decide_eq_true (by omega)]
    ·rw[decide_eq_false h,decide_eq_false (by omega)]
   exact⟨rfl,by simp[CT.fl],hx,ho.1,ho.1,rfl,λi=>by rw[ho.2,hb];rfl,λi=>by rw[ho.2,hb];rfl,λi hi j=>by rw[CT.nx,Bool.or_false]⟩
 | loop p a ih=>
   intro hp pre post q xs hq hx hm;refine W.sh ?_;show W (λN=>iV N (nF N) _ _ _) _;simp only[iV,iF pre _ _ q hq hm,ib pre _ _ q hq hm,ba,Option.bind_some,show((5:Int)==2)=false from rfl,show((5:Int)==5)=true from rfl,cond_true,cond_false];refine W.call (ih hp (pre++[⟨5,p⟩]) post (q+1) xs (by simp;omega) hx (by rw[hm];simp[CT.fl])) λr hr=>?_;refine W.call (SZ (by omega) hr.ul hr.uf hr.ok) λu hu=>?_;obtain⟨k1,k2,k3,k4⟩:=hu;rw[W.ret];exact⟨by rw[k1,hr.nd],by rw[k2,hr.at_];simp[CT.fl];omega,k3,hr.uf,hr.ul,hr.nl,hr.fi,hr.la,λi hi j=>by rw[k4 i hi j,hr.nx i hi j,hr.la,hr.fi,Bool.or_assoc];rfl⟩
 | or p a b iha ihb=>
   intro hp pre post q xs hq hx hm;refine W.sh ?_;show W (λN=>iV N (nF N) _ _ _) _;simp only[iV,iF pre _ _ q hq hm,ib pre _ _ q hq hm,ba,Option.bind_some,show((4:Int)==2)=false from rfl,show((4:Int)==5)=false from rfl,show((4:Int)==4)=true from rfl,cond_true,cond_false];refine W.call (iha hp.1 (pre++[⟨4,p⟩]) (b.fl++post) (q+1) xs (by simp;omega) hx (by rw[hm];simp[CT.fl])) λr hr=>?_;rw[hr.nd];refine W.call (ihb hp.2 (pre++[⟨4,p⟩]++a.fl) post r.2.2.1 r.2.2.2 (by rw[hr.at_];simp;omega) hr.ok (by rw[hm];simp[CT.fl])) λu hu=>?_;have e:u.2.2.1=q+(CT.or p a b).fl.length:=by rw[hu.at_,hr.at_];simp[CT.fl];omega
   have done:∀z:Bool,z=(CT.or p a b).nl->Ct n nodes (q+(CT.or p a b).fl.length) (CT.or p a b) xs (⟨z,bE .u32 r.1.first u.1.first,bE .u32 r.1.last u.1.last⟩,u.2.1,u.2.2.1,u.2.2.2):=λz hz=>⟨hu.nd,e,hu.ok,(gH hr.uf hu.uf).1,(gH hr.ul hu.ul).1,hz,λi=>by rw[(gH hr.uf hu.uf).2,hr.fi,hu.fi];rfl,λi=>by rw[(gH hr.ul hu.ul).2,hr.la,hu.la];rfl,λi hi j=>by rw[hu.nx i hi j,hr.nx i hi j,Bool.or_assoc];rfl⟩
   rw[W.cond];exact⟨λh=>W.ret.2 (done true (by rw[CT.nl,<- hr.nl,h];rfl)),λh=>W.ret.2 (done _ (by rw[CT.nl,<- hr.nl,h,<- hu.nl];rfl))⟩
 | cat p a b iha ihb=>
   intro hp pre post q xs hq hx hm;refine W.sh ?_;show W (λN=>iV N (nF N) _ _ _) _;simp only[iV,iF pre _ _ q hq hm,ib pre _ _ q hq hm,ba,Option.bind_some,show((3:Int)==2)=false from rfl,show((3:Int)==5)=false from rfl,show((3:Int)==4)=false from rfl,show((3:Int)==3)=true from rfl,cond_true,cond_false];refine W.call (iha hp.1 (pre++[⟨3,p⟩]) (b.fl++post) (q+1) xs (by simp;omega) hx (by rw[hm];simp[CT.fl])) λr hr=>?_;rw[hr.nd];refine W.call (ihb hp.2 (pre++[⟨3,p⟩]++a.fl) post r.2.2.1 r.2.2.2 (by rw[hr.at_];simp;omega) hr.ok (by rw[hm];simp[CT.fl])) λu hu=>?_;have e:u.2.2.1=q+(CT.cat p a b).fl.length:=by rw[hu.at_,hr.at_];simp[CT.fl];omega
   refine W.call (SZ (by omega) hr.ul hu.uf hu.ok) λv hv=>?_;obtain⟨m1,m2,m3,m4⟩:=hv;have done:∀(z:Bool) (f l:Int),z=(CT.cat p a b).nl->u32 f->u32 l->(∀i,aK f i=(CT.cat p a b).fi i)->(∀i,aK l i=(CT.cat p a b).la i)->Ct n nodes (q+(CT.cat p a b).fl.length) (CT.cat p a b) xs (⟨z,f,l⟩,v.1,v.2.1,v.2.2):=λz f l hz hf hl h1 h2=>⟨by rw[m1,hu.nd],by rw[m2,e],m3,hf,hl,hz,h1,h2,λi hi j=>by
    rw[m4 i hi j,hu.nx i hi j,hr.nx i hi j,hr.la,hu.fi,Bool.or_assoc,Bool.or_assoc];rfl⟩
   have of:=gH hr.uf hu.uf;have ol:=gH hu.ul hr.ul;have f1:r.1.null=true->∀i,aK (bE .u32 r.1.first u.1.first) i=(CT.cat p a b).fi i:=λh i=>by rw[of.2,hr.fi,hu.fi,CT.fi,<- hr.nl,h,Bool.true_and]
   have f2:r.1.null=false->∀i,aK r.1.first i=(CT.cat p a b).fi i:=λh i=>by rw[hr.fi,CT.fi,<- hr.nl,h,Bool.false_and,Bool.or_false]
   have l1:u.1.null=true->∀i,aK (bE .u32 u.1.last r.1.last) i=(CT.cat p a b).la i:=λh i=>by rw[ol.2,hr.la,hu.la,CT.la,<- hu.nl,h,Bool.true_and]
   have l2:u.1.null=false->∀i,aK u.1.last i=(CT.cat p a b).la i:=λh i=>by rw[hu.la,CT.la,<- hu.nl,h,Bool.false_and,Bool.or_false]
   have nl:(CT.cat p a b).nl=(r.1.null&&u.1.null):=by rw[CT.nl,hr.nl,hu.nl]
   cases hrn:r.1.null<;>cases hun:u.1.null<;>simp only[cond_true,cond_false,W.ret]
   ·exact done _ _ _ (by rw[nl,hrn];rfl) hr.uf hu.ul (f2 hrn) (l2 hun)
   ·exact done _ _ _ (by rw[nl,hrn];rfl) hr.uf ol.1 (f2 hrn) (l1 hun)
   ·exact done _ _ _ (by rw[nl,hrn,hun];rfl) of.1 hu.ul (f1 hrn) (l2 hun)
   ·exact done _ _ _ (by rw[nl,hrn,hun];rfl) of.1 ol.1 (f1 hrn) (l1 hun)
theorem Rv:∀(t t':CT) (r r':List ai),t.fl++r=t'.fl++r'->t=t'/\r=r':=by
 intro t
 induction t with
 | eU p=>intro t' r r' h;cases t'<;>simp[CT.fl]at h ⊢;exact h
 | leaf p=>intro t' r r' h;cases t'<;>simp[CT.fl]at h ⊢;exact h
 | cat p a b iha ihb=>
   intro t' r r' h;cases t'<;>simp[CT.fl]at h ⊢;obtain⟨e0,h1⟩:=h;obtain⟨e1,h2⟩:=iha _ _ _ h1;obtain⟨e2,h3⟩:=ihb _ _ _ h2;exact⟨⟨e0,e1,e2⟩,h3⟩
 | or p a b iha ihb=>
   intro t' r r' h;cases t'<;>simp[CT.fl]at h ⊢;obtain⟨e0,h1⟩:=h;obtain⟨e1,h2⟩:=iha _ _ _ h1;obtain⟨e2,h3⟩:=ihb _ _ _ h2;exact⟨⟨e0,e1,e2⟩,h3⟩
 | loop p a iha=>
   intro t' r r' h;cases t'<;>simp[CT.fl]at h ⊢;obtain⟨e0,h1⟩:=h;obtain⟨e1,h2⟩:=iha _ _ _ h1;exact⟨⟨e0,e1⟩,h2⟩
structure ID (n:Nat) (t:CT) (s:fw):Prop where
 ok:ie n s.Next
 uf:u32 s.First
 ul:u32 s.Last
 nl:s.Null=t.nl
 fi:∀i,aK s.First i=t.fi i
 la:∀i,aK s.Last i=t.la i
 nx:∀i,i<n->∀j,nb s.Next i j=t.nx i j
theorem pb {n:Nat}:∀t:CT,t.pk n->t.lv n
 | .eU _,_=>trivial
 | .leaf p,h=>h
 | .cat _ a b,h=>⟨pb a h.1,pb b h.2⟩
 | .or _ a b,h=>⟨pb a h.1,pb b h.2⟩
 | .loop _ a,h=>pb a h
theorem tF {c:bc} (h:fG c=true):c.Places.length<=24/\c.Nodes.length<=200/\∃t:CT,c.Nodes=t.fl/\t.lv c.Places.length:=by
 unfold fG at h;simp only[Bool.and_eq_true]at h;obtain⟨h1,t,h2,h3⟩:=Pk h.1;exact⟨Nat.le_of_ble_eq_true h.2.1,h1,t,h2,pb t h3⟩
theorem Pc (c:bc) (hl:c.Nodes.length<=1000000):W (λN=>pE N c) (λr=>(fG c=false/\r=(⟨false,0,0,[]⟩,2))\/fG c=true/\r.2=0/\∀t:CT,c.Nodes=t.fl->t.lv c.Places.length->ID c.Places.length t r.1):=by
 unfold pE;refine W.call (aiI c hl) ?_;rintro _ rfl;simp only[fO];cases hf:fG c
 ·exact W.ret.2 (.inl ⟨rfl,rfl⟩)
 obtain⟨h3,h1,t,ht,hlv⟩:=tF hf;simp only[Bool.not_true,cond_false,show leB 0 (c.Places.length:Int)=true from a8.2 (by omega),show leB (4*(c.Places.length:Int)) 281474976710656=true from a8.2 (by omega),ba];have hz:ie c.Places.length (List.replicate c.Places.length 0):=⟨by simp,λx hx=>by rw[List.eq_of_mem_replicate hx];exact eI.1⟩
 refine W.call (ajk (n:=c.Places.length) (nodes:=c.Nodes) h3 (by omega) t hlv [] [] 0 _ rfl hz (by rw[ht];simp)) λr hr=>?_;rw[W.ret];refine .inr ⟨trivial,rfl,λt' ht' _=>?_⟩;obtain rfl:t=t':=(Rv t t' [] [] (by rw[<- ht,<- ht'])).1;exact⟨hr.ok,hr.uf,hr.ul,hr.nl,hr.fi,hr.la,λi hi j=>by
  rw[hr.nx i hi j];have:nb (List.replicate c.Places.length 0) i j=false:=by
   unfold nb;rw[List.getD,List.getElem?_replicate];split
   ·exact eI.2 j
   ·exact eI.2 j
  rw[this,Bool.false_or]⟩
def R3 (s:ah Bool) (f:Nat->Bool):Prop:=∀i,i<32->s.l.getD i false=f i
theorem ox:R3 (ah.c false) λ_=>false:=λi _=>Ks 32 i
theorem Rl {s:ah Bool} {f:Nat->Bool} (h:R3 s f) {p:Nat} (hp:p<32) (v:Bool):R3 (ah.set s (p:Int) v) λi=>if i=p then v else f i:=λi hi=>by
 rw[H9,kH _ _ _ _ _ (show p<s.l.length from hp)];show _=if i=p then v else f i
 split
 ·rfl
 ·exact h i hi
theorem mm {a b:ah Bool} {f g:Nat->Bool} (ha:R3 a f) (hb:R3 b g):W (λN=>fv N a b) (R3 · λi=>f i||g i):=by
 unfold fv;refine W.lp2 (λ(i:Int) y=>∃k:Nat,i=(k:Int)/\k<=32/\∀j,j<32->(ah.l y).getD j false=if j<k then(f j||g j)else f j) (λ(i:Int) _=>(32-i).toNat) ⟨0,rfl,by omega,λj hj=>by rw[if_neg (by omega)];exact ha j hj⟩ ?_;rintro F i y ⟨k,rfl,h0,h1⟩ hn;unfold FF;rw[W.cond];refine⟨λh=>?_,λh=>?_⟩
 ·have hk:k<32:=by have:=bJ.1 h;omega
  have hy:=h1 k hk;rw[if_neg (by omega)]at hy;simp only[show leB 0 (k:Int)=true from a8.2 (by omega),show aj (k:Int) 32=true from bJ.2 (by omega),ba,iD _ hk false,Option.bind_some,hy,hb k hk];have hi:ae ((k:Int)+1)=true:=bA.2 (by omega);have nx:∀v:Bool,v=(f k||g k)->W (λp=>F p ((k:Int)+1) (ah.set y (k:Int) v)) (R3 · λi=>f i||g i):=λv hv=>hn _ _ ⟨k+1,by omega,by omega,λj hj=>by
   rw[H9,kH _ _ _ _ _ (show k<(ah.l y).length from hk),h1 j hj];by_cases hjk:j=k
   ·subst hjk;rw[if_pos rfl,if_pos (by omega),hv]
   ·rw[if_neg hjk];by_cases hlt:j<k
    ·rw[if_pos hlt,if_pos (by omega)]
    ·rw[if_neg hlt,if_neg (by omega)]⟩ (by omega)
  simp only[hi,ba];cases hf:f k
  ·exact nx _ (by rw[hf];rfl)
  ·exact nx _ (by rw[hf];rfl)
 ·have hk:32<=k:=by have:=dg.1 h;omega
  exact W.ret.2 λj hj=>by rw[h1 j hj,if_pos (by omega)]
structure gm (n:Nat) (t:CT) (s:bH):Prop where
 nl:s.Null=t.nl
 fi:R3 s.First t.fi
 la:R3 s.Last t.la
 len:s.Next.length=n
 nx:∀i,i<n->R3 (s.Next.getD i (ah.c false)) (t.nx i)
theorem mY {α:Type} {l:List α} {i:Nat} (h:i<l.length) (d:α):ix l (i:Int)=some (l.getD i d):=by
 rw[fm',List.getD,List.getElem?_eq_getElem h];rfl
theorem Kr (n i:Nat):R3 ((List.replicate n (ah.c false)).getD i (ah.c false)) λ_=>false:=by
 rw[List.getD,List.getElem?_replicate];split<;>exact ox
theorem Ec {n:Nat} (hn:n<=24) {K:Int} {p:Nat->ti} {a b:bH} {ta tb t:CT} (ha:gm n ta a) (hb:gm n tb b)
 (hnx:∀i j,t.nx i j=((ta.nx i j||tb.nx i j)||(decide (K≠4)&&(ta.la i&&tb.fi j))))
 (hK:K=3/\t.nl=(ta.nl&&tb.nl)/\(∀i,t.fi i=(ta.fi i||(ta.nl&&tb.fi i)))/\(∀i,t.la i=(tb.la i||(tb.nl&&ta.la i)))\/K≠3/\t.nl=(ta.nl||tb.nl)/\(∀i,t.fi i=(ta.fi i||tb.fi i))/\(∀i,t.la i=(ta.la i||tb.la i))):
 W (λN=>lp2 (s8 N (p N) K a.Null a.First a.Last a.Next b.Null b.First b.Last b.Next) N 0 (List.replicate n (ah.c false))) (gm n t):=by
 refine W.lp2 (λ(i:Int) ys=>∃k:Nat,i=(k:Int)/\k<=n/\ys.length=n/\∀j,j<k->R3 (ys.getD j (ah.c false)) (t.nx j)) (λ(i:Int) _=>(n-i).toNat) ⟨0,rfl,by omega,by simp,λj hj=>by omega⟩ ?_;rintro F i ys ⟨k,rfl,h0,h1,h2⟩ hg;unfold s8;simp only[fO];rw[h1,bV,W.cond];refine⟨λh=>?_,λh=>?_⟩
 ·have hk:=of_decide_eq_true h;simp only[mY (show k<a.Next.length by rw[ha.len];exact hk) (ah.c false),mY (show k<b.Next.length by rw[hb.len];exact hk) (ah.c false),Option.bind_some];refine W.call (mm (ha.nx k hk) (hb.nx k hk)) λe he=>?_;have i1:ae ((k:Int)+1)=true:=bA.2 (by omega);have hl:k<(List.set ys (Int.toNat (k:Int)) e).length:=by simp;omega
  have gk:(List.set ys (Int.toNat (k:Int)) e).getD k (ah.c false)=e:=by
   rw[Int.toNat_natCast,kH _ _ _ _ _ (by omega),if_pos rfl]
  have nx:∀zs:List (ah Bool),zs.length=n->R3 (zs.getD k (ah.c false)) (t.nx k)->(∀j,j≠k->zs.getD j (ah.c false)=ys.getD j (ah.c false))->W (λq=>F q ((k:Int)+1) zs) (gm n t):=λzs z1 z2 z3=>hg _ _ ⟨k+1,by omega,hk,z1,λj hj=>by
   by_cases hjk:j=k
   ·subst hjk;exact z2
   ·rw[z3 j hjk];exact h2 j (by omega)⟩ (by omega)
  have z3:∀j,j≠k->(List.set ys (Int.toNat (k:Int)) e).getD j (ah.c false)=ys.getD j (ah.c false):=λj hj=>by
   rw[Int.toNat_natCast,kH _ _ _ _ _ (by omega),if_neg hj]
  have same:(decide (K≠4)&&ta.la k)=false->W (λq=>F q ((k:Int)+1) (List.set ys (Int.toNat (k:Int)) e)) (gm n t):=λhf=>nx _ (by simp[h1]) (by
   rw[gk];intro j hj;rw[he j hj,hnx,<- Bool.and_assoc,hf,Bool.false_and,Bool.or_false]) z3
  simp only[mY (show k<ys.length by omega) (ah.c false),Option.bind_some];by_cases hk4:K=4
  ·rw[show(K != 4)=false by simpa using hk4];simp only[cond_false,i1,ba];exact same (by rw[decide_eq_false (by simpa using hk4)];rfl)
  ·rw[show(K != 4)=true by simpa using hk4];simp only[cond_true,show leB 0 (k:Int)=true from a8.2 (by omega),show aj (k:Int) 32=true from bJ.2 (by omega),ba,iD a.Last (show k<32 by omega) false,Option.bind_some,ha.la k (by omega)];cases hla:ta.la k
   ·simp only[cond_false,i1,ba];exact same (by rw[hla,Bool.and_false])
   ·simp only[cond_true,mY hl (ah.c false),Option.bind_some,gk];refine W.call (mm he hb.fi) λe2 he2=>?_;simp only[i1,ba];refine nx _ (by simp[h1]) ?_ λj hj=>?_
    ·rw[Int.toNat_natCast,kH _ _ _ _ _ (by simp;omega),if_pos rfl];intro j hj;rw[he2 j hj,hnx,hla,decide_eq_true hk4,Bool.true_and,Bool.true_and]
    ·rw[Int.toNat_natCast,kH _ _ _ _ _ (by simp;omega),if_neg hj];have:=z3 j hj
     rwa [Int.toNat_natCast]at this
 ·have hk:k=n:=by have:=of_decide_eq_false h;omega
  subst hk;rcases hK with⟨rfl,c1,c2,c3⟩|⟨hne,c1,c2,c3⟩
  ·rw[show((3:Int)==3)=true from rfl];simp only[cond_true];have done:∀(z:Bool) (f l:ah Bool),z=t.nl->R3 f t.fi->R3 l t.la->gm k t ⟨z,f,l,ys⟩:=λz f l z1 z2 z3=>⟨z1,z2,z3,h1,h2⟩
   have F1:ta.nl=true->∀x:ah Bool,R3 x (λi=>ta.fi i||tb.fi i)->R3 x t.fi:=λh x hx i hi=>by rw[hx i hi,c2,h,Bool.true_and]
   have F2:ta.nl=false->R3 a.First t.fi:=λh i hi=>by rw[ha.fi i hi,c2,h,Bool.false_and,Bool.or_false]
   have L1:tb.nl=true->∀x:ah Bool,R3 x (λi=>ta.la i||tb.la i)->R3 x t.la:=λh x hx i hi=>by rw[hx i hi,c3,h,Bool.true_and,Bool.or_comm]
   have L2:tb.nl=false->R3 b.Last t.la:=λh i hi=>by rw[hb.la i hi,c3,h,Bool.false_and,Bool.or_false]
   cases ea:a.Null<;>cases eb:b.Null<;>simp only[cond_true,cond_false]
   ·have e1:=ea;rw[ha.nl]at e1;have e2:=eb;rw[hb.nl]at e2;exact W.ret.2 (done _ _ _ (by rw[c1,e1];rfl) (F2 e1) (L2 e2))
   ·have e1:=ea;rw[ha.nl]at e1;have e2:=eb;rw[hb.nl]at e2;refine W.call (mm ha.la hb.la) λx hx=>?_;exact W.ret.2 (done _ _ _ (by rw[c1,e1];rfl) (F2 e1) (L1 e2 x hx))
   ·have e1:=ea;rw[ha.nl]at e1;have e2:=eb;rw[hb.nl]at e2;refine W.call (mm ha.fi hb.fi) λx hx=>?_;exact W.ret.2 (done _ _ _ (by rw[c1,e1,e2];rfl) (F1 e1 x hx) (L2 e2))
   ·have e1:=ea;rw[ha.nl]at e1;have e2:=eb;rw[hb.nl]at e2;refine W.call (mm ha.fi hb.fi) λx hx=>?_;refine W.call (mm ha.la hb.la) λy hy=>?_;exact W.ret.2 (done _ _ _ (by rw[c1,e1,e2];rfl) (F1 e1 x hx) (L1 e2 y hy))
  ·rw[show(K==3)=false by simpa using hne];simp only[cond_false];have fin:∀z:Bool,z=(ta.nl||tb.nl)->W (λq:Nat×Nat=>(fv q.1 a.First b.First).bind λx=>(fv q.1 a.Last b.Last).bind λy=>some (bH.mk z x y ys)) (gm k t):=λz hz=>by
    refine W.call (mm ha.fi hb.fi) λx hx=>?_;refine W.call (mm ha.la hb.la) λy hy=>?_;exact W.ret.2 ⟨by rw[c1];exact hz,λi hi=>by rw[hx i hi,c2],λi hi=>by rw[hy i hi,c3],h1,h2⟩
   rw[W.cond];exact⟨λh=>fin true (by rw[<- ha.nl,h];rfl),λh=>fin _ (by rw[<- ha.nl,h,<- hb.nl];rfl)⟩
theorem Xm {c:bc} (hn:c.Places.length<=24) (hl:c.Nodes.length<=1000):∀t:CT,t.lv c.Places.length->∀(pre post:List ai) (q:Int),q=(pre.length:Int)->c.Nodes=pre++(t.fl++post)->
 W (λN=>iN N c q) (gm c.Places.length t):=by
 have iF:∀(pre r:List ai) (e:ai) (q:Int),q=(pre.length:Int)->c.Nodes=pre++e::r->ix c.Nodes q=some e:=λpre r e q h1 h2=>by rw[h1,h2,fm'];simp
 have Cg:∀(pre r:List ai) (e:ai),c.Nodes=pre++e::r->pre.length+1+r.length<=1000:=λpre r e h2=>by
  have:=congrArg List.length h2;simp at this;omega
 have g1:leB 0 (c.Places.length:Int)=true:=a8.2 (by omega);have g2:leB (32*(c.Places.length:Int)) 281474976710656=true:=a8.2 (by omega);intro t
 induction t with
 | eU p=>
   intro _ pre post q hq hm;refine W.sh ?_;show W (λN=>iQ N (iN N) _ _) _;simp only[iQ,iF pre _ _ q hq hm,g1,g2,ba,Option.bind_some,show((1:Int)==1)=true from rfl,cond_true,W.ret];exact⟨rfl,ox,ox,by simp,λi hi=>Kr _ i⟩
 | leaf p=>
   intro hp pre post q hq hm;refine W.sh ?_;show W (λN=>iQ N (iN N) _ _) _;obtain⟨m,hm1⟩:∃m:Nat,p=(m:Int):=⟨p.toNat,by have:=hp.1;omega⟩
   subst hm1;have hp2:=hp.2;have h32:m<32:=by omega
   simp only[iQ,iF pre _ _ q hq hm,g1,g2,ba,Option.bind_some,show((2:Int)==1)=false from rfl,show((2:Int)==2)=true from rfl,cond_true,cond_false,show leB 0 (m:Int)=true from a8.2 (by omega),show aj (m:Int) 32=true from bJ.2 (by omega),iD _ h32 false,W.ret];have hb:R3 (ah.set (ah.c false) (m:Int) true) λi=>decide ((m:Int)=(i:Int)):=λi hi=>by
    rw[Rl ox h32 true i hi];show(if i=m then true else false)=decide ((m:Int)=(i:Int));by_cases h:i=m
    ·rw[if_pos h,decide_eq_true (by omega)]
    ·rw[if_neg h,decide_eq_false (by omega)]
   exact⟨rfl,hb,hb,by simp,λi hi=>Kr _ i⟩
 | loop p a ih=>
   intro hp pre post q hq hm;refine W.sh ?_;show W (λN=>iQ N (iN N) _ _) _;have hlen:=Cg pre _ _ hm;simp only[iQ,iF pre _ _ q hq hm,g1,g2,ba,Option.bind_some,show((5:Int)==1)=false from rfl,show((5:Int)==2)=false from rfl,show((5:Int) != 5)=false from rfl,cond_false,show ae (q+1)=true from bA.2 (by omega)];refine W.call (ih hp (pre++[⟨5,p⟩]) post (q+1) (by simp;omega) (by rw[hm];simp[CT.fl])) λr hr=>?_;exact Ec hn (p:=λN=>iN N) hr hr (λi j=>by rw[decide_eq_true (by decide),Bool.true_and,Bool.or_self];rfl) (.inr ⟨by decide,by rw[Bool.or_self];rfl,λi=>by rw[Bool.or_self];rfl,λi=>by rw[Bool.or_self];rfl⟩)
 | or p a b iha ihb=>
   intro hp pre post q hq hm;refine W.sh ?_;show W (λN=>iQ N (iN N) _ _) _;have hlen:=Cg pre _ _ hm;have h1:c.Nodes=(pre++[⟨4,p⟩])++(a.fl++(b.fl++post)):=by rw[hm];simp[CT.fl]
   have hsz:=Hx h1 (by omega);rw[show((pre++[(⟨4,p⟩:ai)]).length:Int)=q+1 by simp;omega]at hsz;have hla:=Q8 a;simp only[iQ,iF pre _ _ q hq hm,g1,g2,ba,Option.bind_some,show((4:Int)==1)=false from rfl,show((4:Int)==2)=false from rfl,show((4:Int) != 5)=true from rfl,cond_true,cond_false,show ae (q+1)=true from bA.2 (by omega),fO];refine W.call (iha hp.1 (pre++[⟨4,p⟩]) (b.fl++post) (q+1) (by simp;omega) h1) λr hr=>?_;refine W.call hsz ?_;rintro _ rfl;rw[W.gd];refine⟨bA.2 (by simp at hlen;omega),?_⟩;refine W.call (ihb hp.2 (pre++[⟨4,p⟩]++a.fl) post (q+1+(a.fl.length:Int)) (by simp;omega) (by rw[hm];simp[CT.fl])) λu hu=>?_;exact Ec hn (p:=λN=>iN N) hr hu (λi j=>by rw[decide_eq_false (by decide),Bool.false_and,Bool.or_false];rfl) (.inr ⟨by decide,rfl,λi=>rfl,λi=>rfl⟩)
 | cat p a b iha ihb=>
   intro hp pre post q hq hm;refine W.sh ?_;show W (λN=>iQ N (iN N) _ _) _;have hlen:=Cg pre _ _ hm;have h1:c.Nodes=(pre++[⟨3,p⟩])++(a.fl++(b.fl++post)):=by rw[hm];simp[CT.fl]
   have hsz:=Hx h1 (by omega);rw[show((pre++[(⟨3,p⟩:ai)]).length:Int)=q+1 by simp;omega]at hsz;simp only[iQ,iF pre _ _ q hq hm,g1,g2,ba,Option.bind_some,show((3:Int)==1)=false from rfl,show((3:Int)==2)=false from rfl,show((3:Int) != 5)=true from rfl,cond_true,cond_false,show ae (q+1)=true from bA.2 (by omega),fO];refine W.call (iha hp.1 (pre++[⟨3,p⟩]) (b.fl++post) (q+1) (by simp;omega) h1) λr hr=>?_;refine W.call hsz ?_;rintro _ rfl;rw[W.gd];refine⟨bA.2 (by simp at hlen;omega),?_⟩;refine W.call (ihb hp.2 (pre++[⟨3,p⟩]++a.fl) post (q+1+(a.fl.length:Int)) (by simp;omega) (by rw[hm];simp[CT.fl])) λu hu=>?_;exact Ec hn (p:=λN=>iN N) hr hu (λi j=>by rw[decide_eq_true (by decide),Bool.true_and,Bool.or_assoc];rfl) (.inl ⟨rfl,rfl,λi=>rfl,λi=>rfl⟩)
theorem afJ (c:bc) (hl:c.Nodes.length<=1000000):W (λN=>zP N c) (·=fG c):=by
 unfold zP fG;refine W.call (QF c hl) ?_;rintro _ rfl;cases hf:ly c
 ·exact W.ret.2 rfl
 simp only[Bool.not_true,cond_false,Bool.true_and];by_cases h2:24<c.Places.length
 ·have:Nat.ble c.Places.length 24=false:=by
   cases h:Nat.ble c.Places.length 24 with
   | false=>rfl
   | true=>have:=Nat.le_of_ble_eq_true h;omega
  simp only[show aj 24 (c.Places.length:Int)=true from bJ.2 (by omega),cond_true,this,Bool.false_and,W.ret]
 simp only[show aj 24 (c.Places.length:Int)=false from dg.2 (by omega),cond_false,show Nat.ble c.Places.length 24=true from Nat.ble_eq_true_of_le (by omega),Bool.true_and];have bad:∀i k,∀a b:ai,i<k->c.Nodes[i]?=some a->c.Nodes[k]?=some b->a.Kind=2->b.Kind=2->a.Place=b.Place->decide (c.Nodes.Pairwise ke)=false:=λi k a b hik h1 h2 a2 b2 he=>by
  refine decide_eq_false λhp=>?_;obtain⟨q1,rfl⟩:=List.getElem?_eq_some_iff.1 h1;obtain⟨q2,rfl⟩:=List.getElem?_eq_some_iff.1 h2;exact List.pairwise_iff_getElem.1 hp i k q1 q2 hik a2 b2 he
 refine W.bj (λ(i:Int)=>∃k:Nat,i=(k:Int)/\k<=c.Nodes.length/\∀x y a b,x<y->y<k->c.Nodes[x]?=some a->c.Nodes[y]?=some b->ke a b) (λ(i:Int)=>(c.Nodes.length-i).toNat) ⟨0,rfl,by omega,λx y a b h1 h2=>by omega⟩ ?_;rintro F i ⟨k,rfl,h0,h1⟩ hn;unfold Gg;rw[bV,W.cond];refine⟨λh=>?_,λh=>?_⟩
 ·have hk:=of_decide_eq_true h;obtain⟨e,e1,e2⟩:=iE (l:=c.Nodes) (i:=(k:Int)) (by omega) (by omega);have e2:c.Nodes[k]?=some e:=by simpa using e2
  refine W.bj (λ(j:Int)=>∃m:Nat,j=(m:Int)/\m<=k/\∀x a,x<m->c.Nodes[x]?=some a->ke a e) (λ(j:Int)=>(k-j).toNat) ⟨0,rfl,by omega,λx a h=>by omega⟩ ?_;rintro G j ⟨m,rfl,m0,m1⟩ hm;unfold Gh;rw[bV,W.cond];refine⟨λh=>?_,λh=>?_⟩
  ·have hmk:=of_decide_eq_true h;obtain⟨a,a1,a2⟩:=iE (l:=c.Nodes) (i:=(m:Int)) (by omega) (by omega);have a2:c.Nodes[m]?=some a:=by simpa using a2
   have i1:ae ((m:Int)+1)=true:=bA.2 (by omega);have nx:ke a e->W (λp=>G p ((m:Int)+1)) (·=decide (c.Nodes.Pairwise ke)):=λhh=>hm _ ⟨m+1,by omega,by omega,λx b hx hb=>by
    by_cases hxm:x=m
    ·subst hxm;rw[a2]at hb;cases hb;exact hh
    ·exact m1 x b (by omega) hb⟩ (by omega)
   simp only[e1,a1,Option.bind_some,i1,ba];rw[W.cond];refine⟨λh2=>?_,λh2=>nx λ_ h3=>by rw[h3]at h2;cases h2⟩;rw[W.cond];refine⟨λh3=>?_,λh3=>nx λh4 _=>by rw[h4]at h3;cases h3⟩;rw[W.cond];refine⟨λh4=>?_,λh4=>nx λ_ _ h5=>by rw[h5]at h4;simp at h4⟩;exact W.ret.2 (bad m k a e hmk a2 e2 (by simpa using h3) (by simpa using h2) (by simpa using h4:e.Place=a.Place).symm).symm
  ·have hmk:m=k:=by have:=of_decide_eq_false h;omega
   subst hmk;rw[W.gd];refine⟨bA.2 (by omega),(hn _ ⟨m+1,by omega,hk,λx y a b hxy hy h1' h2'=>?_⟩ (by omega)).lift⟩;by_cases hym:y=m
   ·subst hym;rw[e2]at h2';cases h2';exact m1 x a hxy h1'
   ·exact h1 x y a b hxy (by omega) h1' h2'
 ·have hk:k=c.Nodes.length:=by have:=of_decide_eq_false h;omega
  subst hk;refine W.ret.2 (decide_eq_true (List.pairwise_iff_getElem.2 λi j hi hj hij=>?_)).symm;exact h1 i j _ _ hij hj (List.getElem?_eq_getElem hi) (List.getElem?_eq_getElem hj)
theorem ON (c:bc) (hl:c.Nodes.length<=1000000):W (λN=>zq N c) (λr=>(fG c=false/\r.2=2)\/fG c=true/\r.2=0/\∀t:CT,c.Nodes=t.fl->t.lv c.Places.length->gm c.Places.length t r.1):=by
 unfold zq;refine W.call (afJ c hl) ?_;rintro _ rfl;cases hf:fG c
 ·exact W.ret.2 (.inl ⟨rfl,rfl⟩)
 obtain⟨h3,h1,t,ht,hlv⟩:=tF hf;simp only[Bool.not_true,cond_false];refine W.call (f:=λN=>GX N c 0) (Xm h3 (by omega) t hlv [] [] 0 rfl (by rw[ht];simp)) λr hr=>?_;rw[W.ret];refine .inr ⟨trivial,rfl,λt' ht' _=>?_⟩;obtain rfl:t=t':=(Rv t t' [] [] (by rw[<- ht,<- ht'])).1;exact hr
section
theorem mh {α:Type} [DecidableEq α]:∀(l m:List α),l.Nodup->(∀x∈l,x∈m)->l.length<=m.length
 | [],m,_,_=>Nat.zero_le _
 | x::l,m,h,hs=>by
   have hx:x∈m:=hs x (by simp);obtain⟨h1,h2⟩:=List.nodup_cons.1 h;have:=mh l (m.erase x) h2 λy hy=>(List.mem_erase_of_ne (λe=>h1 (by rw[<- e];exact hy))).2 (hs y (by simp[hy]));rw[List.length_erase_of_mem hx]at this;have hp:0<m.length:=List.length_pos_of_mem hx;simp;omega
section
variable (n:Nat) (X:Nat->Nat->Bool) (G:Nat->Bool)
def dw (R:Nat->Bool) (kk m:Nat):Bool:=(List.range kk).any (λk=>R k&&X k m)&&(decide (m<n)&&G m)
theorem ahC (R:Nat->Bool) (kk m:Nat):dw n X G R (kk+1) m=(dw n X G R kk m||((R kk&&X kk m)&&(decide (m<n)&&G m))):=by
 unfold dw;rw[List.range_succ,List.any_append];simp only[List.any_cons,List.any_nil,Bool.or_false];rw[Bool.and_or_distrib_right]
def Rk (a:Nat):Nat->Nat->Bool
 | 0=>λm=>decide (m=a)
 | k+1=>dw n X G (Rk a k) n
theorem HP {a k i j:Nat} (h:Rk n X G a k i=true) (hi:i<n) (hx:X i j=true) (hj:j<n) (hg:G j=true):Rk n X G a (k+1) j=true:=by
 show dw n X G (Rk n X G a k) n j=true;unfold dw;rw[decide_eq_true hj,hg,Bool.and_eq_true,List.any_eq_true];exact⟨⟨i,List.mem_range.2 hi,by rw[h,hx];rfl⟩,rfl⟩
theorem tW {a k j:Nat} (h:Rk n X G a (k+1) j=true):j<n/\G j=true/\∃i,i<n/\Rk n X G a k i=true/\X i j=true:=by
 have h:dw n X G (Rk n X G a k) n j=true:=h;unfold dw at h;rw[Bool.and_eq_true,Bool.and_eq_true,List.any_eq_true]at h;obtain⟨⟨i,h1,h2⟩,h3,h4⟩:=h;rw[Bool.and_eq_true]at h2;exact⟨of_decide_eq_true h3,h4,i,List.mem_range.1 h1,h2.1,h2.2⟩
theorem circle {L:Nat->Bool} {i0:Nat} (h0:L i0=true) (hL:∀i,L i=true->i<n/\G i=true) (hs:∀i,L i=true->∃j,X i j=true/\L j=true):∃i L0,i<n/\G i=true/\1<=L0/\L0<=n/\Rk n X G i L0 i=true:=by
 obtain⟨g,hg⟩:∃g:Nat->Nat,∀i,L i=true->X i (g i)=true/\L (g i)=true:=
  ⟨λi=>if h:L i=true then(hs i h).choose else 0,λi h=>by simp only[dif_pos h];exact(hs i h).choose_spec⟩
 let it:Nat->Nat:=λk=>Nat.rec i0 (λ_ x=>g x) k
 have hit:∀k,L (it k)=true:=λk=>by
  induction k with
  | zero=>exact h0
  | succ k ih=>exact(hg _ ih).2
 have walk:∀a d,Rk n X G (it a) d (it (a+d))=true:=λa d=>by
  induction d with
  | zero=>exact decide_eq_true rfl
  | succ d ih=>exact HP n X G ih (hL _ (hit _)).1 (hg _ (hit _)).1 (hL _ (hit (a+d+1))).1 (hL _ (hit (a+d+1))).2
 obtain⟨a,b,hab,hb,he⟩:∃a b,a<b/\b<=n/\it a=it b:=by
  apply Classical.byContradiction;intro hc;have hn:((List.range (n+1)).map it).Nodup:=by
   rw[List.Nodup,List.pairwise_iff_getElem];intro i j hi hj hij e;simp only[List.getElem_map,List.getElem_range]at e;simp at hj;exact hc ⟨i,j,hij,by omega,e⟩
  have:=mh _ (List.range n) hn λx hx=>by
   obtain⟨k,_,rfl⟩:=List.mem_map.1 hx;exact List.mem_range.2 (hL _ (hit k)).1
  rw[List.length_map,List.length_range,List.length_range]at this;omega
 have:=walk a (b-a);rw[show a+(b-a)=b by omega,<- he]at this;exact⟨it a,b-a,(hL _ (hit a)).1,(hL _ (hit a)).2,by omega,by omega,this⟩
def jS (a:Nat):Bool:=(List.range (n+1)).any λi=>Rk n X G a (i+1) a
end
theorem ajW {c:bc} {t:CT} {s:bH} (hn:c.Places.length<=24) (hs:gm c.Places.length t s) {a:Nat} (ha:a<c.Places.length):W (λN=>s9 N c s (a:Int)) (·=jS c.Places.length t.nx (br c.Places) a):=by
 generalize hnn:c.Places.length=n at *;have ha32:a<32:=by omega
 unfold s9;simp only[show leB 0 (a:Int)=true from a8.2 (by omega),show aj (a:Int) 32=true from bJ.2 (by omega),ba,iD _ ha32 false,Option.bind_some];refine W.lp2 (λ(i:Int) y=>∃k:Nat,i=(k:Int)/\k<=n+1/\R3 y (Rk n t.nx (br c.Places) a k)/\∀j,j<k->Rk n t.nx (br c.Places) a (j+1) a=false) (λ(i:Int) _=>(n+1-i).toNat) ⟨0,rfl,by omega,λi hi=>?_,λj hj=>by omega⟩ ?_
 ·rw[Rl ox ha32 true i hi];show(if i=a then true else false)=decide (i=a);by_cases h:i=a<;>simp[h]
 rintro F i y ⟨k,rfl,k0,k1,k2⟩ hg;unfold Gi;rw[hnn,W.cond];refine⟨λh=>?_,λh=>?_⟩
 rotate_left
 ·have h:=dz.1 h;refine W.ret.2 ?_;unfold jS
  symm
  rw[List.any_eq_false];intro j hj;have:=List.mem_range.1 hj;rw[k2 j (by omega)];decide
 have hk:=a8.1 h;refine W.lp2 (λ(x:Int) y=>∃kk:Nat,x=(kk:Int)/\kk<=n/\R3 y (dw n t.nx (br c.Places) (Rk n t.nx (br c.Places) a k) kk)) (λ(x:Int) _=>(n-x).toNat) ⟨0,rfl,by omega,λi hi=>by rw[ox i hi];simp[dw]⟩ ?_;rintro G x ew ⟨kk,rfl,q0,q1⟩ hm;unfold Gj;rw[hnn,bV,W.cond];refine⟨λh=>?_,λh=>?_⟩
 rotate_left
 ·have hkk:kk=n:=by have:=of_decide_eq_false h;omega
  subst hkk;simp only[show leB 0 (a:Int)=true from a8.2 (by omega),show aj (a:Int) 32=true from bJ.2 (by omega),ba,iD _ ha32 false,Option.bind_some];have hv:(ah.l ew).getD a false=Rk kk t.nx (br c.Places) a (k+1) a:=q1 a ha32;rw[hv];cases hr:Rk kk t.nx (br c.Places) a (k+1) a
  ·simp only[cond_false];rw[W.gd];refine⟨bA.2 (by omega),(hg _ _ ⟨k+1,by omega,by omega,q1,λj hj=>?_⟩ (by omega)).lift⟩;by_cases hjk:j=k
   ·subst hjk;exact hr
   ·exact k2 j (by omega)
  ·refine W.ret.2 ?_;unfold jS
   symm
   rw[List.any_eq_true];exact⟨k,List.mem_range.2 (by omega),hr⟩
 have hkk:=of_decide_eq_true h;refine W.lp2 (λ(z:Int) y=>∃m:Nat,z=(m:Int)/\m<=n/\∀j,j<32->(ah.l y).getD j false=if j<m then dw n t.nx (br c.Places) (Rk n t.nx (br c.Places) a k) (kk+1) j else dw n t.nx (br c.Places) (Rk n t.nx (br c.Places) a k) kk j) (λ(z:Int) _=>(n-z).toNat) ⟨0,rfl,by omega,λj hj=>by rw[if_neg (by omega)];exact q1 j hj⟩ ?_;rintro H z cK ⟨m,rfl,p0,p1⟩ hz;unfold Gk;rw[hnn,bV,W.cond];refine⟨λh=>?_,λh=>?_⟩
 rotate_left
 ·have hmn:m=n:=by have:=of_decide_eq_false h;omega
  subst hmn;rw[W.gd];refine⟨bA.2 (by omega),(hm _ _ ⟨kk+1,by omega,by omega,λj hj=>?_⟩ (by omega)).lift⟩;rw[p1 j hj];by_cases hj2:j<m
  ·rw[if_pos hj2]
  ·rw[if_neg hj2];unfold dw;rw[decide_eq_false hj2,Bool.false_and,Bool.and_false,Bool.and_false]
 have hmn:=of_decide_eq_true h;have gz:m<32:=by omega
 have JP:kk<32:=by omega
 obtain⟨p,e1,e2⟩:=iE (l:=c.Places) (i:=(m:Int)) (by omega) (by omega);have hp:br c.Places m=p.Neg:=by unfold br;rw[show c.Places[m]?=some p by simpa using e2]
 have hv:=p1 m gz;rw[if_neg (by omega)]at hv;have nx:∀v:Bool,v=dw n t.nx (br c.Places) (Rk n t.nx (br c.Places) a k) (kk+1) m->W (λq=>H q ((m:Int)+1) (ah.set cK (m:Int) v)) (·=jS n t.nx (br c.Places) a):=λv hv=>hz _ _ ⟨m+1,by omega,hmn,λj hj=>by
  rw[H9,kH _ _ _ _ _ (show m<(ah.l cK).length from gz),p1 j hj];by_cases hjm:j=m
  ·subst hjm;rw[if_pos rfl,if_pos (by omega),hv]
  ·rw[if_neg hjm];by_cases hlt:j<m
   ·rw[if_pos hlt,if_pos (by omega)]
   ·rw[if_neg hlt,if_neg (by omega)]⟩ (by omega)
 have i1:ae ((m:Int)+1)=true:=bA.2 (by omega);simp only[show leB 0 (m:Int)=true from a8.2 (by omega),show aj (m:Int) 32=true from bJ.2 (by omega),show leB 0 (kk:Int)=true from a8.2 (by omega),show aj (kk:Int) 32=true from bJ.2 (by omega),ba,iD _ gz false,iD _ JP false,Option.bind_some,i1,e1,hv,k1 kk JP,mY (show kk<s.Next.length by rw[hs.len];exact hkk) (ah.c false),hs.nx kk hkk m gz];rw[ahC,decide_eq_true hmn,Bool.true_and,hp]at nx;cases h1:dw n t.nx (br c.Places) (Rk n t.nx (br c.Places) a k) kk m
 ·rw[h1]at nx;cases h2:Rk n t.nx (br c.Places) a k kk
  ·rw[h2]at nx;exact nx _ rfl
  ·rw[h2]at nx;cases h3:t.nx kk m
   ·rw[h3]at nx;exact nx _ rfl
   ·rw[h3]at nx;exact nx _ (by simp)
 ·rw[h1]at nx;exact nx _ rfl
theorem aiH {n:Nat} {y:List ai} {y2:List aA} {y3:Int} {y4:List UInt8} {y5:Int} {y6:Bool} {y7 y8:Int} {y9:List Int} {bl:Int} {X:Nat->Nat->Bool} {G:Nat->Bool} (hn:n<=24) (hy:y2.length=n) (h9:ie n y9) (h10:u32 bl)
 (hX:∀i,i<n->∀j,nb y9 i j=X i j) (hG:∀i,aK bl i=true↔i<n/\G i=true):
 W (λN=>xI N y y2 y3 y4 y5 y6 y7 y8 y9 bl) (λr=>r.2=(y,y2,y3,y4,y5,y6,y7,y8,y9,bl)/\(r.1=true↔∃i,i<n/\G i=true/\jS n X G i=true)):=by
 have front:∀k a m,Rk n X G a (k+1) m=true->∃j,X a j=true/\j<n/\G j=true/\Rk n X G j k m=true:=λk=>by
  induction k with
  | zero=>
    intro a m h;obtain⟨h1,h2,i,h3,h4,h5⟩:=tW n X G h;have hia:i=a:=of_decide_eq_true h4;subst hia;exact⟨m,h5,h1,h2,decide_eq_true rfl⟩
  | succ k ih=>
    intro a m h;obtain⟨h1,h2,i,h3,h4,h5⟩:=tW n X G h;obtain⟨j,j1,j2,j3,j4⟩:=ih a i h4;exact⟨j,j1,j2,j3,HP n X G j4 h3 h5 h1 h2⟩
 have stay:∀l:Int,(∀i L0,Rk n X G i (L0+1) i=true->aK l i=true)->∀i L0,Rk n X G i (L0+1) i=true->∃j,X i j=true/\aK l j=true:=λl hl i L0 h=>by
  obtain⟨j,j1,j2,j3,j4⟩:=front L0 i i h;exact⟨j,j1,hl j L0 (HP n X G j4 (tW n X G h).1 j1 j2 j3)⟩
 have none:∀l:Int,l=0->(∀i L0,Rk n X G i (L0+1) i=true->aK l i=true)->¬ ∃i,i<n/\G i=true/\jS n X G i=true:=λl hl hc ⟨i,_,_,hb⟩=>by
  obtain⟨k,_,hk⟩:=List.any_eq_true.1 hb;have:=hc i k hk;rw[hl,eI.2]at this;cases this
 unfold xI;refine W.lp2 (λl ch=>u32 l/\(∀i,aK l i=true->aK bl i=true)/\(∀i L0,Rk n X G i (L0+1) i=true->aK l i=true)/\(ch=false->∀i,aK l i=true->∃j,X i j=true/\aK l j=true)) (λl c=>2*cn l+(if c then 1 else 0)) ⟨h10,λ_ h=>h,λi L0 h=>(hG i).2 ⟨(tW n X G h).1,(tW n X G h).2.1⟩,(λh=>by cases h)⟩ ?_;rintro F left ch ⟨hl,hsub,hcy,hend⟩ hn1;unfold E9;rw[W.cond];refine⟨λhc=>?_,λhc=>?_⟩
 rotate_left
 ·
  refine W.ret.2 ⟨rfl,?_⟩;by_cases h0:left=0
  ·rw[show(left != 0)=false by simpa using h0];exact⟨(λh=>by cases h),λh=>absurd h (none left h0 hcy)⟩
  ·refine⟨λ_=>?_,λ_=>by simpa using h0⟩;obtain⟨i0,hi0⟩:∃i,aK left i=true:=by
    apply Classical.byContradiction;intro hh;exact h0 (wj hl eI.1 λi=>by
     rw[eI.2];cases hv:aK left i with
     | false=>rfl
     | true=>exact absurd ⟨i,hv⟩ hh)
   obtain⟨i,L0,a1,a2,a3,a4,a5⟩:=circle n X G (L:=aK left) hi0 (λi hi=>(hG i).1 (hsub i hi)) (hend hc);exact⟨i,a1,a2,List.any_eq_true.2 ⟨L0-1,List.mem_range.2 (by omega),by rw[show L0-1+1=L0 by omega];exact a5⟩⟩
 subst hc;rw[W.cond];refine⟨λhne=>?_,λh0=>?_⟩
 rotate_left
 ·have h0:left=0:=by simpa using h0
  refine W.ret.2 ⟨rfl,?_⟩;rw[show(left != 0)=false by simpa using h0];exact⟨(λh=>by cases h),λh=>absurd h (none left h0 hcy)⟩
 rw[hy];refine W.ce (λl c x=>∃i:Nat,x=(i:Int)/\i<=n/\u32 l/\(∀j,aK l j=true->aK left j=true)/\(c=true->cn l<cn left)/\(c=false->l=left)/\(∀i L0,Rk n X G i (L0+1) i=true->aK l i=true)/\(c=false->∀k,k<i->aK l k=true->∃j,X k j=true/\aK l j=true)) (λ_ _ x=>(n-x).toNat) ⟨0,rfl,by omega,hl,λ_ h=>h,(λh=>by cases h),λ_=>rfl,hcy,λ_ k hk=>by omega⟩ ?_;rintro H l c x ⟨i,rfl,i0,p1,p2,p3,p4,p5,p6⟩ hm;unfold Fa;rw[bV,W.cond];refine⟨λhi=>?_,λhi=>?_⟩
 rotate_left
 ·have hi:i=n:=by have:=of_decide_eq_false hi;omega
  refine(hn1 l c ⟨p1,λj hj=>hsub j (p2 j hj),p5,λhc k hk=>p6 hc k ?_ hk⟩ ?_).lift
  ·have:=(hG k).1 (hsub k (p2 k hk));omega
  ·cases c with
   | true=>have:=p3 rfl;simp;omega
   | false=>rw[p4 rfl];simp
 have hi:=of_decide_eq_true hi;simp only[oG p1,Option.bind_some];have i1:ae ((i:Int)+1)=true:=bA.2 (by omega);simp only[i1,ba];rw[W.cond];refine⟨λht=>?_,λht=>hm _ _ _ ⟨i+1,by omega,hi,p1,p2,p3,p4,p5,λhc k hk hks=>?_⟩ (by omega)⟩
 ·obtain⟨e,h2,h3⟩:=Iq h9 hi;have he:∀j,aK e j=X i j:=λj=>by
   have:=hX i hi j;unfold nb at this;rw[fm']at h2;rw[List.getD,h2]at this;exact this
  have hand:=KE h3 p1;simp only[h2,Option.bind_some];rw[W.cond];refine⟨λhz=>?_,λhz=>?_⟩
  ·have hz:bI .u32 e l=0:=by simpa using hz
   rw[W.gd];refine⟨a8.2 (by omega),?_⟩;have hb:=wl (i:=i) (by omega);obtain⟨q1,q2⟩:=ajP p1 hb.1;have sub:∀j,aK (oC .u32 l (IntKind.u32.wrap (1*2^(min (Int.toNat (i:Int)) (IntKind.u32.bits))))) j=true->aK l j=true:=λj hj=>by rw[q2]at hj;simp only[Bool.and_eq_true]at hj;exact hj.1
   refine hm _ _ _ ⟨i+1,by omega,hi,q1,λj hj=>p2 j (sub j hj),λ_=>?_,(λh=>by cases h),λa L0 ha=>?_,(λh=>by cases h)⟩ (by omega)
   ·have lt:=Tv sub (i:=i) (by omega) (by rw[q2,hb.2];simp) ht;cases c with
    | true=>exact Nat.lt_trans lt (p3 rfl)
    | false=>rw[p4 rfl]at lt ⊢;exact lt
   ·rw[q2,hb.2,p5 a L0 ha];by_cases hai:i=a
    ·subst hai;obtain⟨j,j1,j2⟩:=stay l p5 i L0 ha;have:=hand.2 j;rw[hz,eI.2,he,j1,j2]at this;cases this
    ·rw[decide_eq_false hai];rfl
  ·refine hm _ _ _ ⟨i+1,by omega,hi,p1,p2,p3,p4,p5,λhc k hk hks=>?_⟩ (by omega);by_cases hki:k=i
   ·subst hki;have hz:¬bI .u32 e l=0:=by simpa using hz
    apply Classical.byContradiction;intro hh;refine hz (wj hand.1 eI.1 λj=>?_);rw[hand.2,eI.2,he];cases h1:X k j
    ·rfl
    ·cases h2:aK l j
     ·rfl
     ·exact absurd ⟨j,h1,h2⟩ hh
   ·exact p6 hc k (by omega) hks
 ·by_cases hki:k=i
  ·subst hki;rw[ht]at hks;cases hks
  ·exact p6 hc k (by omega) hks
end
theorem La {k:Nat} (hk:k<32):W (λN=>th N (k:Int)) (·=ob k):=by
 unfold th;refine W.lp2 (λ(u i:Int)=>∃j:Nat,i=(j:Int)/\j<=k/\u=((2^j:Nat):Int)) (λ(_ i:Int)=>(k-i).toNat) ⟨0,rfl,by omega,rfl⟩ ?_;rintro F u i ⟨j,rfl,h1,rfl⟩ hn;unfold Gp;rw[bV,W.cond];refine⟨λh=>?_,λh=>?_⟩
 ·have hj:=of_decide_eq_true h;rw[W.gd];have hp:2^(j+1)<=2^31:=Nat.pow_le_pow_right (by decide) (by omega);refine⟨bA.2 (by omega),hn _ _ ⟨j+1,by omega,by omega,?_⟩ (by omega)⟩;rw[Nat.pow_succ]at hp ⊢;rw[IntKind.wrap_u32];omega
 ·have hj:j=k:=by have:=of_decide_eq_false h;omega
  subst hj;exact W.ret.2 rfl
theorem Xd {k:Nat} (hk:k<32) {S:Int} (hS:u32 S):W (λN=>zW N S (k:Int)) (·=aK S k):=by
 unfold zW;refine W.call (La hk) ?_;rintro _ rfl;obtain⟨m,rfl,hm⟩:=iM hS;have hp:0<2^k:=Nat.pow_pos (by decide);rw[W.gd,W.ret];have hz:ob k≠0:=λe=>by
  have e:2^k=0:=Int.natCast_eq_zero.1 e;omega
 refine⟨bne_iff_ne.2 hz,?_⟩;unfold aK ob;rw[Int.toNat_natCast,show Int.tdiv (m:Int) ((2^k:Nat):Int)=((m/2^k:Nat):Int)from rfl,pu (Nat.lt_of_le_of_lt (Nat.div_le_self _ _) hm),show(2:Int)=((2:Nat):Int)from rfl,show Int.tmod ((m/2^k:Nat):Int) ((2:Nat):Int)=((m/2^k%2:Nat):Int)from rfl,Nat.testBit_eq_decide_div_mod_eq];generalize m/2^k%2=r;by_cases h:r=1
 ·rw[h,decide_eq_true rfl];rfl
 ·rw[decide_eq_false h];exact beq_eq_false_iff_ne.2 (by omega)
theorem ai1 {m k:Nat} (h:m.testBit k=false):m+2^k=m ||| 2^k:=by
 have hd:=Nat.div_add_mod m (2^(k+1));have hl:m%2^(k+1)<2^k:=by
  rw[Nat.testBit_eq_decide_div_mod_eq]at h;have h:=of_decide_eq_false h;have hp:0<2^k:=Nat.pow_pos (by decide);have e:m%2^(k+1)/2^k=m/2^k%2:=by
   rw[Nat.pow_succ];exact Nat.mod_mul_right_div_self m (2^k) 2
  have h0:m%2^(k+1)/2^k=0:=by omega
  exact(Nat.div_eq_zero_iff_lt hp).1 h0
 generalize m/2^(k+1)=a at hd;generalize m%2^(k+1)=b at hd hl;have h1:a <<< (k+1)=2^(k+1)*a:=by rw[Nat.shiftLeft_eq,Nat.mul_comm]
 have h2:2^k+b=2^k ||| b:=Nat.two_pow_add_eq_or_of_lt hl a |> λ_=>by
  have:=Nat.shiftLeft_add_eq_or_of_lt hl 1
  rwa [Nat.shiftLeft_eq,Nat.one_mul]at this
 have h3:a <<< (k+1)+b=a <<< (k+1) ||| b:=Nat.shiftLeft_add_eq_or_of_lt (by rw[Nat.pow_succ];omega) a;have h4:a <<< (k+1)+(2^k+b)=a <<< (k+1) ||| (2^k+b):=Nat.shiftLeft_add_eq_or_of_lt (by rw[Nat.pow_succ];omega) a;rw[<- hd,<- h1]
 calc a <<< (k+1)+b+2^k=a <<< (k+1)+(2^k+b):=by omega
  _=a <<< (k+1) ||| (2^k ||| b):=by rw[h4,h2]
  _=(a <<< (k+1)+b) ||| 2^k:=by rw[h3,Nat.or_assoc,Nat.or_comm b]
theorem ahH {k:Nat} (hk:k<32) {S:Int} (hS:u32 S) (h:aK S k=false):IntKind.u32.wrap (S+ob k)=bE .u32 S (ob k):=by
 obtain⟨m,rfl,hm⟩:=iM hS;have hb:=(lL hk).1;have h:m.testBit k=false:=h;have hlt:2^k<4294967296:=by have:=hb.2;unfold ob at this;omega
 unfold ob;rw[o32 hm hlt,<- Int.natCast_add,ai1 h];refine pu ?_;exact Nat.or_lt_two_pow (n:=32) hm hlt
theorem WF {k:Nat} (hk:k<32) {S:Int} (hS:u32 S) (h:aK S k=true):S=bE .u32 S (ob k):=by
 have hb:=lL hk;have ho:=gH hS hb.1;refine wj hS ho.1 λi=>?_;rw[ho.2,hb.2];by_cases hi:k=i
 ·subst hi;rw[h,Bool.true_or]
 ·rw[decide_eq_false hi,Bool.or_false]
abbrev da (z:bg):Int×Int:=(z.at_,z.cu)
theorem ajc {l:List bg} {z:bg} (hl:l.length<=1000000):W (λN=>pI N l z) (·=decide (da z∈l.map da)):=by
 unfold pI;refine wf1 (l:=l) (λpre=>da z ∉ pre.map da) [] rfl rfl (by omega) (by simp) ?_ ?_
 ·intro F pre e rest hl' h1 h2 h3 hp hn;unfold yp;simp only[h1,h2,h3,cond_true,Option.bind_some,ba];rw[W.cond];refine⟨λh=>?_,λh=>hn ?_⟩
  ·rw[Bool.and_eq_true,beq_iff_eq,beq_iff_eq]at h;refine W.ret.2 (decide_eq_true ?_).symm;rw[hl'];exact List.mem_map.2 ⟨e,by simp,by show(e.at_,e.cu)=(z.at_,z.cu);rw[h.1,h.2]⟩
  ·rw[List.map_append,List.mem_append];rintro(hh|hh)
   ·exact hp hh
   ·simp only[List.map_cons,List.map_nil,List.mem_singleton,Prod.mk.injEq]at hh;rw[hh.1,hh.2]at h;simp at h
 ·intro F h1 hp;unfold yp;simp only[h1,cond_false];exact W.ret.2 (decide_eq_false hp).symm
structure Stp (n:Nat) (nx:List Int) (ng:Int) (a:Nat) (l:List bg):Prop where
 nd:(l.map da).Nodup
 rc:∀z∈l,∃q:Nat,z.at_=(q:Int)/\Rc n nx ng a q z.cu
 st:da ⟨(a:Int),0⟩∈l.map da
 cl:l.length<=64*n+1->∀z∈l,∀k,k<n->nb nx z.at_.toNat k=true->aK ng k=true->((k:Int),bE .u32 z.cu (ob k))∈l.map da
theorem ajj {c:bc} {t:CT} {s:bH} {n a:Nat} {nx:List Int} {ng:Int} (hc:c.Places.length=n) (hn:n<=24) (hs:gm n t s) (ha:a<n) (hX:∀i,i<n->∀j,nb nx i j=t.nx i j) (hG:∀i,i<n->aK ng i=br c.Places i):
 W (λN=>zr N c s (a:Int)) (Stp n nx ng a):=by
 have many:∀N (cc:bc),cc.Places=c.Places->nS N cc=some ((64*n+1:Nat):Int):=λN cc h=>by
  unfold nS;rw[h,hc,show ae (64*(n:Int))=true from bA.2 (by omega),show ae (64*(n:Int)+1)=true from bA.2 (by omega),ba,ba];congr 1
 unfold zr;refine W.lp2 (λ(i:Int) ys=>∃k:Nat,i=(k:Int)/\(ys.map da).Nodup/\(∀z∈ys,∃q:Nat,z.at_=(q:Int)/\Rc n nx ng a q z.cu)/\da ⟨(a:Int),0⟩∈ys.map da/\ys.length<=65*n+1/\
  ∀j z,j<k->ys[j]?=some z->∀m,m<n->nb nx z.at_.toNat m=true->aK ng m=true->((m:Int),bE .u32 z.cu (ob m))∈ys.map da) (λ(i:Int) _=>(65*n+2-i).toNat)
  ⟨0,rfl,by simp,λz hz=>by rw[List.mem_singleton.1 hz];exact⟨a,rfl,.start⟩,by simp,by simp,λj z hj=>by omega⟩ ?_
 rintro F i ys ⟨k,rfl,k1,k2,k3,k4,k5⟩ hg;have fin:(ys.length<=64*n+1->ys.length<=k)->Stp n nx ng a ys:=λh=>⟨k1,k2,k3,λhl z hz m hm hb hg=>by
  obtain⟨j,hj1⟩:=List.mem_iff_getElem?.1 hz;have hj2:=(List.getElem?_eq_some_iff.1 hj1).1;exact k5 j z (by have:=h hl;omega) hj1 m hm hb hg⟩
 unfold FU;rw[bV,W.cond];refine⟨λh=>?_,λh=>W.ret.2 (fin λ_=>by have:=of_decide_eq_false h;omega)⟩;have hk:=of_decide_eq_true h;simp only[many _ _ rfl,Option.bind_some];rw[show leB (ys.length:Int) ((64*n+1:Nat):Int)=decide (ys.length<=64*n+1) by rw[g6,decide_eq_decide];omega,W.cond];refine⟨λh=>?_,λh=>W.ret.2 (fin λhh=>absurd hh (of_decide_eq_false h))⟩;have hlen:=of_decide_eq_true h;obtain⟨z,z1⟩:∃z,ys[k]?=some z:=⟨ys[k],List.getElem?_eq_getElem hk⟩
 obtain⟨q,q1,q2⟩:=k2 z (List.mem_of_getElem? z1);have j5:=q2.lt ha;have qR:=q2.u hn;refine W.lp2 (λ(x:Int) zs=>∃m:Nat,x=(m:Int)/\m<=n/\(∃ex,zs=ys++ex)/\(zs.map da).Nodup/\(∀z∈zs,∃q:Nat,z.at_=(q:Int)/\Rc n nx ng a q z.cu)/\zs.length<=ys.length+m/\
  ∀j,j<m->nb nx q j=true->aK ng j=true->((j:Int),bE .u32 z.cu (ob j))∈zs.map da) (λ(x:Int) _=>(n-x).toNat) ⟨0,rfl,by omega,⟨[],by simp⟩,k1,k2,by omega,λj hj=>by omega⟩ ?_
 rintro H x zs ⟨m,rfl,m0,⟨ex,m1⟩,m2,m3,m4,m5⟩ hm;have zk:ix zs (k:Int)=some z:=by rw[fm',m1,List.getElem?_append_left hk];exact z1
 unfold FV;rw[hc,bV,W.cond];refine⟨λh=>?_,λh=>?_⟩
 rotate_left
 ·have hmn:m=n:=by have:=of_decide_eq_false h;omega
  subst hmn;have sub:∀p∈ys.map da,p∈zs.map da:=λp hp=>by rw[m1,List.map_append];exact List.mem_append_left _ hp
  rw[W.gd];refine⟨bA.2 (by omega),(hg _ _ ⟨k+1,by omega,m2,m3,sub _ k3,by omega,λj z' hj hz' r hr hb hgr=>?_⟩ (by omega)).lift⟩;have hz'':ys[j]?=some z':=by
   rw[m1,List.getElem?_append_left (by omega)]at hz';exact hz'
  by_cases hjk:j=k
  ·subst hjk;rw[z1]at hz'';cases hz'';rw[q1,Int.toNat_natCast]at hb;exact m5 r hr hb hgr
  ·exact sub _ (k5 j z' (by omega) hz'' r hr hb hgr)
 have hmn:=of_decide_eq_true h;have gz:m<32:=by omega
 obtain⟨p,e1,e2⟩:=iE (l:=c.Places) (i:=(m:Int)) (by omega) (by omega);have hp:br c.Places m=p.Neg:=by unfold br;rw[show c.Places[m]?=some p by simpa using e2]
 have hbit:(ah.l (s.Next.getD q (ah.c false))).getD m false=nb nx q m:=by rw[hs.nx q j5 m gz,hX q j5]
 have i1:ae ((m:Int)+1)=true:=bA.2 (by omega);simp only[zk,Option.bind_some,q1,mY (show q<s.Next.length by rw[hs.len];exact j5) (ah.c false),show leB 0 (m:Int)=true from a8.2 (by omega),show aj (m:Int) 32=true from bJ.2 (by omega),ba,iD _ gz false,hbit,e1,i1];have rB:∀j,j<m+1->j<m\/j=m:=λj h=>by omega
 have skip:(nb nx q m=true->aK ng m=true->((m:Int),bE .u32 z.cu (ob m))∈zs.map da)->W (λp=>H p ((m:Int)+1) zs) (Stp n nx ng a):=λhh=>hm _ _ ⟨m+1,by omega,hmn,⟨ex,m1⟩,m2,m3,by omega,λj hj hb hgj=>by
  rcases rB j hj with h|rfl
  ·exact m5 j h hb hgj
  ·exact hh hb hgj⟩ (by omega)
 rw[W.cond];refine⟨λhb=>?_,λhb=>skip λhb'=>by rw[hb]at hb';cases hb'⟩;rw[W.cond];refine⟨λhgn=>?_,λhgn=>skip λ_ hg'=>by rw[hG m hmn,hp,hgn]at hg';cases hg'⟩;have hgm:aK ng m=true:=by rw[hG m hmn,hp];exact hgn
 have add:∀S,S=bE .u32 z.cu (ob m)->W (λp:(Nat×Nat)×Nat=>(pI p.1.1 zs (bg.mk (m:Int) S)).bind λknow=>bif (!know)then gd (Nat.ble ((List.length zs+1)*16) 140737488355328) (H p ((m:Int)+1) (zs++[(bg.mk (m:Int) S)]))else H p ((m:Int)+1) zs) (Stp n nx ng a):=λS hS=>by
  refine W.call (ajc (by omega)) ?_;rintro _ rfl;by_cases hkn:da ⟨(m:Int),S⟩∈zs.map da
  ·rw[decide_eq_true hkn];simp only[Bool.not_true,cond_false];exact skip λ_ _=>by rw[<- hS];exact hkn
  ·rw[decide_eq_false hkn];simp only[Bool.not_false,cond_true];rw[W.gd];refine⟨Nat.ble_eq_true_of_le (by omega),hm _ _ ⟨m+1,by omega,hmn,⟨ex++[⟨(m:Int),S⟩],by rw[m1];simp⟩,?_,λz' hz'=>?_,by simp;omega,λj hj hb' hgj=>?_⟩ (by omega)⟩
   ·rw[List.map_append,List.Nodup,List.pairwise_append];refine⟨m2,List.pairwise_singleton _ _,λx hx y hy e=>?_⟩;simp only[List.map_cons,List.map_nil,List.mem_singleton]at hy;rw[e,hy]at hx;exact hkn hx
   ·rcases List.mem_append.1 hz' with hz'|hz'
    ·exact m3 z' hz'
    ·rw[List.mem_singleton.1 hz'];exact⟨m,rfl,by rw[hS];exact .step q2 hmn hb hgm⟩
   ·rw[List.map_append,List.mem_append];rcases rB j hj with h|rfl
    ·exact .inl (m5 j h hb' hgj)
    ·exact .inr (by simp[hS])
 refine W.call (Xd gz qR) ?_;rintro _ rfl;cases hh:aK z.cu m
 ·simp only[Bool.not_false,cond_true];refine W.call (La gz) ?_;rintro _ rfl;exact add _ (ahH gz qR hh)
 ·simp only[Bool.not_true,cond_false];exact add _ (WF gz qR hh)
section
theorem p8 {x y:aa}:x=y↔x.To=y.To/\x.aT=y.aT:=by cases x;cases y;simp
instance akh:DecidableEq aa:=λx y=>if h:x.To=y.To/\x.aT=y.aT then .isTrue (p8.2 h)else .isFalse λe=>h (p8.1 e)
def fj (e:aa):List aa->List aa
 | []=>[e]
 | x::r=>bif elt x e then x::fj e r else bif decide (x=e)then x::r else e::x::r
theorem nZ (e x:aa):∀l:List aa,x∈fj e l↔x=e\/x∈l
 | []=>by simp[fj]
 | y::r=>by
   rw[fj];cases elt y e
   ·rw[cond_false];by_cases h:y=e
    ·rw[decide_eq_true h,cond_true,<- h];simp
    ·rw[decide_eq_false h,cond_false];simp
   ·rw[cond_true,List.mem_cons,nZ e x r,List.mem_cons];exact⟨λh=>by rcases h with h|h|h<;>simp[h],λh=>by rcases h with h|h|h<;>simp[h]⟩
theorem Rf {x y z:aa} (h1:elt x y=true) (h2:elt y z=true):elt x z=true:=by
 unfold elt at *;have h1:=of_decide_eq_true h1;have h2:=of_decide_eq_true h2;exact decide_eq_true (by omega)
theorem QM {x:aa} (h:elt x x=true):False:=by
 unfold elt at h;have h:=of_decide_eq_true h;omega
theorem ag0 {x y:aa} (h1:elt x y=false) (h2:x≠y):elt y x=true:=by
 unfold elt at *;have h1:=of_decide_eq_false h1;refine decide_eq_true ?_;have:¬(x.To=y.To/\x.aT=y.aT):=λh=>h2 (p8.2 h);omega
theorem Hd (e:aa):∀l:List aa,l.Pairwise (λx y=>elt x y=true)->(fj e l).Pairwise λx y=>elt x y=true
 | [],_=>List.pairwise_singleton _ _
 | y::r,h=>by
   obtain⟨h1,h2⟩:=List.pairwise_cons.1 h;rw[fj];cases hc:elt y e
   ·rw[cond_false];by_cases hy:y=e
    ·rw[decide_eq_true hy,cond_true];exact h
    ·rw[decide_eq_false hy,cond_false];have:=ag0 hc hy;exact List.pairwise_cons.2 ⟨λz hz=>by
      rcases List.mem_cons.1 hz with hz|hz
      ·rw[hz];exact this
      ·exact Rf this (h1 z hz),h⟩
   ·rw[cond_true];exact List.pairwise_cons.2 ⟨λz hz=>by
     rcases (nZ e z r).1 hz with hz|hz
     ·rw[hz];exact hc
     ·exact h1 z hz,Hd e r h2⟩
theorem P8 (e:aa):∀l:List aa,(fj e l).length<=l.length+1
 | []=>by simp[fj]
 | y::r=>by
   have:=P8 e r;rw[fj];cases elt y e
   ·cases decide (y=e)<;>simp
   ·simp;omega
theorem agZ (x y:aa) (N:Nat):yC N x y=some (elt x y):=by
 unfold yC elt;rw[fS,fS];by_cases h1:x.To<y.To
 ·rw[decide_eq_true h1,decide_eq_true (show x.To<y.To\/x.To=y.To/\x.aT<y.aT from .inl h1)];rfl
 ·rw[decide_eq_false h1,cond_false];by_cases h2:x.To=y.To
  ·rw[show(x.To==y.To)=true by simpa using h2,cond_true];by_cases h3:x.aT<y.aT
   ·rw[decide_eq_true h3,decide_eq_true (show x.To<y.To\/x.To=y.To/\x.aT<y.aT from .inr ⟨h2,h3⟩)]
   ·rw[decide_eq_false h3,decide_eq_false (show ¬(x.To<y.To\/x.To=y.To/\x.aT<y.aT) by omega)]
  ·rw[show(x.To==y.To)=false by simpa using h2,cond_false,decide_eq_false (show ¬(x.To<y.To\/x.To=y.To/\x.aT<y.aT) by omega)]
theorem SY {l:List aa} {e:aa} (hl:l.length<=1000000):W (λN=>tf N l e) (·=fj e l):=by
 unfold tf;have gs:∀k:Nat,k<=l.length->∀ {ι:Type} [bm ι] {Q:List aa->Prop},Q ((List.take k l++[e])++List.drop k l)->W (λ_:ι=>gd (leB 0 (k:Int)) (gd (leB (k:Int) (List.length l:Int)) (gd (Nat.ble ((0+List.length (List.take (Int.toNat (k:Int)) l))*16) 140737488355328) (gd (Nat.ble ((List.length (List.take (Int.toNat (k:Int)) l)+1)*16) 140737488355328) (gd (leB 0 (k:Int)) (gd (leB (k:Int) (List.length l:Int)) (gd (Nat.ble ((List.length ((List.take (Int.toNat (k:Int)) l)++[(aa.mk e.To e.aT)])+List.length (List.drop (Int.toNat (k:Int)) l))*16) 140737488355328) (some (((List.take (Int.toNat (k:Int)) l)++[(aa.mk e.To e.aT)])++(List.drop (Int.toNat (k:Int)) l)))))))))) Q:=λk hk {ι _ Q} hq=>by
  simp only[W.gd,W.ret,Int.toNat_natCast];refine⟨a8.2 (by omega),a8.2 (by omega),Nat.ble_eq_true_of_le (by rw[List.length_take];omega),Nat.ble_eq_true_of_le (by rw[List.length_take];omega),a8.2 (by omega),a8.2 (by omega),Nat.ble_eq_true_of_le (by simp;omega),hq⟩
 refine W.bj (λ(i:Int)=>∃k:Nat,i=(k:Int)/\k<=l.length/\fj e l=l.take k++fj e (l.drop k)) (λ(i:Int)=>(l.length-i).toNat) ⟨0,rfl,by omega,by simp⟩ ?_;rintro F i ⟨k,rfl,h0,h1⟩ hn;unfold Gl;simp only[fO];rw[bV];by_cases hk:k<l.length
 ·obtain⟨x,e1,e2⟩:=iE (l:=l) (i:=(k:Int)) (by omega) (by omega);have e2:l[k]?=some x:=by simpa using e2
  have hd:l.drop k=x::l.drop (k+1):=by
   rw[List.drop_eq_getElem_cons hk];congr 1;rw[List.getElem?_eq_getElem hk]at e2;exact Option.some.inj e2
  have ht:l.take (k+1)=l.take k++[x]:=by rw[List.take_add_one,e2];rfl
  rw[hd,fj]at h1;simp only[decide_eq_true hk,cond_true,e1,Option.bind_some,agZ];cases hc:elt x e
  ·have hc':elt x (aa.mk e.To e.aT)=false:=hc;rw[hc]at h1;simp only[cond_false]at h1 ⊢;by_cases hx:x=e
   ·rw[decide_eq_true hx]at h1;rw[show((x.To==e.To)&&(x.aT==e.aT))=true by rw[hx];simp];refine W.ret.2 ?_;rw[h1,cond_true,<- hd,List.take_append_drop]
   ·rw[decide_eq_false hx]at h1;have:((x.To==e.To)&&(x.aT==e.aT))=false:=by
     rw[Bool.and_eq_false_iff,beq_eq_false_iff_ne,beq_eq_false_iff_ne];by_cases h:x.To=e.To
     ·exact .inr λh2=>hx (p8.2 ⟨h,h2⟩)
     ·exact .inl h
    rw[this];simp only[cond_false];refine gs k h0 ?_;rw[h1,cond_false,hd];simp
  ·rw[hc]at h1;simp only[cond_true]at h1 ⊢;rw[W.gd];exact⟨bA.2 (by omega),hn _ ⟨k+1,by omega,by omega,by rw[h1,ht];simp⟩ (by omega)⟩
 ·simp only[decide_eq_false hk,cond_false];refine gs k h0 ?_;have:k=l.length:=by omega
  subst this;rw[h1,List.drop_length,fj];simp
theorem Hq {α:Type} {R:α->α->Prop} (tr:∀x y z,R x y->R y z->R x z) (uW:∀x,¬R x x):∀ {l m:List α},l.Pairwise R->m.Pairwise R->(∀x,x∈l↔x∈m)->l=m
 | [],[],_,_,_=>rfl
 | [],y::m,_,_,h=>by have:=(h y).2 (by simp);simp at this
 | x::l,[],_,_,h=>by have:=(h x).1 (by simp);simp at this
 | x::l,y::m,hl,hm,h=>by
   obtain⟨l1,l2⟩:=List.pairwise_cons.1 hl;obtain⟨m1,m2⟩:=List.pairwise_cons.1 hm;have hxy:x=y:=by
    rcases List.mem_cons.1 ((h x).1 (by simp))with e|e
    ·exact e
    ·rcases List.mem_cons.1 ((h y).2 (by simp))with e'|e'
     ·exact e'.symm
     ·exact absurd (tr _ _ _ (l1 y e') (m1 x e)) (uW _)
   subst hxy;refine congrArg (x::·) (Hq tr uW l2 m2 λz=>⟨λhz=>?_,λhz=>?_⟩)
   ·rcases List.mem_cons.1 ((h z).1 (by simp[hz]))with e|e
    ·subst e;exact absurd (l1 z hz) (uW _)
    ·exact e
   ·rcases List.mem_cons.1 ((h z).2 (by simp[hz]))with e|e
    ·subst e;exact absurd (m1 z hz) (uW _)
    ·exact e
theorem OW {l:List aa} (h:l.Pairwise λx y=>elt x y=true):l.Nodup:=h.imp (by intro x y hxy e;subst e;exact QM hxy)
section
variable (n:Nat) (nx:List Int) (ng la:Int) (a:Nat)
def AW:Prop:=∀l:List (Int×Int),l.Nodup->(∀z∈l,∃q:Nat,z.1=(q:Int)/\Rc n nx ng a q z.2/\aK ng q=true)->l.length<=64*n
def Ta:Prop:=∀l:List aa,(l.Pairwise λx y=>elt x y=true)->(∀e∈l,lD n nx ng a e)->l.length<=64
def S9:Prop:=∀l:List Int,(l.Pairwise λx y=>x<y)->(∀S∈l,iC n nx ng la a S)->l.length<=64
def jP:Prop:=AW n nx ng a/\Ta n nx ng a/\S9 n nx ng la a
structure jc (ne:List aa) (en:List Int):Prop where
 pn:ne.Pairwise λx y=>elt x y=true
 pe:en.Pairwise λx y=>x<y
 mn:∀e,e∈ne↔lD n nx ng a e
 me:∀S,S∈en↔iC n nx ng la a S
end
theorem jc.uniq {n:Nat} {nx:List Int} {ng la:Int} {a:Nat} {ne ne':List aa} {en en':List Int} (h:jc n nx ng la a ne en) (h':jc n nx ng la a ne' en'):ne=ne'/\en=en':=
 ⟨Hq (R:=λx y:aa=>elt x y=true) (λ_ _ _ h1 h2=>Rf h1 h2) (λ_ h=>QM h) h.pn h'.pn λx=>(h.mn x).trans (h'.mn x).symm,Hq (R:=λx y:Int=>x<y) (λ_ _ _ h1 h2=>Int.lt_trans h1 h2) (λx=>Int.lt_irrefl x) h.pe h'.pe λx=>(h.me x).trans (h'.me x).symm⟩
def fE (en:List Int):List aa:=en.map λS=>⟨-1,S⟩
theorem PT {en:List Int}:((fE en).Pairwise λx y=>elt x y=true)↔en.Pairwise λx y=>x<y:=by
 unfold fE;rw[List.pairwise_map];refine⟨λh=>h.imp λhh=>?_,λh=>h.imp λhh=>?_⟩
 ·unfold elt at hh;have:=of_decide_eq_true hh;simp at this;exact this
 ·unfold elt;exact decide_eq_true (.inr ⟨rfl,hh⟩)
theorem aij (S:Int) (en:List Int):∃en',fj ⟨-1,S⟩ (fE en)=fE en':=by
 induction en with
 | nil=>exact⟨[S],rfl⟩
 | cons x r ih=>
   obtain⟨r',hr⟩:=ih;show ∃en',fj ⟨-1,S⟩ (⟨-1,x⟩::fE r)=fE en'
   rw[fj];cases elt ⟨-1,x⟩ ⟨-1,S⟩
   ·cases decide ((⟨-1,x⟩:aa)=⟨-1,S⟩)
    ·exact⟨S::x::r,rfl⟩
    ·exact⟨x::r,rfl⟩
   ·exact⟨x::r',by rw[cond_true,hr];rfl⟩
theorem QL {S:Int} {en:List Int}:(⟨-1,S⟩:aa)∈fE en↔S∈en:=by
 unfold fE;rw[List.mem_map];exact⟨λ⟨x,h1,h2⟩=>by cases h2;exact h1,λh=>⟨S,h,rfl⟩⟩
end
end Go.Proofs.YtmfkphajohcklaaGreat.U
