/- What the law is handed, told as what its plain text takes. No premise beyond what each theorem says. -/
import Derived.Test.YtmfkphajohcklaaGreatOG2
import Derived.Test.YtmfkphajohcklaaGreatOA2
import Derived.Test.YtmfkphajohcklaaGreatOA4
import Derived.Test.YtmfkphajohcklaaGreatOG1
import Derived.Sort.AssemblyPlain
set_option linter.all false
set_option linter.unusedSimpArgs false
set_option linter.unusedVariables false
namespace Go.Proofs.YtmfkphajohcklaaGreat.O
open Go
section
open Go.Proofs.Tryz
set_option maxRecDepth 1000000
def xZbk (x:xZ1):Prop:=(inK .u8) x.Kind∧(inK .i64) x.Place
def xZd5 (x:xZe):Prop:=(inK .u8) x.Kind∧(inK .i64) x.N∧(inK .u64) x.Bits∧okS x.Text
def xZbl (x:xZ2):Prop:=(inK .u8) x.Kind∧(inK .u8) x.Op∧okS x.Var∧okS x.Name∧xZd5 x.Val
def xZ9W (x:xZ4):Prop:=(fun (_:Bool)=>True) x.Neg∧okS x.Var∧okS x.Type_∧(okL xZbl) x.Test
def xZcE (x:xZy):Prop:=(okL xZbk) x.Nodes∧(okL xZ9W) x.Places∧(inK .i64) x.Within∧okS x.By∧(inK .u8) x.Mode
theorem xZ4L {H:Type} (d:DataW H) (cs:List AV) (h:DAv prog 5 d cs):∃ x:Int,cs=[.v (.int .u8 x)]∧(inK .u8) x:=by
 obtain ⟨x,h,h1,h2⟩:=xZmL (k:=.u8) (by kernel_rfl) h
 exact ⟨x,h,h1,h2⟩
theorem xZ7X {H:Type} (d:DataW H) (cs:List AV) (h:DAv prog 3 d cs):∃ x:Int,cs=[.v (.int .i64 x)]∧(inK .i64) x:=by
 obtain ⟨x,h,h1,h2⟩:=xZmL (k:=.i64) (by kernel_rfl) h
 exact ⟨x,h,h1,h2⟩
theorem xZc8 {H:Type} (d:DataW H) (cs:List AV) (h:DAv prog 82 d cs):∃ x:xZ1,cs=[.v (.int .u8 x.Kind),.v (.int .i64 x.Place)]∧xZbk x:=by
 obtain ⟨_,h⟩:=xZcO (ts:=[5,3]) (by kernel_rfl) h
 obtain ⟨_,_,_,_,rfl,h0,h⟩:=xZ5p h
 obtain ⟨_,_,_,_,rfl,h1,h⟩:=xZ5p h
 obtain rfl:=xZgA h
 obtain ⟨x0,rfl,k0⟩:=xZ4L _ _ h0
 obtain ⟨x1,rfl,k1⟩:=xZ7X _ _ h1
 exact ⟨⟨x0,x1⟩,rfl,⟨k0,k1⟩⟩
theorem xZc3 {H:Type} (d:DataW H) (cs:List AV) (h:DAv prog 22 d cs):∃ x:List xZ1,cs=[.sl 2 (List.map eA4 x)]∧(okL xZbk) x:=by
 obtain ⟨x,h,h1,h2⟩:=xZhy (e:=82) (k:=2) eA4 xZbk (by kernel_rfl) (by kernel_rfl) (fun d cs h=>by obtain ⟨x,h1,h2⟩:=xZc8 d cs h;subst h1;exact ⟨x,xZiv (by kernel_rfl),h2⟩) h
 exact ⟨x,h,h1,h2⟩
theorem xZcx {H:Type} (d:DataW H) (cs:List AV) (h:DAv prog 4 d cs):∃ x:Bool,cs=[.v (.bool x)]∧(fun (_:Bool)=>True) x:=by
 obtain ⟨x,h⟩:=xZo6 (by kernel_rfl) h
 exact ⟨x,h,trivial⟩
theorem xZ3U {H:Type} (d:DataW H) (cs:List AV) (h:DAv prog 9 d cs):∃ x:List UInt8,cs=[.v (.string (bs x))]∧okS x:=by
 obtain ⟨x,h,h1⟩:=xZl4 (by kernel_rfl) h
 exact ⟨x,h,h1⟩
theorem xZbJ {H:Type} (d:DataW H) (cs:List AV) (h:DAv prog 105 d cs):∃ x:Int,cs=[.v (.int .u64 x)]∧(inK .u64) x:=by
 obtain ⟨x,h,h1,h2⟩:=xZmL (k:=.u64) (by kernel_rfl) h
 exact ⟨x,h,h1,h2⟩
theorem xZbK {H:Type} (d:DataW H) (cs:List AV) (h:DAv prog 107 d cs):∃ x:xZe,cs=[.v (.int .u8 x.Kind),.v (.int .i64 x.N),.v (.int .u64 x.Bits),.v (.string (bs x.Text))]∧xZd5 x:=by
 obtain ⟨_,h⟩:=xZcO (ts:=[5,3,105,9]) (by kernel_rfl) h
 obtain ⟨_,_,_,_,rfl,h0,h⟩:=xZ5p h
 obtain ⟨_,_,_,_,rfl,h1,h⟩:=xZ5p h
 obtain ⟨_,_,_,_,rfl,h2,h⟩:=xZ5p h
 obtain ⟨_,_,_,_,rfl,h3,h⟩:=xZ5p h
 obtain rfl:=xZgA h
 obtain ⟨x0,rfl,k0⟩:=xZ4L _ _ h0
 obtain ⟨x1,rfl,k1⟩:=xZ7X _ _ h1
 obtain ⟨x2,rfl,k2⟩:=xZbJ _ _ h2
 obtain ⟨x3,rfl,k3⟩:=xZ3U _ _ h3
 exact ⟨⟨x0,x1,x2,x3⟩,rfl,⟨k0,k1,k2,k3⟩⟩
theorem xZbL {H:Type} (d:DataW H) (cs:List AV) (h:DAv prog 109 d cs):∃ x:xZ2,cs=[.v (.int .u8 x.Kind),.v (.int .u8 x.Op),.v (.string (bs x.Var)),.v (.string (bs x.Name)),.v (.int .u8 x.Val.Kind),.v (.int .i64 x.Val.N),.v (.int .u64 x.Val.Bits),.v (.string (bs x.Val.Text))]∧xZbl x:=by
 obtain ⟨_,h⟩:=xZcO (ts:=[5,5,9,9,107]) (by kernel_rfl) h
 obtain ⟨_,_,_,_,rfl,h0,h⟩:=xZ5p h
 obtain ⟨_,_,_,_,rfl,h1,h⟩:=xZ5p h
 obtain ⟨_,_,_,_,rfl,h2,h⟩:=xZ5p h
 obtain ⟨_,_,_,_,rfl,h3,h⟩:=xZ5p h
 obtain ⟨_,_,_,_,rfl,h4,h⟩:=xZ5p h
 obtain rfl:=xZgA h
 obtain ⟨x0,rfl,k0⟩:=xZ4L _ _ h0
 obtain ⟨x1,rfl,k1⟩:=xZ4L _ _ h1
 obtain ⟨x2,rfl,k2⟩:=xZ3U _ _ h2
 obtain ⟨x3,rfl,k3⟩:=xZ3U _ _ h3
 obtain ⟨x4,rfl,k4⟩:=xZbK _ _ h4
 exact ⟨⟨x0,x1,x2,x3,x4⟩,rfl,⟨k0,k1,k2,k3,k4⟩⟩
theorem xZc6 {H:Type} (d:DataW H) (cs:List AV) (h:DAv prog 67 d cs):∃ x:List xZ2,cs=[.sl 8 (List.map eA1 x)]∧(okL xZbl) x:=by
 obtain ⟨x,h,h1,h2⟩:=xZhy (e:=109) (k:=8) eA1 xZbl (by kernel_rfl) (by kernel_rfl) (fun d cs h=>by obtain ⟨x,h1,h2⟩:=xZbL d cs h;subst h1;exact ⟨x,xZiv (by kernel_rfl),h2⟩) h
 exact ⟨x,h,h1,h2⟩
theorem xZc7 {H:Type} (d:DataW H) (cs:List AV) (h:DAv prog 69 d cs):∃ x:xZ4,cs=[.v (.bool x.Neg),.v (.string (bs x.Var)),.v (.string (bs x.Type_)),.sl 8 (List.map eA1 x.Test)]∧xZ9W x:=by
 obtain ⟨_,h⟩:=xZcO (ts:=[4,9,9,67]) (by kernel_rfl) h
 obtain ⟨_,_,_,_,rfl,h0,h⟩:=xZ5p h
 obtain ⟨_,_,_,_,rfl,h1,h⟩:=xZ5p h
 obtain ⟨_,_,_,_,rfl,h2,h⟩:=xZ5p h
 obtain ⟨_,_,_,_,rfl,h3,h⟩:=xZ5p h
 obtain rfl:=xZgA h
 obtain ⟨x0,rfl,k0⟩:=xZcx _ _ h0
 obtain ⟨x1,rfl,k1⟩:=xZ3U _ _ h1
 obtain ⟨x2,rfl,k2⟩:=xZ3U _ _ h2
 obtain ⟨x3,rfl,k3⟩:=xZc6 _ _ h3
 exact ⟨⟨x0,x1,x2,x3⟩,rfl,⟨k0,k1,k2,k3⟩⟩
theorem xZc4 {H:Type} (d:DataW H) (cs:List AV) (h:DAv prog 23 d cs):∃ x:List xZ4,cs=[.sl 4 (List.map eA2 x)]∧(okL xZ9W) x:=by
 obtain ⟨x,h,h1,h2⟩:=xZhy (e:=69) (k:=4) eA2 xZ9W (by kernel_rfl) (by kernel_rfl) (fun d cs h=>by obtain ⟨x,h1,h2⟩:=xZc7 d cs h;subst h1;exact ⟨x,xZiv (by kernel_rfl),h2⟩) h
 exact ⟨x,h,h1,h2⟩
theorem xZc5 {H:Type} (d:DataW H) (cs:List AV) (h:DAv prog 25 d cs):∃ x:xZy,cs=[.sl 2 (List.map eA4 x.Nodes),.sl 4 (List.map eA2 x.Places),.v (.int .i64 x.Within),.v (.string (bs x.By)),.v (.int .u8 x.Mode)]∧xZcE x:=by
 obtain ⟨_,h⟩:=xZcO (ts:=[22,23,3,9,5]) (by kernel_rfl) h
 obtain ⟨_,_,_,_,rfl,h0,h⟩:=xZ5p h
 obtain ⟨_,_,_,_,rfl,h1,h⟩:=xZ5p h
 obtain ⟨_,_,_,_,rfl,h2,h⟩:=xZ5p h
 obtain ⟨_,_,_,_,rfl,h3,h⟩:=xZ5p h
 obtain ⟨_,_,_,_,rfl,h4,h⟩:=xZ5p h
 obtain rfl:=xZgA h
 obtain ⟨x0,rfl,k0⟩:=xZc3 _ _ h0
 obtain ⟨x1,rfl,k1⟩:=xZc4 _ _ h1
 obtain ⟨x2,rfl,k2⟩:=xZ7X _ _ h2
 obtain ⟨x3,rfl,k3⟩:=xZ3U _ _ h3
 obtain ⟨x4,rfl,k4⟩:=xZ4L _ _ h4
 exact ⟨⟨x0,x1,x2,x3,x4⟩,rfl,⟨k0,k1,k2,k3,k4⟩⟩
theorem xZe7 {H:Type} (ds:List (DataW H)) (xs:List AV) (h:DAvV prog [25] ds xs):
 ∃ (c:xZy),xs=[.agg [.sl 2 (List.map eA4 c.Nodes),.sl 4 (List.map eA2 c.Places),.v (.int .i64 c.Within),.v (.string (bs c.By)),.v (.int .u8 c.Mode)]]∧xZcE c:=by
 obtain ⟨_,_,_,_,rfl,rfl,h0,h⟩:=xZmM h
 obtain ⟨rfl,rfl⟩:=xZo7 h
 obtain ⟨x0,rfl,k0⟩:=xZc5 _ _ h0
 exact ⟨x0,by rw [xZiv (by kernel_rfl)],k0⟩
end
section
section
variable {α:Type} [Inhabited α]
def gx (l:List α) (i:Nat):α:=l.toArray[i]!
def sw (l:List α) (i j:Nat):List α:=(Sort.swp l.toArray i j).toList
theorem gx_eq {l:List α} {i:Nat} (h:i < l.length):gx l i=l[i]:=by simp [gx,h]
theorem ixg {l:List α} {i:Nat} (h:i < l.length):ix l (i:Int)=some (gx l i):=by rw [ix_nat',gx_eq h];simp [h]
theorem ixs {l:List α} {v:α} {i j:Nat} (h:i < l.length):ix (l.set j v) (i:Int)=some (gx (l.set j v) i):=ixg (by simpa using h)
theorem xZ89 (l:List α) (i j:Nat):(sw l i j).toArray=Sort.swp l.toArray i j:=by simp [sw]
theorem sw_eq {l:List α} {i j:Nat}:(l.set i (gx l j)).set j (gx l i)=sw l i j:=by simp [sw,Sort.swp,gx]
theorem xZ60 {l:List α} {i j:Nat}:(sw l i j).length=l.length:=by simp [sw,Sort.swp]
theorem m1N {j:Nat} (h:1≤j):((j:Int) - 1)=((j - 1:Nat):Int):=by omega
theorem p1N (j:Nat):((j:Int)+1)=((j+1:Nat):Int):=by omega
theorem miN {i j:Nat} (h:i≤j):((j:Int) - (i:Int))=((j - i:Nat):Int):=by omega
theorem plN (i j:Nat):((i:Int)+(j:Int))=((i+j:Nat):Int):=by omega
theorem i64n {n:Nat} (h:n≤9223372036854775807):i64b (n:Int)=true:=xZ5D.2 (by omega)
theorem ltN {i j:Nat}:ltB (i:Int) (j:Int)=decide (i < j):=by rw [xZd1];simp
theorem leN {i j:Nat}:leB (i:Int) (j:Int)=decide (i≤j):=by rw [xZe9];simp
theorem muN (i j:Nat):((i:Int) * (j:Int))=((i * j:Nat):Int):=by simp
theorem mu2 (j:Nat):(2 * (j:Int))=((2 * j:Nat):Int):=by simp
theorem notT {b:Bool}:((!b)=true) ↔ b=false:=by cases b<;>simp
theorem notF {b:Bool}:((!b)=false) ↔ b=true:=by cases b<;>simp
theorem wr64 {n:Nat} (h:n≤9223372036854775807):IntKind.i64.wrap (n:Int)=(n:Int):=by
 rw [IntKind.wrap_i64];omega
theorem tdN (m k:Nat) (h:m≤9223372036854775807):IntKind.i64.wrap (Int.tdiv (m:Int) (k:Int))=((m / k:Nat):Int):=by
 rw [show Int.tdiv (m:Int) (k:Int)=((m / k:Nat):Int) from rfl]
 exact wr64 (Nat.le_trans (Nat.div_le_self _ _) h)
theorem W.sh {β:Type} {f:Nat→Option β} {Q:β→Prop} (h:W (fun N=>f (N+1)) Q):W f Q:=by
 obtain ⟨a,⟨n,hn⟩,hq⟩:=h
 refine ⟨a,⟨n+1,fun N hN=>?_⟩,hq⟩
 obtain ⟨M,rfl⟩:∃ M,N=M+1:=⟨N - 1,by omega⟩
 exact hn M (by omega)
def hintN:Sort.Hint→Int
 | .unknown=>0
 | .increasing=>1
 | .decreasing=>2
end
end
theorem xZc9 (N:Nat) (x y:Int):xZo N x y=some (Sort.ltInt x y):=by
 simp [xZo,xZ3V,Sort.ltInt,xZd1]
theorem xZrB {a b:Nat} {xs:List Int} (hb:b≤xs.length) (hs:xs.length≤4611686018427387904) (ha:a≤b):W (fun N=>xZ1A N a b xs) (fun r=>r=(Sort.insertionSort Sort.ltInt xs.toArray a b).toList∧r.length=xs.length):=by
 unfold xZ1A
 simp only [W.gd,p1N]
 refine ⟨i64n (by omega),?_⟩
 refine W.lp2 (fun i ys=>∃ i':Nat,i=(i':Int)∧a+1≤i'∧ys.length=xs.length∧Sort.insOuter Sort.ltInt a b i' ys.toArray=Sort.insertionSort Sort.ltInt xs.toArray a b) (fun i ys=>b - i.toNat) ⟨a+1,rfl,Nat.le_refl _,rfl,rfl⟩ ?_
 rintro F i ys ⟨i,rfl,h1,h2,h3⟩ hn
 unfold xZ2f
 simp only [W.cond,W.ret,ltN,decide_eq_true_eq,decide_eq_false_iff_not,p1N]
 refine ⟨fun hc=>?_,fun hc=>?_⟩
 ·rw [Sort.insOuter,if_pos hc] at h3
  refine W.lp2 (fun j zs=>∃ j':Nat,j=(j':Int)∧j'≤i∧zs.length=xs.length∧Sort.insOuter Sort.ltInt a b (i+1) (Sort.insInner Sort.ltInt a j' zs.toArray)=Sort.insertionSort Sort.ltInt xs.toArray a b) (fun j _=>j.toNat) ⟨i,rfl,Nat.le_refl _,h2,h3⟩ ?_
  rintro G j zs ⟨j,rfl,q1,q2,q3⟩ hm
  have out:∀ us:List Int,us.length=xs.length→Sort.insOuter Sort.ltInt a b (i+1) us.toArray=Sort.insertionSort Sort.ltInt xs.toArray a b→W (fun p:(Nat×Nat)×Nat=>F p.1 ((i+1:Nat):Int) us) (fun r=>r=(Sort.insertionSort Sort.ltInt xs.toArray a b).toList∧r.length=xs.length):=fun us e1 e2=>
   (hn _ us ⟨i+1,rfl,by omega,e1,e2⟩ (by simp;omega)).lift
  unfold xZ2g
  simp only [W.cond,W.ret,W.gd,ltN,decide_eq_true_eq,decide_eq_false_iff_not,p1N]
  have hi1:i64b ((i+1:Nat):Int)=true:=i64n (by omega)
  refine ⟨fun hj=>?_,fun hj=>⟨hi1,out zs q2 ?_⟩⟩
  ·obtain ⟨k,rfl⟩:∃ k,j=k+1:=⟨j - 1,by omega⟩
   simp only [m1N (show 1≤k+1 by omega),Nat.add_sub_cancel,ixg (l:=zs) (i:=k+1) (by omega),ixg (l:=zs) (i:=k) (by omega),Option.bind_some,W.gd,i64n (show k≤9223372036854775807 by omega),true_and,xZc9,W.cond,Int.toNat_natCast,ixs (l:=zs) (i:=k) (by omega),sw_eq]
   rw [Sort.insInner] at q3
   refine ⟨fun hl=>?_,fun hl=>⟨hi1,out zs q2 ?_⟩⟩
   ·rw [if_pos (by simp only [Bool.and_eq_true,decide_eq_true_eq];exact ⟨hj,hl⟩)] at q3
    exact hm _ _ ⟨k,rfl,by omega,by rw [xZ60];exact q2,by rw [xZ89];exact q3⟩ (by simp)
   ·rw [if_neg (by simp only [Bool.and_eq_true,decide_eq_true_eq];intro h;have:=h.2;simp only [gx] at hl;rw [hl] at this;cases this)] at q3
    exact q3
  ·cases j with
   | zero=>rw [Sort.insInner] at q3;exact q3
   | succ k=>rw [Sort.insInner,if_neg (by simp only [Bool.and_eq_true,decide_eq_true_eq];omega)] at q3;exact q3
 ·rw [Sort.insOuter,if_neg hc] at h3
  exact ⟨by rw [← h3],h2⟩
theorem xZmm {lo hi fi:Nat} {xs:List Int} (hb:fi+hi≤xs.length) (hs:xs.length≤1152921504606846976) (hl:lo≤xs.length):W (fun N=>xZ1m N lo hi fi xs) (fun r=>r=(Sort.siftDown Sort.ltInt hi fi lo xs.toArray).toList∧r.length=xs.length):=by
 unfold xZ1m
 refine W.lp2 (fun i ys=>∃ r:Nat,i=(r:Int)∧r≤xs.length∧ys.length=xs.length∧Sort.siftDown Sort.ltInt hi fi r ys.toArray=Sort.siftDown Sort.ltInt hi fi lo xs.toArray) (fun i ys=>hi - i.toNat) ⟨lo,rfl,hl,rfl,rfl⟩ ?_
 rintro F i ys ⟨r,rfl,h1,h2,h3⟩ hn
 unfold xZ2W
 simp only [W.gd,W.cond,W.ret,mu2,p1N,leN,ltN,plN,decide_eq_true_eq,decide_eq_false_iff_not]
 refine ⟨i64n (by omega),i64n (by omega),fun hc=>?_,fun hc=>⟨i64n (by omega),?_⟩⟩
 ·rw [Sort.siftDown,dif_pos hc] at h3
  exact ⟨by rw [← h3],h2⟩
 rw [Sort.siftDown,dif_neg hc] at h3
 have go:∀ c:Nat,r < c→c < hi→Sort.siftDown Sort.ltInt hi fi c (Sort.swp ys.toArray (fi+r) (fi+c))=Sort.siftDown Sort.ltInt hi fi lo xs.toArray→W (fun p=>F p ((c:Nat):Int) (sw ys (fi+r) (fi+c))) (fun r=>r=(Sort.siftDown Sort.ltInt hi fi lo xs.toArray).toList∧r.length=xs.length):=fun c q1 q2 q3=>
  hn _ _ ⟨c,rfl,by omega,by rw [xZ60];exact h2,by rw [xZ89];exact q3⟩ (by simp;omega)
 refine ⟨fun hd=>?_,fun hd=>?_⟩
 rotate_left
 ·rw [if_neg (by simp only [Bool.and_eq_true,decide_eq_true_eq];omega)] at h3
  simp only [ixg (l:=ys) (i:=fi+r) (by omega),ixg (l:=ys) (i:=fi+(2 * r+1)) (by omega),Option.bind_some,W.gd,i64n (show fi+r≤9223372036854775807 by omega),i64n (show fi+(2 * r+1)≤9223372036854775807 by omega),true_and,xZc9,W.cond,W.ret,Int.toNat_natCast,ixs (l:=ys) (i:=fi+(2 * r+1)) (by omega),sw_eq,notT,notF]
  refine ⟨fun hx=>?_,fun hx=>?_⟩
  ·rw [if_pos (by simp only [notT];exact hx)] at h3
   exact ⟨by rw [← h3],h2⟩
  ·rw [if_neg (by simp only [notT];intro h;exact absurd (hx.symm.trans h) (by decide))] at h3
   exact go _ (by omega) (by omega) h3
 simp only [ixg (l:=ys) (i:=fi+(2 * r+1)) (by omega),ixg (l:=ys) (i:=fi+(2 * r+1)+1) (by omega),Option.bind_some,W.gd,i64n (show fi+(2 * r+1)≤9223372036854775807 by omega),i64n (show fi+(2 * r+1)+1≤9223372036854775807 by omega),true_and,xZc9,W.cond]
 refine ⟨fun hy=>?_,fun hy=>?_⟩
 ·rw [if_pos (by simp only [Bool.and_eq_true,decide_eq_true_eq];exact ⟨hd,hy⟩)] at h3
  simp only [ixg (l:=ys) (i:=fi+r) (by omega),ixg (l:=ys) (i:=fi+(2 * r+1+1)) (by omega),Option.bind_some,W.gd,i64n (show fi+r≤9223372036854775807 by omega),i64n (show 2 * r+1+1≤9223372036854775807 by omega),i64n (show fi+(2 * r+1+1)≤9223372036854775807 by omega),true_and,xZc9,W.cond,W.ret,Int.toNat_natCast,ixs (l:=ys) (i:=fi+(2 * r+1+1)) (by omega),sw_eq,notT,notF]
  refine ⟨fun hx=>?_,fun hx=>?_⟩
  ·rw [if_pos (by simp only [notT];exact hx)] at h3
   exact ⟨by rw [← h3],h2⟩
  ·rw [if_neg (by simp only [notT];intro h;exact absurd (hx.symm.trans h) (by decide)),dif_pos hd] at h3
   exact go _ (by omega) (by omega) h3
 ·rw [if_neg (by simp only [Bool.and_eq_true,decide_eq_true_eq];intro h;exact absurd (hy.symm.trans h.2) (by decide))] at h3
  simp only [ixg (l:=ys) (i:=fi+r) (by omega),ixg (l:=ys) (i:=fi+(2 * r+1)) (by omega),Option.bind_some,W.gd,i64n (show fi+r≤9223372036854775807 by omega),i64n (show fi+(2 * r+1)≤9223372036854775807 by omega),true_and,xZc9,W.cond,W.ret,Int.toNat_natCast,ixs (l:=ys) (i:=fi+(2 * r+1)) (by omega),sw_eq,notT,notF]
  refine ⟨fun hx=>?_,fun hx=>?_⟩
  ·rw [if_pos (by simp only [notT];exact hx)] at h3
   exact ⟨by rw [← h3],h2⟩
  ·rw [if_neg (by simp only [notT];intro h;exact absurd (hx.symm.trans h) (by decide))] at h3
   exact go _ (by omega) (by omega) h3
theorem xZqo {a b:Nat} {xs:List Int} (hb:b≤xs.length) (hs:xs.length≤1152921504606846976) (ha:a < b):W (fun N=>xZ2b N a b xs) (fun r=>r=(Sort.heapSort Sort.ltInt xs.toArray a b).toList∧r.length=xs.length):=by
 unfold xZ2b
 simp only [W.gd,miN (Nat.le_of_lt ha),m1N (show 1≤b - a by omega)]
 refine ⟨i64n (by omega),i64n (by omega),?_⟩
 rw [show (2:Int)=((2:Nat):Int) from rfl,tdN _ _ (show b - a - 1≤9223372036854775807 by omega)]
 refine W.lp2 (fun i ys=>∃ k:Nat,i=(k:Int) - 1∧k≤(b - a - 1) / 2+1∧ys.length=xs.length∧Sort.heapPop Sort.ltInt a (b - a) (Sort.heapBuild Sort.ltInt (b - a) a k ys.toArray)=Sort.heapSort Sort.ltInt xs.toArray a b) (fun i ys=>(i+1).toNat) ⟨(b - a - 1) / 2+1,by omega,Nat.le_refl _,rfl,rfl⟩ ?_
 rintro F i ys ⟨k,rfl,h1,h2,h3⟩ hn
 unfold xZ2T
 simp only [W.cond,W.gd,m1N (show 1≤b - a by omega)]
 refine ⟨fun hc=>?_,fun hc=>⟨i64n (by omega),?_⟩⟩
 ·have hc:=xZ18.1 hc
  obtain ⟨k,rfl⟩:∃ j,k=j+1:=⟨k - 1,by omega⟩
  rw [show ((k+1:Nat):Int) - 1=(k:Int) by omega]
  refine W.call (xZmm (by omega) (by omega) (by omega)) fun r hr=>?_
  rw [W.gd]
  refine ⟨xZ5D.2 (by omega),hn _ _ ⟨k,rfl,by omega,?_,?_⟩ (by omega)⟩
  ·rw [hr.2];exact h2
  ·rw [Sort.heapBuild] at h3
   rw [hr.1];exact h3
 ·have hc:=xZ6J.1 hc
  obtain rfl:k=0:=by omega
  rw [Sort.heapBuild] at h3
  refine W.lp2 (fun i zs=>∃ k:Nat,i=(k:Int) - 1∧k≤b - a∧zs.length=xs.length∧Sort.heapPop Sort.ltInt a k zs.toArray=Sort.heapSort Sort.ltInt xs.toArray a b) (fun i _=>(i+1).toNat) ⟨b - a,by omega,Nat.le_refl _,h2,h3⟩ ?_
  rintro G i zs ⟨k,rfl,q1,q2,q3⟩ hm
  unfold xZ2U
  simp only [W.cond,W.gd,W.ret]
  refine ⟨fun hc=>?_,fun hc=>?_⟩
  ·have hc:=xZ18.1 hc
   obtain ⟨k,rfl⟩:∃ j,k=j+1:=⟨k - 1,by omega⟩
   rw [show ((k+1:Nat):Int) - 1=(k:Int) by omega]
   simp only [plN,i64n (show a+k≤9223372036854775807 by omega),true_and,ixg (l:=zs) (i:=a+k) (by omega),ixg (l:=zs) (i:=a) (by omega),Option.bind_some,Int.toNat_natCast,ixs (l:=zs) (i:=a+k) (by omega),sw_eq]
   refine W.call (xZmm (lo:=0) (hi:=k) (fi:=a) (xs:=sw zs a (a+k)) (by rw [xZ60];omega) (by rw [xZ60];omega) (by omega)) fun r hr=>?_
   rw [W.gd]
   refine ⟨xZ5D.2 (by omega),hm _ _ ⟨k,rfl,by omega,?_,?_⟩ (by omega)⟩
   ·rw [hr.2,xZ60];exact q2
   ·rw [Sort.heapPop] at q3
    rw [hr.1,xZ89];exact q3
  ·have hc:=xZ6J.1 hc
   obtain rfl:k=0:=by omega
   rw [Sort.heapPop] at q3
   exact ⟨by rw [← q3],q2⟩
theorem xZrI {a b:Nat} {xs:List Int} (hb:b≤xs.length) (hs:xs.length≤1152921504606846976) (ha:a < b):W (fun N=>xZ1H N a b xs) (fun r=>r=(Sort.reverseRange xs.toArray a b).toList∧r.length=xs.length):=by
 unfold xZ1H
 simp only [W.gd,m1N (show 1≤b by omega)]
 refine ⟨i64n (by omega),?_⟩
 refine W.lp3 (fun i j ys=>∃ k l:Nat,i=(k:Int)∧j=(l:Int)∧l < xs.length∧ys.length=xs.length∧Sort.reverseLoop k l ys.toArray=Sort.reverseRange xs.toArray a b) (fun i j ys=>(j - i).toNat) ⟨a,b - 1,rfl,rfl,by omega,rfl,rfl⟩ ?_
 rintro F i j ys ⟨k,l,rfl,rfl,h1,h2,h3⟩ hn
 unfold xZ2m
 simp only [W.cond,W.ret,ltN,decide_eq_true_eq,decide_eq_false_iff_not]
 refine ⟨fun hc=>?_,fun hc=>?_⟩
 ·rw [Sort.reverseLoop,if_pos hc] at h3
  simp only [ixg (l:=ys) (i:=l) (by omega),ixg (l:=ys) (i:=k) (by omega),Option.bind_some,W.gd,Int.toNat_natCast,ixs (l:=ys) (i:=l) (by omega),sw_eq,p1N,m1N (show 1≤l by omega),i64n (show k+1≤9223372036854775807 by omega),i64n (show l - 1≤9223372036854775807 by omega),true_and]
  exact hn _ _ _ ⟨k+1,l - 1,rfl,rfl,by omega,by rw [xZ60];exact h2,by rw [xZ89];exact h3⟩ (by omega)
 ·rw [Sort.reverseLoop,if_neg hc] at h3
  exact ⟨by rw [← h3],h2⟩
theorem xZjO {N a b y:Nat} {xs:List Int} (ha:a < xs.length) (hb:b < xs.length) (hy:y≤100):∃ a' b' y':Nat,Sort.order2 Sort.ltInt xs.toArray a b y=(a',b',y')∧xZZ N a b y xs=some ((a':Int),(b':Int),(y':Int),xs)∧(a'=a∧b'=b∨a'=b∧b'=a)∧y'≤y+1:=by
 unfold xZZ Sort.order2
 simp only [ixg ha,ixg hb,Option.bind_some,xZc9]
 cases h:Sort.ltInt (gx xs b) (gx xs a) with
 | true=>
   simp only [gx] at h
   rw [if_pos h]
   exact ⟨b,a,y+1,rfl,by simp only [cond_true,p1N,i64n (show y+1≤9223372036854775807 by omega),xZ3A],.inr ⟨rfl,rfl⟩,Nat.le_refl _⟩
 | false=>
   simp only [gx] at h
   rw [if_neg (by rw [h];decide)]
   exact ⟨a,b,y,rfl,rfl,.inl ⟨rfl,rfl⟩,by omega⟩
theorem xZmQ {N a b c y:Nat} {xs:List Int} (ha:a < xs.length) (hb:b < xs.length) (hc:c < xs.length) (hy:y≤50):∃ m y':Nat,Sort.median Sort.ltInt xs.toArray a b c y=(m,y')∧xZD N a b c y xs=some ((m:Int),(y':Int),xs)∧(m=a∨m=b∨m=c)∧y'≤y+3:=by
 obtain ⟨a1,b1,y1,p1,q1,r1,s1⟩:=xZjO (N:=N) ha hb (show y≤100 by omega)
 obtain ⟨b2,c2,y2,p2,q2,r2,s2⟩:=xZjO (N:=N) (a:=b1) (b:=c) (xs:=xs) (y:=y1) (by omega) hc (by omega)
 obtain ⟨a3,b3,y3,p3,q3,r3,s3⟩:=xZjO (N:=N) (a:=a1) (b:=b2) (xs:=xs) (y:=y2) (by omega) (by omega) (by omega)
 refine ⟨b3,y3,?_,?_,by omega,by omega⟩
 ·unfold Sort.median
  simp only [p1,p2,p3]
 ·unfold xZD
  simp only [q1,q2,q3,Option.bind_some]
theorem xZmO {N a y:Nat} {xs:List Int} (h1:1≤a) (ha:a+1 < xs.length) (hs:xs.length≤1152921504606846976) (hy:y≤50):∃ m y':Nat,Sort.medianAdjacent Sort.ltInt xs.toArray a y=(m,y')∧xZi N a y xs=some ((m:Int),(y':Int),xs)∧m < xs.length∧y'≤y+3:=by
 obtain ⟨m,y',p,q,r,s⟩:=xZmQ (N:=N) (a:=a - 1) (b:=a) (c:=a+1) (xs:=xs) (by omega) (by omega) ha hy
 refine ⟨m,y',p,?_,by omega,s⟩
 unfold xZi
 simp only [m1N h1,p1N,i64n (show a - 1≤9223372036854775807 by omega),i64n (show a+1≤9223372036854775807 by omega),xZ3A,q,Option.bind_some]
theorem xZoc {N a b:Nat} {xs:List Int} (hb:b≤xs.length) (hs:xs.length≤1152921504606846976) (ha:a < b):∃ (m:Nat) (h:Sort.Hint),Sort.choosePivot Sort.ltInt xs.toArray a b=(m,h)∧xZY N a b xs=some ((m:Int),hintN h,xs):=by
 have fin:∀ (m y:Nat),(bif ((y:Int)==0) then some ((m:Int),(1:Int),xs) else bif ((y:Int)==12) then some ((m:Int),(2:Int),xs) else some ((m:Int),(0:Int),xs))=some ((m:Int),hintN (if y=0 then Sort.Hint.increasing else if y=12 then .decreasing else .unknown),xs):=by
  intro m y
  by_cases h0:y=0
  ·subst h0;rfl
  ·by_cases h1:y=12
   ·subst h1;rfl
   ·rw [if_neg h0,if_neg h1,show ((y:Int)==0)=false by simpa using h0,show ((y:Int)==12)=false by rw [beq_eq_false_iff_ne];omega];rfl
 unfold xZY Sort.choosePivot
 simp only [miN (Nat.le_of_lt ha),show (4:Int)=((4:Nat):Int) from rfl,tdN _ _ (show b - a≤9223372036854775807 by omega)]
 simp only [show (1:Int)=((1:Nat):Int) from rfl,show (2:Int)=((2:Nat):Int) from rfl,show (3:Int)=((3:Nat):Int) from rfl,show (8:Int)=((8:Nat):Int) from rfl,show (50:Int)=((50:Nat):Int) from rfl,muN,plN,leN,i64n (show b - a≤9223372036854775807 by omega),i64n (show (b - a) / 4 * 1≤9223372036854775807 by omega),i64n (show (b - a) / 4 * 2≤9223372036854775807 by omega),i64n (show (b - a) / 4 * 3≤9223372036854775807 by omega),
  i64n (show a+(b - a) / 4 * 1≤9223372036854775807 by omega),i64n (show a+(b - a) / 4 * 2≤9223372036854775807 by omega),i64n (show a+(b - a) / 4 * 3≤9223372036854775807 by omega),xZ3A]
 by_cases h8:8≤b - a
 ·simp only [h8,decide_true,cond_true,ge_iff_le,if_true]
  by_cases h50:50≤b - a
  ·simp only [h50,decide_true,cond_true,if_true]
   obtain ⟨i,y1,p1,q1,r1,s1⟩:=xZmO (N:=N) (a:=a+(b - a) / 4 * 1) (xs:=xs) (y:=0) (by omega) (by omega) hs (by omega)
   obtain ⟨j,y2,p2,q2,r2,s2⟩:=xZmO (N:=N) (a:=a+(b - a) / 4 * 2) (xs:=xs) (y:=y1) (by omega) (by omega) hs (by omega)
   obtain ⟨k,y3,p3,q3,r3,s3⟩:=xZmO (N:=N) (a:=a+(b - a) / 4 * 3) (xs:=xs) (y:=y2) (by omega) (by omega) hs (by omega)
   obtain ⟨m,y4,p4,q4,r4,s4⟩:=xZmQ (N:=N) (a:=i) (b:=j) (c:=k) (xs:=xs) (y:=y3) r1 r2 r3 (by omega)
   have q1:xZi N ((a+(b - a) / 4 * 1:Nat):Int) 0 xs=some ((i:Int),(y1:Int),xs):=q1
   simp only [p1,p2,p3,p4,q1,q2,q3,q4,Option.bind_some]
   exact ⟨m,_,rfl,fin m y4⟩
  ·simp only [h50,decide_false,cond_false,if_false]
   obtain ⟨m,y4,p4,q4,r4,s4⟩:=xZmQ (N:=N) (a:=a+(b - a) / 4 * 1) (b:=a+(b - a) / 4 * 2) (c:=a+(b - a) / 4 * 3) (xs:=xs) (y:=0) (by omega) (by omega) (by omega) (by omega)
   have q4:xZD N ((a+(b - a) / 4 * 1:Nat):Int) ((a+(b - a) / 4 * 2:Nat):Int) ((a+(b - a) / 4 * 3:Nat):Int) 0 xs=some ((m:Int),(y4:Int),xs):=q4
   simp only [p4,q4,Option.bind_some]
   exact ⟨m,_,rfl,fin m y4⟩
 ·simp only [h8,decide_false,cond_false,ge_iff_le,if_false]
  exact ⟨_,_,rfl,rfl⟩
theorem W.cond2 {ι α:Type} [Lim ι] {c d:Bool} {f g:ι→Option α} {Q:α→Prop} (h1:c=true→d=true→W f Q) (h2:(c&&d)=false→W g Q):W (fun i=>bif c then bif d then f i else g i else g i) Q:=by
 cases c
 ·exact h2 rfl
 ·cases d
  ·exact h2 rfl
  ·exact h1 rfl rfl
theorem xZiS {p:Prop} [Decidable p] {c:Bool} (h:(decide p&&c)=false):¬ (decide p&&c)=true:=by rw [h];decide
theorem xZft {α:Type} [Inhabited α] {p:α→Bool} {d:List α} {k l:Nat} (h:1≤k):Sort.scanDown p d.toArray k l=if (decide (k≤l)&&p (gx d l))=true then Sort.scanDown p d.toArray k (l - 1) else l:=by
 cases l with
 | zero=>rw [Sort.scanDown,if_neg (by simp only [Bool.and_eq_true,decide_eq_true_eq];omega)]
 | succ l=>rw [Sort.scanDown];rfl
theorem xZfu {α:Type} [Inhabited α] {p:α→Bool} {d:List α} {j i:Nat}:Sort.scanUp p d.toArray j i=if (decide (i≤j)&&p (gx d i))=true then Sort.scanUp p d.toArray j (i+1) else i:=by
 rw [Sort.scanUp];rfl
instance tends11 {ι:Type} [Lim ι] {N:ι→Nat} [h:Tends N]:Tends (fun p:(ι×Nat)×Nat=>N p.1.1):=⟨fun K=>⟨0,0,Lim.mono (fun _ hi _ _ _ _=>hi) (h.to K)⟩⟩
theorem w_plO {ι:Type} [Lim ι] {N:ι→Nat} [Tends N] {a b n i0 j0:Nat} {ys:List Int} {Q:Int×Bool×List Int→Prop} (hb:b≤n) (hab:a < b) (hs:n≤1152921504606846976) (h1:a < i0) (h2:i0≤j0+2) (h3:j0 < b) (hl:ys.length=n)
 (hQ:∀ (m:Nat) (zs:List Int),Sort.partLoop Sort.ltInt a i0 j0 ys.toArray=(m,zs.toArray)→zs.length=n→Q ((m:Int),false,sw zs m a)):W (fun i=>lp3 (xZ11 (N i) a) (N i) i0 j0 ys) Q:=by
 refine W.lp3 (fun i j zs=>∃ k l:Nat,i=(k:Int)∧j=(l:Int)∧a < k∧k≤l+2∧l < b∧zs.length=n∧Sort.partLoop Sort.ltInt a k l zs.toArray=Sort.partLoop Sort.ltInt a i0 j0 ys.toArray) (fun i j _=>(j+1 - i).toNat) ⟨i0,j0,rfl,rfl,h1,h2,h3,hl,rfl⟩ ?_
 rintro F i j zs ⟨i,j,rfl,rfl,p1,p2,p3,p4,p5⟩ hn
 rw [Sort.partLoop_eq] at p5
 obtain ⟨I,hI⟩:∃ I,I=Sort.scanUp (fun x=>Sort.ltInt x (gx zs a)) zs.toArray j i:=⟨_,rfl⟩
 obtain ⟨J,hJ⟩:∃ J,J=Sort.scanDown (fun x=>!Sort.ltInt x (gx zs a)) zs.toArray I j:=⟨_,rfl⟩
 have p5:(if I > J then (J,zs.toArray) else Sort.partLoop Sort.ltInt a (I+1) (J - 1) (Sort.swp zs.toArray I J))=Sort.partLoop Sort.ltInt a i0 j0 ys.toArray:=by
  rw [← p5,hJ,hI];rfl
 unfold xZ11
 refine W.lp1 (fun x=>∃ k:Nat,x=(k:Int)∧i≤k∧k≤j+2∧Sort.scanUp (fun x=>Sort.ltInt x (gx zs a)) zs.toArray j k=I) (fun x=>(j+1 - x).toNat) ⟨i,rfl,Nat.le_refl _,p2,hI.symm⟩ ?_
 rintro G x ⟨k,rfl,q1,q2,q3⟩ hm
 have down:k=I→W (fun p:(ι×Nat)×Nat=>lp1 (xZ12 (N p.1.1) a k zs (F p.1)) (N p.1.1) j) Q:=by
  rintro rfl
  refine W.lp1 (fun x=>∃ l:Nat,x=(l:Int)∧k≤l+2∧l≤j∧Sort.scanDown (fun x=>!Sort.ltInt x (gx zs a)) zs.toArray k l=J) (fun x=>x.toNat) ⟨j,rfl,by omega,Nat.le_refl _,hJ.symm⟩ ?_
  rintro H x ⟨l,rfl,r1,r2,r3⟩ ho
  rw [xZft (by omega)] at r3
  unfold xZ12
  simp only [ixg (l:=zs) (i:=l) (by omega),ixg (l:=zs) (i:=a) (by omega),Option.bind_some,xZc9,leN,ltN,Int.toNat_natCast,ixs (l:=zs) (i:=a) (by omega),ixs (l:=zs) (i:=l) (by omega),sw_eq]
  refine W.cond2 (fun c1 c2=>?_) fun c=>?_
  ·have c1:=of_decide_eq_true c1
   rw [if_pos (by rw [Bool.and_eq_true];exact ⟨decide_eq_true c1,c2⟩)] at r3
   rw [W.gd,m1N (show 1≤l by omega)]
   exact ⟨i64n (by omega),ho _ ⟨l - 1,rfl,by omega,by omega,r3⟩ (by omega)⟩
  ·rw [if_neg (xZiS c)] at r3
   subst r3
   simp only [W.cond,decide_eq_true_eq,decide_eq_false_iff_not]
   refine ⟨fun hc=>?_,fun hc=>?_⟩
   ·rw [W.ret]
    rw [if_pos hc] at p5
    exact hQ _ _ p5.symm p4
   ·rw [if_neg hc,← xZ89] at p5
    simp only [ixg (l:=zs) (i:=k) (by omega),ixs (l:=zs) (i:=l) (by omega),Option.bind_some,W.gd,p1N,m1N (show 1≤l by omega),i64n (show k+1≤9223372036854775807 by omega),i64n (show l - 1≤9223372036854775807 by omega),true_and,sw_eq]
    exact (hn _ _ _ ⟨k+1,l - 1,rfl,rfl,by omega,by omega,by omega,by rw [xZ60];exact p4,p5⟩ (by omega)).lift.lift
 unfold xZ2J
 simp only [W.cond,leN,decide_eq_true_eq,decide_eq_false_iff_not]
 rw [xZfu] at q3
 refine ⟨fun hc=>?_,fun hc=>?_⟩
 ·simp only [ixg (l:=zs) (i:=k) (by omega),ixg (l:=zs) (i:=a) (by omega),Option.bind_some,xZc9,W.cond,W.gd,p1N]
  refine ⟨fun hl=>⟨i64n (by omega),hm _ ⟨k+1,rfl,by omega,by omega,?_⟩ (by omega)⟩,fun hl=>down ?_⟩
  ·rw [if_pos (by simp only [Bool.and_eq_true,decide_eq_true_eq];exact ⟨hc,hl⟩)] at q3;exact q3
  ·rw [if_neg (by simp only [Bool.and_eq_true,decide_eq_true_eq];intro h;exact absurd (hl.symm.trans h.2) (by decide))] at q3;exact q3
 ·rw [if_neg (by simp only [Bool.and_eq_true,decide_eq_true_eq];intro h;exact hc h.1)] at q3
  exact down q3
def PQ (xs:List Int) (a b pv:Nat) (r:Int×Bool×List Int):Prop:=r.1=((Sort.partition Sort.ltInt xs.toArray a b pv).1:Int)∧r.2.1=(Sort.partition Sort.ltInt xs.toArray a b pv).2.1∧r.2.2=(Sort.partition Sort.ltInt xs.toArray a b pv).2.2.toList∧r.2.2.length=xs.length
theorem xZqr {a b pv:Nat} {xs:List Int} (hb:b≤xs.length) (hs:xs.length≤1152921504606846976) (ha:a≤pv) (hpv:pv < b):W (fun N=>xZ23 N a b pv xs) (PQ xs a b pv):=by
 obtain ⟨ds,hds⟩:∃ ds:List Int,ds=sw xs a pv:=⟨_,rfl⟩
 have hdl:ds.length=xs.length:=by rw [hds,xZ60]
 obtain ⟨I,hI⟩:∃ I,I=Sort.scanUp (fun x=>Sort.ltInt x (gx ds a)) ds.toArray (b - 1) (a+1):=⟨_,rfl⟩
 obtain ⟨J,hJ⟩:∃ J,J=Sort.scanDown (fun x=>!Sort.ltInt x (gx ds a)) ds.toArray I (b - 1):=⟨_,rfl⟩
 have hp:Sort.partition Sort.ltInt xs.toArray a b pv=if I > J then (J,true,Sort.swp ds.toArray J a) else ((Sort.partLoop Sort.ltInt a (I+1) (J - 1) (Sort.swp ds.toArray I J)).1,false,Sort.swp (Sort.partLoop Sort.ltInt a (I+1) (J - 1) (Sort.swp ds.toArray I J)).2 (Sort.partLoop Sort.ltInt a (I+1) (J - 1) (Sort.swp ds.toArray I J)).1 a):=by
  unfold Sort.partition
  simp only [← xZ89,← hds]
  simp only [gx] at hI hJ
  rw [← hI,← hJ]
 unfold xZ23
 simp only [ixg (l:=xs) (i:=pv) (by omega),ixg (l:=xs) (i:=a) (by omega),Option.bind_some,Int.toNat_natCast,ixs (l:=xs) (i:=pv) (by omega),sw_eq,← hds,W.gd,p1N,m1N (show 1≤b by omega)]
 refine ⟨i64n (by omega),i64n (by omega),?_⟩
 refine W.lp1 (fun i=>∃ k:Nat,i=(k:Int)∧a+1≤k∧k≤b∧Sort.scanUp (fun x=>Sort.ltInt x (gx ds a)) ds.toArray (b - 1) k=I) (fun i=>(b - i).toNat) ⟨a+1,rfl,Nat.le_refl _,by omega,hI.symm⟩ ?_
 rintro F i ⟨k,rfl,h1,h2,h3⟩ hn
 have down:k=I→W (fun p:Nat×Nat=>lp1 (xZ10 p.1 (a:Int) (k:Int) ds) p.1 ((b - 1:Nat):Int)) (PQ xs a b pv):=by
  rintro rfl
  refine W.lp1 (fun j=>∃ l:Nat,j=(l:Int)∧k≤l+1∧l < b∧Sort.scanDown (fun x=>!Sort.ltInt x (gx ds a)) ds.toArray k l=J) (fun j=>j.toNat) ⟨b - 1,rfl,by omega,by omega,hJ.symm⟩ ?_
  rintro G j ⟨l,rfl,q1,q2,q3⟩ hm
  rw [xZft (by omega)] at q3
  unfold xZ10
  simp only [ixg (l:=ds) (i:=l) (by omega),ixg (l:=ds) (i:=a) (by omega),Option.bind_some,xZc9,leN,ltN,Int.toNat_natCast,ixs (l:=ds) (i:=a) (by omega),ixs (l:=ds) (i:=l) (by omega),sw_eq]
  refine W.cond2 (fun c1 c2=>?_) fun c=>?_
  ·have c1:=of_decide_eq_true c1
   rw [if_pos (by rw [Bool.and_eq_true];exact ⟨decide_eq_true c1,c2⟩)] at q3
   rw [W.gd,m1N (show 1≤l by omega)]
   exact ⟨i64n (by omega),hm _ ⟨l - 1,rfl,by omega,by omega,q3⟩ (by omega)⟩
  ·rw [if_neg (xZiS c)] at q3
   subst q3
   simp only [W.cond,decide_eq_true_eq,decide_eq_false_iff_not]
   refine ⟨fun hc=>?_,fun hc=>?_⟩
   ·rw [W.ret]
    rw [if_pos hc] at hp
    refine ⟨by rw [hp],by rw [hp],?_,by rw [xZ60,hdl]⟩
    rw [hp,← xZ89]
   ·rw [if_neg hc] at hp
    simp only [ixg (l:=ds) (i:=k) (by omega),ixs (l:=ds) (i:=l) (by omega),Option.bind_some,W.gd,p1N,m1N (show 1≤l by omega),i64n (show k+1≤9223372036854775807 by omega),i64n (show l - 1≤9223372036854775807 by omega),true_and,sw_eq]
    refine w_plO (b:=b) (n:=xs.length) hb (by omega) hs (by omega) (by omega) (by omega) (by rw [xZ60];exact hdl) fun m zs e1 e2=>?_
    rw [← xZ89,e1] at hp
    refine ⟨by rw [hp],by rw [hp],?_,by rw [xZ60];exact e2⟩
    rw [hp,← xZ89]
 unfold xZ2I
 simp only [W.cond,leN,decide_eq_true_eq,decide_eq_false_iff_not]
 rw [xZfu] at h3
 refine ⟨fun hc=>?_,fun hc=>?_⟩
 ·simp only [ixg (l:=ds) (i:=k) (by omega),ixg (l:=ds) (i:=a) (by omega),Option.bind_some,xZc9,W.cond,W.gd,p1N]
  refine ⟨fun hl=>⟨i64n (by omega),hn _ ⟨k+1,rfl,by omega,by omega,?_⟩ (by omega)⟩,fun hl=>down ?_⟩
  ·rw [if_pos (by simp only [Bool.and_eq_true,decide_eq_true_eq];exact ⟨hc,hl⟩)] at h3;exact h3
  ·rw [if_neg (by simp only [Bool.and_eq_true,decide_eq_true_eq];intro h;exact absurd (hl.symm.trans h.2) (by decide))] at h3;exact h3
 ·rw [if_neg (by simp only [Bool.and_eq_true,decide_eq_true_eq];intro h;exact hc h.1)] at h3
  exact down h3
theorem w_peO {ι:Type} [Lim ι] {N:ι→Nat} [Tends N] {a b n i0 j0:Nat} {ys:List Int} {Q:Int×List Int→Prop} (hb:b≤n) (hab:a < b) (hs:n≤1152921504606846976) (h1:a < i0) (h2:i0≤j0+2) (h3:j0 < b) (hl:ys.length=n)
 (hQ:∀ (m:Nat) (zs:List Int),Sort.partEqLoop Sort.ltInt a i0 j0 ys.toArray=(m,zs.toArray)→zs.length=n→Q ((m:Int),zs)):W (fun i=>lp3 (xZ1f (N i) a) (N i) i0 j0 ys) Q:=by
 refine W.lp3 (fun i j zs=>∃ k l:Nat,i=(k:Int)∧j=(l:Int)∧a < k∧k≤l+2∧l < b∧zs.length=n∧Sort.partEqLoop Sort.ltInt a k l zs.toArray=Sort.partEqLoop Sort.ltInt a i0 j0 ys.toArray) (fun i j _=>(j+1 - i).toNat) ⟨i0,j0,rfl,rfl,h1,h2,h3,hl,rfl⟩ ?_
 rintro F i j zs ⟨i,j,rfl,rfl,p1,p2,p3,p4,p5⟩ hn
 rw [Sort.partEqLoop_eq] at p5
 obtain ⟨I,hI⟩:∃ I,I=Sort.scanUp (fun x=>!Sort.ltInt (gx zs a) x) zs.toArray j i:=⟨_,rfl⟩
 obtain ⟨J,hJ⟩:∃ J,J=Sort.scanDown (fun x=>Sort.ltInt (gx zs a) x) zs.toArray I j:=⟨_,rfl⟩
 have p5:(if I > J then (I,zs.toArray) else Sort.partEqLoop Sort.ltInt a (I+1) (J - 1) (Sort.swp zs.toArray I J))=Sort.partEqLoop Sort.ltInt a i0 j0 ys.toArray:=by
  rw [← p5,hJ,hI];rfl
 unfold xZ1f
 refine W.lp1 (fun x=>∃ k:Nat,x=(k:Int)∧i≤k∧k≤j+2∧Sort.scanUp (fun x=>!Sort.ltInt (gx zs a) x) zs.toArray j k=I) (fun x=>(j+1 - x).toNat) ⟨i,rfl,Nat.le_refl _,p2,hI.symm⟩ ?_
 rintro G x ⟨k,rfl,q1,q2,q3⟩ hm
 have down:k=I→W (fun p:(ι×Nat)×Nat=>lp1 (xZE (N p.1.1) a k zs (F p.1)) (N p.1.1) j) Q:=by
  rintro rfl
  refine W.lp1 (fun x=>∃ l:Nat,x=(l:Int)∧k≤l+2∧l≤j∧Sort.scanDown (fun x=>Sort.ltInt (gx zs a) x) zs.toArray k l=J) (fun x=>x.toNat) ⟨j,rfl,by omega,Nat.le_refl _,hJ.symm⟩ ?_
  rintro H x ⟨l,rfl,r1,r2,r3⟩ ho
  rw [xZft (by omega)] at r3
  unfold xZE
  simp only [ixg (l:=zs) (i:=l) (by omega),ixg (l:=zs) (i:=a) (by omega),Option.bind_some,xZc9,leN,ltN,Int.toNat_natCast,ixs (l:=zs) (i:=a) (by omega),ixs (l:=zs) (i:=l) (by omega),sw_eq]
  refine W.cond2 (fun c1 c2=>?_) fun c=>?_
  ·have c1:=of_decide_eq_true c1
   rw [if_pos (by rw [Bool.and_eq_true];exact ⟨decide_eq_true c1,c2⟩)] at r3
   rw [W.gd,m1N (show 1≤l by omega)]
   exact ⟨i64n (by omega),ho _ ⟨l - 1,rfl,by omega,by omega,r3⟩ (by omega)⟩
  ·rw [if_neg (xZiS c)] at r3
   subst r3
   simp only [W.cond,decide_eq_true_eq,decide_eq_false_iff_not]
   refine ⟨fun hc=>?_,fun hc=>?_⟩
   ·rw [W.ret]
    rw [if_pos hc] at p5
    exact hQ _ _ p5.symm p4
   ·rw [if_neg hc,← xZ89] at p5
    simp only [ixg (l:=zs) (i:=k) (by omega),ixs (l:=zs) (i:=l) (by omega),Option.bind_some,W.gd,p1N,m1N (show 1≤l by omega),i64n (show k+1≤9223372036854775807 by omega),i64n (show l - 1≤9223372036854775807 by omega),true_and,sw_eq]
    exact (hn _ _ _ ⟨k+1,l - 1,rfl,rfl,by omega,by omega,by omega,by rw [xZ60];exact p4,p5⟩ (by omega)).lift.lift
 unfold xZ2c
 simp only [W.cond,leN,decide_eq_true_eq,decide_eq_false_iff_not]
 rw [xZfu] at q3
 refine ⟨fun hc=>?_,fun hc=>?_⟩
 ·simp only [ixg (l:=zs) (i:=k) (by omega),ixg (l:=zs) (i:=a) (by omega),Option.bind_some,xZc9,W.cond,W.gd,p1N]
  refine ⟨fun hl=>⟨i64n (by omega),hm _ ⟨k+1,rfl,by omega,by omega,?_⟩ (by omega)⟩,fun hl=>down ?_⟩
  ·rw [if_pos (by simp only [Bool.and_eq_true,decide_eq_true_eq];exact ⟨hc,hl⟩)] at q3;exact q3
  ·rw [if_neg (by simp only [Bool.and_eq_true,decide_eq_true_eq];intro h;exact absurd (hl.symm.trans h.2) (by decide))] at q3;exact q3
 ·rw [if_neg (by simp only [Bool.and_eq_true,decide_eq_true_eq];intro h;exact hc h.1)] at q3
  exact down q3
theorem w_pqO {a b pv:Nat} {xs:List Int} (hb:b≤xs.length) (hs:xs.length≤1152921504606846976) (ha:a≤pv) (hpv:pv < b):W (fun N=>xZ1s N a b pv xs) (fun r=>r.1=((Sort.partitionEqual Sort.ltInt xs.toArray a b pv).1:Int)∧r.2=(Sort.partitionEqual Sort.ltInt xs.toArray a b pv).2.toList∧r.2.length=xs.length):=by
 unfold xZ1s
 simp only [ixg (l:=xs) (i:=pv) (by omega),ixg (l:=xs) (i:=a) (by omega),Option.bind_some,Int.toNat_natCast,ixs (l:=xs) (i:=pv) (by omega),sw_eq,W.gd,p1N,m1N (show 1≤b by omega)]
 refine ⟨i64n (by omega),i64n (by omega),?_⟩
 refine w_peO (b:=b) (n:=xs.length) hb (by omega) hs (by omega) (by omega) (by omega) (by rw [xZ60]) fun m zs e1 e2=>?_
 unfold Sort.partitionEqual
 rw [← xZ89,e1]
 exact ⟨rfl,rfl,e2⟩
theorem w_upO {ι:Type} [Lim ι] {N:ι→Nat} [Tends N] {b n i2 j0:Nat} {j:Int} {F:ι→Int→Int→List Int→Option (Bool×List Int)} {ys:List Int} {Q:Bool×List Int→Prop} (hb:b≤n) (hs:n≤1152921504606846976) (h1:1≤j0) (hl:ys.length=n)
 (hF:∀ zs:List Int,zs.length=n→zs.toArray=Sort.shiftUp Sort.ltInt b j0 ys.toArray→W (fun i=>gd (i64b (j+1)) (F i i2 (j+1) zs)) Q):W (fun i=>lp2 (xZ9 (N i) b i2 j (F i)) (N i) j0 ys) Q:=by
 refine W.lp2 (fun x zs=>∃ k:Nat,x=(k:Int)∧1≤k∧zs.length=n∧Sort.shiftUp Sort.ltInt b k zs.toArray=Sort.shiftUp Sort.ltInt b j0 ys.toArray) (fun x _=>(b - x).toNat) ⟨j0,rfl,h1,hl,rfl⟩ ?_
 rintro G x zs ⟨k,rfl,p1,p2,p3⟩ hn
 rw [Sort.shiftUp] at p3
 unfold xZ9
 rw [W.cond,ltN]
 refine ⟨fun hc=>?_,fun hc=>?_⟩
 ·have hc:=of_decide_eq_true hc
  rw [if_pos hc] at p3
  simp only [m1N p1,ixg (l:=zs) (i:=k) (by omega),ixg (l:=zs) (i:=k - 1) (by omega),Option.bind_some,xZc9,i64n (show k - 1≤9223372036854775807 by omega),xZ3A,Int.toNat_natCast,ixs (l:=zs) (i:=k - 1) (by omega),sw_eq]
  rw [W.cond]
  refine ⟨fun hl=>?_,fun hl=>?_⟩
  ·simp only [gx] at hl
   rw [if_pos hl] at p3
   exact (hF zs p2 p3).lift
  ·simp only [gx] at hl
   rw [if_neg (by rw [hl];decide)] at p3
   rw [W.gd,p1N]
   exact ⟨i64n (by omega),hn _ _ ⟨k+1,rfl,by omega,by rw [xZ60];exact p2,by rw [xZ89];exact p3⟩ (by omega)⟩
 ·have hc:=of_decide_eq_false hc
  rw [if_neg hc] at p3
  exact (hF zs p2 p3).lift
theorem w_dnO {ι:Type} [Lim ι] {N:ι→Nat} [Tends N] {b n i2 j0:Nat} {j:Int} {F:ι→Int→Int→List Int→Option (Bool×List Int)} {ys:List Int} {Q:Bool×List Int→Prop} (hb:b≤n) (hs:n≤1152921504606846976) (h1:j0 < n) (hl:ys.length=n)
 (hF:∀ zs:List Int,zs.length=n→zs.toArray=Sort.shiftDown Sort.ltInt j0 ys.toArray→W (fun i=>gd (i64b ((b:Int) - (i2:Int))) (bif leB 2 ((b:Int) - (i2:Int)) then gd (i64b ((i2:Int)+1)) (lp2 (xZ9 (N i) b i2 j (F i)) (N i) ((i2:Int)+1) zs) else gd (i64b (j+1)) (F i i2 (j+1) zs))) Q):
 W (fun i=>lp2 (xZr (N i) b i2 j (F i)) (N i) j0 ys) Q:=by
 refine W.lp2 (fun x zs=>∃ k:Nat,x=(k:Int)∧k < n∧zs.length=n∧Sort.shiftDown Sort.ltInt k zs.toArray=Sort.shiftDown Sort.ltInt j0 ys.toArray) (fun x _=>x.toNat) ⟨j0,rfl,h1,hl,rfl⟩ ?_
 rintro G x zs ⟨k,rfl,p1,p2,p3⟩ hn
 unfold xZr
 rw [W.cond]
 cases k with
 | zero=>
   refine ⟨fun hc=>absurd hc (by decide),fun hc=>?_⟩
   rw [Sort.shiftDown] at p3
   exact (hF zs p2 p3).lift
 | succ k=>
   refine ⟨fun hc=>?_,fun hc=>absurd hc (by rw [xZe9];simp;omega)⟩
   rw [Sort.shiftDown] at p3
   simp only [m1N (show 1≤k+1 by omega),Nat.add_sub_cancel,ixg (l:=zs) (i:=k+1) (by omega),ixg (l:=zs) (i:=k) (by omega),Option.bind_some,xZc9,i64n (show k≤9223372036854775807 by omega),xZ3A,Int.toNat_natCast,ixs (l:=zs) (i:=k) (by omega),sw_eq]
   rw [W.cond]
   refine ⟨fun hl=>?_,fun hl=>?_⟩
   ·simp only [gx] at hl
    rw [if_pos hl] at p3
    exact (hF zs p2 p3).lift
   ·simp only [gx] at hl
    rw [if_neg (by rw [hl];decide)] at p3
    exact hn _ _ ⟨k,rfl,by omega,by rw [xZ60];exact p2,by rw [xZ89];exact p3⟩ (by omega)
theorem xZrG {a b:Nat} {xs:List Int} (hb:b≤xs.length) (hs:xs.length≤1152921504606846976) (ha:a < b):W (fun N=>xZR N a b xs) (fun r=>r.1=(Sort.partialInsertionSort Sort.ltInt xs.toArray a b).2∧r.2=(Sort.partialInsertionSort Sort.ltInt xs.toArray a b).1.toList∧r.2.length=xs.length):=by
 obtain ⟨R,hR⟩:∃ R,R=Sort.partialInsertionSort Sort.ltInt xs.toArray a b:=⟨_,rfl⟩
 rw [← hR]
 unfold xZR
 rw [W.gd,p1N]
 refine ⟨i64n (by omega),?_⟩
 refine W.lp3 (fun i j ys=>∃ k s:Nat,i=(k:Int)∧j=5 - (s:Int)∧s≤5∧a < k∧k≤b∧ys.length=xs.length∧Sort.partialIns Sort.ltInt a b s k ys.toArray=R) (fun _ j _=>(5 - j).toNat) ⟨a+1,5,rfl,rfl,by omega,by omega,by omega,rfl,hR.symm⟩ ?_
 rintro F i j ys ⟨i,s,rfl,rfl,h0,h1,h2,h3,h4⟩ hn
 unfold xZ1E
 rw [W.cond]
 refine ⟨fun hc=>?_,fun hc=>?_⟩
 rotate_left
 ·have hc:=xZ5T.1 hc
  obtain rfl:s=0:=by omega
  rw [Sort.partialIns] at h4
  rw [W.ret,← h4]
  exact ⟨rfl,rfl,h3⟩
 have hc:=xZ4M.1 hc
 obtain ⟨s,rfl⟩:∃ t,s=t+1:=⟨s - 1,by omega⟩
 rw [Sort.partialIns] at h4
 simp only [] at h4
 obtain ⟨I,hI⟩:∃ I,I=Sort.scanSorted Sort.ltInt ys.toArray b i:=⟨_,rfl⟩
 rw [← hI] at h4
 refine W.lp1 (fun x=>∃ k:Nat,x=(k:Int)∧i≤k∧k≤b∧Sort.scanSorted Sort.ltInt ys.toArray b k=I) (fun x=>(b - x).toNat) ⟨i,rfl,Nat.le_refl _,h2,hI.symm⟩ ?_
 rintro G x ⟨k,rfl,q1,q2,q3⟩ hm
 rw [Sort.scanSorted] at q3
 unfold xZ1F
 rw [W.cond,ltN]
 refine ⟨fun hk=>?_,fun hk=>?_⟩
 rotate_left
 ·have hk:=of_decide_eq_false hk
  obtain rfl:k=b:=by omega
  rw [if_neg (by simp)] at q3
  subst q3
  rw [if_pos rfl] at h4
  rw [show ((k:Int)==(k:Int))=true by simp,W.cond]
  exact ⟨fun _=>W.ret.2 (by rw [← h4];exact ⟨rfl,rfl,h3⟩),fun h=>by cases h⟩
 have hk:=of_decide_eq_true hk
 simp only [m1N (show 1≤k by omega),ixg (l:=ys) (i:=k) (by omega),ixg (l:=ys) (i:=k - 1) (by omega),Option.bind_some,xZc9,i64n (show k - 1≤9223372036854775807 by omega),xZ3A,Int.toNat_natCast,ixs (l:=ys) (i:=k - 1) (by omega),sw_eq]
 rw [W.cond]
 refine ⟨fun hl=>?_,fun hl=>?_⟩
 ·rw [if_pos (by rw [Bool.and_eq_true];exact ⟨decide_eq_true hk,hl⟩)] at q3
  rw [W.gd,p1N]
  exact ⟨i64n (by omega),hm _ ⟨k+1,rfl,by omega,by omega,q3⟩ (by omega)⟩
 rw [if_neg (by rw [Bool.and_eq_true];intro h;exact absurd (hl.symm.trans h.2) (by decide))] at q3
 subst q3
 rw [if_neg (show ¬ k=b by omega)] at h4
 rw [show ((k:Int)==(b:Int))=false by rw [beq_eq_false_iff_ne];omega]
 rw [W.cond]
 refine ⟨(fun h=>by cases h),fun _=>?_⟩
 rw [W.gd,miN (show a≤b by omega),W.cond]
 refine ⟨i64n (by omega),fun h50=>?_,fun h50=>?_⟩
 ·have h50:=xZ4M.1 h50
  rw [if_pos (by omega)] at h4
  rw [W.ret,← h4]
  exact ⟨rfl,rfl,h3⟩
 have h50:=xZ5T.1 h50
 rw [if_neg (by omega)] at h4
 have next:∀ zs:List Int,zs.length=xs.length→Sort.partialIns Sort.ltInt a b s k zs.toArray=R→W (fun p:Nat×Nat=>gd (i64b (5 - ((s+1:Nat):Int)+1)) (F p (k:Int) (5 - ((s+1:Nat):Int)+1) zs)) (fun r=>r.1=R.2∧r.2=R.1.toList∧r.2.length=xs.length):=fun zs e1 e2=>by
  rw [W.gd]
  exact ⟨xZ5D.2 (by omega),hn _ _ _ ⟨k,s,rfl,by omega,by omega,by omega,by omega,e1,e2⟩ (by omega)⟩
 have up:∀ zs:List Int,zs.length=xs.length→Sort.partialIns Sort.ltInt a b s k (if b - k ≥ 2 then Sort.shiftUp Sort.ltInt b (k+1) zs.toArray else zs.toArray)=R→W (fun p:Nat×Nat=>gd (i64b ((b:Int) - (k:Int))) (bif leB 2 ((b:Int) - (k:Int)) then gd (i64b ((k:Int)+1)) (lp2 (xZ9 p.1 b k (5 - ((s+1:Nat):Int)) (F p)) p.1 ((k:Int)+1) zs) else gd (i64b (5 - ((s+1:Nat):Int)+1)) (F p (k:Int) (5 - ((s+1:Nat):Int)+1) zs))) (fun r=>r.1=R.2∧r.2=R.1.toList∧r.2.length=xs.length):=fun zs e1 e2=>by
  rw [W.gd,W.cond]
  refine ⟨xZ5D.2 (by omega),fun h=>?_,fun h=>?_⟩
  ·have h:=xZ18.1 h
   rw [if_pos (by omega)] at e2
   rw [W.gd,p1N]
   refine ⟨i64n (by omega),w_upO (n:=xs.length) hb hs (by omega) e1 fun us f1 f2=>next us f1 ?_⟩
   rw [f2];exact e2
  ·have h:=xZ6J.1 h
   rw [if_neg (by omega)] at e2
   exact next zs e1 e2
 rw [← xZ89] at h4
 rw [W.gd,W.cond]
 refine ⟨xZ5D.2 (by omega),fun h=>?_,fun h=>?_⟩
 ·have h:=xZ18.1 h
  rw [if_pos (show k - a ≥ 2 by omega)] at h4
  refine w_dnO (ι:=(Nat×Nat)×Nat) (F:=fun p=>F p.1) (n:=xs.length) hb hs (by omega) (by rw [xZ60];exact h3) fun zs e1 e2=>(up zs e1 ?_).lift
  rw [e2];exact h4
 ·have h:=xZ6J.1 h
  rw [if_neg (show ¬ k - a ≥ 2 by omega)] at h4
  exact (up _ (by rw [xZ60];exact h3) h4).lift
section
set_option maxRecDepth 100000
theorem len8:∀ k:Fin 256,xZ4m 0 ((k.val:Nat):Int)=some ((Sort.bitsLen k.val:Nat):Int):=by decide +kernel
theorem xZdI {x:Nat} (h:2≤x):Sort.bitsLen x=Sort.bitsLen (x / 2)+1:=by
 unfold Sort.bitsLen
 rw [if_neg (by omega),if_neg (by omega),Nat.log2_def x,if_pos h]
theorem bl_8 {x:Nat} (h:256≤x):Sort.bitsLen x=Sort.bitsLen (x / 256)+8:=by
 rw [xZdI (by omega),xZdI (x:=x / 2) (by omega),xZdI (x:=x / 2 / 2) (by omega),xZdI (x:=x / 2 / 2 / 2) (by omega),xZdI (x:=x / 2 / 2 / 2 / 2) (by omega),xZdI (x:=x / 2 / 2 / 2 / 2 / 2) (by omega),xZdI (x:=x / 2 / 2 / 2 / 2 / 2 / 2) (by omega),xZdI (x:=x / 2 / 2 / 2 / 2 / 2 / 2 / 2) (by omega)]
 simp only [Nat.div_div_eq_div_mul]
theorem bl_le {n:Nat} (h:1≤n):2 ^ Sort.bitsLen n≤2 * n:=by
 unfold Sort.bitsLen
 rw [if_neg (by omega),Nat.pow_succ]
 have:=Nat.log2_self_le (n:=n) (by omega)
 omega
theorem bl_32 {n:Nat} (h:n < 4294967296):Sort.bitsLen n≤32:=by
 unfold Sort.bitsLen
 split
 ·omega
 ·have:=(Nat.log2_lt (n:=n) (k:=32) (by omega)).2 (by simpa using h)
  omega
theorem fd8 (x:Nat):Int.fdiv (x:Int) (2 ^ 8)=((x / 256:Nat):Int):=by rw [show Int.fdiv (x:Int) (2 ^ 8)=(x:Int) / 256 from Int.fdiv_eq_ediv_of_nonneg _ (by decide)];omega
theorem fd16 (x:Nat):Int.fdiv (x:Int) (2 ^ 16)=((x / 65536:Nat):Int):=by rw [show Int.fdiv (x:Int) (2 ^ 16)=(x:Int) / 65536 from Int.fdiv_eq_ediv_of_nonneg _ (by decide)];omega
theorem wr8 {k:Nat} (h:k < 256):IntKind.u8.wrap (k:Int)=(k:Int):=by rw [IntKind.wrap_u8];omega
theorem e_len {x:Nat} (h:x < 4294967296) (N:Nat):xZ61 N (x:Int)=some ((Sort.bitsLen x:Nat):Int):=by
 have tab:∀ k:Nat,k < 256→∀ (m:Int),m=(k:Int)→xZ4m 0 m=some ((Sort.bitsLen k:Nat):Int):=fun k hk m e=>by subst e;exact len8 ⟨k,hk⟩
 unfold xZ61
 have e1:xZ4m N (x:Int)=some ((Sort.bitsLen x:Nat):Int):=by
  have c0:leB 4294967296 (x:Int)=false:=by rw [xZe9];simp;omega
  have small:∀ k:Nat,k < 256→leB 4294967296 (k:Int)=false∧leB 65536 (k:Int)=false∧leB 256 (k:Int)=false:=fun k hk=>by
   simp only [xZe9];simp;omega
  have step:∀ k:Nat,k < 256→∀ (d:Nat),d≤24→∀ l:List UInt8,(∀ n:Nat,n < 256→((ix l (IntKind.u8.wrap (n:Int))).bind fun c=>gd (i64b (0+(IntKind.i64.wrap (UInt8.toNat c:Int)))) (some (0+(IntKind.i64.wrap (UInt8.toNat c:Int)))))=some ((Sort.bitsLen n:Nat):Int))→
   ((ix l (IntKind.u8.wrap (k:Int))).bind fun c=>gd (i64b ((d:Int)+(IntKind.i64.wrap (UInt8.toNat c:Int)))) (some ((d:Int)+(IntKind.i64.wrap (UInt8.toNat c:Int)))))=some ((d+Sort.bitsLen k:Nat):Int):=by
   intro k hk d hd l hl
   have:=hl k hk
   rw [wr8 hk] at this ⊢
   cases hx:ix l (k:Int) with
   | none=>rw [hx] at this;cases this
   | some c=>
     rw [hx] at this
     have hc:=UInt8.toNat_lt c
     rw [Option.bind_some,wr64 (by omega)] at this ⊢
     obtain ⟨_,this⟩:=xZ3p this
     have this:=Option.some.inj this
     rw [show i64b ((d:Int)+(UInt8.toNat c:Int))=true from xZ5D.2 (by omega),xZ3A]
     congr 1;omega
  have tabl:∀ n:Nat,n < 256→_:=fun n hn=>by
   have:=len8 ⟨n,hn⟩
   unfold xZ4m at this
   simp only [(small n hn).1,(small n hn).2.1,(small n hn).2.2,cond_false] at this
   exact this
  unfold xZ4m
  simp only [c0,cond_false,fd8,fd16]
  by_cases h16:65536≤x
  ·rw [show leB 65536 (x:Int)=true from xZ18.2 (by omega),cond_true]
   by_cases h24:256≤x / 65536
   ·rw [show leB 256 ((x / 65536:Nat):Int)=true from xZ18.2 (by omega),cond_true]
    refine (step (x / 65536 / 256) (by omega) 24 (by omega) _ tabl).trans ?_
    rw [bl_8 (x:=x) (by omega),bl_8 (x:=x / 256) (by omega),bl_8 (x:=x / 256 / 256) (by omega),show x / 65536 / 256=x / 256 / 256 / 256 by omega]
    congr 2;omega
   ·rw [show leB 256 ((x / 65536:Nat):Int)=false from xZ6J.2 (by omega),cond_false]
    refine (step (x / 65536) (by omega) 16 (by omega) _ tabl).trans ?_
    rw [bl_8 (x:=x) (by omega),bl_8 (x:=x / 256) (by omega),show x / 65536=x / 256 / 256 by omega]
    congr 2;omega
  ·rw [show leB 65536 (x:Int)=false from xZ6J.2 (by omega),cond_false]
   by_cases h8:256≤x
   ·rw [show leB 256 (x:Int)=true from xZ18.2 (by omega),cond_true]
    refine (step (x / 256) (by omega) 8 (by omega) _ tabl).trans ?_
    rw [bl_8 (x:=x) (by omega)]
    congr 2;omega
   ·rw [show leB 256 (x:Int)=false from xZ6J.2 (by omega),cond_false]
    exact tabl x (by omega)
 rw [e1];rfl
theorem wrU {n:Nat} (h:n < 18446744073709551616):IntKind.u64.wrap (n:Int)=(n:Int):=by rw [IntKind.wrap_u64];omega
theorem ofI (n:Nat):(BitVec.ofInt 64 (n:Int)).toNat=n % 2 ^ 64:=by
 rw [BitVec.toNat_ofInt]
 rw [← Int.natCast_emod,Int.toNat_natCast]
theorem x_xor (a b:UInt64):bwX .u64 (a.toNat:Int) (b.toNat:Int)=((a ^^^ b).toNat:Int):=by
 unfold bwX
 rw [show IntKind.u64.bits=64 from rfl,BitVec.toNat_xor,ofI,ofI,Nat.mod_eq_of_lt a.toNat_lt,Nat.mod_eq_of_lt b.toNat_lt,← UInt64.toNat_xor]
 exact wrU (UInt64.toNat_lt _)
theorem x_and (a b:Nat) (ha:a < 18446744073709551616) (hb:b < 18446744073709551616):bwA .u64 (a:Int) (b:Int)=((a &&& b:Nat):Int):=by
 unfold bwA
 rw [show IntKind.u64.bits=64 from rfl,BitVec.toNat_and,ofI,ofI,Nat.mod_eq_of_lt (by simpa using ha),Nat.mod_eq_of_lt (by simpa using hb)]
 exact wrU (Nat.lt_of_le_of_lt Nat.and_le_left ha)
theorem x_shl (a:UInt64) (k:Nat) (hk:k < 64):IntKind.u64.wrap ((a.toNat:Int) * 2 ^ k)=((a <<< (UInt64.ofNat k)).toNat:Int):=by
 rw [IntKind.wrap_u64,UInt64.toNat_shiftLeft,UInt64.toNat_ofNat',Nat.mod_eq_of_lt (show k < 2 ^ 64 by omega),Nat.mod_eq_of_lt hk,Nat.shiftLeft_eq]
 rw [show ((a.toNat:Int) * 2 ^ k)=((a.toNat * 2 ^ k:Nat):Int) by simp]
 omega
theorem x_shr (a:UInt64) (k:Nat) (hk:k < 64):Int.fdiv (a.toNat:Int) (2 ^ k)=((a >>> (UInt64.ofNat k)).toNat:Int):=by
 rw [Int.fdiv_eq_ediv_of_nonneg _ (Int.le_of_lt (Int.pow_pos (by decide))),UInt64.toNat_shiftRight,UInt64.toNat_ofNat',Nat.mod_eq_of_lt (show k < 2 ^ 64 by omega),Nat.mod_eq_of_lt hk,Nat.shiftRight_eq_div_pow]
 simp
theorem e_xn (N:Nat) (r:UInt64):xZ2R N (r.toNat:Int)=some (((Sort.xorNext r).toNat:Int),((Sort.xorNext r).toNat:Int)):=by
 unfold xZ2R Sort.xorNext
 simp only [x_shl _ _ (show 13 < 64 by decide),x_xor,x_shr _ _ (show 7 < 64 by decide),x_shl _ _ (show 17 < 64 by decide)]
 rfl
def brk {α:Type} [Inhabited α] (a length modulus:Nat):Nat→Nat→UInt64×Array α→UInt64×Array α
 | 0,_,st=>st
 | n+1,idx,st=>brk a length modulus n (idx+1) (Sort.breakStep a length modulus st idx)
theorem xZrw {a b:Nat} {xs:List Int} (hb:b≤xs.length) (hs:xs.length < 4294967296) (ha:a+12 < b):W (fun N=>xZ1z N a b xs) (fun r=>r=(Sort.breakPatterns xs.toArray a b).toList∧r.length=xs.length):=by
 obtain ⟨L,hL⟩:∃ L,L=b - a:=⟨_,rfl⟩
 have hp:Sort.breakPatterns xs.toArray a b=(brk a L (1 <<< Sort.bitsLen L) 3 (a+L / 4 * 2 - 1) (UInt64.ofNat L,xs.toArray)).2:=by
  unfold Sort.breakPatterns
  simp only [← hL]
  rw [if_pos (by omega)]
  rfl
 have hbl:=bl_le (n:=L) (by omega)
 have hb32:=bl_32 (n:=L) (by omega)
 have hbp:0 < 2 ^ Sort.bitsLen L:=Nat.pow_pos (by decide)
 rw [hp]
 unfold xZ1z xZ3S
 rw [miN (show a≤b by omega),← hL]
 have h8:leB 8 (L:Int)=true:=xZ18.2 (by omega)
 have hw:IntKind.u64.wrap (L:Int)=(L:Int):=wrU (by omega)
 have hm:IntKind.u64.wrap (1 * 2 ^ (min (Int.toNat (Sort.bitsLen L:Int)) (IntKind.u64.bits)))=((2 ^ Sort.bitsLen L:Nat):Int):=by
  rw [Int.toNat_natCast,show min (Sort.bitsLen L) IntKind.u64.bits=Sort.bitsLen L from Nat.min_eq_left (by show _≤64;omega),Int.one_mul]
  rw [show ((2:Int) ^ Sort.bitsLen L)=((2 ^ Sort.bitsLen L:Nat):Int) by simp]
  exact wrU (by omega)
 simp only [W.gd,h8,cond_true,hw,e_len (show L < 4294967296 by omega),Option.bind_some,show leB 0 ((Sort.bitsLen L:Nat):Int)=true from xZ18.2 (by omega),xZ3A,hm,show (4:Int)=((4:Nat):Int) from rfl,tdN _ _ (show L≤9223372036854775807 by omega)]
 rw [show ((L / 4:Nat):Int) * 2=((L / 4 * 2:Nat):Int) by omega,plN,m1N (show 1≤a+L / 4 * 2 by omega)]
 refine ⟨i64n (by omega),i64n (by omega),i64n (by omega),i64n (by omega),?_⟩
 refine W.lp3 (fun x y ys=>∃ (m:Nat) (st:UInt64×Array Int),m≤3∧x=((a+L / 4 * 2 - 1+m:Nat):Int)∧y=(st.1.toNat:Int)∧ys.toArray=st.2∧ys.length=xs.length∧brk a L (1 <<< Sort.bitsLen L) (3 - m) (a+L / 4 * 2 - 1+m) st=brk a L (1 <<< Sort.bitsLen L) 3 (a+L / 4 * 2 - 1) (UInt64.ofNat L,xs.toArray)) (fun x _ _=>((a+L / 4 * 2+2:Nat) - x).toNat) ⟨0,(UInt64.ofNat L,xs.toArray),by omega,rfl,?_,rfl,rfl,rfl⟩ ?_
 ·rw [UInt64.toNat_ofNat',Nat.mod_eq_of_lt (by omega)]
 rintro F x y ys ⟨m,⟨r,d⟩,h1,rfl,rfl,rfl,h2,h3⟩ hn
 unfold xZ2e
 simp only [W.gd,show (4:Int)=((4:Nat):Int) from rfl,tdN _ _ (show L≤9223372036854775807 by omega)]
 rw [show ((L / 4:Nat):Int) * 2=((L / 4 * 2:Nat):Int) by omega,plN,p1N]
 refine ⟨i64n (by omega),i64n (by omega),i64n (by omega),?_⟩
 rw [W.cond]
 refine ⟨fun hc=>?_,fun hc=>?_⟩
 ·have hc:=xZ18.1 hc
  obtain ⟨q,hq⟩:∃ q,3 - m=q+1:=⟨3 - m - 1,by omega⟩
  rw [hq,brk] at h3
  obtain ⟨o,ho⟩:∃ o,o=(Sort.xorNext r).toNat &&& (2 ^ Sort.bitsLen L - 1):=⟨_,rfl⟩
  have hox:IntKind.i64.wrap (bwA .u64 ((Sort.xorNext r).toNat:Int) (IntKind.u64.wrap (((2 ^ Sort.bitsLen L:Nat):Int) - 1)))=(o:Int):=by
   rw [m1N hbp,wrU (by omega),x_and _ _ (UInt64.toNat_lt _) (by omega),← ho]
   exact wr64 (Nat.le_trans (by rw [ho];exact Nat.and_le_right) (by omega))
  have hol:o≤2 ^ Sort.bitsLen L - 1:=by rw [ho];exact Nat.and_le_right
  simp only [e_xn,Option.bind_some,hox]
  have st:Sort.breakStep a L (1 <<< Sort.bitsLen L) (r,ys.toArray) (a+L / 4 * 2 - 1+m)=(Sort.xorNext r,(sw ys (a+L / 4 * 2 - 1+m) (a+(if o ≥ L then o - L else o))).toArray):=by
   unfold Sort.breakStep
   simp only [xZ89,Nat.one_shiftLeft,← ho]
  rw [st] at h3
  rw [W.cond]
  refine ⟨fun hg=>?_,fun hg=>?_⟩
  ·have hg:=xZ18.1 hg
   rw [if_pos (by omega)] at h3
   simp only [miN (show L≤o by omega),plN,i64n (show o - L≤9223372036854775807 by omega),i64n (show a+(o - L)≤9223372036854775807 by omega),xZ3A,ixg (l:=ys) (i:=a+(o - L)) (by omega),ixg (l:=ys) (i:=a+L / 4 * 2 - 1+m) (by omega),Option.bind_some,Int.toNat_natCast,ixs (l:=ys) (i:=a+(o - L)) (by omega),sw_eq,p1N]
   rw [W.gd]
   exact ⟨i64n (by omega),hn _ _ _ ⟨m+1,_,by omega,rfl,rfl,rfl,by rw [xZ60];exact h2,by rw [show 3 - (m+1)=q by omega];exact h3⟩ (by omega)⟩
  ·have hg:=xZ6J.1 hg
   rw [if_neg (by omega)] at h3
   simp only [plN,i64n (show a+o≤9223372036854775807 by omega),xZ3A,ixg (l:=ys) (i:=a+o) (by omega),ixg (l:=ys) (i:=a+L / 4 * 2 - 1+m) (by omega),Option.bind_some,Int.toNat_natCast,ixs (l:=ys) (i:=a+o) (by omega),sw_eq,p1N]
   rw [W.gd]
   exact ⟨i64n (by omega),hn _ _ _ ⟨m+1,_,by omega,rfl,rfl,rfl,by rw [xZ60];exact h2,by rw [show 3 - (m+1)=q by omega];exact h3⟩ (by omega)⟩
 ·have hc:=xZ6J.1 hc
  rw [show 3 - m=0 by omega,brk] at h3
  rw [W.ret,← h3]
  exact ⟨rfl,h2⟩
end
theorem xZiz {α:Type} [Inhabited α] (lt:α→α→Bool) (d:Array α) {a b pv:Nat} (ha:a≤pv) (hp:pv < b) (hb:b≤d.size):a < (Sort.partitionEqual lt d a b pv).1∧(Sort.partitionEqual lt d a b pv).1≤b:=by
 unfold Sort.partitionEqual
 have:=Sort.partEqLoop_spec (lt:=lt) a b _ (a+1) (b - 1) (Sort.swp d a pv) (Nat.le_refl _) (by omega) (by omega) (by omega) (by rw [Sort.size_swp];exact hb) (fun t h1 h2=>by omega) (fun t h1 h2=>by omega)
 exact ⟨this.1,this.2.1⟩
def pdT {α:Type} [Inhabited α] (lt:α→α→Bool) (d1:Array α) (a b limit:Nat) (wasBalanced wasPartitioned:Bool):Array α:=
 let c:=Sort.choosePivot lt d1 a b
 let d2:=if c.2=.decreasing then Sort.reverseRange d1 a b else d1
 let pivot:=if c.2=.decreasing then (b - 1) - (c.1 - a) else c.1
 let hint:=if c.2=.decreasing then Sort.Hint.increasing else c.2
 let pi:=if wasBalanced&&wasPartitioned&&hint=.increasing then Sort.partialInsertionSort lt d2 a b else (d2,false)
 if pi.2 then pi.1 else
 let d3:=pi.1
 if a > 0&&!lt d3[a - 1]! d3[pivot]! then
  match Sort.partitionEqual lt d3 a b pivot with
  | (mid,d4)=>if _h:a < mid∧mid≤b then Sort.pdq lt d4 mid b limit wasBalanced wasPartitioned else d4
 else
  match Sort.partition lt d3 a b pivot with
  | (mid,alreadyPartitioned,d4)=>
    if _h:a≤mid∧mid < b then
     if mid - a < b - mid then
      Sort.pdq lt (Sort.pdq lt d4 a mid limit true true) (mid+1) b limit (decide (mid - a ≥ (b - a) / 8)) alreadyPartitioned
     else
      Sort.pdq lt (Sort.pdq lt d4 (mid+1) b limit true true) a mid limit (decide (b - mid ≥ (b - a) / 8)) alreadyPartitioned
    else d4
theorem xZrE (n:Nat) (hs:n < 4294967296):∀ (s a b l:Nat) (ys:List Int),b - a≤s→a≤b→b≤n→ys.length=n→l≤64→W (fun N=>xZ7 N a b l ys) (fun r=>r=(Sort.pdq Sort.ltInt ys.toArray a b l true true).toList∧r.length=n):=by
 intro s
 induction s using Nat.strongRecOn with
 | ind s ih=>
 intro a0 b0 l0 ys0 hs0 hab hb0 hl0 hlim
 obtain ⟨R,hR⟩:∃ R,R=Sort.pdq Sort.ltInt ys0.toArray a0 b0 l0 true true:=⟨_,rfl⟩
 rw [← hR]
 refine W.sh ?_
 show W (fun N=>xZ3l N (xZ7 N) _ _ _ _) _
 unfold xZ3l
 refine W.lp6 (fun x y z wb wp zs=>∃ a b l:Nat,x=(a:Int)∧y=(b:Int)∧z=(l:Int)∧l≤64∧a≤b∧b≤n∧b - a≤s∧zs.length=n∧Sort.pdq Sort.ltInt zs.toArray a b l wb wp=R) (fun x y _ _ _ _=>(y - x).toNat) ⟨a0,b0,l0,rfl,rfl,rfl,hlim,hab,hb0,hs0,hl0,hR.symm⟩ ?_
 rintro F x y z wb wp ys ⟨a,b,l,rfl,rfl,rfl,h1,h2,h3,h4,h5,h6⟩ hn
 rw [Sort.pdq] at h6
 unfold xZ38
 rw [W.gd,miN h2,W.cond]
 refine ⟨i64n (by omega),fun hc=>?_,fun hc=>?_⟩
 ·have hc:=xZ18.1 hc
  rw [if_pos (by omega)] at h6
  refine W.call (xZrB (by omega) (by omega) h2) fun r hr=>?_
  rw [W.ret,← h6]
  exact ⟨hr.1,hr.2.trans h5⟩
 have hc:=xZ6J.1 hc
 rw [if_neg (by omega)] at h6
 rw [W.cond]
 refine ⟨fun hz=>?_,fun hz=>?_⟩
 ·have hz:l=0:=by simpa using hz
  rw [if_pos hz] at h6
  refine W.call (xZqo (by omega) (by omega) (by omega)) fun r hr=>?_
  rw [W.ret,← h6]
  exact ⟨hr.1,hr.2.trans h5⟩
 have hz:l≠0:=by simpa using hz
 rw [if_neg hz] at h6
 have j3:∀ (l' pv:Nat) (zs:List Int) (x:Bool),l'≤64→a≤pv→pv < b→zs.length=n→
  (if x=true then (match Sort.partitionEqual Sort.ltInt zs.toArray a b pv with | (mid,d4)=>if _h:a < mid∧mid≤b then Sort.pdq Sort.ltInt d4 mid b l' wb wp else d4) else
    (match Sort.partition Sort.ltInt zs.toArray a b pv with | (mid,ap,d4)=>if _h:a≤mid∧mid < b then (if mid - a < b - mid then Sort.pdq Sort.ltInt (Sort.pdq Sort.ltInt d4 a mid l' true true) (mid+1) b l' (decide (mid - a ≥ (b - a) / 8)) ap else Sort.pdq Sort.ltInt (Sort.pdq Sort.ltInt d4 (mid+1) b l' true true) a mid l' (decide (b - mid ≥ (b - a) / 8)) ap) else d4))=R→
  W (fun p:Nat×Nat=>xZd p.1 (xZ7 p.1) a b l' wb wp ((b - a:Nat):Int) pv x zs (F p)) (fun r=>r=R.toList∧r.length=n):=by
  intro l' pv zs x q1 q2 q3 q4 q5
  unfold xZd
  rw [W.cond]
  refine ⟨fun hx=>?_,fun hx=>?_⟩
  ·rw [if_pos hx] at q5
   have hr:=xZiz Sort.ltInt zs.toArray q2 q3 (by simp;omega)
   refine W.call (w_pqO (by omega) (by omega) q2 q3) fun r he=>?_
   obtain ⟨⟨mid,d4⟩,hpe⟩:∃ x,Sort.partitionEqual Sort.ltInt zs.toArray a b pv=x:=⟨_,rfl⟩
   rw [hpe] at q5 hr he
   dsimp only at q5 hr he
   rw [he.1]
   rw [dif_pos hr] at q5
   exact hn _ _ _ _ _ _ ⟨mid,b,l',rfl,rfl,rfl,q1,hr.2,h3,by omega,he.2.2.trans q4,by rw [he.2.1];exact q5⟩ (by omega)
  ·rw [if_neg (by rw [hx];decide)] at q5
   have hr:=Sort.partition_holds Sort.ltInt Sort.swo_ltInt zs.toArray a b pv q2 q3 (by simp;omega)
   refine W.call (xZqr (by omega) (by omega) q2 q3) fun r he=>?_
   obtain ⟨⟨mid,ap,d4⟩,hpe⟩:∃ x,Sort.partition Sort.ltInt zs.toArray a b pv=x:=⟨_,rfl⟩
   unfold PQ at he
   rw [hpe] at q5 hr he
   dsimp only at q5 hr he
   obtain ⟨e1,e2,e3,e4⟩:=he
   obtain ⟨r1,r2,_⟩:=hr
   rw [dif_pos ⟨r1,r2⟩,← e2] at q5
   have q5:(if mid - a < b - mid then Sort.pdq Sort.ltInt (Sort.pdq Sort.ltInt r.2.2.toArray a mid l' true true) (mid+1) b l' (decide (mid - a ≥ (b - a) / 8)) r.2.1 else Sort.pdq Sort.ltInt (Sort.pdq Sort.ltInt r.2.2.toArray (mid+1) b l' true true) a mid l' (decide (b - mid ≥ (b - a) / 8)) r.2.1)=R:=by rw [e3];exact q5
   rw [e1]
   simp only [miN r1,miN (Nat.le_of_lt r2),W.gd,p1N,ltN,W.cond,decide_eq_true_eq,decide_eq_false_iff_not]
   rw [show (8:Int)=((8:Nat):Int) from rfl,tdN _ _ (show b - a≤9223372036854775807 by omega),leN,leN]
   refine ⟨i64n (by omega),i64n (by omega),fun hm=>?_,fun hm=>⟨i64n (by omega),?_⟩⟩
   ·rw [if_pos hm] at q5
    refine W.call (ih (mid - a) (by omega) a mid l' r.2.2 (Nat.le_refl _) r1 (by omega) (e4.trans q4) q1) fun u hu=>?_
    rw [W.gd]
    exact ⟨i64n (by omega),hn _ _ _ _ _ _ ⟨mid+1,b,l',rfl,rfl,rfl,q1,by omega,h3,by omega,hu.2,by rw [hu.1];exact q5⟩ (by omega)⟩
   ·rw [if_neg hm] at q5
    refine W.call (ih (b - (mid+1)) (by omega) (mid+1) b l' r.2.2 (Nat.le_refl _) (by omega) h3 (e4.trans q4) q1) fun u hu=>?_
    exact hn _ _ _ _ _ _ ⟨a,mid,l',rfl,rfl,rfl,q1,r1,by omega,by omega,hu.2,by rw [hu.1];exact q5⟩ (by omega)
 have j2:∀ (l' pv:Nat) (zs:List Int) (x:Bool),l'≤64→a≤pv→pv < b→zs.length=n→
  (let pi:=if x=true then Sort.partialInsertionSort Sort.ltInt zs.toArray a b else (zs.toArray,false)
   if pi.2 then pi.1 else if (decide (a > 0)&&!Sort.ltInt pi.1[a - 1]! pi.1[pv]!)=true then (match Sort.partitionEqual Sort.ltInt pi.1 a b pv with | (mid,d4)=>if _h:a < mid∧mid≤b then Sort.pdq Sort.ltInt d4 mid b l' wb wp else d4) else
    (match Sort.partition Sort.ltInt pi.1 a b pv with | (mid,ap,d4)=>if _h:a≤mid∧mid < b then (if mid - a < b - mid then Sort.pdq Sort.ltInt (Sort.pdq Sort.ltInt d4 a mid l' true true) (mid+1) b l' (decide (mid - a ≥ (b - a) / 8)) ap else Sort.pdq Sort.ltInt (Sort.pdq Sort.ltInt d4 (mid+1) b l' true true) a mid l' (decide (b - mid ≥ (b - a) / 8)) ap) else d4))=R→
  W (fun p:Nat×Nat=>xZF p.1 (xZ7 p.1) a b l' wb wp ((b - a:Nat):Int) pv x zs (F p)) (fun r=>r=R.toList∧r.length=n):=by
  intro l' pv zs x q1 q2 q3 q4 q5
  have low:∀ us:List Int,us.length=n→(if (decide (a > 0)&&!Sort.ltInt us.toArray[a - 1]! us.toArray[pv]!)=true then (match Sort.partitionEqual Sort.ltInt us.toArray a b pv with | (mid,d4)=>if _h:a < mid∧mid≤b then Sort.pdq Sort.ltInt d4 mid b l' wb wp else d4) else
   (match Sort.partition Sort.ltInt us.toArray a b pv with | (mid,ap,d4)=>if _h:a≤mid∧mid < b then (if mid - a < b - mid then Sort.pdq Sort.ltInt (Sort.pdq Sort.ltInt d4 a mid l' true true) (mid+1) b l' (decide (mid - a ≥ (b - a) / 8)) ap else Sort.pdq Sort.ltInt (Sort.pdq Sort.ltInt d4 (mid+1) b l' true true) a mid l' (decide (b - mid ≥ (b - a) / 8)) ap) else d4))=R→
   ∀ f g:Nat×Nat→Option (List Int),(∀ p,f p=gd (i64b ((a:Int) - 1)) ((ix us ((a:Int) - 1)).bind fun e=>(ix us ((a:Int) - 1)).bind fun e2=>(ix us (pv:Int)).bind fun e3=>(ix us (pv:Int)).bind fun e4=>(xZo p.1 e2 e4).bind fun u=>xZd p.1 (xZ7 p.1) a b l' wb wp ((b - a:Nat):Int) pv (!u) us (F p)))→
   (∀ p,g p=xZd p.1 (xZ7 p.1) a b l' wb wp ((b - a:Nat):Int) pv false us (F p))→W (fun p=>bif ltB 0 (a:Int) then f p else g p) (fun r=>r=R.toList∧r.length=n):=by
   intro us u1 u2 f g hf hg
   obtain rfl:f=_:=funext hf
   obtain rfl:g=_:=funext hg
   rw [W.cond]
   refine ⟨fun hx=>?_,fun hx=>?_⟩
   ·have hx:=xZ4M.1 hx
    simp only [m1N (show 1≤a by omega),i64n (show a - 1≤9223372036854775807 by omega),xZ3A,ixg (l:=us) (i:=a - 1) (by omega),ixg (l:=us) (i:=pv) (by omega),Option.bind_some,xZc9]
    refine j3 l' pv us _ q1 q2 q3 u1 ?_
    rw [decide_eq_true (show a > 0 by omega),Bool.true_and] at u2
    exact u2
   ·have hx:=xZ5T.1 hx
    refine j3 l' pv us _ q1 q2 q3 u1 ?_
    rw [decide_eq_false (show ¬ a > 0 by omega),Bool.false_and] at u2
    exact u2
  unfold xZF
  rw [W.cond]
  refine ⟨fun hx=>?_,fun hx=>?_⟩
  ·subst hx
   simp only [if_true] at q5
   refine W.call (xZrG (by omega) (by omega) (by omega)) fun r hr=>?_
   obtain ⟨e1,e2,e3⟩:=hr
   rw [W.cond]
   refine ⟨fun hy=>?_,fun hy=>?_⟩
   ·rw [e1] at hy
    rw [if_pos hy] at q5
    rw [W.ret,← q5]
    exact ⟨e2,e3.trans q4⟩
   ·rw [e1] at hy
    rw [if_neg (by rw [hy];decide)] at q5
    have e2':r.2.toArray=(Sort.partialInsertionSort Sort.ltInt zs.toArray a b).1:=by rw [e2]
    rw [← e2'] at q5
    exact low r.2 (e3.trans q4) q5 _ _ (fun _=>rfl) fun _=>rfl
  ·subst hx
   exact low zs q4 q5 _ _ (fun _=>rfl) fun _=>rfl
 have j1:∀ (l' pv:Nat) (h:Sort.Hint) (zs:List Int),l'≤64→a≤pv→pv < b→zs.length=n→
  (let pi:=if (wb&&wp&&decide (h=.increasing))=true then Sort.partialInsertionSort Sort.ltInt zs.toArray a b else (zs.toArray,false)
   if pi.2 then pi.1 else if (decide (a > 0)&&!Sort.ltInt pi.1[a - 1]! pi.1[pv]!)=true then (match Sort.partitionEqual Sort.ltInt pi.1 a b pv with | (mid,d4)=>if _h:a < mid∧mid≤b then Sort.pdq Sort.ltInt d4 mid b l' wb wp else d4) else
    (match Sort.partition Sort.ltInt pi.1 a b pv with | (mid,ap,d4)=>if _h:a≤mid∧mid < b then (if mid - a < b - mid then Sort.pdq Sort.ltInt (Sort.pdq Sort.ltInt d4 a mid l' true true) (mid+1) b l' (decide (mid - a ≥ (b - a) / 8)) ap else Sort.pdq Sort.ltInt (Sort.pdq Sort.ltInt d4 (mid+1) b l' true true) a mid l' (decide (b - mid ≥ (b - a) / 8)) ap) else d4))=R→
  W (fun p:Nat×Nat=>xZ1a p.1 (xZ7 p.1) a b l' wb wp ((b - a:Nat):Int) pv (hintN h) zs (F p)) (fun r=>r=R.toList∧r.length=n):=by
  intro l' pv h zs q1 q2 q3 q4 q5
  have hh:(hintN h==1)=decide (h=.increasing):=by cases h<;>rfl
  unfold xZ1a
  rw [hh]
  have key:=j2 l' pv zs _ q1 q2 q3 q4 q5
  revert key
  cases wb<;>cases wp<;>intro key<;>exact key
 have j0:∀ (l':Nat) (zs:List Int),l'≤64→zs.length=n→pdT Sort.ltInt zs.toArray a b l' wb wp=R→
  W (fun p:Nat×Nat=>xZ19 p.1 (xZ7 p.1) a b l' wb wp ((b - a:Nat):Int) zs (F p)) (fun r=>r=R.toList∧r.length=n):=by
  intro l' zs q1 q2 q3
  obtain ⟨m,h,e1,_⟩:=xZoc (N:=0) (a:=a) (b:=b) (xs:=zs) (by omega) (by omega) (by omega)
  have e2:∀ N,xZY N a b zs=some ((m:Int),hintN h,zs):=fun N=>by
   obtain ⟨m',h',f1,f2⟩:=xZoc (N:=N) (a:=a) (b:=b) (xs:=zs) (by omega) (by omega) (by omega)
   rw [e1] at f1;cases f1;exact f2
  have hr:=Sort.choosePivot_holds Sort.ltInt zs.toArray a b (by omega)
  unfold pdT at q3
  rw [e1] at q3 hr
  dsimp only at q3 hr
  unfold xZ19
  simp only [e2,Option.bind_some]
  cases h with
  | decreasing=>
    simp only [if_true] at q3
    rw [W.cond]
    refine ⟨fun _=>?_,fun hx=>by cases hx⟩
    refine W.call (xZrI (by omega) (by omega) (by omega)) fun r he=>?_
    simp only [W.gd,m1N (show 1≤b by omega),miN hr.1,miN (show m - a≤b - 1 by omega)]
    refine ⟨i64n (by omega),i64n (by omega),i64n (by omega),?_⟩
    exact j1 l' (b - 1 - (m - a)) .increasing r q1 (by omega) (by omega) (he.2.trans q2) (by rw [he.1];exact q3)
  | unknown=>
    rw [W.cond]
    refine ⟨(fun hx=>by cases hx),fun _=>?_⟩
    exact j1 l' m .unknown zs q1 hr.1 hr.2 q2 q3
  | increasing=>
    rw [W.cond]
    refine ⟨(fun hx=>by cases hx),fun _=>?_⟩
    exact j1 l' m .increasing zs q1 hr.1 hr.2 q2 q3
 rw [W.cond]
 cases hwb:wb with
 | false=>
   subst hwb
   refine ⟨fun _=>?_,fun h=>by cases h⟩
   refine W.call (xZrw (by omega) (by omega) (by omega)) fun r he=>?_
   rw [W.gd,m1N (show 1≤l by omega)]
   exact ⟨i64n (by omega),j0 (l - 1) r (by omega) (he.2.trans h5) (by rw [he.1];exact h6)⟩
 | true=>
   subst hwb
   refine ⟨(fun h=>by cases h),fun _=>?_⟩
   exact j0 l ys h1 h5 h6
theorem xZqw {xs:List Int} (hs:xs.length < 4294967296):W (fun N=>xZ4k N xs) (·=xs.mergeSort fun x y=>decide (x≤y)):=by
 unfold xZ4k
 simp only [wrU (show xs.length < 18446744073709551616 by omega),e_len hs,Option.bind_some]
 have h:=Sort.sortInt xs
 unfold Sort.sort at h
 have hb:=bl_32 hs
 have hx:∀ N,xZ3m N 0 (xs.length:Int) (Sort.bitsLen xs.length:Int) xs=xZ7 N ((0:Nat):Int) (xs.length:Int) (Sort.bitsLen xs.length:Int) xs:=fun _=>rfl
 simp only [hx]
 refine W.call (xZrE xs.length hs (xs.length - 0) 0 xs.length (Sort.bitsLen xs.length) xs (Nat.le_refl _) (Nat.zero_le _) (Nat.le_refl _) rfl (by omega)) fun r hr=>?_
 rw [W.ret,hr.1,← h]
 simp
instance inhE:Inhabited xZ0:=⟨⟨0,0⟩⟩
def cmpI (x y:Int):Int:=if x < y then -1 else if y < x then 1 else 0
def cfE (x y:xZ0):Int:=if cmpI x.To y.To≠0 then cmpI x.To y.To else cmpI x.Negs y.Negs
def elt (x y:xZ0):Bool:=decide (x.To < y.To∨x.To=y.To∧x.Negs < y.Negs)
theorem xZoa (N:Nat) (x y:Int):xZ7M N x y=some (cmpI x y)∧xZ5Q N x y=some (cmpI x y):=by
 unfold xZ7M xZ5Q cmpI
 simp only [xZ8I,xZ3V,bne_self_eq_false,Option.bind_some,cond_false,xZd1]
 by_cases h1:x < y
 ·simp [h1]
 ·by_cases h2:y < x
  ·simp [h1,h2]
  ·simp [h1,h2]
theorem e_lsE (N:Nat) (x y:xZ0):xZ1M N x y=some (cfE x y):=by
 unfold xZ1M
 simp only [(xZoa N _ _).1,(xZoa N _ _).2,Option.bind_some]
 unfold cfE
 generalize cmpI x.To y.To=a
 generalize cmpI x.Negs y.Negs=b
 have:xZcH N [a,b]=some (if a≠0 then a else b):=by
  by_cases ha:a=0
  ·subst ha
   by_cases hb:b=0
   ·subst hb;rfl
   ·show (bif (b != 0) then some b else _)=_
    rw [show (b != 0)=true by simpa using hb];rfl
  ·show (bif (a != 0) then some a else _)=_
   rw [show (a != 0)=true by simpa using ha,if_pos ha];rfl
 rw [this];rfl
theorem e_cf (x y:xZ0):ltB (cfE x y) 0=elt x y:=by
 unfold cfE elt cmpI
 rw [xZd1]
 congr 1
 apply propext
 repeat' split
 all_goals omega
theorem xZfj {x y:xZ0}:elt x y=true ↔ (x.To < y.To∨x.To=y.To∧x.Negs < y.Negs):=by unfold elt;simp
theorem xZe8 {x y:xZ0}:elt x y=false ↔ ¬ (x.To < y.To∨x.To=y.To∧x.Negs < y.Negs):=by unfold elt;rw [decide_eq_false_iff_not]
theorem xZkG:Sort.SWO elt where
 irrefl x:=xZe8.2 (by omega)
 trans x y z h1 h2:=xZfj.2 (by have:=xZfj.1 h1;have:=xZfj.1 h2;omega)
 ntrans x y z h1 h2:=xZe8.2 (by have:=xZe8.1 h1;have:=xZe8.1 h2;omega)
theorem xZod (x y:xZ0) (h1:elt x y=false) (h2:elt y x=false):x=y:=by
 have:=xZe8.1 h1
 have:=xZe8.1 h2
 cases x;cases y
 simp only at *
 congr 1<;>omega
theorem xZrA {a b:Nat} {xs:List xZ0} (hb:b≤xs.length) (hs:xs.length≤4611686018427387904) (ha:a≤b):W (fun N=>xZ1e N a b xs) (fun r=>r=(Sort.insertionSort elt xs.toArray a b).toList∧r.length=xs.length):=by
 unfold xZ1e
 simp only [W.gd,p1N]
 refine ⟨i64n (by omega),?_⟩
 refine W.lp2 (fun i ys=>∃ i':Nat,i=(i':Int)∧a+1≤i'∧ys.length=xs.length∧Sort.insOuter elt a b i' ys.toArray=Sort.insertionSort elt xs.toArray a b) (fun i ys=>b - i.toNat) ⟨a+1,rfl,Nat.le_refl _,rfl,rfl⟩ ?_
 rintro F i ys ⟨i,rfl,h1,h2,h3⟩ hn
 unfold xZ20
 simp only [W.cond,W.ret,ltN,decide_eq_true_eq,decide_eq_false_iff_not,p1N]
 refine ⟨fun hc=>?_,fun hc=>?_⟩
 ·rw [Sort.insOuter,if_pos hc] at h3
  refine W.lp2 (fun j zs=>∃ j':Nat,j=(j':Int)∧j'≤i∧zs.length=xs.length∧Sort.insOuter elt a b (i+1) (Sort.insInner elt a j' zs.toArray)=Sort.insertionSort elt xs.toArray a b) (fun j _=>j.toNat) ⟨i,rfl,Nat.le_refl _,h2,h3⟩ ?_
  rintro G j zs ⟨j,rfl,q1,q2,q3⟩ hm
  have out:∀ us:List xZ0,us.length=xs.length→Sort.insOuter elt a b (i+1) us.toArray=Sort.insertionSort elt xs.toArray a b→W (fun p:(Nat×Nat)×Nat=>F p.1 ((i+1:Nat):Int) us) (fun r=>r=(Sort.insertionSort elt xs.toArray a b).toList∧r.length=xs.length):=fun us e1 e2=>
   (hn _ us ⟨i+1,rfl,by omega,e1,e2⟩ (by simp;omega)).lift
  unfold xZ21
  simp only [W.cond,W.ret,W.gd,ltN,decide_eq_true_eq,decide_eq_false_iff_not,p1N]
  have hi1:i64b ((i+1:Nat):Int)=true:=i64n (by omega)
  refine ⟨fun hj=>?_,fun hj=>⟨hi1,out zs q2 ?_⟩⟩
  ·obtain ⟨k,rfl⟩:∃ k,j=k+1:=⟨j - 1,by omega⟩
   simp only [m1N (show 1≤k+1 by omega),Nat.add_sub_cancel,ixg (l:=zs) (i:=k+1) (by omega),ixg (l:=zs) (i:=k) (by omega),Option.bind_some,W.gd,i64n (show k≤9223372036854775807 by omega),true_and,e_lsE,e_cf,W.cond,Int.toNat_natCast,ixs (l:=zs) (i:=k) (by omega),sw_eq]
   rw [Sort.insInner] at q3
   refine ⟨fun hl=>?_,fun hl=>⟨hi1,out zs q2 ?_⟩⟩
   ·rw [if_pos (by simp only [Bool.and_eq_true,decide_eq_true_eq];exact ⟨hj,hl⟩)] at q3
    exact hm _ _ ⟨k,rfl,by omega,by rw [xZ60];exact q2,by rw [xZ89];exact q3⟩ (by simp)
   ·rw [if_neg (by simp only [Bool.and_eq_true,decide_eq_true_eq];intro h;have:=h.2;simp only [gx] at hl;rw [hl] at this;cases this)] at q3
    exact q3
  ·cases j with
   | zero=>rw [Sort.insInner] at q3;exact q3
   | succ k=>rw [Sort.insInner,if_neg (by simp only [Bool.and_eq_true,decide_eq_true_eq];omega)] at q3;exact q3
 ·rw [Sort.insOuter,if_neg hc] at h3
  exact ⟨by rw [← h3],h2⟩
theorem xZml {lo hi fi:Nat} {xs:List xZ0} (hb:fi+hi≤xs.length) (hs:xs.length≤1152921504606846976) (hl:lo≤xs.length):W (fun N=>xZ13 N lo hi fi xs) (fun r=>r=(Sort.siftDown elt hi fi lo xs.toArray).toList∧r.length=xs.length):=by
 unfold xZ13
 refine W.lp2 (fun i ys=>∃ r:Nat,i=(r:Int)∧r≤xs.length∧ys.length=xs.length∧Sort.siftDown elt hi fi r ys.toArray=Sort.siftDown elt hi fi lo xs.toArray) (fun i ys=>hi - i.toNat) ⟨lo,rfl,hl,rfl,rfl⟩ ?_
 rintro F i ys ⟨r,rfl,h1,h2,h3⟩ hn
 unfold xZ2t
 simp only [W.gd,W.cond,W.ret,mu2,p1N,leN,ltN,plN,decide_eq_true_eq,decide_eq_false_iff_not]
 refine ⟨i64n (by omega),i64n (by omega),fun hc=>?_,fun hc=>⟨i64n (by omega),?_⟩⟩
 ·rw [Sort.siftDown,dif_pos hc] at h3
  exact ⟨by rw [← h3],h2⟩
 rw [Sort.siftDown,dif_neg hc] at h3
 have go:∀ c:Nat,r < c→c < hi→Sort.siftDown elt hi fi c (Sort.swp ys.toArray (fi+r) (fi+c))=Sort.siftDown elt hi fi lo xs.toArray→W (fun p=>F p ((c:Nat):Int) (sw ys (fi+r) (fi+c))) (fun r=>r=(Sort.siftDown elt hi fi lo xs.toArray).toList∧r.length=xs.length):=fun c q1 q2 q3=>
  hn _ _ ⟨c,rfl,by omega,by rw [xZ60];exact h2,by rw [xZ89];exact q3⟩ (by simp;omega)
 refine ⟨fun hd=>?_,fun hd=>?_⟩
 rotate_left
 ·rw [if_neg (by simp only [Bool.and_eq_true,decide_eq_true_eq];omega)] at h3
  simp only [ixg (l:=ys) (i:=fi+r) (by omega),ixg (l:=ys) (i:=fi+(2 * r+1)) (by omega),Option.bind_some,W.gd,i64n (show fi+r≤9223372036854775807 by omega),i64n (show fi+(2 * r+1)≤9223372036854775807 by omega),true_and,e_lsE,e_cf,W.cond,W.ret,Int.toNat_natCast,ixs (l:=ys) (i:=fi+(2 * r+1)) (by omega),sw_eq,notT,notF]
  refine ⟨fun hx=>?_,fun hx=>?_⟩
  ·rw [if_pos (by simp only [notT];exact hx)] at h3
   exact ⟨by rw [← h3],h2⟩
  ·rw [if_neg (by simp only [notT];intro h;exact absurd (hx.symm.trans h) (by decide))] at h3
   exact go _ (by omega) (by omega) h3
 simp only [ixg (l:=ys) (i:=fi+(2 * r+1)) (by omega),ixg (l:=ys) (i:=fi+(2 * r+1)+1) (by omega),Option.bind_some,W.gd,i64n (show fi+(2 * r+1)≤9223372036854775807 by omega),i64n (show fi+(2 * r+1)+1≤9223372036854775807 by omega),true_and,e_lsE,e_cf,W.cond]
 refine ⟨fun hy=>?_,fun hy=>?_⟩
 ·rw [if_pos (by simp only [Bool.and_eq_true,decide_eq_true_eq];exact ⟨hd,hy⟩)] at h3
  simp only [ixg (l:=ys) (i:=fi+r) (by omega),ixg (l:=ys) (i:=fi+(2 * r+1+1)) (by omega),Option.bind_some,W.gd,i64n (show fi+r≤9223372036854775807 by omega),i64n (show 2 * r+1+1≤9223372036854775807 by omega),i64n (show fi+(2 * r+1+1)≤9223372036854775807 by omega),true_and,e_lsE,e_cf,W.cond,W.ret,Int.toNat_natCast,ixs (l:=ys) (i:=fi+(2 * r+1+1)) (by omega),sw_eq,notT,notF]
  refine ⟨fun hx=>?_,fun hx=>?_⟩
  ·rw [if_pos (by simp only [notT];exact hx)] at h3
   exact ⟨by rw [← h3],h2⟩
  ·rw [if_neg (by simp only [notT];intro h;exact absurd (hx.symm.trans h) (by decide)),dif_pos hd] at h3
   exact go _ (by omega) (by omega) h3
 ·rw [if_neg (by simp only [Bool.and_eq_true,decide_eq_true_eq];intro h;exact absurd (hy.symm.trans h.2) (by decide))] at h3
  simp only [ixg (l:=ys) (i:=fi+r) (by omega),ixg (l:=ys) (i:=fi+(2 * r+1)) (by omega),Option.bind_some,W.gd,i64n (show fi+r≤9223372036854775807 by omega),i64n (show fi+(2 * r+1)≤9223372036854775807 by omega),true_and,e_lsE,e_cf,W.cond,W.ret,Int.toNat_natCast,ixs (l:=ys) (i:=fi+(2 * r+1)) (by omega),sw_eq,notT,notF]
  refine ⟨fun hx=>?_,fun hx=>?_⟩
  ·rw [if_pos (by simp only [notT];exact hx)] at h3
   exact ⟨by rw [← h3],h2⟩
  ·rw [if_neg (by simp only [notT];intro h;exact absurd (hx.symm.trans h) (by decide))] at h3
   exact go _ (by omega) (by omega) h3
theorem xZqn {a b:Nat} {xs:List xZ0} (hb:b≤xs.length) (hs:xs.length≤1152921504606846976) (ha:a < b):W (fun N=>xZ1R N a b xs) (fun r=>r=(Sort.heapSort elt xs.toArray a b).toList∧r.length=xs.length):=by
 unfold xZ1R
 simp only [W.gd,miN (Nat.le_of_lt ha),m1N (show 1≤b - a by omega)]
 refine ⟨i64n (by omega),i64n (by omega),?_⟩
 rw [show (2:Int)=((2:Nat):Int) from rfl,tdN _ _ (show b - a - 1≤9223372036854775807 by omega)]
 refine W.lp2 (fun i ys=>∃ k:Nat,i=(k:Int) - 1∧k≤(b - a - 1) / 2+1∧ys.length=xs.length∧Sort.heapPop elt a (b - a) (Sort.heapBuild elt (b - a) a k ys.toArray)=Sort.heapSort elt xs.toArray a b) (fun i ys=>(i+1).toNat) ⟨(b - a - 1) / 2+1,by omega,Nat.le_refl _,rfl,rfl⟩ ?_
 rintro F i ys ⟨k,rfl,h1,h2,h3⟩ hn
 unfold xZ2r
 simp only [W.cond,W.gd,m1N (show 1≤b - a by omega)]
 refine ⟨fun hc=>?_,fun hc=>⟨i64n (by omega),?_⟩⟩
 ·have hc:=xZ18.1 hc
  obtain ⟨k,rfl⟩:∃ j,k=j+1:=⟨k - 1,by omega⟩
  rw [show ((k+1:Nat):Int) - 1=(k:Int) by omega]
  refine W.call (xZml (by omega) (by omega) (by omega)) fun r hr=>?_
  rw [W.gd]
  refine ⟨xZ5D.2 (by omega),hn _ _ ⟨k,rfl,by omega,?_,?_⟩ (by omega)⟩
  ·rw [hr.2];exact h2
  ·rw [Sort.heapBuild] at h3
   rw [hr.1];exact h3
 ·have hc:=xZ6J.1 hc
  obtain rfl:k=0:=by omega
  rw [Sort.heapBuild] at h3
  refine W.lp2 (fun i zs=>∃ k:Nat,i=(k:Int) - 1∧k≤b - a∧zs.length=xs.length∧Sort.heapPop elt a k zs.toArray=Sort.heapSort elt xs.toArray a b) (fun i _=>(i+1).toNat) ⟨b - a,by omega,Nat.le_refl _,h2,h3⟩ ?_
  rintro G i zs ⟨k,rfl,q1,q2,q3⟩ hm
  unfold xZ2s
  simp only [W.cond,W.gd,W.ret]
  refine ⟨fun hc=>?_,fun hc=>?_⟩
  ·have hc:=xZ18.1 hc
   obtain ⟨k,rfl⟩:∃ j,k=j+1:=⟨k - 1,by omega⟩
   rw [show ((k+1:Nat):Int) - 1=(k:Int) by omega]
   simp only [plN,i64n (show a+k≤9223372036854775807 by omega),true_and,ixg (l:=zs) (i:=a+k) (by omega),ixg (l:=zs) (i:=a) (by omega),Option.bind_some,Int.toNat_natCast,ixs (l:=zs) (i:=a+k) (by omega),sw_eq]
   refine W.call (xZml (lo:=0) (hi:=k) (fi:=a) (xs:=sw zs a (a+k)) (by rw [xZ60];omega) (by rw [xZ60];omega) (by omega)) fun r hr=>?_
   rw [W.gd]
   refine ⟨xZ5D.2 (by omega),hm _ _ ⟨k,rfl,by omega,?_,?_⟩ (by omega)⟩
   ·rw [hr.2,xZ60];exact q2
   ·rw [Sort.heapPop] at q3
    rw [hr.1,xZ89];exact q3
  ·have hc:=xZ6J.1 hc
   obtain rfl:k=0:=by omega
   rw [Sort.heapPop] at q3
   exact ⟨by rw [← q3],q2⟩
theorem xZrH {a b:Nat} {xs:List xZ0} (hb:b≤xs.length) (hs:xs.length≤1152921504606846976) (ha:a < b):W (fun N=>xZ1k N a b xs) (fun r=>r=(Sort.reverseRange xs.toArray a b).toList∧r.length=xs.length):=by
 unfold xZ1k
 simp only [W.gd,m1N (show 1≤b by omega)]
 refine ⟨i64n (by omega),?_⟩
 refine W.lp3 (fun i j ys=>∃ k l:Nat,i=(k:Int)∧j=(l:Int)∧l < xs.length∧ys.length=xs.length∧Sort.reverseLoop k l ys.toArray=Sort.reverseRange xs.toArray a b) (fun i j ys=>(j - i).toNat) ⟨a,b - 1,rfl,rfl,by omega,rfl,rfl⟩ ?_
 rintro F i j ys ⟨k,l,rfl,rfl,h1,h2,h3⟩ hn
 unfold xZ26
 simp only [W.cond,W.ret,ltN,decide_eq_true_eq,decide_eq_false_iff_not]
 refine ⟨fun hc=>?_,fun hc=>?_⟩
 ·rw [Sort.reverseLoop,if_pos hc] at h3
  simp only [ixg (l:=ys) (i:=l) (by omega),ixg (l:=ys) (i:=k) (by omega),Option.bind_some,W.gd,Int.toNat_natCast,ixs (l:=ys) (i:=l) (by omega),sw_eq,p1N,m1N (show 1≤l by omega),i64n (show k+1≤9223372036854775807 by omega),i64n (show l - 1≤9223372036854775807 by omega),true_and]
  exact hn _ _ _ ⟨k+1,l - 1,rfl,rfl,by omega,by rw [xZ60];exact h2,by rw [xZ89];exact h3⟩ (by omega)
 ·rw [Sort.reverseLoop,if_neg hc] at h3
  exact ⟨by rw [← h3],h2⟩
theorem xZjN {N a b y:Nat} {xs:List xZ0} (ha:a < xs.length) (hb:b < xs.length) (hy:y≤100):∃ a' b' y':Nat,Sort.order2 elt xs.toArray a b y=(a',b',y')∧xZI N a b y xs=some ((a':Int),(b':Int),(y':Int),xs)∧(a'=a∧b'=b∨a'=b∧b'=a)∧y'≤y+1:=by
 unfold xZI Sort.order2
 simp only [ixg ha,ixg hb,Option.bind_some,e_lsE,e_cf]
 cases h:elt (gx xs b) (gx xs a) with
 | true=>
   simp only [gx] at h
   rw [if_pos h]
   exact ⟨b,a,y+1,rfl,by simp only [cond_true,p1N,i64n (show y+1≤9223372036854775807 by omega),xZ3A],.inr ⟨rfl,rfl⟩,Nat.le_refl _⟩
 | false=>
   simp only [gx] at h
   rw [if_neg (by rw [h];decide)]
   exact ⟨a,b,y,rfl,rfl,.inl ⟨rfl,rfl⟩,by omega⟩
theorem xZmP {N a b c y:Nat} {xs:List xZ0} (ha:a < xs.length) (hb:b < xs.length) (hc:c < xs.length) (hy:y≤50):∃ m y':Nat,Sort.median elt xs.toArray a b c y=(m,y')∧xZu N a b c y xs=some ((m:Int),(y':Int),xs)∧(m=a∨m=b∨m=c)∧y'≤y+3:=by
 obtain ⟨a1,b1,y1,p1,q1,r1,s1⟩:=xZjN (N:=N) ha hb (show y≤100 by omega)
 obtain ⟨b2,c2,y2,p2,q2,r2,s2⟩:=xZjN (N:=N) (a:=b1) (b:=c) (xs:=xs) (y:=y1) (by omega) hc (by omega)
 obtain ⟨a3,b3,y3,p3,q3,r3,s3⟩:=xZjN (N:=N) (a:=a1) (b:=b2) (xs:=xs) (y:=y2) (by omega) (by omega) (by omega)
 refine ⟨b3,y3,?_,?_,by omega,by omega⟩
 ·unfold Sort.median
  simp only [p1,p2,p3]
 ·unfold xZu
  simp only [q1,q2,q3,Option.bind_some]
theorem xZmN {N a y:Nat} {xs:List xZ0} (h1:1≤a) (ha:a+1 < xs.length) (hs:xs.length≤1152921504606846976) (hy:y≤50):∃ m y':Nat,Sort.medianAdjacent elt xs.toArray a y=(m,y')∧xZf N a y xs=some ((m:Int),(y':Int),xs)∧m < xs.length∧y'≤y+3:=by
 obtain ⟨m,y',p,q,r,s⟩:=xZmP (N:=N) (a:=a - 1) (b:=a) (c:=a+1) (xs:=xs) (by omega) (by omega) ha hy
 refine ⟨m,y',p,?_,by omega,s⟩
 unfold xZf
 simp only [m1N h1,p1N,i64n (show a - 1≤9223372036854775807 by omega),i64n (show a+1≤9223372036854775807 by omega),xZ3A,q,Option.bind_some]
theorem xZob {N a b:Nat} {xs:List xZ0} (hb:b≤xs.length) (hs:xs.length≤1152921504606846976) (ha:a < b):∃ (m:Nat) (h:Sort.Hint),Sort.choosePivot elt xs.toArray a b=(m,h)∧xZL N a b xs=some ((m:Int),hintN h,xs):=by
 have fin:∀ (m y:Nat),(bif ((y:Int)==0) then some ((m:Int),(1:Int),xs) else bif ((y:Int)==12) then some ((m:Int),(2:Int),xs) else some ((m:Int),(0:Int),xs))=some ((m:Int),hintN (if y=0 then Sort.Hint.increasing else if y=12 then .decreasing else .unknown),xs):=by
  intro m y
  by_cases h0:y=0
  ·subst h0;rfl
  ·by_cases h1:y=12
   ·subst h1;rfl
   ·rw [if_neg h0,if_neg h1,show ((y:Int)==0)=false by simpa using h0,show ((y:Int)==12)=false by rw [beq_eq_false_iff_ne];omega];rfl
 unfold xZL Sort.choosePivot
 simp only [miN (Nat.le_of_lt ha),show (4:Int)=((4:Nat):Int) from rfl,tdN _ _ (show b - a≤9223372036854775807 by omega)]
 simp only [show (1:Int)=((1:Nat):Int) from rfl,show (2:Int)=((2:Nat):Int) from rfl,show (3:Int)=((3:Nat):Int) from rfl,show (8:Int)=((8:Nat):Int) from rfl,show (50:Int)=((50:Nat):Int) from rfl,muN,plN,leN,i64n (show b - a≤9223372036854775807 by omega),i64n (show (b - a) / 4 * 1≤9223372036854775807 by omega),i64n (show (b - a) / 4 * 2≤9223372036854775807 by omega),i64n (show (b - a) / 4 * 3≤9223372036854775807 by omega),
  i64n (show a+(b - a) / 4 * 1≤9223372036854775807 by omega),i64n (show a+(b - a) / 4 * 2≤9223372036854775807 by omega),i64n (show a+(b - a) / 4 * 3≤9223372036854775807 by omega),xZ3A]
 by_cases h8:8≤b - a
 ·simp only [h8,decide_true,cond_true,ge_iff_le,if_true]
  by_cases h50:50≤b - a
  ·simp only [h50,decide_true,cond_true,if_true]
   obtain ⟨i,y1,p1,q1,r1,s1⟩:=xZmN (N:=N) (a:=a+(b - a) / 4 * 1) (xs:=xs) (y:=0) (by omega) (by omega) hs (by omega)
   obtain ⟨j,y2,p2,q2,r2,s2⟩:=xZmN (N:=N) (a:=a+(b - a) / 4 * 2) (xs:=xs) (y:=y1) (by omega) (by omega) hs (by omega)
   obtain ⟨k,y3,p3,q3,r3,s3⟩:=xZmN (N:=N) (a:=a+(b - a) / 4 * 3) (xs:=xs) (y:=y2) (by omega) (by omega) hs (by omega)
   obtain ⟨m,y4,p4,q4,r4,s4⟩:=xZmP (N:=N) (a:=i) (b:=j) (c:=k) (xs:=xs) (y:=y3) r1 r2 r3 (by omega)
   have q1:xZf N ((a+(b - a) / 4 * 1:Nat):Int) 0 xs=some ((i:Int),(y1:Int),xs):=q1
   simp only [p1,p2,p3,p4,q1,q2,q3,q4,Option.bind_some]
   exact ⟨m,_,rfl,fin m y4⟩
  ·simp only [h50,decide_false,cond_false,if_false]
   obtain ⟨m,y4,p4,q4,r4,s4⟩:=xZmP (N:=N) (a:=a+(b - a) / 4 * 1) (b:=a+(b - a) / 4 * 2) (c:=a+(b - a) / 4 * 3) (xs:=xs) (y:=0) (by omega) (by omega) (by omega) (by omega)
   have q4:xZu N ((a+(b - a) / 4 * 1:Nat):Int) ((a+(b - a) / 4 * 2:Nat):Int) ((a+(b - a) / 4 * 3:Nat):Int) 0 xs=some ((m:Int),(y4:Int),xs):=q4
   simp only [p4,q4,Option.bind_some]
   exact ⟨m,_,rfl,fin m y4⟩
 ·simp only [h8,decide_false,cond_false,ge_iff_le,if_false]
  exact ⟨_,_,rfl,rfl⟩
theorem w_plE {ι:Type} [Lim ι] {N:ι→Nat} [Tends N] {a b n i0 j0:Nat} {ys:List xZ0} {Q:Int×Bool×List xZ0→Prop} (hb:b≤n) (hab:a < b) (hs:n≤1152921504606846976) (h1:a < i0) (h2:i0≤j0+2) (h3:j0 < b) (hl:ys.length=n)
 (hQ:∀ (m:Nat) (zs:List xZ0),Sort.partLoop elt a i0 j0 ys.toArray=(m,zs.toArray)→zs.length=n→Q ((m:Int),false,sw zs m a)):W (fun i=>lp3 (xZN (N i) a) (N i) i0 j0 ys) Q:=by
 refine W.lp3 (fun i j zs=>∃ k l:Nat,i=(k:Int)∧j=(l:Int)∧a < k∧k≤l+2∧l < b∧zs.length=n∧Sort.partLoop elt a k l zs.toArray=Sort.partLoop elt a i0 j0 ys.toArray) (fun i j _=>(j+1 - i).toNat) ⟨i0,j0,rfl,rfl,h1,h2,h3,hl,rfl⟩ ?_
 rintro F i j zs ⟨i,j,rfl,rfl,p1,p2,p3,p4,p5⟩ hn
 rw [Sort.partLoop_eq] at p5
 obtain ⟨I,hI⟩:∃ I,I=Sort.scanUp (fun x=>elt x (gx zs a)) zs.toArray j i:=⟨_,rfl⟩
 obtain ⟨J,hJ⟩:∃ J,J=Sort.scanDown (fun x=>!elt x (gx zs a)) zs.toArray I j:=⟨_,rfl⟩
 have p5:(if I > J then (J,zs.toArray) else Sort.partLoop elt a (I+1) (J - 1) (Sort.swp zs.toArray I J))=Sort.partLoop elt a i0 j0 ys.toArray:=by
  rw [← p5,hJ,hI];rfl
 unfold xZN
 refine W.lp1 (fun x=>∃ k:Nat,x=(k:Int)∧i≤k∧k≤j+2∧Sort.scanUp (fun x=>elt x (gx zs a)) zs.toArray j k=I) (fun x=>(j+1 - x).toNat) ⟨i,rfl,Nat.le_refl _,p2,hI.symm⟩ ?_
 rintro G x ⟨k,rfl,q1,q2,q3⟩ hm
 have down:k=I→W (fun p:(ι×Nat)×Nat=>lp1 (xZO (N p.1.1) a k zs (F p.1)) (N p.1.1) j) Q:=by
  rintro rfl
  refine W.lp1 (fun x=>∃ l:Nat,x=(l:Int)∧k≤l+2∧l≤j∧Sort.scanDown (fun x=>!elt x (gx zs a)) zs.toArray k l=J) (fun x=>x.toNat) ⟨j,rfl,by omega,Nat.le_refl _,hJ.symm⟩ ?_
  rintro H x ⟨l,rfl,r1,r2,r3⟩ ho
  rw [xZft (by omega)] at r3
  unfold xZO
  simp only [ixg (l:=zs) (i:=l) (by omega),ixg (l:=zs) (i:=a) (by omega),Option.bind_some,e_lsE,e_cf,leN,ltN,Int.toNat_natCast,ixs (l:=zs) (i:=a) (by omega),ixs (l:=zs) (i:=l) (by omega),sw_eq]
  refine W.cond2 (fun c1 c2=>?_) fun c=>?_
  ·have c1:=of_decide_eq_true c1
   rw [if_pos (by rw [Bool.and_eq_true];exact ⟨decide_eq_true c1,c2⟩)] at r3
   rw [W.gd,m1N (show 1≤l by omega)]
   exact ⟨i64n (by omega),ho _ ⟨l - 1,rfl,by omega,by omega,r3⟩ (by omega)⟩
  ·rw [if_neg (xZiS c)] at r3
   subst r3
   simp only [W.cond,decide_eq_true_eq,decide_eq_false_iff_not]
   refine ⟨fun hc=>?_,fun hc=>?_⟩
   ·rw [W.ret]
    rw [if_pos hc] at p5
    exact hQ _ _ p5.symm p4
   ·rw [if_neg hc,← xZ89] at p5
    simp only [ixg (l:=zs) (i:=k) (by omega),ixs (l:=zs) (i:=l) (by omega),Option.bind_some,W.gd,p1N,m1N (show 1≤l by omega),i64n (show k+1≤9223372036854775807 by omega),i64n (show l - 1≤9223372036854775807 by omega),true_and,sw_eq]
    exact (hn _ _ _ ⟨k+1,l - 1,rfl,rfl,by omega,by omega,by omega,by rw [xZ60];exact p4,p5⟩ (by omega)).lift.lift
 unfold xZ2l
 simp only [W.cond,leN,decide_eq_true_eq,decide_eq_false_iff_not]
 rw [xZfu] at q3
 refine ⟨fun hc=>?_,fun hc=>?_⟩
 ·simp only [ixg (l:=zs) (i:=k) (by omega),ixg (l:=zs) (i:=a) (by omega),Option.bind_some,e_lsE,e_cf,W.cond,W.gd,p1N]
  refine ⟨fun hl=>⟨i64n (by omega),hm _ ⟨k+1,rfl,by omega,by omega,?_⟩ (by omega)⟩,fun hl=>down ?_⟩
  ·rw [if_pos (by simp only [Bool.and_eq_true,decide_eq_true_eq];exact ⟨hc,hl⟩)] at q3;exact q3
  ·rw [if_neg (by simp only [Bool.and_eq_true,decide_eq_true_eq];intro h;exact absurd (hl.symm.trans h.2) (by decide))] at q3;exact q3
 ·rw [if_neg (by simp only [Bool.and_eq_true,decide_eq_true_eq];intro h;exact hc h.1)] at q3
  exact down q3
def PQE (xs:List xZ0) (a b pv:Nat) (r:Int×Bool×List xZ0):Prop:=r.1=((Sort.partition elt xs.toArray a b pv).1:Int)∧r.2.1=(Sort.partition elt xs.toArray a b pv).2.1∧r.2.2=(Sort.partition elt xs.toArray a b pv).2.2.toList∧r.2.2.length=xs.length
theorem xZqq {a b pv:Nat} {xs:List xZ0} (hb:b≤xs.length) (hs:xs.length≤1152921504606846976) (ha:a≤pv) (hpv:pv < b):W (fun N=>xZ1G N a b pv xs) (PQE xs a b pv):=by
 obtain ⟨ds,hds⟩:∃ ds:List xZ0,ds=sw xs a pv:=⟨_,rfl⟩
 have hdl:ds.length=xs.length:=by rw [hds,xZ60]
 obtain ⟨I,hI⟩:∃ I,I=Sort.scanUp (fun x=>elt x (gx ds a)) ds.toArray (b - 1) (a+1):=⟨_,rfl⟩
 obtain ⟨J,hJ⟩:∃ J,J=Sort.scanDown (fun x=>!elt x (gx ds a)) ds.toArray I (b - 1):=⟨_,rfl⟩
 have hp:Sort.partition elt xs.toArray a b pv=if I > J then (J,true,Sort.swp ds.toArray J a) else ((Sort.partLoop elt a (I+1) (J - 1) (Sort.swp ds.toArray I J)).1,false,Sort.swp (Sort.partLoop elt a (I+1) (J - 1) (Sort.swp ds.toArray I J)).2 (Sort.partLoop elt a (I+1) (J - 1) (Sort.swp ds.toArray I J)).1 a):=by
  unfold Sort.partition
  simp only [← xZ89,← hds]
  simp only [gx] at hI hJ
  rw [← hI,← hJ]
 unfold xZ1G
 simp only [ixg (l:=xs) (i:=pv) (by omega),ixg (l:=xs) (i:=a) (by omega),Option.bind_some,Int.toNat_natCast,ixs (l:=xs) (i:=pv) (by omega),sw_eq,← hds,W.gd,p1N,m1N (show 1≤b by omega)]
 refine ⟨i64n (by omega),i64n (by omega),?_⟩
 refine W.lp1 (fun i=>∃ k:Nat,i=(k:Int)∧a+1≤k∧k≤b∧Sort.scanUp (fun x=>elt x (gx ds a)) ds.toArray (b - 1) k=I) (fun i=>(b - i).toNat) ⟨a+1,rfl,Nat.le_refl _,by omega,hI.symm⟩ ?_
 rintro F i ⟨k,rfl,h1,h2,h3⟩ hn
 have down:k=I→W (fun p:Nat×Nat=>lp1 (xZM p.1 (a:Int) (k:Int) ds) p.1 ((b - 1:Nat):Int)) (PQE xs a b pv):=by
  rintro rfl
  refine W.lp1 (fun j=>∃ l:Nat,j=(l:Int)∧k≤l+1∧l < b∧Sort.scanDown (fun x=>!elt x (gx ds a)) ds.toArray k l=J) (fun j=>j.toNat) ⟨b - 1,rfl,by omega,by omega,hJ.symm⟩ ?_
  rintro G j ⟨l,rfl,q1,q2,q3⟩ hm
  rw [xZft (by omega)] at q3
  unfold xZM
  simp only [ixg (l:=ds) (i:=l) (by omega),ixg (l:=ds) (i:=a) (by omega),Option.bind_some,e_lsE,e_cf,leN,ltN,Int.toNat_natCast,ixs (l:=ds) (i:=a) (by omega),ixs (l:=ds) (i:=l) (by omega),sw_eq]
  refine W.cond2 (fun c1 c2=>?_) fun c=>?_
  ·have c1:=of_decide_eq_true c1
   rw [if_pos (by rw [Bool.and_eq_true];exact ⟨decide_eq_true c1,c2⟩)] at q3
   rw [W.gd,m1N (show 1≤l by omega)]
   exact ⟨i64n (by omega),hm _ ⟨l - 1,rfl,by omega,by omega,q3⟩ (by omega)⟩
  ·rw [if_neg (xZiS c)] at q3
   subst q3
   simp only [W.cond,decide_eq_true_eq,decide_eq_false_iff_not]
   refine ⟨fun hc=>?_,fun hc=>?_⟩
   ·rw [W.ret]
    rw [if_pos hc] at hp
    refine ⟨by rw [hp],by rw [hp],?_,by rw [xZ60,hdl]⟩
    rw [hp,← xZ89]
   ·rw [if_neg hc] at hp
    simp only [ixg (l:=ds) (i:=k) (by omega),ixs (l:=ds) (i:=l) (by omega),Option.bind_some,W.gd,p1N,m1N (show 1≤l by omega),i64n (show k+1≤9223372036854775807 by omega),i64n (show l - 1≤9223372036854775807 by omega),true_and,sw_eq]
    refine w_plE (b:=b) (n:=xs.length) hb (by omega) hs (by omega) (by omega) (by omega) (by rw [xZ60];exact hdl) fun m zs e1 e2=>?_
    rw [← xZ89,e1] at hp
    refine ⟨by rw [hp],by rw [hp],?_,by rw [xZ60];exact e2⟩
    rw [hp,← xZ89]
 unfold xZ2k
 simp only [W.cond,leN,decide_eq_true_eq,decide_eq_false_iff_not]
 rw [xZfu] at h3
 refine ⟨fun hc=>?_,fun hc=>?_⟩
 ·simp only [ixg (l:=ds) (i:=k) (by omega),ixg (l:=ds) (i:=a) (by omega),Option.bind_some,e_lsE,e_cf,W.cond,W.gd,p1N]
  refine ⟨fun hl=>⟨i64n (by omega),hn _ ⟨k+1,rfl,by omega,by omega,?_⟩ (by omega)⟩,fun hl=>down ?_⟩
  ·rw [if_pos (by simp only [Bool.and_eq_true,decide_eq_true_eq];exact ⟨hc,hl⟩)] at h3;exact h3
  ·rw [if_neg (by simp only [Bool.and_eq_true,decide_eq_true_eq];intro h;exact absurd (hl.symm.trans h.2) (by decide))] at h3;exact h3
 ·rw [if_neg (by simp only [Bool.and_eq_true,decide_eq_true_eq];intro h;exact hc h.1)] at h3
  exact down h3
theorem w_peE {ι:Type} [Lim ι] {N:ι→Nat} [Tends N] {a b n i0 j0:Nat} {ys:List xZ0} {Q:Int×List xZ0→Prop} (hb:b≤n) (hab:a < b) (hs:n≤1152921504606846976) (h1:a < i0) (h2:i0≤j0+2) (h3:j0 < b) (hl:ys.length=n)
 (hQ:∀ (m:Nat) (zs:List xZ0),Sort.partEqLoop elt a i0 j0 ys.toArray=(m,zs.toArray)→zs.length=n→Q ((m:Int),zs)):W (fun i=>lp3 (xZV (N i) a) (N i) i0 j0 ys) Q:=by
 refine W.lp3 (fun i j zs=>∃ k l:Nat,i=(k:Int)∧j=(l:Int)∧a < k∧k≤l+2∧l < b∧zs.length=n∧Sort.partEqLoop elt a k l zs.toArray=Sort.partEqLoop elt a i0 j0 ys.toArray) (fun i j _=>(j+1 - i).toNat) ⟨i0,j0,rfl,rfl,h1,h2,h3,hl,rfl⟩ ?_
 rintro F i j zs ⟨i,j,rfl,rfl,p1,p2,p3,p4,p5⟩ hn
 rw [Sort.partEqLoop_eq] at p5
 obtain ⟨I,hI⟩:∃ I,I=Sort.scanUp (fun x=>!elt (gx zs a) x) zs.toArray j i:=⟨_,rfl⟩
 obtain ⟨J,hJ⟩:∃ J,J=Sort.scanDown (fun x=>elt (gx zs a) x) zs.toArray I j:=⟨_,rfl⟩
 have p5:(if I > J then (I,zs.toArray) else Sort.partEqLoop elt a (I+1) (J - 1) (Sort.swp zs.toArray I J))=Sort.partEqLoop elt a i0 j0 ys.toArray:=by
  rw [← p5,hJ,hI];rfl
 unfold xZV
 refine W.lp1 (fun x=>∃ k:Nat,x=(k:Int)∧i≤k∧k≤j+2∧Sort.scanUp (fun x=>!elt (gx zs a) x) zs.toArray j k=I) (fun x=>(j+1 - x).toNat) ⟨i,rfl,Nat.le_refl _,p2,hI.symm⟩ ?_
 rintro G x ⟨k,rfl,q1,q2,q3⟩ hm
 have down:k=I→W (fun p:(ι×Nat)×Nat=>lp1 (xZw (N p.1.1) a k zs (F p.1)) (N p.1.1) j) Q:=by
  rintro rfl
  refine W.lp1 (fun x=>∃ l:Nat,x=(l:Int)∧k≤l+2∧l≤j∧Sort.scanDown (fun x=>elt (gx zs a) x) zs.toArray k l=J) (fun x=>x.toNat) ⟨j,rfl,by omega,Nat.le_refl _,hJ.symm⟩ ?_
  rintro H x ⟨l,rfl,r1,r2,r3⟩ ho
  rw [xZft (by omega)] at r3
  unfold xZw
  simp only [ixg (l:=zs) (i:=l) (by omega),ixg (l:=zs) (i:=a) (by omega),Option.bind_some,e_lsE,e_cf,leN,ltN,Int.toNat_natCast,ixs (l:=zs) (i:=a) (by omega),ixs (l:=zs) (i:=l) (by omega),sw_eq]
  refine W.cond2 (fun c1 c2=>?_) fun c=>?_
  ·have c1:=of_decide_eq_true c1
   rw [if_pos (by rw [Bool.and_eq_true];exact ⟨decide_eq_true c1,c2⟩)] at r3
   rw [W.gd,m1N (show 1≤l by omega)]
   exact ⟨i64n (by omega),ho _ ⟨l - 1,rfl,by omega,by omega,r3⟩ (by omega)⟩
  ·rw [if_neg (xZiS c)] at r3
   subst r3
   simp only [W.cond,decide_eq_true_eq,decide_eq_false_iff_not]
   refine ⟨fun hc=>?_,fun hc=>?_⟩
   ·rw [W.ret]
    rw [if_pos hc] at p5
    exact hQ _ _ p5.symm p4
   ·rw [if_neg hc,← xZ89] at p5
    simp only [ixg (l:=zs) (i:=k) (by omega),ixs (l:=zs) (i:=l) (by omega),Option.bind_some,W.gd,p1N,m1N (show 1≤l by omega),i64n (show k+1≤9223372036854775807 by omega),i64n (show l - 1≤9223372036854775807 by omega),true_and,sw_eq]
    exact (hn _ _ _ ⟨k+1,l - 1,rfl,rfl,by omega,by omega,by omega,by rw [xZ60];exact p4,p5⟩ (by omega)).lift.lift
 unfold xZ1S
 simp only [W.cond,leN,decide_eq_true_eq,decide_eq_false_iff_not]
 rw [xZfu] at q3
 refine ⟨fun hc=>?_,fun hc=>?_⟩
 ·simp only [ixg (l:=zs) (i:=k) (by omega),ixg (l:=zs) (i:=a) (by omega),Option.bind_some,e_lsE,e_cf,W.cond,W.gd,p1N]
  refine ⟨fun hl=>⟨i64n (by omega),hm _ ⟨k+1,rfl,by omega,by omega,?_⟩ (by omega)⟩,fun hl=>down ?_⟩
  ·rw [if_pos (by simp only [Bool.and_eq_true,decide_eq_true_eq];exact ⟨hc,hl⟩)] at q3;exact q3
  ·rw [if_neg (by simp only [Bool.and_eq_true,decide_eq_true_eq];intro h;exact absurd (hl.symm.trans h.2) (by decide))] at q3;exact q3
 ·rw [if_neg (by simp only [Bool.and_eq_true,decide_eq_true_eq];intro h;exact hc h.1)] at q3
  exact down q3
theorem w_pqE {a b pv:Nat} {xs:List xZ0} (hb:b≤xs.length) (hs:xs.length≤1152921504606846976) (ha:a≤pv) (hpv:pv < b):W (fun N=>xZ16 N a b pv xs) (fun r=>r.1=((Sort.partitionEqual elt xs.toArray a b pv).1:Int)∧r.2=(Sort.partitionEqual elt xs.toArray a b pv).2.toList∧r.2.length=xs.length):=by
 unfold xZ16
 simp only [ixg (l:=xs) (i:=pv) (by omega),ixg (l:=xs) (i:=a) (by omega),Option.bind_some,Int.toNat_natCast,ixs (l:=xs) (i:=pv) (by omega),sw_eq,W.gd,p1N,m1N (show 1≤b by omega)]
 refine ⟨i64n (by omega),i64n (by omega),?_⟩
 refine w_peE (b:=b) (n:=xs.length) hb (by omega) hs (by omega) (by omega) (by omega) (by rw [xZ60]) fun m zs e1 e2=>?_
 unfold Sort.partitionEqual
 rw [← xZ89,e1]
 exact ⟨rfl,rfl,e2⟩
theorem w_upE {ι:Type} [Lim ι] {N:ι→Nat} [Tends N] {b n i2 j0:Nat} {j:Int} {F:ι→Int→Int→List xZ0→Option (Bool×List xZ0)} {ys:List xZ0} {Q:Bool×List xZ0→Prop} (hb:b≤n) (hs:n≤1152921504606846976) (h1:1≤j0) (hl:ys.length=n)
 (hF:∀ zs:List xZ0,zs.length=n→zs.toArray=Sort.shiftUp elt b j0 ys.toArray→W (fun i=>gd (i64b (j+1)) (F i i2 (j+1) zs)) Q):W (fun i=>lp2 (xZ8 (N i) b i2 j (F i)) (N i) j0 ys) Q:=by
 refine W.lp2 (fun x zs=>∃ k:Nat,x=(k:Int)∧1≤k∧zs.length=n∧Sort.shiftUp elt b k zs.toArray=Sort.shiftUp elt b j0 ys.toArray) (fun x _=>(b - x).toNat) ⟨j0,rfl,h1,hl,rfl⟩ ?_
 rintro G x zs ⟨k,rfl,p1,p2,p3⟩ hn
 rw [Sort.shiftUp] at p3
 unfold xZ8
 rw [W.cond,ltN]
 refine ⟨fun hc=>?_,fun hc=>?_⟩
 ·have hc:=of_decide_eq_true hc
  rw [if_pos hc] at p3
  simp only [m1N p1,ixg (l:=zs) (i:=k) (by omega),ixg (l:=zs) (i:=k - 1) (by omega),Option.bind_some,e_lsE,e_cf,i64n (show k - 1≤9223372036854775807 by omega),xZ3A,Int.toNat_natCast,ixs (l:=zs) (i:=k - 1) (by omega),sw_eq]
  rw [W.cond]
  refine ⟨fun hl=>?_,fun hl=>?_⟩
  ·simp only [gx] at hl
   rw [if_pos hl] at p3
   exact (hF zs p2 p3).lift
  ·simp only [gx] at hl
   rw [if_neg (by rw [hl];decide)] at p3
   rw [W.gd,p1N]
   exact ⟨i64n (by omega),hn _ _ ⟨k+1,rfl,by omega,by rw [xZ60];exact p2,by rw [xZ89];exact p3⟩ (by omega)⟩
 ·have hc:=of_decide_eq_false hc
  rw [if_neg hc] at p3
  exact (hF zs p2 p3).lift
theorem w_dnE {ι:Type} [Lim ι] {N:ι→Nat} [Tends N] {b n i2 j0:Nat} {j:Int} {F:ι→Int→Int→List xZ0→Option (Bool×List xZ0)} {ys:List xZ0} {Q:Bool×List xZ0→Prop} (hb:b≤n) (hs:n≤1152921504606846976) (h1:j0 < n) (hl:ys.length=n)
 (hF:∀ zs:List xZ0,zs.length=n→zs.toArray=Sort.shiftDown elt j0 ys.toArray→W (fun i=>gd (i64b ((b:Int) - (i2:Int))) (bif leB 2 ((b:Int) - (i2:Int)) then gd (i64b ((i2:Int)+1)) (lp2 (xZ8 (N i) b i2 j (F i)) (N i) ((i2:Int)+1) zs) else gd (i64b (j+1)) (F i i2 (j+1) zs))) Q):
 W (fun i=>lp2 (xZm (N i) b i2 j (F i)) (N i) j0 ys) Q:=by
 refine W.lp2 (fun x zs=>∃ k:Nat,x=(k:Int)∧k < n∧zs.length=n∧Sort.shiftDown elt k zs.toArray=Sort.shiftDown elt j0 ys.toArray) (fun x _=>x.toNat) ⟨j0,rfl,h1,hl,rfl⟩ ?_
 rintro G x zs ⟨k,rfl,p1,p2,p3⟩ hn
 unfold xZm
 rw [W.cond]
 cases k with
 | zero=>
   refine ⟨fun hc=>absurd hc (by decide),fun hc=>?_⟩
   rw [Sort.shiftDown] at p3
   exact (hF zs p2 p3).lift
 | succ k=>
   refine ⟨fun hc=>?_,fun hc=>absurd hc (by rw [xZe9];simp;omega)⟩
   rw [Sort.shiftDown] at p3
   simp only [m1N (show 1≤k+1 by omega),Nat.add_sub_cancel,ixg (l:=zs) (i:=k+1) (by omega),ixg (l:=zs) (i:=k) (by omega),Option.bind_some,e_lsE,e_cf,i64n (show k≤9223372036854775807 by omega),xZ3A,Int.toNat_natCast,ixs (l:=zs) (i:=k) (by omega),sw_eq]
   rw [W.cond]
   refine ⟨fun hl=>?_,fun hl=>?_⟩
   ·simp only [gx] at hl
    rw [if_pos hl] at p3
    exact (hF zs p2 p3).lift
   ·simp only [gx] at hl
    rw [if_neg (by rw [hl];decide)] at p3
    exact hn _ _ ⟨k,rfl,by omega,by rw [xZ60];exact p2,by rw [xZ89];exact p3⟩ (by omega)
theorem xZrF {a b:Nat} {xs:List xZ0} (hb:b≤xs.length) (hs:xs.length≤1152921504606846976) (ha:a < b):W (fun N=>xZG N a b xs) (fun r=>r.1=(Sort.partialInsertionSort elt xs.toArray a b).2∧r.2=(Sort.partialInsertionSort elt xs.toArray a b).1.toList∧r.2.length=xs.length):=by
 obtain ⟨R,hR⟩:∃ R,R=Sort.partialInsertionSort elt xs.toArray a b:=⟨_,rfl⟩
 rw [← hR]
 unfold xZG
 rw [W.gd,p1N]
 refine ⟨i64n (by omega),?_⟩
 refine W.lp3 (fun i j ys=>∃ k s:Nat,i=(k:Int)∧j=5 - (s:Int)∧s≤5∧a < k∧k≤b∧ys.length=xs.length∧Sort.partialIns elt a b s k ys.toArray=R) (fun _ j _=>(5 - j).toNat) ⟨a+1,5,rfl,rfl,by omega,by omega,by omega,rfl,hR.symm⟩ ?_
 rintro F i j ys ⟨i,s,rfl,rfl,h0,h1,h2,h3,h4⟩ hn
 unfold xZ1g
 rw [W.cond]
 refine ⟨fun hc=>?_,fun hc=>?_⟩
 rotate_left
 ·have hc:=xZ5T.1 hc
  obtain rfl:s=0:=by omega
  rw [Sort.partialIns] at h4
  rw [W.ret,← h4]
  exact ⟨rfl,rfl,h3⟩
 have hc:=xZ4M.1 hc
 obtain ⟨s,rfl⟩:∃ t,s=t+1:=⟨s - 1,by omega⟩
 rw [Sort.partialIns] at h4
 simp only [] at h4
 obtain ⟨I,hI⟩:∃ I,I=Sort.scanSorted elt ys.toArray b i:=⟨_,rfl⟩
 rw [← hI] at h4
 refine W.lp1 (fun x=>∃ k:Nat,x=(k:Int)∧i≤k∧k≤b∧Sort.scanSorted elt ys.toArray b k=I) (fun x=>(b - x).toNat) ⟨i,rfl,Nat.le_refl _,h2,hI.symm⟩ ?_
 rintro G x ⟨k,rfl,q1,q2,q3⟩ hm
 rw [Sort.scanSorted] at q3
 unfold xZ1h
 rw [W.cond,ltN]
 refine ⟨fun hk=>?_,fun hk=>?_⟩
 rotate_left
 ·have hk:=of_decide_eq_false hk
  obtain rfl:k=b:=by omega
  rw [if_neg (by simp)] at q3
  subst q3
  rw [if_pos rfl] at h4
  rw [show ((k:Int)==(k:Int))=true by simp,W.cond]
  exact ⟨fun _=>W.ret.2 (by rw [← h4];exact ⟨rfl,rfl,h3⟩),fun h=>by cases h⟩
 have hk:=of_decide_eq_true hk
 simp only [m1N (show 1≤k by omega),ixg (l:=ys) (i:=k) (by omega),ixg (l:=ys) (i:=k - 1) (by omega),Option.bind_some,e_lsE,e_cf,i64n (show k - 1≤9223372036854775807 by omega),xZ3A,Int.toNat_natCast,ixs (l:=ys) (i:=k - 1) (by omega),sw_eq]
 rw [W.cond]
 refine ⟨fun hl=>?_,fun hl=>?_⟩
 ·rw [if_pos (by rw [Bool.and_eq_true];exact ⟨decide_eq_true hk,hl⟩)] at q3
  rw [W.gd,p1N]
  exact ⟨i64n (by omega),hm _ ⟨k+1,rfl,by omega,by omega,q3⟩ (by omega)⟩
 rw [if_neg (by rw [Bool.and_eq_true];intro h;exact absurd (hl.symm.trans h.2) (by decide))] at q3
 subst q3
 rw [if_neg (show ¬ k=b by omega)] at h4
 rw [show ((k:Int)==(b:Int))=false by rw [beq_eq_false_iff_ne];omega]
 rw [W.cond]
 refine ⟨(fun h=>by cases h),fun _=>?_⟩
 rw [W.gd,miN (show a≤b by omega),W.cond]
 refine ⟨i64n (by omega),fun h50=>?_,fun h50=>?_⟩
 ·have h50:=xZ4M.1 h50
  rw [if_pos (by omega)] at h4
  rw [W.ret,← h4]
  exact ⟨rfl,rfl,h3⟩
 have h50:=xZ5T.1 h50
 rw [if_neg (by omega)] at h4
 have next:∀ zs:List xZ0,zs.length=xs.length→Sort.partialIns elt a b s k zs.toArray=R→W (fun p:Nat×Nat=>gd (i64b (5 - ((s+1:Nat):Int)+1)) (F p (k:Int) (5 - ((s+1:Nat):Int)+1) zs)) (fun r=>r.1=R.2∧r.2=R.1.toList∧r.2.length=xs.length):=fun zs e1 e2=>by
  rw [W.gd]
  exact ⟨xZ5D.2 (by omega),hn _ _ _ ⟨k,s,rfl,by omega,by omega,by omega,by omega,e1,e2⟩ (by omega)⟩
 have up:∀ zs:List xZ0,zs.length=xs.length→Sort.partialIns elt a b s k (if b - k ≥ 2 then Sort.shiftUp elt b (k+1) zs.toArray else zs.toArray)=R→W (fun p:Nat×Nat=>gd (i64b ((b:Int) - (k:Int))) (bif leB 2 ((b:Int) - (k:Int)) then gd (i64b ((k:Int)+1)) (lp2 (xZ8 p.1 b k (5 - ((s+1:Nat):Int)) (F p)) p.1 ((k:Int)+1) zs) else gd (i64b (5 - ((s+1:Nat):Int)+1)) (F p (k:Int) (5 - ((s+1:Nat):Int)+1) zs))) (fun r=>r.1=R.2∧r.2=R.1.toList∧r.2.length=xs.length):=fun zs e1 e2=>by
  rw [W.gd,W.cond]
  refine ⟨xZ5D.2 (by omega),fun h=>?_,fun h=>?_⟩
  ·have h:=xZ18.1 h
   rw [if_pos (by omega)] at e2
   rw [W.gd,p1N]
   refine ⟨i64n (by omega),w_upE (n:=xs.length) hb hs (by omega) e1 fun us f1 f2=>next us f1 ?_⟩
   rw [f2];exact e2
  ·have h:=xZ6J.1 h
   rw [if_neg (by omega)] at e2
   exact next zs e1 e2
 rw [← xZ89] at h4
 rw [W.gd,W.cond]
 refine ⟨xZ5D.2 (by omega),fun h=>?_,fun h=>?_⟩
 ·have h:=xZ18.1 h
  rw [if_pos (show k - a ≥ 2 by omega)] at h4
  refine w_dnE (ι:=(Nat×Nat)×Nat) (F:=fun p=>F p.1) (n:=xs.length) hb hs (by omega) (by rw [xZ60];exact h3) fun zs e1 e2=>(up zs e1 ?_).lift
  rw [e2];exact h4
 ·have h:=xZ6J.1 h
  rw [if_neg (show ¬ k - a ≥ 2 by omega)] at h4
  exact (up _ (by rw [xZ60];exact h3) h4).lift
theorem xZrv {a b:Nat} {xs:List xZ0} (hb:b≤xs.length) (hs:xs.length < 4294967296) (ha:a+12 < b):W (fun N=>xZ1d N a b xs) (fun r=>r=(Sort.breakPatterns xs.toArray a b).toList∧r.length=xs.length):=by
 obtain ⟨L,hL⟩:∃ L,L=b - a:=⟨_,rfl⟩
 have hp:Sort.breakPatterns xs.toArray a b=(brk a L (1 <<< Sort.bitsLen L) 3 (a+L / 4 * 2 - 1) (UInt64.ofNat L,xs.toArray)).2:=by
  unfold Sort.breakPatterns
  simp only [← hL]
  rw [if_pos (by omega)]
  rfl
 have hbl:=bl_le (n:=L) (by omega)
 have hb32:=bl_32 (n:=L) (by omega)
 have hbp:0 < 2 ^ Sort.bitsLen L:=Nat.pow_pos (by decide)
 rw [hp]
 unfold xZ1d xZ3S
 rw [miN (show a≤b by omega),← hL]
 have h8:leB 8 (L:Int)=true:=xZ18.2 (by omega)
 have hw:IntKind.u64.wrap (L:Int)=(L:Int):=wrU (by omega)
 have hm:IntKind.u64.wrap (1 * 2 ^ (min (Int.toNat (Sort.bitsLen L:Int)) (IntKind.u64.bits)))=((2 ^ Sort.bitsLen L:Nat):Int):=by
  rw [Int.toNat_natCast,show min (Sort.bitsLen L) IntKind.u64.bits=Sort.bitsLen L from Nat.min_eq_left (by show _≤64;omega),Int.one_mul]
  rw [show ((2:Int) ^ Sort.bitsLen L)=((2 ^ Sort.bitsLen L:Nat):Int) by simp]
  exact wrU (by omega)
 simp only [W.gd,h8,cond_true,hw,e_len (show L < 4294967296 by omega),Option.bind_some,show leB 0 ((Sort.bitsLen L:Nat):Int)=true from xZ18.2 (by omega),xZ3A,hm,show (4:Int)=((4:Nat):Int) from rfl,tdN _ _ (show L≤9223372036854775807 by omega)]
 rw [show ((L / 4:Nat):Int) * 2=((L / 4 * 2:Nat):Int) by omega,plN,m1N (show 1≤a+L / 4 * 2 by omega)]
 refine ⟨i64n (by omega),i64n (by omega),i64n (by omega),i64n (by omega),?_⟩
 refine W.lp3 (fun x y ys=>∃ (m:Nat) (st:UInt64×Array xZ0),m≤3∧x=((a+L / 4 * 2 - 1+m:Nat):Int)∧y=(st.1.toNat:Int)∧ys.toArray=st.2∧ys.length=xs.length∧brk a L (1 <<< Sort.bitsLen L) (3 - m) (a+L / 4 * 2 - 1+m) st=brk a L (1 <<< Sort.bitsLen L) 3 (a+L / 4 * 2 - 1) (UInt64.ofNat L,xs.toArray)) (fun x _ _=>((a+L / 4 * 2+2:Nat) - x).toNat) ⟨0,(UInt64.ofNat L,xs.toArray),by omega,rfl,?_,rfl,rfl,rfl⟩ ?_
 ·rw [UInt64.toNat_ofNat',Nat.mod_eq_of_lt (by omega)]
 rintro F x y ys ⟨m,⟨r,d⟩,h1,rfl,rfl,rfl,h2,h3⟩ hn
 unfold xZ1Z
 simp only [W.gd,show (4:Int)=((4:Nat):Int) from rfl,tdN _ _ (show L≤9223372036854775807 by omega)]
 rw [show ((L / 4:Nat):Int) * 2=((L / 4 * 2:Nat):Int) by omega,plN,p1N]
 refine ⟨i64n (by omega),i64n (by omega),i64n (by omega),?_⟩
 rw [W.cond]
 refine ⟨fun hc=>?_,fun hc=>?_⟩
 ·have hc:=xZ18.1 hc
  obtain ⟨q,hq⟩:∃ q,3 - m=q+1:=⟨3 - m - 1,by omega⟩
  rw [hq,brk] at h3
  obtain ⟨o,ho⟩:∃ o,o=(Sort.xorNext r).toNat &&& (2 ^ Sort.bitsLen L - 1):=⟨_,rfl⟩
  have hox:IntKind.i64.wrap (bwA .u64 ((Sort.xorNext r).toNat:Int) (IntKind.u64.wrap (((2 ^ Sort.bitsLen L:Nat):Int) - 1)))=(o:Int):=by
   rw [m1N hbp,wrU (by omega),x_and _ _ (UInt64.toNat_lt _) (by omega),← ho]
   exact wr64 (Nat.le_trans (by rw [ho];exact Nat.and_le_right) (by omega))
  have hol:o≤2 ^ Sort.bitsLen L - 1:=by rw [ho];exact Nat.and_le_right
  simp only [e_xn,Option.bind_some,hox]
  have st:Sort.breakStep a L (1 <<< Sort.bitsLen L) (r,ys.toArray) (a+L / 4 * 2 - 1+m)=(Sort.xorNext r,(sw ys (a+L / 4 * 2 - 1+m) (a+(if o ≥ L then o - L else o))).toArray):=by
   unfold Sort.breakStep
   simp only [xZ89,Nat.one_shiftLeft,← ho]
  rw [st] at h3
  rw [W.cond]
  refine ⟨fun hg=>?_,fun hg=>?_⟩
  ·have hg:=xZ18.1 hg
   rw [if_pos (by omega)] at h3
   simp only [miN (show L≤o by omega),plN,i64n (show o - L≤9223372036854775807 by omega),i64n (show a+(o - L)≤9223372036854775807 by omega),xZ3A,ixg (l:=ys) (i:=a+(o - L)) (by omega),ixg (l:=ys) (i:=a+L / 4 * 2 - 1+m) (by omega),Option.bind_some,Int.toNat_natCast,ixs (l:=ys) (i:=a+(o - L)) (by omega),sw_eq,p1N]
   rw [W.gd]
   exact ⟨i64n (by omega),hn _ _ _ ⟨m+1,_,by omega,rfl,rfl,rfl,by rw [xZ60];exact h2,by rw [show 3 - (m+1)=q by omega];exact h3⟩ (by omega)⟩
  ·have hg:=xZ6J.1 hg
   rw [if_neg (by omega)] at h3
   simp only [plN,i64n (show a+o≤9223372036854775807 by omega),xZ3A,ixg (l:=ys) (i:=a+o) (by omega),ixg (l:=ys) (i:=a+L / 4 * 2 - 1+m) (by omega),Option.bind_some,Int.toNat_natCast,ixs (l:=ys) (i:=a+o) (by omega),sw_eq,p1N]
   rw [W.gd]
   exact ⟨i64n (by omega),hn _ _ _ ⟨m+1,_,by omega,rfl,rfl,rfl,by rw [xZ60];exact h2,by rw [show 3 - (m+1)=q by omega];exact h3⟩ (by omega)⟩
 ·have hc:=xZ6J.1 hc
  rw [show 3 - m=0 by omega,brk] at h3
  rw [W.ret,← h3]
  exact ⟨rfl,h2⟩
theorem xZrD (n:Nat) (hs:n < 4294967296):∀ (s a b l:Nat) (ys:List xZ0),b - a≤s→a≤b→b≤n→ys.length=n→l≤64→W (fun N=>xZ5 N a b l ys) (fun r=>r=(Sort.pdq elt ys.toArray a b l true true).toList∧r.length=n):=by
 intro s
 induction s using Nat.strongRecOn with
 | ind s ih=>
 intro a0 b0 l0 ys0 hs0 hab hb0 hl0 hlim
 obtain ⟨R,hR⟩:∃ R,R=Sort.pdq elt ys0.toArray a0 b0 l0 true true:=⟨_,rfl⟩
 rw [← hR]
 refine W.sh ?_
 show W (fun N=>xZ2S N (xZ5 N) _ _ _ _) _
 unfold xZ2S
 refine W.lp6 (fun x y z wb wp zs=>∃ a b l:Nat,x=(a:Int)∧y=(b:Int)∧z=(l:Int)∧l≤64∧a≤b∧b≤n∧b - a≤s∧zs.length=n∧Sort.pdq elt zs.toArray a b l wb wp=R) (fun x y _ _ _ _=>(y - x).toNat) ⟨a0,b0,l0,rfl,rfl,rfl,hlim,hab,hb0,hs0,hl0,hR.symm⟩ ?_
 rintro F x y z wb wp ys ⟨a,b,l,rfl,rfl,rfl,h1,h2,h3,h4,h5,h6⟩ hn
 rw [Sort.pdq] at h6
 unfold xZ2C
 rw [W.gd,miN h2,W.cond]
 refine ⟨i64n (by omega),fun hc=>?_,fun hc=>?_⟩
 ·have hc:=xZ18.1 hc
  rw [if_pos (by omega)] at h6
  refine W.call (xZrA (by omega) (by omega) h2) fun r hr=>?_
  rw [W.ret,← h6]
  exact ⟨hr.1,hr.2.trans h5⟩
 have hc:=xZ6J.1 hc
 rw [if_neg (by omega)] at h6
 rw [W.cond]
 refine ⟨fun hz=>?_,fun hz=>?_⟩
 ·have hz:l=0:=by simpa using hz
  rw [if_pos hz] at h6
  refine W.call (xZqn (by omega) (by omega) (by omega)) fun r hr=>?_
  rw [W.ret,← h6]
  exact ⟨hr.1,hr.2.trans h5⟩
 have hz:l≠0:=by simpa using hz
 rw [if_neg hz] at h6
 have j3:∀ (l' pv:Nat) (zs:List xZ0) (x:Bool),l'≤64→a≤pv→pv < b→zs.length=n→
  (if x=true then (match Sort.partitionEqual elt zs.toArray a b pv with | (mid,d4)=>if _h:a < mid∧mid≤b then Sort.pdq elt d4 mid b l' wb wp else d4) else
    (match Sort.partition elt zs.toArray a b pv with | (mid,ap,d4)=>if _h:a≤mid∧mid < b then (if mid - a < b - mid then Sort.pdq elt (Sort.pdq elt d4 a mid l' true true) (mid+1) b l' (decide (mid - a ≥ (b - a) / 8)) ap else Sort.pdq elt (Sort.pdq elt d4 (mid+1) b l' true true) a mid l' (decide (b - mid ≥ (b - a) / 8)) ap) else d4))=R→
  W (fun p:Nat×Nat=>xZb p.1 (xZ5 p.1) a b l' wb wp ((b - a:Nat):Int) pv x zs (F p)) (fun r=>r=R.toList∧r.length=n):=by
  intro l' pv zs x q1 q2 q3 q4 q5
  unfold xZb
  rw [W.cond]
  refine ⟨fun hx=>?_,fun hx=>?_⟩
  ·rw [if_pos hx] at q5
   have hr:=xZiz elt zs.toArray q2 q3 (by simp;omega)
   refine W.call (w_pqE (by omega) (by omega) q2 q3) fun r he=>?_
   obtain ⟨⟨mid,d4⟩,hpe⟩:∃ x,Sort.partitionEqual elt zs.toArray a b pv=x:=⟨_,rfl⟩
   rw [hpe] at q5 hr he
   dsimp only at q5 hr he
   rw [he.1]
   rw [dif_pos hr] at q5
   exact hn _ _ _ _ _ _ ⟨mid,b,l',rfl,rfl,rfl,q1,hr.2,h3,by omega,he.2.2.trans q4,by rw [he.2.1];exact q5⟩ (by omega)
  ·rw [if_neg (by rw [hx];decide)] at q5
   have hr:=Sort.partition_holds elt xZkG zs.toArray a b pv q2 q3 (by simp;omega)
   refine W.call (xZqq (by omega) (by omega) q2 q3) fun r he=>?_
   obtain ⟨⟨mid,ap,d4⟩,hpe⟩:∃ x,Sort.partition elt zs.toArray a b pv=x:=⟨_,rfl⟩
   unfold PQE at he
   rw [hpe] at q5 hr he
   dsimp only at q5 hr he
   obtain ⟨e1,e2,e3,e4⟩:=he
   obtain ⟨r1,r2,_⟩:=hr
   rw [dif_pos ⟨r1,r2⟩,← e2] at q5
   have q5:(if mid - a < b - mid then Sort.pdq elt (Sort.pdq elt r.2.2.toArray a mid l' true true) (mid+1) b l' (decide (mid - a ≥ (b - a) / 8)) r.2.1 else Sort.pdq elt (Sort.pdq elt r.2.2.toArray (mid+1) b l' true true) a mid l' (decide (b - mid ≥ (b - a) / 8)) r.2.1)=R:=by rw [e3];exact q5
   rw [e1]
   simp only [miN r1,miN (Nat.le_of_lt r2),W.gd,p1N,ltN,W.cond,decide_eq_true_eq,decide_eq_false_iff_not]
   rw [show (8:Int)=((8:Nat):Int) from rfl,tdN _ _ (show b - a≤9223372036854775807 by omega),leN,leN]
   refine ⟨i64n (by omega),i64n (by omega),fun hm=>?_,fun hm=>⟨i64n (by omega),?_⟩⟩
   ·rw [if_pos hm] at q5
    refine W.call (ih (mid - a) (by omega) a mid l' r.2.2 (Nat.le_refl _) r1 (by omega) (e4.trans q4) q1) fun u hu=>?_
    rw [W.gd]
    exact ⟨i64n (by omega),hn _ _ _ _ _ _ ⟨mid+1,b,l',rfl,rfl,rfl,q1,by omega,h3,by omega,hu.2,by rw [hu.1];exact q5⟩ (by omega)⟩
   ·rw [if_neg hm] at q5
    refine W.call (ih (b - (mid+1)) (by omega) (mid+1) b l' r.2.2 (Nat.le_refl _) (by omega) h3 (e4.trans q4) q1) fun u hu=>?_
    exact hn _ _ _ _ _ _ ⟨a,mid,l',rfl,rfl,rfl,q1,r1,by omega,by omega,hu.2,by rw [hu.1];exact q5⟩ (by omega)
 have j2:∀ (l' pv:Nat) (zs:List xZ0) (x:Bool),l'≤64→a≤pv→pv < b→zs.length=n→
  (let pi:=if x=true then Sort.partialInsertionSort elt zs.toArray a b else (zs.toArray,false)
   if pi.2 then pi.1 else if (decide (a > 0)&&!elt pi.1[a - 1]! pi.1[pv]!)=true then (match Sort.partitionEqual elt pi.1 a b pv with | (mid,d4)=>if _h:a < mid∧mid≤b then Sort.pdq elt d4 mid b l' wb wp else d4) else
    (match Sort.partition elt pi.1 a b pv with | (mid,ap,d4)=>if _h:a≤mid∧mid < b then (if mid - a < b - mid then Sort.pdq elt (Sort.pdq elt d4 a mid l' true true) (mid+1) b l' (decide (mid - a ≥ (b - a) / 8)) ap else Sort.pdq elt (Sort.pdq elt d4 (mid+1) b l' true true) a mid l' (decide (b - mid ≥ (b - a) / 8)) ap) else d4))=R→
  W (fun p:Nat×Nat=>xZv p.1 (xZ5 p.1) a b l' wb wp ((b - a:Nat):Int) pv x zs (F p)) (fun r=>r=R.toList∧r.length=n):=by
  intro l' pv zs x q1 q2 q3 q4 q5
  have low:∀ us:List xZ0,us.length=n→(if (decide (a > 0)&&!elt us.toArray[a - 1]! us.toArray[pv]!)=true then (match Sort.partitionEqual elt us.toArray a b pv with | (mid,d4)=>if _h:a < mid∧mid≤b then Sort.pdq elt d4 mid b l' wb wp else d4) else
   (match Sort.partition elt us.toArray a b pv with | (mid,ap,d4)=>if _h:a≤mid∧mid < b then (if mid - a < b - mid then Sort.pdq elt (Sort.pdq elt d4 a mid l' true true) (mid+1) b l' (decide (mid - a ≥ (b - a) / 8)) ap else Sort.pdq elt (Sort.pdq elt d4 (mid+1) b l' true true) a mid l' (decide (b - mid ≥ (b - a) / 8)) ap) else d4))=R→
   ∀ f g:Nat×Nat→Option (List xZ0),(∀ p,f p=gd (i64b ((a:Int) - 1)) ((ix us ((a:Int) - 1)).bind fun e=>(ix us ((a:Int) - 1)).bind fun e2=>(ix us (pv:Int)).bind fun e3=>(ix us (pv:Int)).bind fun e4=>(xZ1M p.1 e2 e4).bind fun u=>xZb p.1 (xZ5 p.1) a b l' wb wp ((b - a:Nat):Int) pv (!(ltB u 0)) us (F p)))→
   (∀ p,g p=xZb p.1 (xZ5 p.1) a b l' wb wp ((b - a:Nat):Int) pv false us (F p))→W (fun p=>bif ltB 0 (a:Int) then f p else g p) (fun r=>r=R.toList∧r.length=n):=by
   intro us u1 u2 f g hf hg
   obtain rfl:f=_:=funext hf
   obtain rfl:g=_:=funext hg
   rw [W.cond]
   refine ⟨fun hx=>?_,fun hx=>?_⟩
   ·have hx:=xZ4M.1 hx
    simp only [m1N (show 1≤a by omega),i64n (show a - 1≤9223372036854775807 by omega),xZ3A,ixg (l:=us) (i:=a - 1) (by omega),ixg (l:=us) (i:=pv) (by omega),Option.bind_some,e_lsE,e_cf]
    refine j3 l' pv us _ q1 q2 q3 u1 ?_
    rw [decide_eq_true (show a > 0 by omega),Bool.true_and] at u2
    exact u2
   ·have hx:=xZ5T.1 hx
    refine j3 l' pv us _ q1 q2 q3 u1 ?_
    rw [decide_eq_false (show ¬ a > 0 by omega),Bool.false_and] at u2
    exact u2
  unfold xZv
  rw [W.cond]
  refine ⟨fun hx=>?_,fun hx=>?_⟩
  ·subst hx
   simp only [if_true] at q5
   refine W.call (xZrF (by omega) (by omega) (by omega)) fun r hr=>?_
   obtain ⟨e1,e2,e3⟩:=hr
   rw [W.cond]
   refine ⟨fun hy=>?_,fun hy=>?_⟩
   ·rw [e1] at hy
    rw [if_pos hy] at q5
    rw [W.ret,← q5]
    exact ⟨e2,e3.trans q4⟩
   ·rw [e1] at hy
    rw [if_neg (by rw [hy];decide)] at q5
    have e2':r.2.toArray=(Sort.partialInsertionSort elt zs.toArray a b).1:=by rw [e2]
    rw [← e2'] at q5
    exact low r.2 (e3.trans q4) q5 _ _ (fun _=>rfl) fun _=>rfl
  ·subst hx
   exact low zs q4 q5 _ _ (fun _=>rfl) fun _=>rfl
 have j1:∀ (l' pv:Nat) (h:Sort.Hint) (zs:List xZ0),l'≤64→a≤pv→pv < b→zs.length=n→
  (let pi:=if (wb&&wp&&decide (h=.increasing))=true then Sort.partialInsertionSort elt zs.toArray a b else (zs.toArray,false)
   if pi.2 then pi.1 else if (decide (a > 0)&&!elt pi.1[a - 1]! pi.1[pv]!)=true then (match Sort.partitionEqual elt pi.1 a b pv with | (mid,d4)=>if _h:a < mid∧mid≤b then Sort.pdq elt d4 mid b l' wb wp else d4) else
    (match Sort.partition elt pi.1 a b pv with | (mid,ap,d4)=>if _h:a≤mid∧mid < b then (if mid - a < b - mid then Sort.pdq elt (Sort.pdq elt d4 a mid l' true true) (mid+1) b l' (decide (mid - a ≥ (b - a) / 8)) ap else Sort.pdq elt (Sort.pdq elt d4 (mid+1) b l' true true) a mid l' (decide (b - mid ≥ (b - a) / 8)) ap) else d4))=R→
  W (fun p:Nat×Nat=>xZQ p.1 (xZ5 p.1) a b l' wb wp ((b - a:Nat):Int) pv (hintN h) zs (F p)) (fun r=>r=R.toList∧r.length=n):=by
  intro l' pv h zs q1 q2 q3 q4 q5
  have hh:(hintN h==1)=decide (h=.increasing):=by cases h<;>rfl
  unfold xZQ
  rw [hh]
  have key:=j2 l' pv zs _ q1 q2 q3 q4 q5
  revert key
  cases wb<;>cases wp<;>intro key<;>exact key
 have j0:∀ (l':Nat) (zs:List xZ0),l'≤64→zs.length=n→pdT elt zs.toArray a b l' wb wp=R→
  W (fun p:Nat×Nat=>xZP p.1 (xZ5 p.1) a b l' wb wp ((b - a:Nat):Int) zs (F p)) (fun r=>r=R.toList∧r.length=n):=by
  intro l' zs q1 q2 q3
  obtain ⟨m,h,e1,_⟩:=xZob (N:=0) (a:=a) (b:=b) (xs:=zs) (by omega) (by omega) (by omega)
  have e2:∀ N,xZL N a b zs=some ((m:Int),hintN h,zs):=fun N=>by
   obtain ⟨m',h',f1,f2⟩:=xZob (N:=N) (a:=a) (b:=b) (xs:=zs) (by omega) (by omega) (by omega)
   rw [e1] at f1;cases f1;exact f2
  have hr:=Sort.choosePivot_holds elt zs.toArray a b (by omega)
  unfold pdT at q3
  rw [e1] at q3 hr
  dsimp only at q3 hr
  unfold xZP
  simp only [e2,Option.bind_some]
  cases h with
  | decreasing=>
    simp only [if_true] at q3
    rw [W.cond]
    refine ⟨fun _=>?_,fun hx=>by cases hx⟩
    refine W.call (xZrH (by omega) (by omega) (by omega)) fun r he=>?_
    simp only [W.gd,m1N (show 1≤b by omega),miN hr.1,miN (show m - a≤b - 1 by omega)]
    refine ⟨i64n (by omega),i64n (by omega),i64n (by omega),?_⟩
    exact j1 l' (b - 1 - (m - a)) .increasing r q1 (by omega) (by omega) (he.2.trans q2) (by rw [he.1];exact q3)
  | unknown=>
    rw [W.cond]
    refine ⟨(fun hx=>by cases hx),fun _=>?_⟩
    exact j1 l' m .unknown zs q1 hr.1 hr.2 q2 q3
  | increasing=>
    rw [W.cond]
    refine ⟨(fun hx=>by cases hx),fun _=>?_⟩
    exact j1 l' m .increasing zs q1 hr.1 hr.2 q2 q3
 rw [W.cond]
 cases hwb:wb with
 | false=>
   subst hwb
   refine ⟨fun _=>?_,fun h=>by cases h⟩
   refine W.call (xZrv (by omega) (by omega) (by omega)) fun r he=>?_
   rw [W.gd,m1N (show 1≤l by omega)]
   exact ⟨i64n (by omega),j0 (l - 1) r (by omega) (he.2.trans h5) (by rw [he.1];exact h6)⟩
 | true=>
   subst hwb
   refine ⟨(fun h=>by cases h),fun _=>?_⟩
   exact j0 l ys h1 h5 h6
theorem xZqv {xs:List xZ0} (hs:xs.length < 4294967296):W (fun N=>xZ2H N xs) (·=xs.mergeSort fun x y=>!elt y x):=by
 unfold xZ2H
 simp only [wrU (show xs.length < 18446744073709551616 by omega),e_len hs,Option.bind_some]
 have h:=Sort.sort_sorts elt xZkG xs.toArray
 have h:=Sort.sorted_unique_holds xZkG xZod _ _ h.1 h.2
 unfold Sort.sort at h
 have hb:=bl_32 hs
 have hx:∀ N,xZ2V N 0 (xs.length:Int) (Sort.bitsLen xs.length:Int) xs=xZ5 N ((0:Nat):Int) (xs.length:Int) (Sort.bitsLen xs.length:Int) xs:=fun _=>rfl
 simp only [hx]
 refine W.call (xZrD xs.length hs (xs.length - 0) 0 xs.length (Sort.bitsLen xs.length) xs (Nat.le_refl _) (Nat.zero_le _) (Nat.le_refl _) rfl (by omega)) fun r hr=>?_
 rw [W.ret,hr.1]
 simpa using h
section
theorem W.both {ι:Type} [Lim ι] {α:Type} {q:EqR α} {f g:ι→Option α} {r:α} (h1:W f (·=r)) (h2:W g (·=r)):W (fun i=>Go.Proofs.YtmfkphajohcklaaGreat.O.both q (f i) (g i)) (·=r):=by
 exact ⟨r,Lim.mono (fun i h=>by show Go.Proofs.YtmfkphajohcklaaGreat.O.both q (f i) (g i)=Option.some r;rw [h.1,h.2];exact xZi8 rfl) (Lim.and h1.tl h2.tl),rfl⟩
def kc (k:Int):Int:=if k=3 then 2 else if k=4 then 2 else if k=5 then 1 else 0
theorem kc_le (k:Int):0≤kc k∧kc k≤2:=by unfold kc;repeat' split
                                        all_goals omega
theorem xZo9 (k:Int) (N:Nat):xZbY N k=some (kc k):=by
 simp only [xZbY,kc]
 by_cases h3:k=3
 ·simp [h3]
 by_cases h4:k=4
 ·simp [h4]
 by_cases h5:k=5
 ·simp [h5]
 simp [h3,h4,h5,show (k==3)=false by simpa using h3,show (k==4)=false by simpa using h4,show (k==5)=false by simpa using h5]
def csz:Int→List xZ1→Int→Int
 | _,[],_=>0
 | k,e::r,n=>if k+(kc e.Kind - 1)=0 then n+1 else csz (k+(kc e.Kind - 1)) r (n+1)
def cz (l:List xZ1) (a:Int):Int:=if a < 0 then 0 else if (l.length:Int)≤a then 0 else csz 1 (l.drop a.toNat) 0
theorem xZql (l:List xZ1) (a:Int) (hl:l.length≤1000000):W (fun N=>xZbX N l a) (·=cz l a):=by
 simp only [xZbX,cz]
 by_cases h1:a < 0
 ·simp only [show ltB a 0=true from xZ4M.2 h1,cond_true,if_pos h1,W.ret]
 simp only [show ltB a 0=false from xZ5T.2 (by omega),cond_false,if_neg h1]
 by_cases h2:(l.length:Int)≤a
 ·simp only [show leB (l.length:Int) a=true from xZ18.2 h2,cond_true,if_pos h2,W.ret]
 simp only [show leB (l.length:Int) a=false from xZ6J.2 (by omega),cond_false,if_neg h2,W.gd,xZ18]
 refine ⟨by omega,by omega,?_⟩
 generalize hm:l.drop a.toNat=m
 have hml:m.length≤1000000:=by rw [← hm];simp;omega
 refine wf2z (l:=m) (fun pre v=>1≤v∧v≤(pre.length:Int)+1∧csz v (m.drop pre.length) pre.length=csz 1 m 0) [] rfl rfl (by omega) ⟨by simp,by simp,by simp⟩ ?_ ?_
 ·rintro F pre e rest v hl' k1 k2 k3 ⟨p1,p2,p3⟩ hn
  have hd:m.drop pre.length=e::rest:=by rw [hl'];simp
  have hd1:m.drop (pre++[e]).length=rest:=by rw [hl'];simp
  have hlen:pre.length+1≤m.length:=by rw [hl'];simp
  have hk:=kc_le e.Kind
  rw [hd,csz] at p3
  simp only [xZa2,k1,k2,Option.bind_some,cond_true,xZo9,W.gd,xZ5D,k3,true_and]
  refine ⟨by omega,by omega,?_⟩
  by_cases hz:v+(kc e.Kind - 1)=0
  ·rw [if_pos hz] at p3
   simp only [show (v+(kc e.Kind - 1)==0)=true by simpa using hz,cond_true,k3,xZ3A,W.ret]
   exact p3
  ·rw [if_neg hz] at p3
   simp only [show (v+(kc e.Kind - 1)==0)=false by simpa using hz,cond_false,k3,xZ3A]
   exact hn _ ⟨by omega,by simp;omega,by rw [hd1];rw [← p3];simp⟩
 ·rintro F v k1 ⟨p1,p2,p3⟩
  rw [List.drop_length,csz] at p3
  simp only [xZa2,k1,cond_false,W.ret]
  exact p3
end
section
inductive CT where
 | eps (p:Int)
 | leaf (p:Int)
 | cat (p:Int) (a b:CT)
 | or (p:Int) (a b:CT)
 | loop (p:Int) (a:CT)
def CT.fl:CT→List xZ1
 | .eps p=>[⟨1,p⟩]
 | .leaf p=>[⟨2,p⟩]
 | .cat p a b=>⟨3,p⟩::(a.fl++b.fl)
 | .or p a b=>⟨4,p⟩::(a.fl++b.fl)
 | .loop p a=>⟨5,p⟩::a.fl
def CT.fls:List CT→List xZ1
 | []=>[]
 | a::r=>a.fl++CT.fls r
theorem xZqG:∀ t:CT,1≤t.fl.length
 | .eps _=>Nat.le_refl _
 | .leaf _=>Nat.le_refl _
 | .cat _ a b=>by simp [CT.fl]
 | .or _ a b=>by simp [CT.fl]
 | .loop _ a=>by simp [CT.fl]
theorem xZj0:∀ (t:CT) (r:List xZ1) (k n:Int),1≤k→csz k (t.fl++r) n=if k=1 then n+t.fl.length else csz (k - 1) r (n+t.fl.length)
 | .eps _,r,k,n,h=>by
   simp only [CT.fl,List.cons_append,List.nil_append,csz,show kc 1=0 from rfl]
   by_cases hk:k=1
   ·rw [if_pos (by omega),if_pos hk];rfl
   ·rw [if_neg (by omega),if_neg hk,show k+(0 - 1)=k - 1 by omega];rfl
 | .leaf _,r,k,n,h=>by
   simp only [CT.fl,List.cons_append,List.nil_append,csz,show kc 2=0 from rfl]
   by_cases hk:k=1
   ·rw [if_pos (by omega),if_pos hk];rfl
   ·rw [if_neg (by omega),if_neg hk,show k+(0 - 1)=k - 1 by omega];rfl
 | .cat _ a b,r,k,n,h=>by
   simp only [CT.fl,List.cons_append,csz,show kc 3=2 from rfl,List.append_assoc,List.length_cons,List.length_append]
   rw [if_neg (by omega),xZj0 a _ _ _ (by omega),if_neg (by omega),xZj0 b _ _ _ (by omega),show k+(2 - 1) - 1=k by omega]
   have:n+1+(a.fl.length:Int)+(b.fl.length:Int)=n+((a.fl.length+b.fl.length+1:Nat):Int):=by omega
   rw [this]
 | .or _ a b,r,k,n,h=>by
   simp only [CT.fl,List.cons_append,csz,show kc 4=2 from rfl,List.append_assoc,List.length_cons,List.length_append]
   rw [if_neg (by omega),xZj0 a _ _ _ (by omega),if_neg (by omega),xZj0 b _ _ _ (by omega),show k+(2 - 1) - 1=k by omega]
   have:n+1+(a.fl.length:Int)+(b.fl.length:Int)=n+((a.fl.length+b.fl.length+1:Nat):Int):=by omega
   rw [this]
 | .loop _ a,r,k,n,h=>by
   simp only [CT.fl,List.cons_append,csz,show kc 5=1 from rfl,List.length_cons]
   rw [if_neg (by omega),xZj0 a _ _ _ (by omega),show k+(1 - 1)=k by omega]
   have:n+1+(a.fl.length:Int)=n+((a.fl.length+1:Nat):Int):=by omega
   rw [this]
theorem xZeD:∀ (l:List xZ1) (k n m:Int),(∀ e∈l,1≤e.Kind∧e.Kind≤5)→1≤k→0≤n→1≤m→csz k l n=n+m→∃ (ts:List CT) (r:List xZ1),l=CT.fls ts++r∧(ts.length:Int)=k∧((CT.fls ts).length:Int)=m
 | [],k,n,m,_,h1,h2,h3,h=>by rw [csz] at h;omega
 | e::l,k,n,m,hk,h1,h2,h3,h=>by
   have he:=hk e (by simp)
   have hl:∀ e∈l,1≤e.Kind∧e.Kind≤5:=fun x hx=>hk x (by simp [hx])
   obtain ⟨K,p⟩:=e
   simp only at he
   rw [csz] at h
   have lf:kc K=0→∀ t:CT,t.fl=[⟨K,p⟩]→∃ (ts:List CT) (r:List xZ1),(⟨K,p⟩:xZ1)::l=CT.fls ts++r∧(ts.length:Int)=k∧((CT.fls ts).length:Int)=m:=by
    intro h0 t ht
    simp only [h0] at h
    by_cases hz:k+(0 - 1)=0
    ·rw [if_pos hz] at h
     exact ⟨[t],l,by simp [CT.fls,ht],by simp;omega,by simp [CT.fls,ht];omega⟩
    ·rw [if_neg hz] at h
     by_cases hm:m=1
     ·
      exfalso
      have pos:∀ (l:List xZ1) (k n:Int),1≤k→0≤n→csz k l n=0∨n < csz k l n:=fun l=>by
       induction l with
       | nil=>intro k n _ _;exact .inl rfl
       | cons x l ih=>
         intro k n a b
         rw [csz]
         have:=kc_le x.Kind
         split
         ·exact .inr (by omega)
         ·rcases ih (k+(kc x.Kind - 1)) (n+1) (by omega) (by omega) with h | h
          ·exact .inl h
          ·exact .inr (by omega)
      rcases pos l (k+(0 - 1)) (n+1) (by omega) (by omega) with h' | h'<;>omega
     ·obtain ⟨ts,r,q1,q2,q3⟩:=xZeD l (k+(0 - 1)) (n+1) (m - 1) hl (by omega) (by omega) (by omega) (by rw [h];omega)
      exact ⟨t::ts,r,by simp [CT.fls,ht,q1],by simp;omega,by simp [CT.fls,ht];omega⟩
   have pos:∀ (l:List xZ1) (k n:Int),1≤k→0≤n→csz k l n=0∨n < csz k l n:=fun l=>by
    induction l with
    | nil=>intro k n _ _;exact .inl rfl
    | cons x l ih=>
      intro k n a b
      rw [csz]
      have:=kc_le x.Kind
      split
      ·exact .inr (by omega)
      ·rcases ih (k+(kc x.Kind - 1)) (n+1) (by omega) (by omega) with h | h
       ·exact .inl h
       ·exact .inr (by omega)
   have two:kc K=2→(∀ a b:CT,∃ t:CT,t.fl=⟨K,p⟩::(a.fl++b.fl))→∃ (ts:List CT) (r:List xZ1),(⟨K,p⟩:xZ1)::l=CT.fls ts++r∧(ts.length:Int)=k∧((CT.fls ts).length:Int)=m:=by
    intro h0 ht
    simp only [h0] at h
    rw [if_neg (by omega)] at h
    have hm:2≤m:=by
     rcases pos l (k+(2 - 1)) (n+1) (by omega) (by omega) with h' | h'<;>omega
    obtain ⟨ts,r,q1,q2,q3⟩:=xZeD l (k+(2 - 1)) (n+1) (m - 1) hl (by omega) (by omega) (by omega) (by rw [h];omega)
    match ts,q1,q2,q3 with
    | [],_,q2,_=>simp at q2;omega
    | [_],_,q2,_=>simp at q2;omega
    | a::b::ts,q1,q2,q3=>
      obtain ⟨t,ht⟩:=ht a b
      exact ⟨t::ts,r,by simp [CT.fls,ht,q1],by simp at q2 ⊢;omega,by simp [CT.fls,ht] at q3 ⊢;omega⟩
   rcases (show K=1∨K=2∨K=3∨K=4∨K=5 by omega) with rfl | rfl | rfl | rfl | rfl
   ·exact lf rfl (.eps p) rfl
   ·exact lf rfl (.leaf p) rfl
   ·exact two rfl fun a b=>⟨.cat p a b,rfl⟩
   ·exact two rfl fun a b=>⟨.or p a b,rfl⟩
   ·simp only [show kc 5=1 from rfl] at h
    rw [if_neg (by omega)] at h
    have hm:2≤m:=by
     rcases pos l (k+(1 - 1)) (n+1) (by omega) (by omega) with h' | h'<;>omega
    obtain ⟨ts,r,q1,q2,q3⟩:=xZeD l (k+(1 - 1)) (n+1) (m - 1) hl (by omega) (by omega) (by omega) (by rw [h];omega)
    match ts,q1,q2,q3 with
    | [],_,q2,_=>simp at q2;omega
    | a::ts,q1,q2,q3=>exact ⟨.loop p a::ts,r,by simp [CT.fls,CT.fl,q1],by simp at q2 ⊢;omega,by simp [CT.fls,CT.fl] at q3 ⊢;omega⟩
def cnt (S:Nat):Nat→Nat
 | 0=>0
 | n+1=>cnt S n+(if S.testBit n then 1 else 0)
theorem xZjy {S T:Nat} (h:∀ i,S.testBit i=true→T.testBit i=true):∀ n,cnt S n≤cnt T n
 | 0=>Nat.le_refl _
 | n+1=>by
   rw [cnt,cnt]
   have:=xZjy h n
   have:=h n
   split<;>split<;>first | omega | simp_all
theorem xZnR {S T:Nat} (h:∀ i,S.testBit i=true→T.testBit i=true):∀ {n i:Nat},i < n→S.testBit i=false→T.testBit i=true→cnt S n < cnt T n
 | 0,i,hi,_,_=>by omega
 | n+1,i,hi,h1,h2=>by
   rw [cnt,cnt]
   by_cases hin:i=n
   ·subst hin
    have:=xZjy h i
    rw [if_neg (by rw [h1];decide),if_pos h2];omega
   ·have:=xZnR h (n:=n) (i:=i) (by omega) h1 h2
    have:=h n
    split<;>split<;>first | omega | simp_all
end
def u32 (x:Int):Prop:=0≤x∧x < 4294967296
def inS (x:Int) (i:Nat):Bool:=x.toNat.testBit i
theorem u_nat {x:Int} (h:u32 x):∃ m:Nat,x=(m:Int)∧m < 4294967296:=⟨x.toNat,by have:=h.1;omega,by have:=h.2;have:=h.1;omega⟩
theorem u_of {m:Nat} (h:m < 4294967296):u32 (m:Int):=⟨by omega,by omega⟩
theorem wr32 {m:Nat} (h:m < 4294967296):IntKind.u32.wrap (m:Int)=(m:Int):=by rw [IntKind.wrap_u32];omega
theorem ofI32 (n:Nat):(BitVec.ofInt 32 (n:Int)).toNat=n % 2 ^ 32:=by
 rw [BitVec.toNat_ofInt]
 rw [← Int.natCast_emod,Int.toNat_natCast]
theorem o32 {a b:Nat} (ha:a < 4294967296) (hb:b < 4294967296):bwO .u32 (a:Int) (b:Int)=((a ||| b:Nat):Int):=by
 unfold bwO
 rw [show IntKind.u32.bits=32 from rfl,BitVec.toNat_or,ofI32,ofI32,Nat.mod_eq_of_lt (by simpa using ha),Nat.mod_eq_of_lt (by simpa using hb)]
 exact wr32 (Nat.or_lt_two_pow (n:=32) ha hb)
theorem a32 {a b:Nat} (ha:a < 4294967296) (hb:b < 4294967296):bwA .u32 (a:Int) (b:Int)=((a &&& b:Nat):Int):=by
 unfold bwA
 rw [show IntKind.u32.bits=32 from rfl,BitVec.toNat_and,ofI32,ofI32,Nat.mod_eq_of_lt (by simpa using ha),Nat.mod_eq_of_lt (by simpa using hb)]
 exact wr32 (Nat.lt_of_le_of_lt Nat.and_le_left ha)
theorem one32 {i:Nat} (h:i < 32):IntKind.u32.wrap (1 * 2 ^ (min (Int.toNat (i:Int)) (IntKind.u32.bits)))=((2 ^ i:Nat):Int):=by
 rw [Int.toNat_natCast,show min i IntKind.u32.bits=i from Nat.min_eq_left (by show _≤32;omega),Int.one_mul,show ((2:Int) ^ i)=((2 ^ i:Nat):Int) by simp]
 exact wr32 (Nat.lt_of_lt_of_le (Nat.pow_lt_pow_right (by decide) h) (by decide))
theorem xZqK {m i:Nat} (hm:m < 4294967296) (N:Nat):xZ4N N (m:Int) (i:Int)=some (m.testBit i):=by
 unfold xZ4N
 rw [show leB 0 (i:Int)=true from xZ18.2 (by omega),cond_true,xZ3A,show (32:Int)=((32:Nat):Int) from rfl,ltN]
 by_cases h:i < 32
 ·rw [decide_eq_true h,cond_true,Int.toNat_natCast,show min i IntKind.u32.bits=i from Nat.min_eq_left (by show _≤32;omega)]
  rw [Int.fdiv_eq_ediv_of_nonneg _ (Int.le_of_lt (Int.pow_pos (by decide))),show ((m:Int) / 2 ^ i)=((m / 2 ^ i:Nat):Int) by simp,show (1:Int)=((1:Nat):Int) from rfl]
  have hd:m / 2 ^ i < 4294967296:=Nat.lt_of_le_of_lt (Nat.div_le_self _ _) hm
  rw [a32 hd (by decide),Nat.and_one_is_mod,Nat.testBit_eq_decide_div_mod_eq]
  congr 1
  rw [Bool.eq_iff_iff]
  simp only [beq_iff_eq,decide_eq_true_eq]
  omega
 ·rw [decide_eq_false h,cond_false]
  rw [Nat.testBit_lt_two_pow (Nat.lt_of_lt_of_le hm (show 4294967296≤2 ^ i from Nat.le_trans (by decide:4294967296≤2 ^ 32) (Nat.pow_le_pow_right (by decide) (by omega))))]
theorem e_has {x:Int} {i:Nat} (h:u32 x) (N:Nat):xZ4N N x (i:Int)=some (inS x i):=by
 obtain ⟨m,rfl,hm⟩:=u_nat h
 exact xZqK hm N
theorem u_or {a b:Int} (ha:u32 a) (hb:u32 b):u32 (bwO .u32 a b)∧∀ i,inS (bwO .u32 a b) i=(inS a i || inS b i):=by
 obtain ⟨m,rfl,hm⟩:=u_nat ha
 obtain ⟨n,rfl,hn⟩:=u_nat hb
 rw [o32 hm hn]
 exact ⟨u_of (Nat.or_lt_two_pow (n:=32) hm hn),fun i=>by simp [inS,Nat.testBit_or]⟩
theorem u_and {a b:Int} (ha:u32 a) (hb:u32 b):u32 (bwA .u32 a b)∧∀ i,inS (bwA .u32 a b) i=(inS a i&&inS b i):=by
 obtain ⟨m,rfl,hm⟩:=u_nat ha
 obtain ⟨n,rfl,hn⟩:=u_nat hb
 rw [a32 hm hn]
 exact ⟨u_of (Nat.lt_of_le_of_lt Nat.and_le_left hm),fun i=>by simp [inS,Nat.testBit_and]⟩
theorem u_one {i:Nat} (h:i < 32):u32 (IntKind.u32.wrap (1 * 2 ^ (min (Int.toNat (i:Int)) (IntKind.u32.bits))))∧∀ j,inS (IntKind.u32.wrap (1 * 2 ^ (min (Int.toNat (i:Int)) (IntKind.u32.bits)))) j=decide (i=j):=by
 rw [one32 h]
 exact ⟨u_of (Nat.lt_of_lt_of_le (Nat.pow_lt_pow_right (by decide) h) (by decide)),fun j=>by unfold inS;rw [Int.toNat_natCast,Nat.testBit_two_pow]⟩
theorem u_0:u32 0∧∀ i,inS 0 i=false:=⟨⟨by decide,by decide⟩,fun i=>by simp [inS]⟩
theorem u_ext {a b:Int} (ha:u32 a) (hb:u32 b) (h:∀ i,inS a i=inS b i):a=b:=by
 obtain ⟨m,rfl,hm⟩:=u_nat ha
 obtain ⟨n,rfl,hn⟩:=u_nat hb
 have:m=n:=Nat.eq_of_testBit_eq fun i=>by simpa [inS] using h i
 rw [this]
def CT.lv (n:Nat):CT→Prop
 | .eps _=>True
 | .leaf p=>0≤p∧p < n
 | .cat _ a b=>a.lv n∧b.lv n
 | .or _ a b=>a.lv n∧b.lv n
 | .loop _ a=>a.lv n
theorem lv_of (n:Nat):∀ t:CT,(∀ e∈t.fl,e.Kind=2→0≤e.Place∧e.Place < (n:Int))→t.lv n
 | .eps _,_=>trivial
 | .leaf p,h=>h ⟨2,p⟩ (by simp [CT.fl]) rfl
 | .cat p a b,h=>⟨lv_of n a fun e he=>h e (by simp [CT.fl,he]),lv_of n b fun e he=>h e (by simp [CT.fl,he])⟩
 | .or p a b,h=>⟨lv_of n a fun e he=>h e (by simp [CT.fl,he]),lv_of n b fun e he=>h e (by simp [CT.fl,he])⟩
 | .loop p a,h=>lv_of n a fun e he=>h e (by simp [CT.fl,he])
theorem xZrz (c:xZy):W (fun N=>xZa3 N c) (fun b=>b=true→∃ t:CT,c.Nodes=t.fl∧t.fl.length≤200∧c.Places.length≤24∧t.lv c.Places.length):=by
 unfold xZa3
 rw [W.cond]
 refine ⟨fun _=>W.ret.2 (fun h=>by cases h),fun h0=>?_⟩
 rw [W.cond]
 refine ⟨fun _=>W.ret.2 (fun h=>by cases h),fun h1=>?_⟩
 rw [W.cond]
 refine ⟨fun _=>W.ret.2 (fun h=>by cases h),fun h2=>?_⟩
 have h1:=xZ5T.1 h1
 have h2:=xZ5T.1 h2
 refine W.call (xZql c.Nodes 0 (by omega)) fun z hz=>?_
 rw [W.cond]
 refine ⟨fun _=>W.ret.2 (fun h=>by cases h),fun h3=>?_⟩
 have h3:z=(c.Nodes.length:Int):=by simpa using h3
 refine wf2a (l:=c.Nodes) (fun pre y=>∀ e∈pre,(1≤e.Kind∧e.Kind≤5)∧(e.Kind=2→0≤e.Place∧e.Place < (c.Places.length:Int))) [] rfl rfl (by omega) (fun e he=>by cases he) ?_ ?_
 ·intro F pre e rest y hl hlt hix hi hp hn
  unfold xZ8J
  simp only [hlt,cond_true,hix,Option.bind_some]
  rw [W.cond]
  refine ⟨fun _=>W.ret.2 (fun h=>by cases h),fun k1=>?_⟩
  rw [W.cond]
  refine ⟨fun _=>W.ret.2 (fun h=>by cases h),fun k2=>?_⟩
  have k1:=xZ5T.1 k1
  have k2:=xZ5T.1 k2
  have more:(e.Kind=2→0≤e.Place∧e.Place < (c.Places.length:Int))→∀ x∈pre++[e],(1≤x.Kind∧x.Kind≤5)∧(x.Kind=2→0≤x.Place∧x.Place < (c.Places.length:Int)):=fun hq x hx=>by
   rcases List.mem_append.1 hx with hx | hx
   ·exact hp x hx
   ·rw [List.mem_singleton.1 hx];exact ⟨⟨k1,k2⟩,hq⟩
  rw [W.cond]
  refine ⟨fun k3=>?_,fun k3=>?_⟩
  ·rw [W.gd]
   exact ⟨hi,hn y (more fun h=>by rw [h] at k3;cases k3)⟩
  rw [W.cond]
  refine ⟨fun _=>W.ret.2 (fun h=>by cases h),fun k4=>?_⟩
  rw [W.cond]
  refine ⟨fun _=>W.ret.2 (fun h=>by cases h),fun k5=>?_⟩
  have k4:=xZ5T.1 k4
  have k5:=xZ6J.1 k5
  have k24:ltB e.Place 24=true:=xZ4M.2 (by omega)
  simp only [show leB 0 e.Place=true from xZ18.2 k4,xZ3A,k24]
  obtain ⟨v,hv,_⟩:=ix_lt (l:=A24.l y) k4 (by show e.Place < 24;omega)
  simp only [hv,Option.bind_some]
  rw [W.cond]
  refine ⟨fun _=>W.ret.2 (fun h=>by cases h),fun k6=>?_⟩
  rw [W.gd]
  exact ⟨hi,hn _ (more fun _=>⟨k4,k5⟩)⟩
 ·intro F y hlt hp
  unfold xZ8J
  simp only [hlt,cond_false,W.ret]
  intro _
  unfold cz at hz
  have hpos:1≤c.Nodes.length:=by
   have:((c.Nodes.length:Int)==0)=false:=h0
   rw [beq_eq_false_iff_ne] at this
   omega
  rw [if_neg (by decide),if_neg (by omega)] at hz
  simp only [Int.toNat_zero,List.drop_zero] at hz
  obtain ⟨ts,r,e1,e2,e3⟩:=xZeD c.Nodes 1 0 c.Nodes.length (fun e he=>(hp e he).1) (by decide) (by decide) (by omega) (by omega)
  obtain ⟨t,rfl⟩:∃ t,ts=[t]:=by
   match ts,e2 with
   | [t],_=>exact ⟨t,rfl⟩
   | [],h=>simp at h
   | _::_::_,h=>simp at h;omega
  have e4:c.Nodes=t.fl++r:=by rw [e1];simp [CT.fls]
  have e5:r=[]:=by
   have:=congrArg List.length e4
   simp [CT.fls] at e3 this
   exact List.eq_nil_of_length_eq_zero (by omega)
  subst e5
  rw [List.append_nil] at e4
  exact ⟨t,e4,by rw [← e4];omega,by omega,lv_of _ t fun e he hk=>(hp e (by rw [e4];exact he)).2 hk⟩
def okU (n:Nat) (xs:List Int):Prop:=xs.length=n∧∀ x∈xs,u32 x
theorem xZoO {n i:Nat} {xs:List Int} {v:Int} (h:okU n xs) (hv:u32 v):okU n (xs.set i v):=⟨by simp [h.1],fun x hx=>by
 rcases List.mem_or_eq_of_mem_set hx with hx | rfl
 ·exact h.2 x hx
 ·exact hv⟩
theorem xZni {n i:Nat} {xs:List Int} (h:okU n xs) (hi:i < n):∃ e,ix xs (i:Int)=some e∧u32 e:=by
 obtain ⟨e,h1,h2⟩:=ix_lt (l:=xs) (i:=(i:Int)) (by omega) (by rw [h.1];omega)
 exact ⟨e,h1,h.2 e (List.mem_of_getElem? h2)⟩
theorem w_tie {n:Nat} {a b:Int} {y:List xZ1} {y2:Int} {xs:List Int} (hn:n≤1000) (ha:u32 a) (hb:u32 b) (hx:okU n xs):W (fun N=>xZ3j N a b y y2 xs) (fun r=>r.1=y∧r.2.1=y2∧okU n r.2.2):=by
 unfold xZ3j
 rw [hx.1]
 refine W.lp2 (fun x ys=>∃ i:Nat,x=(i:Int)∧okU n ys) (fun x _=>(n - x).toNat) ⟨0,rfl,hx⟩ ?_
 rintro F x ys ⟨i,rfl,h1⟩ hg
 unfold xZ54
 simp only [ltN,W.cond,decide_eq_true_eq,decide_eq_false_iff_not,e_has ha,Option.bind_some,W.gd,p1N,W.ret]
 refine ⟨fun hi=>⟨fun ht=>?_,fun _=>⟨i64n (by omega),hg _ _ ⟨i+1,rfl,h1⟩ (by omega)⟩⟩,fun _=>⟨trivial,trivial,h1⟩⟩
 obtain ⟨e,h2,h3⟩:=xZni h1 hi
 simp only [h2,Option.bind_some,W.gd]
 exact ⟨i64n (by omega),hg _ _ ⟨i+1,rfl,xZoO h1 (u_or h3 hb).1⟩ (by omega)⟩
def okT (n:Nat) (nodes:List xZ1) (q:Int) (r:xZS×List xZ1×Int×List Int):Prop:=r.2.1=nodes∧r.2.2.1=q∧okU n r.2.2.2∧u32 r.1.first∧u32 r.1.last∧(r.1.null=false→∃ i,i < n∧inS r.1.first i=true)
theorem xZrJ {n:Nat} {nodes:List xZ1} (hn:n≤24) (hl:nodes.length≤1000):∀ t:CT,t.lv n→∀ (pre post:List xZ1) (q:Int) (xs:List Int),q=(pre.length:Int)→okU n xs→nodes=pre++(t.fl++post)→
 W (fun N=>xZ1C N nodes q xs) (okT n nodes (q+t.fl.length)):=by
 have ixq:∀ (pre r:List xZ1) (e:xZ1) (q:Int),q=(pre.length:Int)→nodes=pre++e::r→ix nodes q=some e:=fun pre r e q h1 h2=>by rw [h1,h2,ix_nat'];simp
 have ib:∀ (pre r:List xZ1) (e:xZ1) (q:Int),q=(pre.length:Int)→nodes=pre++e::r→i64b (q+1)=true:=fun pre r e q h1 h2=>by
  have:=congrArg List.length h2
  simp at this
  exact xZ5D.2 (by omega)
 intro t
 induction t with
 | eps p=>
   intro _ pre post q xs hq hx hm
   refine W.sh ?_
   show W (fun N=>xZt N (xZ1C N) _ _ _) _
   simp only [xZt,ixq pre _ _ q hq hm,ib pre _ _ q hq hm,xZ3A,Option.bind_some,show ((1:Int)==2)=false from rfl,show ((1:Int)==5)=false from rfl,show ((1:Int)==4)=false from rfl,show ((1:Int)==3)=false from rfl,cond_false,W.ret]
   exact ⟨rfl,by simp [CT.fl],hx,u_0.1,u_0.1,fun h=>by cases h⟩
 | leaf p=>
   intro hp pre post q xs hq hx hm
   refine W.sh ?_
   show W (fun N=>xZt N (xZ1C N) _ _ _) _
   obtain ⟨m,hm1⟩:∃ m:Nat,p=(m:Int):=⟨p.toNat,by have:=hp.1;omega⟩
   subst hm1
   have hp2:=hp.2
   simp only [xZt,ixq pre _ _ q hq hm,ib pre _ _ q hq hm,xZ3A,Option.bind_some,show ((2:Int)==2)=true from rfl,cond_true,show leB 0 (m:Int)=true from xZ18.2 (by omega),W.ret]
   exact ⟨rfl,by simp [CT.fl],hx,(u_one (by omega)).1,(u_one (by omega)).1,fun _=>⟨m,by omega,by rw [(u_one (by omega)).2];simp⟩⟩
 | loop p a ih=>
   intro hp pre post q xs hq hx hm
   refine W.sh ?_
   show W (fun N=>xZt N (xZ1C N) _ _ _) _
   simp only [xZt,ixq pre _ _ q hq hm,ib pre _ _ q hq hm,xZ3A,Option.bind_some,show ((5:Int)==2)=false from rfl,show ((5:Int)==5)=true from rfl,cond_true,cond_false]
   refine W.call (ih hp (pre++[⟨5,p⟩]) post (q+1) xs (by simp;omega) hx (by rw [hm];simp [CT.fl])) fun r hr=>?_
   obtain ⟨h1,h2,h3,h4,h5,h6⟩:=hr
   refine W.call (w_tie (by omega) h5 h4 h3) fun u hu=>?_
   obtain ⟨k1,k2,k3⟩:=hu
   rw [W.ret]
   exact ⟨by rw [k1,h1],by rw [k2,h2];simp [CT.fl];omega,k3,h4,h5,h6⟩
 | or p a b iha ihb=>
   intro hp pre post q xs hq hx hm
   refine W.sh ?_
   show W (fun N=>xZt N (xZ1C N) _ _ _) _
   simp only [xZt,ixq pre _ _ q hq hm,ib pre _ _ q hq hm,xZ3A,Option.bind_some,show ((4:Int)==2)=false from rfl,show ((4:Int)==5)=false from rfl,show ((4:Int)==4)=true from rfl,cond_true,cond_false]
   refine W.call (iha hp.1 (pre++[⟨4,p⟩]) (b.fl++post) (q+1) xs (by simp;omega) hx (by rw [hm];simp [CT.fl])) fun r hr=>?_
   obtain ⟨h1,h2,h3,h4,h5,h6⟩:=hr
   rw [h1]
   refine W.call (ihb hp.2 (pre++[⟨4,p⟩]++a.fl) post r.2.2.1 r.2.2.2 (by rw [h2];simp;omega) h3 (by rw [hm];simp [CT.fl])) fun u hu=>?_
   obtain ⟨k1,k2,k3,k4,k5,k6⟩:=hu
   have e:u.2.2.1=q+(CT.or p a b).fl.length:=by rw [k2,h2];simp [CT.fl];omega
   rw [W.cond]
   exact ⟨fun _=>W.ret.2 ⟨k1,e,k3,(u_or h4 k4).1,(u_or h5 k5).1,fun h=>by cases h⟩,fun hn0=>W.ret.2 ⟨k1,e,k3,(u_or h4 k4).1,(u_or h5 k5).1,fun _=>let ⟨i,q1,q2⟩:=h6 hn0;⟨i,q1,by rw [(u_or h4 k4).2,q2];rfl⟩⟩⟩
 | cat p a b iha ihb=>
   intro hp pre post q xs hq hx hm
   refine W.sh ?_
   show W (fun N=>xZt N (xZ1C N) _ _ _) _
   simp only [xZt,ixq pre _ _ q hq hm,ib pre _ _ q hq hm,xZ3A,Option.bind_some,show ((3:Int)==2)=false from rfl,show ((3:Int)==5)=false from rfl,show ((3:Int)==4)=false from rfl,show ((3:Int)==3)=true from rfl,cond_true,cond_false]
   refine W.call (iha hp.1 (pre++[⟨3,p⟩]) (b.fl++post) (q+1) xs (by simp;omega) hx (by rw [hm];simp [CT.fl])) fun r hr=>?_
   obtain ⟨h1,h2,h3,h4,h5,h6⟩:=hr
   rw [h1]
   refine W.call (ihb hp.2 (pre++[⟨3,p⟩]++a.fl) post r.2.2.1 r.2.2.2 (by rw [h2];simp;omega) h3 (by rw [hm];simp [CT.fl])) fun u hu=>?_
   obtain ⟨k1,k2,k3,k4,k5,k6⟩:=hu
   have e:u.2.2.1=q+(CT.cat p a b).fl.length:=by rw [k2,h2];simp [CT.fl];omega
   refine W.call (w_tie (by omega) h5 k4 k3) fun v hv=>?_
   obtain ⟨m1,m2,m3⟩:=hv
   have done:∀ f l:Int,u32 f→u32 l→∀ z:Bool,(z=false→∃ i,i < n∧inS f i=true)→okT n nodes (q+(CT.cat p a b).fl.length) (⟨z,f,l⟩,v.1,v.2.1,v.2.2):=fun f l hf hl z hz=>⟨by rw [m1,k1],by rw [m2,e],m3,hf,hl,hz⟩
   have o2:(∃ i,i < n∧inS u.1.first i=true)→∃ i,i < n∧inS (bwO .u32 r.1.first u.1.first) i=true:=fun ⟨i,q1,q2⟩=>⟨i,q1,by rw [(u_or h4 k4).2,q2,Bool.or_true]⟩
   cases hrn:r.1.null<;>cases hun:u.1.null<;>simp only [cond_true,cond_false,W.ret]
   ·exact done _ _ h4 k5 _ fun _=>h6 hrn
   ·exact done _ _ h4 (u_or k5 h5).1 _ fun _=>h6 hrn
   ·exact done _ _ (u_or h4 k4).1 k5 _ fun _=>o2 (k6 hun)
   ·exact done _ _ (u_or h4 k4).1 (u_or k5 h5).1 _ fun h=>by cases h
theorem xZnC (c:xZy):W (fun N=>xZ57 N c) (fun r=>(r.2=2∧r.1=⟨false,0,0,[]⟩)∨r.2=0∧c.Places.length≤24∧okU c.Places.length r.1.Next∧u32 r.1.First∧u32 r.1.Last∧(r.1.Null=false→∃ i,i < c.Places.length∧inS r.1.First i=true)):=by
 unfold xZ57
 refine W.call (xZrz c) fun b hb=>?_
 simp only [xZbc]
 rw [W.cond]
 refine ⟨fun _=>W.ret.2 (.inl ⟨rfl,rfl⟩),fun h=>?_⟩
 obtain ⟨t,h1,h2,h3,h4⟩:=hb (by simpa using h)
 simp only [show leB 0 (c.Places.length:Int)=true from xZ18.2 (by omega),show leB (4 * (c.Places.length:Int)) 281474976710656=true from xZ18.2 (by omega),xZ3A]
 refine W.call (xZrJ (n:=c.Places.length) (nodes:=c.Nodes) h3 (by rw [h1];omega) t h4 [] [] 0 _ rfl ⟨by simp,fun x hx=>by rw [List.eq_of_mem_replicate hx];exact u_0.1⟩ (by rw [h1];simp)) fun r hr=>?_
 rw [W.ret]
 exact .inr ⟨rfl,h3,hr.2.2.1,hr.2.2.2.1,hr.2.2.2.2⟩
theorem xZpl {a b:Int} (ha:u32 a) (hb:u32 b):u32 (bwN .u32 a b)∧∀ i,inS (bwN .u32 a b) i=(inS a i&&!inS b i):=by
 obtain ⟨m,rfl,hm⟩:=u_nat ha
 obtain ⟨n,rfl,hn⟩:=u_nat hb
 have e:bwN .u32 (m:Int) (n:Int)=(((BitVec.ofInt 32 (m:Int) &&& ~~~(BitVec.ofInt 32 (n:Int))).toNat:Nat):Int):=by
  unfold bwN
  exact wr32 (BitVec.isLt _)
 rw [e]
 refine ⟨u_of (BitVec.isLt _),fun i=>?_⟩
 unfold inS
 simp only [Int.toNat_natCast]
 rw [BitVec.testBit_toNat,BitVec.getLsbD_and,BitVec.getLsbD_not,← BitVec.testBit_toNat,← BitVec.testBit_toNat,ofI32,ofI32,Nat.mod_eq_of_lt (by simpa using hm),Nat.mod_eq_of_lt (by simpa using hn)]
 by_cases h:i < 32
 ·simp [h]
 ·have:m.testBit i=false:=Nat.testBit_lt_two_pow (Nat.lt_of_lt_of_le hm (show 4294967296≤2 ^ i from Nat.le_trans (by decide:4294967296≤2 ^ 32) (Nat.pow_le_pow_right (by decide) (by omega))))
  simp [this]
def cn (x:Int):Nat:=cnt x.toNat 32
theorem cn_lt {a b:Int} (h:∀ i,inS a i=true→inS b i=true) {i:Nat} (hi:i < 32) (h1:inS a i=false) (h2:inS b i=true):cn a < cn b:=xZnR h hi h1 h2
theorem xZry {n:Nat} {y:List xZ1} {y2:List xZ4} {y3:Int} {y4:List UInt8} {y5:Int} {y6:Bool} {y7 y8:Int} {y9:List Int} {y10:Int} (hn:n≤24) (hy:y2.length=n) (h9:okU n y9) (h10:u32 y10):
 W (fun N=>xZ3J N y y2 y3 y4 y5 y6 y7 y8 y9 y10) (fun r=>r.2=(y,y2,y3,y4,y5,y6,y7,y8,y9,y10)):=by
 unfold xZ3J
 refine W.lp2 (fun l _=>u32 l) (fun l c=>2 * cn l+(if c then 1 else 0)) h10 ?_
 intro F left ch hl hn1
 unfold xZ4C
 rw [W.cond]
 refine ⟨fun hc=>?_,fun _=>W.ret.2 rfl⟩
 subst hc
 rw [W.cond]
 refine ⟨fun _=>?_,fun _=>W.ret.2 rfl⟩
 rw [hy]
 refine W.lp3 (fun l c x=>∃ i:Nat,x=(i:Int)∧u32 l∧(∀ j,inS l j=true→inS left j=true)∧(c=true→cn l < cn left)∧(c=false→l=left)) (fun _ _ x=>(n - x).toNat) ⟨0,rfl,hl,fun _ h=>h,(fun h=>by cases h),fun _=>rfl⟩ ?_
 rintro G l c x ⟨i,rfl,p1,p2,p3,p4⟩ hm
 unfold xZ4D
 simp only [ltN,W.cond,decide_eq_true_eq,decide_eq_false_iff_not,e_has p1,Option.bind_some,W.gd,p1N]
 refine ⟨fun hi=>⟨fun ht=>?_,fun _=>⟨i64n (by omega),hm _ _ _ ⟨i+1,rfl,p1,p2,p3,p4⟩ (by omega)⟩⟩,fun _=>?_⟩
 ·obtain ⟨e,h2,h3⟩:=xZni h9 hi
  simp only [h2,Option.bind_some,W.cond,W.gd]
  refine ⟨fun _=>⟨xZ18.2 (by omega),i64n (by omega),?_⟩,fun _=>⟨i64n (by omega),hm _ _ _ ⟨i+1,rfl,p1,p2,p3,p4⟩ (by omega)⟩⟩
  have hb:=u_one (i:=i) (by omega)
  obtain ⟨q1,q2⟩:=xZpl p1 hb.1
  have sub:∀ j,inS (bwN .u32 l (IntKind.u32.wrap (1 * 2 ^ (min (Int.toNat (i:Int)) (IntKind.u32.bits))))) j=true→inS l j=true:=fun j hj=>by rw [q2] at hj;simp only [Bool.and_eq_true] at hj;exact hj.1
  refine hm _ _ _ ⟨i+1,rfl,q1,fun j hj=>p2 j (sub j hj),fun _=>?_,(fun h=>by cases h)⟩ (by omega)
  have lt:=cn_lt sub (i:=i) (by omega) (by rw [q2,hb.2];simp) ht
  cases c with
  | true=>exact Nat.lt_trans lt (p3 rfl)
  | false=>rw [p4 rfl] at lt ⊢;exact lt
 ·refine (hn1 l c p1 ?_).lift
  cases c with
  | true=>have:=p3 rfl;simp;omega
  | false=>rw [p4 rfl];simp
section
def nb (nx:List Int) (q k:Nat):Bool:=inS (nx.getD q 0) k
def ob (k:Nat):Int:=((2 ^ k:Nat):Int)
theorem ob_u {k:Nat} (h:k < 32):u32 (ob k)∧∀ j,inS (ob k) j=decide (k=j):=by
 have:=u_one h
 rwa [one32 h] at this
inductive Rc (n:Nat) (nx:List Int) (ng:Int) (at_:Nat):Nat→Int→Prop
 | start:Rc n nx ng at_ at_ 0
 | step {q k:Nat} {S:Int}:Rc n nx ng at_ q S→k < n→nb nx q k=true→inS ng k=true→Rc n nx ng at_ k (bwO .u32 S (ob k))
theorem Rc.u {n:Nat} {nx:List Int} {ng:Int} {a q:Nat} {S:Int} (hn:n≤24) (h:Rc n nx ng a q S):u32 S:=by
 induction h with
 | start=>exact u_0.1
 | step _ hk _ _ ih=>exact (u_or ih (ob_u (by omega)).1).1
theorem Rc.lt {n:Nat} {nx:List Int} {ng:Int} {a q:Nat} {S:Int} (ha:a < n) (h:Rc n nx ng a q S):q < n:=by
 cases h with
 | start=>exact ha
 | step _ hk _ _=>exact hk
theorem Rc.own {n:Nat} {nx:List Int} {ng:Int} {a q:Nat} {S:Int} (hn:n≤24) (h:Rc n nx ng a q S):q=a∨inS S q=true:=by
 cases h with
 | start=>exact .inl rfl
 | step h hk hb hg=>exact .inr (by rw [(u_or (h.u hn) (ob_u (by omega)).1).2,(ob_u (by omega)).2];simp)
theorem Rc.in {n:Nat} {nx:List Int} {ng:Int} {a q:Nat} {S:Int} (hn:n≤24) (h:Rc n nx ng a q S):∀ j,inS S j=true→j < n∧inS ng j=true:=by
 induction h with
 | start=>intro j hj;rw [u_0.2] at hj;cases hj
 | step h hk hb hg ih=>
   intro j hj
   rw [(u_or (h.u hn) (ob_u (by omega)).1).2,(ob_u (by omega)).2] at hj
   rcases Bool.or_eq_true _ _ ▸ hj with hj | hj
   ·exact ih j hj
   ·have:=of_decide_eq_true hj
    subst this
    exact ⟨hk,hg⟩
theorem xZmX {x:Int} {S:Int} {l:List Ent125}:(List.find? (fun y=>(y.k.To==x)&&(y.k.Negs==S)) l=none→∀ y∈l,y.k≠⟨x,S⟩)∧∀ y,List.find? (fun y=>(y.k.To==x)&&(y.k.Negs==S)) l=some y→y∈l∧y.k=⟨x,S⟩:=by
 refine ⟨fun h y hy e=>?_,fun y h=>?_⟩
 ·have:=List.find?_eq_none.1 h y hy
  rw [e] at this
  simp at this
 ·have h1:=List.mem_of_find?_eq_some h
  have h2:=List.find?_some h
  simp only [Bool.and_eq_true,beq_iff_eq] at h2
  refine ⟨h1,?_⟩
  cases hy:y.k
  rw [hy] at h2
  simp only at h2
  rw [h2.1,h2.2]
theorem xZm6 {p:Ent125→Bool} {y:Ent125}:∀ {l:List Ent125},List.find? p l=none→mup p y l=l++[y]
 | [],_=>rfl
 | x::l,h=>by
   rw [List.find?_cons] at h
   cases hp:p x with
   | true=>rw [hp] at h;cases h
   | false=>
     rw [hp] at h
     rw [mup,hp,cond_false,xZm6 h];rfl
section
variable (n:Nat) (nx:List Int) (ng la:Int) (a:Nat)
def Pd (seen:List Ent125) (next:List xZ0) (ends:List Int) (z:xZ0):Prop:=(∀ k,k < n→nb nx z.To.toNat k=true→(inS ng k=false→⟨(k:Int),z.Negs⟩∈next)∧(inS ng k=true→∃ y∈seen,y.k=⟨(k:Int),bwO .u32 z.Negs (ob k)⟩))∧(inS la z.To.toNat=true→z.Negs∈ends)
def isR (z:xZ0):Prop:=∃ q:Nat,z.To=(q:Int)∧Rc n nx ng a q z.Negs
def isE (e:xZ0):Prop:=∃ q k:Nat,Rc n nx ng a q e.Negs∧e.To=(k:Int)∧k < n∧nb nx q k=true∧inS ng k=false
def isL (S:Int):Prop:=∃ q:Nat,Rc n nx ng a q S∧inS la q=true
structure Inv (todo:List xZ0) (seen:List Ent125) (next:List xZ0) (ends:List Int):Prop where
 rt:∀ z∈todo,isR n nx ng a z
 rs:∀ y∈seen,isR n nx ng a y.k
 rn:∀ e∈next,isE n nx ng a e
 re:∀ S∈ends,isL n nx ng la a S
 dn:∀ z:xZ0,(z=⟨(a:Int),0⟩∨∃ y∈seen,y.k=z)→z∈todo∨Pd n nx ng la seen next ends z
structure Told (next:List xZ0) (ends:List Int):Prop where
 tn:∀ e∈next,isE n nx ng a e
 te:∀ S∈ends,isL n nx ng la a S
 ta:∀ (q:Nat) (S:Int),Rc n nx ng a q S→(∀ k,k < n→nb nx q k=true→inS ng k=false→(⟨(k:Int),S⟩:xZ0)∈next)∧(inS la q=true→S∈ends)
end
variable {n:Nat} {nx:List Int} {ng la:Int} {a:Nat}
theorem Pd.mono {seen seen':List Ent125} {next next':List xZ0} {ends ends':List Int} {z:xZ0} (h:Pd n nx ng la seen next ends z) (h1:∀ y∈seen,y∈seen') (h2:∀ e∈next,e∈next') (h3:∀ S∈ends,S∈ends'):Pd n nx ng la seen' next' ends' z:=
 ⟨fun k hk hb=>⟨fun h0=>h2 _ ((h.1 k hk hb).1 h0),fun h0=>let ⟨y,q1,q2⟩:=(h.1 k hk hb).2 h0;⟨y,h1 y q1,q2⟩⟩,fun hl=>h3 _ (h.2 hl)⟩
theorem Inv.told {seen:List Ent125} {next:List xZ0} {ends:List Int} (h:Inv n nx ng la a [] seen next ends):Told n nx ng la a next ends:=by
 refine ⟨h.rn,h.re,fun q S hr=>?_⟩
 have key:(⟨(q:Int),S⟩:xZ0)=⟨(a:Int),0⟩∨∃ y∈seen,y.k=⟨(q:Int),S⟩:=by
  induction hr with
  | start=>exact .inl rfl
  | step _ hk hb hg ih=>
    rename_i q' k' S' h'
    rcases h.dn _ ih with h1 | h1
    ·cases h1
    ·exact .inr ((h1.1 k' hk (by simpa using hb)).2 hg)
 rcases h.dn _ key with h1 | h1
 ·cases h1
 ·exact ⟨fun k hk hb h0=>(h1.1 k hk (by simpa using hb)).1 h0,fun hl=>h1.2 (by simpa using hl)⟩
end
theorem kw_ok {k:Nat} {S:Int} (hk:k < 24) (hS:u32 S):kwB ([.i64,.u32]:List IntKind) [(k:Int),S]=true:=by
 have h1:=hS.1
 have h2:=hS.2
 show (leB IntKind.i64.min (k:Int)&&(leB (k:Int) IntKind.i64.max&&(leB IntKind.u32.min S&&(leB S IntKind.u32.max&&true))))=true
 rw [show leB IntKind.i64.min (k:Int)=true from xZ18.2 (by rw [show IntKind.i64.min=-9223372036854775808 from by decide];omega),show leB (k:Int) IntKind.i64.max=true from xZ18.2 (by rw [show IntKind.i64.max=9223372036854775807 from by decide];omega),show leB IntKind.u32.min S=true from xZ18.2 (by rw [show IntKind.u32.min=0 from by decide];omega),show leB S IntKind.u32.max=true from xZ18.2 (by rw [show IntKind.u32.max=4294967295 from by decide];omega)]
 rfl
theorem xZgx:∀ (l:List xZ0) (e:xZ0),e∈cpE l ↔ e∈l
 | [],e=>by simp [cpE]
 | [x],e=>by simp [cpE]
 | x::y::l,e=>by
   rw [cpE]
   split
   ·rename_i h
    have hxy:x=y:=by cases x;cases y;simp only at h;rw [h.1,h.2]
    rw [xZgx (y::l) e,hxy];simp
   ·rw [List.mem_cons,xZgx (y::l) e,List.mem_cons (a:=e) (b:=x)]
theorem xZgy:∀ (l:List Int) (e:Int),e∈cpU l ↔ e∈l
 | [],e=>by simp [cpU]
 | [x],e=>by simp [cpU]
 | x::y::l,e=>by
   rw [cpU]
   split
   ·rename_i h
    rw [xZgy (y::l) e,h];simp
   ·rw [List.mem_cons,xZgy (y::l) e,List.mem_cons (a:=e) (b:=x)]
def FQ (n:Nat) (nx:List Int) (ng la:Int) (a:Nat) {γ:Type} (cells:γ) (r:List xZ0×List Int×Bool×γ):Prop:=r.2.2.2=cells∧(r.2.2.1=true→Told n nx ng la a r.1 r.2.1∧(∃ l:List xZ0,r.1=cpE (l.mergeSort fun x y=>!elt y x))∧(∃ l:List Int,r.2.1=cpU (l.mergeSort fun x y=>decide (x≤y)))∧r.1.length≤64∧r.2.1.length≤64)
theorem xZqm {n:Nat} {y:List xZ1} {y2:List xZ4} {y3:Int} {y4:List UInt8} {y5:Int} {y6:Bool} {y7 y8:Int} {y9:List Int} {y10:Int} {a:Nat} (hn:n≤24) (ha:a < n) (hy:y2.length=n) (h8:u32 y8) (h9:okU n y9) (h10:u32 y10):
 W (fun N=>xZ2a N a y y2 y3 y4 y5 y6 y7 y8 y9 y10) (FQ n y9 y10 y8 a (y,y2,y3,y4,y5,y6,y7,y8,y9,y10)):=by
 unfold xZ2a
 refine W.lp4 (fun nx en sn td=>Inv n y9 y10 y8 a td sn nx en∧sn.length≤65 * n∧nx.length+n * (2 * (65 * n - sn.length)+td.length)≤n * (130 * n+1)∧en.length+(2 * (65 * n - sn.length)+td.length)≤130 * n+1) (fun _ _ sn td=>2 * (65 * n - sn.length)+td.length) ?_ ?_
 ·refine ⟨⟨fun z hz=>?_,fun y hy=>by simp at hy,fun e he=>by simp at he,fun S hS=>by simp at hS,fun z hz=>?_⟩,by simp,by simp;exact Nat.mul_le_mul_left _ (by omega),by simp;omega⟩
  ·rw [List.mem_singleton.1 hz];exact ⟨a,rfl,.start⟩
  ·rcases hz with rfl | ⟨y,h,_⟩
   ·exact .inl (by simp)
   ·simp at h
 intro F nx en sn td ⟨hI,b1,b2,b3⟩ hg
 unfold xZ36
 simp only [xZbc]
 rw [W.cond]
 have hnn:n * (130 * n+1)≤24 * (130 * 24+1):=Nat.mul_le_mul hn (by omega)
 refine ⟨fun hc=>?_,fun hc=>?_⟩
 rotate_left
 ·
  have hc:=xZ5T.1 hc
  have htd:td=[]:=List.eq_nil_of_length_eq_zero (by omega)
  subst htd
  refine W.call (xZqv (by simp at b2;omega)) fun r hr=>?_
  subst hr
  refine W.call (xZqw (by simp at b3;omega)) fun r hr=>?_
  subst hr
  have g1:(nx.mergeSort fun x y=>!elt y x).length=nx.length:=List.length_mergeSort _
  have g2:(en.mergeSort fun x y=>decide (x≤y)).length=en.length:=List.length_mergeSort _
  simp only [xZ1v,xZ1Y,g1,g2,show Nat.ble nx.length 4611686018427387903=true from Nat.ble_eq_true_of_le (by simp at b2;omega),show Nat.ble en.length 4611686018427387903=true from Nat.ble_eq_true_of_le (by simp at b3;omega),xZ3A,Option.bind_some]
  have told:Told n y9 y10 y8 a (cpE (nx.mergeSort fun x y=>!elt y x)) (cpU (en.mergeSort fun x y=>decide (x≤y))):=by
   have h:=hI.told
   refine ⟨fun e he=>h.tn e ?_,fun S hS=>h.te S ?_,fun q S hr=>⟨fun k hk hb h0=>?_,fun hl=>?_⟩⟩
   ·rw [xZgx,List.mem_mergeSort] at he;exact he
   ·rw [xZgy,List.mem_mergeSort] at hS;exact hS
   ·rw [xZgx,List.mem_mergeSort];exact (h.ta q S hr).1 k hk hb h0
   ·rw [xZgy,List.mem_mergeSort];exact (h.ta q S hr).2 hl
  rw [W.cond]
  refine ⟨fun h=>W.ret.2 ⟨rfl,fun h'=>⟨told,⟨_,rfl⟩,⟨_,rfl⟩,?_,?_⟩⟩,fun h=>W.ret.2 ⟨rfl,fun h'=>by cases h'⟩⟩
  ·show (cpE (nx.mergeSort fun x y=>!elt y x)).length≤64
   have:=xZ18.1 h;omega
  ·show (cpU (en.mergeSort fun x y=>decide (x≤y))).length≤64
   have h':leB ((cpU (en.mergeSort fun x y=>decide (x≤y))).length:Int) 64=true:=h'
   have:=xZ18.1 h';omega
 have hc:=xZ4M.1 hc
 rw [W.gd,hy]
 refine ⟨xZ5D.2 (by omega),?_⟩
 rw [W.cond]
 refine ⟨fun _=>W.ret.2 ⟨rfl,fun h=>by cases h⟩,fun hs=>?_⟩
 have hs:=xZ5T.1 hs
 obtain ⟨t,x,rfl⟩:∃ t x,td=t++[x]:=by
  rcases List.eq_nil_or_concat td with rfl | ⟨t,x,rfl⟩
  ·simp at hc
  ·exact ⟨t,x,by simp⟩
 have hx:ix (t++[x]) (((t++[x]).length:Int) - 1)=some x:=by
  rw [m1N (by simp),ix_nat'];simp
 have htk:List.take (Int.toNat (((t++[x]).length:Int) - 1)) (t++[x])=t:=by
  rw [m1N (by simp),Int.toNat_natCast];simp
 obtain ⟨q,hq,hr⟩:=hI.rt x (by simp)
 have hqn:=hr.lt ha
 simp only [hx,htk,Option.bind_some,W.gd,show i64b (((t++[x]).length:Int) - 1)=true from xZ5D.2 (by simp at b3 ⊢;omega),show leB 0 (((t++[x]).length:Int) - 1)=true from xZ18.2 (by omega),show leB (((t++[x]).length:Int) - 1) ((t++[x]).length:Int)=true from xZ18.2 (by omega),true_and,hq,e_has h8]
 simp only [List.length_append,List.length_singleton] at b2 b3
 have hmul:n * (2 * (65 * n - sn.length)+(t.length+1))=n * (2 * (65 * n - sn.length)+t.length)+n:=by rw [← Nat.add_assoc,Nat.mul_succ]
 have inner:∀ en':List Int,(∀ S∈en,S∈en')→(inS y8 q=true→x.Negs∈en')→(∀ S∈en',isL n y9 y10 y8 a S)→en'.length+(2 * (65 * n - sn.length)+t.length)≤130 * n+1→
  W (fun p:Nat×Nat=>lp4 (xZ37 p.1 (n:Int) y9 y10 (q:Int) x.Negs en' (F p)) p.1 0 nx sn t) (FQ n y9 y10 y8 a (y,y2,y3,y4,y5,y6,y7,y8,y9,y10)):=by
  intro en' m1 m2 m3 m4
  refine W.lp4 (fun z nx' sn' td'=>∃ k:Nat,z=(k:Int)∧k≤n∧(∀ z∈td',isR n y9 y10 a z)∧(∀ y∈sn',isR n y9 y10 a y.k)∧(∀ e∈nx',isE n y9 y10 a e)∧
   (∀ z:xZ0,(z=⟨(a:Int),0⟩∨∃ y∈sn',y.k=z)→z=x∨z∈td'∨Pd n y9 y10 y8 sn' nx' en' z)∧
   (∀ j,j < k→nb y9 q j=true→(inS y10 j=false→(⟨(j:Int),x.Negs⟩:xZ0)∈nx')∧(inS y10 j=true→∃ y∈sn',y.k=⟨(j:Int),bwO .u32 x.Negs (ob j)⟩))∧
   td'.length+sn.length=t.length+sn'.length∧sn.length≤sn'.length∧sn'.length≤sn.length+k∧nx'.length≤nx.length+k) (fun z _ _ _=>(n - z).toNat) ⟨0,rfl,by omega,fun z hz=>hI.rt z (by simp [hz]),hI.rs,hI.rn,fun z hz=>?_,fun j hj=>by omega,by omega,by omega,by omega,by omega⟩ ?_
  ·rcases hI.dn z hz with h | h
   ·rcases List.mem_append.1 h with h | h
    ·exact .inr (.inl h)
    ·exact .inl (List.mem_singleton.1 h)
   ·exact .inr (.inr (h.mono (fun _ h=>h) (fun _ h=>h) m1))
  rintro G z nx' sn' td' ⟨k,rfl,k0,k1,k2,k3,k4,k5,k6,k7,k8,k9⟩ hm
  unfold xZ37
  rw [ltN,W.cond]
  refine ⟨fun hk=>?_,fun hk=>?_⟩
  rotate_left
  ·have hk:=of_decide_eq_false hk
   obtain rfl:k=n:=by omega
   refine (hg _ _ _ _ ⟨⟨k1,k2,k3,m3,fun z hz=>?_⟩,by omega,?_,by omega⟩ ?_).lift
   ·rcases k4 z hz with rfl | h | h
    ·refine .inr ⟨fun j hj hb=>?_,fun hl=>m2 (by rw [hq] at hl;simpa using hl)⟩
     rw [hq] at hb
     exact k5 j hj (by simpa using hb)
    ·exact .inl h
    ·exact .inr h
   ·have e:2 * (65 * k - sn'.length)+td'.length≤2 * (65 * k - sn.length)+t.length:=by omega
    have:=Nat.mul_le_mul_left k e
    omega
   ·simp only [List.length_append,List.length_singleton];omega
  have hk:=of_decide_eq_true hk
  obtain ⟨e3,f1,f2⟩:=xZni h9 hqn
  have hnb:inS e3 k=nb y9 q k:=by
   unfold nb
   rw [ix_nat'] at f1
   simp [List.getD,f1]
  simp only [f1,Option.bind_some,e_has f2,e_has h10,hnb,one32 (show k < 32 by omega),p1N]
  have hob:=(ob_u (k:=k) (by omega)).1
  have hSu:=hr.u hn
  have i1:i64b ((k+1:Nat):Int)=true:=i64n (by omega)
  have step:∀ j,j < k+1→j < k∨j=k:=fun j h=>by omega
  rw [W.cond]
  refine ⟨fun hb=>?_,fun hb=>?_⟩
  ·have hb:nb y9 q k=false:=by simpa using hb
   rw [W.gd]
   exact ⟨i1,hm _ _ _ _ ⟨k+1,rfl,hk,k1,k2,k3,k4,(fun j hj hjb=>by
    rcases step j hj with h | rfl
    ·exact k5 j h hjb
    ·rw [hb] at hjb;cases hjb),k6,k7,by omega,by omega⟩ (by omega)⟩
  have hb:nb y9 q k=true:=by simpa using hb
  rw [W.cond]
  refine ⟨fun hg0=>?_,fun hg0=>?_⟩
  ·have hg0:inS y10 k=false:=by simpa using hg0
   rw [W.gd,W.gd]
   refine ⟨Nat.ble_eq_true_of_le (by omega),i1,hm _ _ _ _ ⟨k+1,rfl,hk,k1,k2,fun e he=>?_,fun z hz=>?_,fun j hj hjb=>?_,k6,k7,by omega,by simp;omega⟩ (by omega)⟩
   ·rcases List.mem_append.1 he with he | he
    ·exact k3 e he
    ·rw [List.mem_singleton.1 he];exact ⟨q,k,hr,rfl,hk,hb,hg0⟩
   ·rcases k4 z hz with h | h | h
    ·exact .inl h
    ·exact .inr (.inl h)
    ·exact .inr (.inr (h.mono (fun _ h=>h) (fun _ h=>by simp [h]) (fun _ h=>h)))
   ·rcases step j hj with h | rfl
    ·exact ⟨fun h0=>by simp [(k5 j h hjb).1 h0],(k5 j h hjb).2⟩
    ·exact ⟨(fun _=>by simp),(fun h=>by rw [hg0] at h;cases h)⟩
  have hg0:inS y10 k=true:=by simpa using hg0
  have hnew:isR n y9 y10 a ⟨(k:Int),bwO .u32 x.Negs (ob k)⟩:=⟨k,rfl,.step hr hk hb hg0⟩
  have hS2:=(u_or hSu hob).1
  show W (fun p:(Nat×Nat)×Nat=>gd (leB 0 (k:Int)) (gd (kwB ([.i64,.u32]:List IntKind) [(k:Int),bwO .u32 x.Negs (ob k)]) (mcs (List.find? (fun y13=>(y13.k.To==(k:Int))&&(y13.k.Negs==bwO .u32 x.Negs (ob k))) sn') (gd (kwB ([.i64,.u32]:List IntKind) [(k:Int),bwO .u32 x.Negs (ob k)]) (gd (Nat.ble ((List.length td'+1) * 16) 140737488355328) (gd (i64b ((k+1:Nat):Int)) (G p ((k+1:Nat):Int) nx' (mup (fun y14=>(y14.k.To==(k:Int))&&(y14.k.Negs==bwO .u32 x.Negs (ob k))) (Ent125.mk (xZ0.mk (k:Int) (bwO .u32 x.Negs (ob k))) (xZet.mk )) sn') (td'++[xZ0.mk (k:Int) (bwO .u32 x.Negs (ob k))]))))) fun y13=>gd (i64b ((k+1:Nat):Int)) (G p ((k+1:Nat):Int) nx' sn' td')))) _
  simp only [show leB 0 (k:Int)=true from xZ18.2 (by omega),kw_ok (show k < 24 by omega) hS2,xZ3A,i1]
  have hfk:=xZmX (x:=(k:Int)) (S:=bwO .u32 x.Negs (ob k)) (l:=sn')
  cases hf:List.find? (fun y13=>(y13.k.To==(k:Int))&&(y13.k.Negs==bwO .u32 x.Negs (ob k))) sn' with
  | some v=>
    obtain ⟨v1,v2⟩:=hfk.2 v hf
    exact hm _ _ _ _ ⟨k+1,rfl,hk,k1,k2,k3,k4,(fun j hj hjb=>by
     rcases step j hj with h | rfl
     ·exact k5 j h hjb
     ·exact ⟨(fun h=>by rw [hg0] at h;cases h),fun _=>⟨v,v1,v2⟩⟩),k6,k7,by omega,by omega⟩ (by omega)
  | none=>
    rw [xZm6 hf]
    show W (fun p:(Nat×Nat)×Nat=>gd (Nat.ble ((List.length td'+1) * 16) 140737488355328) _) _
    rw [W.gd]
    refine ⟨Nat.ble_eq_true_of_le (by omega),hm _ _ _ _ ⟨k+1,rfl,hk,fun z hz=>?_,fun y hy=>?_,k3,fun z hz=>?_,fun j hj hjb=>?_,by simp;omega,by simp;omega,by simp;omega,by omega⟩ (by omega)⟩
    ·rcases List.mem_append.1 hz with hz | hz
     ·exact k1 z hz
     ·rw [List.mem_singleton.1 hz];exact hnew
    ·rcases List.mem_append.1 hy with hy | hy
     ·exact k2 y hy
     ·rw [List.mem_singleton.1 hy];exact hnew
    ·have old:(z=⟨(a:Int),0⟩∨∃ y∈sn',y.k=z)∨z=⟨(k:Int),bwO .u32 x.Negs (ob k)⟩:=by
      rcases hz with h | ⟨y,h1,h2⟩
      ·exact .inl (.inl h)
      ·rcases List.mem_append.1 h1 with h1 | h1
       ·exact .inl (.inr ⟨y,h1,h2⟩)
       ·rw [List.mem_singleton.1 h1] at h2;exact .inr h2.symm
     rcases old with h | h
     ·rcases k4 z h with h | h | h
      ·exact .inl h
      ·exact .inr (.inl (by simp [h]))
      ·exact .inr (.inr (h.mono (fun _ h=>by simp [h]) (fun _ h=>h) (fun _ h=>h)))
     ·exact .inr (.inl (by rw [h];simp))
    ·rcases step j hj with h | rfl
     ·exact ⟨(k5 j h hjb).1,fun h0=>let ⟨y,q1,q2⟩:=(k5 j h hjb).2 h0;⟨y,by simp [q1],q2⟩⟩
     ·exact ⟨(fun h=>by rw [hg0] at h;cases h),fun _=>⟨_,List.mem_append_right _ (List.mem_singleton.2 rfl),rfl⟩⟩
 rw [W.cond]
 refine ⟨fun hl=>?_,fun hl=>?_⟩
 ·rw [W.gd]
  refine ⟨Nat.ble_eq_true_of_le (by omega),inner _ (fun S h=>by simp [h]) (fun _=>by simp) (fun S hS=>?_) (by simp;omega)⟩
  rcases List.mem_append.1 hS with hS | hS
  ·exact hI.re S hS
  ·rw [List.mem_singleton.1 hS];exact ⟨q,hr,hl⟩
 ·exact inner en (fun _ h=>h) (fun h=>by rw [hl] at h;cases h) hI.re (by omega)
theorem W.lp14 {ι:Type} [Lim ι] {α0 α1 α2 α3 α4 α5 α6 α7 α8 α9 α10 α11 α12 α13 R:Type} {f:ι→(α0→α1→α2→α3→α4→α5→α6→α7→α8→α9→α10→α11→α12→α13→Option R)→α0→α1→α2→α3→α4→α5→α6→α7→α8→α9→α10→α11→α12→α13→Option R} {Q:R→Prop} (P:α0→α1→α2→α3→α4→α5→α6→α7→α8→α9→α10→α11→α12→α13→Prop) (m:α0→α1→α2→α3→α4→α5→α6→α7→α8→α9→α10→α11→α12→α13→Nat) {N:ι→Nat} [Tends N] {u0 u1 u2 u3 u4 u5 u6 u7 u8 u9 u10 u11 u12 u13}
 (hv:P u0 u1 u2 u3 u4 u5 u6 u7 u8 u9 u10 u11 u12 u13) (h:∀ (F:ι×Nat→α0→α1→α2→α3→α4→α5→α6→α7→α8→α9→α10→α11→α12→α13→Option R) v0 v1 v2 v3 v4 v5 v6 v7 v8 v9 v10 v11 v12 v13,P v0 v1 v2 v3 v4 v5 v6 v7 v8 v9 v10 v11 v12 v13→(∀ w0 w1 w2 w3 w4 w5 w6 w7 w8 w9 w10 w11 w12 w13,P w0 w1 w2 w3 w4 w5 w6 w7 w8 w9 w10 w11 w12 w13→m w0 w1 w2 w3 w4 w5 w6 w7 w8 w9 w10 w11 w12 w13 < m v0 v1 v2 v3 v4 v5 v6 v7 v8 v9 v10 v11 v12 v13→W (fun p=>F p w0 w1 w2 w3 w4 w5 w6 w7 w8 w9 w10 w11 w12 w13) Q)→W (fun p:ι×Nat=>f p.1 (F p) v0 v1 v2 v3 v4 v5 v6 v7 v8 v9 v10 v11 v12 v13) Q):
 W (fun i=>lp14 (f i) (N i) u0 u1 u2 u3 u4 u5 u6 u7 u8 u9 u10 u11 u12 u13) Q:=
 W.loop (f:=fun i next v=>f i (fun u0 u1 u2 u3 u4 u5 u6 u7 u8 u9 u10 u11 u12 u13=>next (u0,u1,u2,u3,u4,u5,u6,u7,u8,u9,u10,u11,u12,u13)) v.1 v.2.1 v.2.2.1 v.2.2.2.1 v.2.2.2.2.1 v.2.2.2.2.2.1 v.2.2.2.2.2.2.1 v.2.2.2.2.2.2.2.1 v.2.2.2.2.2.2.2.2.1 v.2.2.2.2.2.2.2.2.2.1 v.2.2.2.2.2.2.2.2.2.2.1 v.2.2.2.2.2.2.2.2.2.2.2.1 v.2.2.2.2.2.2.2.2.2.2.2.2.1 v.2.2.2.2.2.2.2.2.2.2.2.2.2) N (fun v=>P v.1 v.2.1 v.2.2.1 v.2.2.2.1 v.2.2.2.2.1 v.2.2.2.2.2.1 v.2.2.2.2.2.2.1 v.2.2.2.2.2.2.2.1 v.2.2.2.2.2.2.2.2.1 v.2.2.2.2.2.2.2.2.2.1 v.2.2.2.2.2.2.2.2.2.2.1 v.2.2.2.2.2.2.2.2.2.2.2.1 v.2.2.2.2.2.2.2.2.2.2.2.2.1 v.2.2.2.2.2.2.2.2.2.2.2.2.2) (fun v=>m v.1 v.2.1 v.2.2.1 v.2.2.2.1 v.2.2.2.2.1 v.2.2.2.2.2.1 v.2.2.2.2.2.2.1 v.2.2.2.2.2.2.2.1 v.2.2.2.2.2.2.2.2.1 v.2.2.2.2.2.2.2.2.2.1 v.2.2.2.2.2.2.2.2.2.2.1 v.2.2.2.2.2.2.2.2.2.2.2.1 v.2.2.2.2.2.2.2.2.2.2.2.2.1 v.2.2.2.2.2.2.2.2.2.2.2.2.2) (fun F v hp hn=>h (fun p u0 u1 u2 u3 u4 u5 u6 u7 u8 u9 u10 u11 u12 u13=>F p (u0,u1,u2,u3,u4,u5,u6,u7,u8,u9,u10,u11,u12,u13)) (v.1) (v.2.1) (v.2.2.1) (v.2.2.2.1) (v.2.2.2.2.1) (v.2.2.2.2.2.1) (v.2.2.2.2.2.2.1) (v.2.2.2.2.2.2.2.1) (v.2.2.2.2.2.2.2.2.1) (v.2.2.2.2.2.2.2.2.2.1) (v.2.2.2.2.2.2.2.2.2.2.1) (v.2.2.2.2.2.2.2.2.2.2.2.1) (v.2.2.2.2.2.2.2.2.2.2.2.2.1) (v.2.2.2.2.2.2.2.2.2.2.2.2.2) hp fun w0 w1 w2 w3 w4 w5 w6 w7 w8 w9 w10 w11 w12 w13 hw hm=>hn (w0,w1,w2,w3,w4,w5,w6,w7,w8,w9,w10,w11,w12,w13) hw hm) (u0,u1,u2,u3,u4,u5,u6,u7,u8,u9,u10,u11,u12,u13) hv
def ngP (pl:List xZ4) (i:Nat):Bool:=match pl[i]? with
 | some p=>p.Neg
 | none=>false
structure Blt (pl:List xZ4) (s:xZ2X) (ng:Int) (r:xZ1T):Prop where
 few:pl.length≤24
 nx:okU pl.length s.Next
 fi:u32 s.First
 la:u32 s.Last
 ngu:u32 ng
 ngb:∀ i,i < pl.length→inS ng i=ngP pl i
 ngo:∀ i,pl.length≤i→inS ng i=false
 fst:∀ i,inS ng i=true→inS s.First i=false
 null:s.Null=false
 sne:∃ i,i < pl.length∧inS s.First i=true
 nl:r.Next.length=pl.length
 el:r.Ends.length=pl.length
 sta:∀ i,i < pl.length→inS s.First i=true→(⟨(i:Int),0⟩:xZ0)∈r.Start
 told:∀ i,i < pl.length→ngP pl i=false→Told pl.length s.Next ng s.Last i (r.Next.getD i []) (r.Ends.getD i [])
 sort:∀ i,i < pl.length→(∃ l:List xZ0,r.Next.getD i []=cpE (l.mergeSort fun x y=>!elt y x))∧(∃ l:List Int,r.Ends.getD i []=cpU (l.mergeSort fun x y=>decide (x≤y)))
 stl:r.Start.length≤24
 nll:∀ x∈r.Next,x.length≤64
 ell:∀ x∈r.Ends,x.length≤64
 none:∀ i,i < pl.length→ngP pl i=true→r.Next.getD i []=[]∧r.Ends.getD i []=[]
theorem xZqj (c:xZy):W (fun N=>xZ8B N c) (fun r=>(r.2≠0∧r.1=⟨[],[],[]⟩)∨r.2=0∧∃ s ng,Tl (fun N=>xZ57 N c) (s,0)∧Blt c.Places s ng r.1):=by
 unfold xZ8B
 obtain ⟨r0,ht,hq⟩:=xZnC c
 rw [W.callTl ht]
 obtain ⟨s,e⟩:=r0
 rw [W.cond]
 rcases hq with ⟨h1,h2⟩ | ⟨h1,h2,h3,h4,h5,h6⟩
 ·simp only at h1 h2
  subst h1
  exact ⟨fun _=>W.ret.2 (.inl ⟨show (2:Int)≠0 from by decide,rfl⟩),fun h=>by cases h⟩
 simp only at h1 h2 h3 h4 h5 h6
 subst h1
 refine ⟨(fun h=>by cases h),fun _=>?_⟩
 refine wf2a (l:=c.Places) (fun pre g=>u32 g∧(∀ i,i < pre.length→inS g i=ngP c.Places i)∧∀ i,pre.length≤i→inS g i=false) [] rfl rfl (by omega) ⟨u_0.1,fun i hi=>by simp at hi,fun i _=>u_0.2 i⟩ ?_ ?_
 ·intro F pre p rest g hl hlt hix hi ⟨g1,g2,g3⟩ hn
  have hpl:pre.length < c.Places.length:=by rw [hl];simp
  have hp:ngP c.Places pre.length=p.Neg:=by unfold ngP;rw [hl];simp
  unfold xZ75
  simp only [hlt,cond_true,hix,Option.bind_some]
  have stp:∀ i,i < (pre++[p]).length→i < pre.length∨i=pre.length:=fun i h=>by simp at h;omega
  rw [W.cond]
  refine ⟨fun hg=>?_,fun hg=>?_⟩
  ·rw [W.gd,W.gd]
   have ho:=u_one (i:=pre.length) (by omega)
   have hu:=u_or g1 ho.1
   refine ⟨xZ18.2 (by omega),hi,hn _ ⟨hu.1,fun i h=>?_,fun i h=>?_⟩⟩
   ·rw [hu.2,ho.2]
    rcases stp i h with h | rfl
    ·rw [g2 i h,decide_eq_false (by omega),Bool.or_false]
    ·rw [hp,hg];simp
   ·simp at h
    rw [hu.2,ho.2,g3 i (by omega),decide_eq_false (by omega)];rfl
  ·rw [W.gd]
   refine ⟨hi,hn _ ⟨g1,fun i h=>?_,fun i h=>?_⟩⟩
   ·rcases stp i h with h | rfl
    ·exact g2 i h
    ·rw [hp,hg];exact g3 _ (Nat.le_refl _)
   ·simp at h
    exact g3 i (by omega)
 intro F g hlt ⟨g1,g2,g3⟩
 unfold xZ75
 simp only [hlt,cond_false]
 rw [W.cond]
 refine ⟨fun _=>W.ret.2 (.inl ⟨by decide,rfl⟩),fun hz=>?_⟩
 have ha:=u_and g1 h4
 have hfst:∀ i,inS g i=true→inS s.First i=false:=fun i hi=>by
  have h0:bwA .u32 g s.First=0:=by simpa using hz
  have:=ha.2 i
  rw [h0,u_0.2,hi,Bool.true_and] at this
  exact this.symm
 refine W.call (xZry (n:=c.Places.length) h2 rfl h3 g1) fun r hr=>?_
 obtain ⟨b,r2⟩:=r
 simp only at hr
 subst hr
 rw [W.cond]
 refine ⟨fun _=>W.ret.2 (.inl ⟨by decide,rfl⟩),fun _=>?_⟩
 rw [W.cond]
 refine ⟨fun _=>W.ret.2 (.inl ⟨by decide,rfl⟩),fun hnull=>?_⟩
 dsimp only
 refine W.lp14 (fun x y24 y25 y26 y27 y28 y29 y30 y31 y32 y33 st ns es=>∃ k:Nat,x=(k:Int)∧k≤c.Places.length∧(y24,y25,y26,y27,y28,y29,y30,y31,y32,y33)=(c.Nodes,c.Places,c.Within,c.By,c.Mode,s.Null,s.First,s.Last,s.Next,g)∧ns.length=k∧es.length=k∧st.length≤k∧(∀ x∈ns,x.length≤64)∧(∀ x∈es,x.length≤64)∧
  (∀ i,i < k→inS s.First i=true→(⟨(i:Int),0⟩:xZ0)∈st)∧(∀ i,i < k→ngP c.Places i=false→Told c.Places.length s.Next g s.Last i (ns.getD i []) (es.getD i []))∧
  (∀ i,i < k→(∃ l:List xZ0,ns.getD i []=cpE (l.mergeSort fun x y=>!elt y x))∧(∃ l:List Int,es.getD i []=cpU (l.mergeSort fun x y=>decide (x≤y))))∧(∀ i,i < k→ngP c.Places i=true→ns.getD i []=[]∧es.getD i []=[]))
  (fun x _ _ _ _ _ _ _ _ _ _ _ _ _=>(c.Places.length - x).toNat) ⟨0,rfl,Nat.zero_le _,rfl,rfl,rfl,Nat.le_refl _,(fun x hx=>by cases hx),(fun x hx=>by cases hx),fun i h=>by omega,fun i h=>by omega,fun i h=>by omega,fun i h=>by omega⟩ ?_
 rintro G x y24 y25 y26 y27 y28 y29 y30 y31 y32 y33 st ns es ⟨k,rfl,k0,kc,k1,k2,k3,k8,k9,k4,k5,k6,k7⟩ hm
 simp only [Prod.mk.injEq] at kc
 obtain ⟨rfl,rfl,rfl,rfl,rfl,rfl,rfl,rfl,rfl,rfl⟩:=kc
 unfold xZ8n
 rw [ltN,W.cond]
 refine ⟨fun hk=>?_,fun hk=>?_⟩
 rotate_left
 ·have hk:=of_decide_eq_false hk
  obtain rfl:k=c.Places.length:=by omega
  exact W.ret.2 (.inr ⟨rfl,s,y33,ht,⟨h2,h3,h4,h5,g1,g2,g3,hfst,hnull,h6 hnull,k1,k2,k4,k5,k6,Nat.le_trans k3 h2,k8,k9,k7⟩⟩)
 have hk:=of_decide_eq_true hk
 obtain ⟨p,hp1,hp2⟩:=ix_lt (l:=c.Places) (i:=(k:Int)) (by omega) (by omega)
 have hpn:ngP c.Places k=p.Neg:=by unfold ngP;rw [show c.Places[k]?=some p by simpa using hp2]
 simp only [hp1,Option.bind_some,e_has h4,xZbc]
 have gD:∀ {β:Type} (l:List (List β)) (v:List β) (i:Nat),l.length=k→i < k+1→(l++[v]).getD i []=if i=k then v else l.getD i []:=fun l v i hl hi=>by
  by_cases h:i=k
  ·subst h;rw [if_pos rfl,← hl];simp
  ·rw [if_neg h];simp [List.getD,List.getElem?_append_left (show i < l.length by omega)]
 have next:∀ (st':List xZ0) (ne:List xZ0) (en:List Int),st'.length≤k+1→(∀ e∈st,e∈st')→(inS s.First k=true→(⟨(k:Int),0⟩:xZ0)∈st')→
  (p.Neg=false→Told c.Places.length s.Next y33 s.Last k ne en)→((∃ l:List xZ0,ne=cpE (l.mergeSort fun x y=>!elt y x))∧(∃ l:List Int,en=cpU (l.mergeSort fun x y=>decide (x≤y))))→(p.Neg=true→ne=[]∧en=[])→ne.length≤64→en.length≤64→
  W (fun q=>G q ((k:Int)+1) c.Nodes c.Places c.Within c.By c.Mode s.Null s.First s.Last s.Next y33 st' (ns++[ne]) (es++[en])) (fun r=>(r.2≠0∧r.1=⟨[],[],[]⟩)∨r.2=0∧∃ s ng,Tl (fun N=>xZ57 N c) (s,0)∧Blt c.Places s ng r.1):=fun st' ne en q1 q2 q3 q4 q5 q6 q7 q8=>by
  have stp:∀ i,i < k+1→i < k∨i=k:=fun i h=>by omega
  refine hm _ _ _ _ _ _ _ _ _ _ _ _ _ _ ⟨k+1,by omega,hk,rfl,by simp [k1],by simp [k2],q1,(fun x hx=>by
   rcases List.mem_append.1 hx with hx | hx
   ·exact k8 x hx
   ·rw [List.mem_singleton.1 hx];exact q7),(fun x hx=>by
   rcases List.mem_append.1 hx with hx | hx
   ·exact k9 x hx
   ·rw [List.mem_singleton.1 hx];exact q8),fun i hi hf=>?_,fun i hi hf=>?_,fun i hi=>?_,fun i hi hf=>?_⟩ (by omega)
  ·rcases stp i hi with h | rfl
   ·exact q2 _ (k4 i h hf)
   ·exact q3 hf
  ·rw [gD ns ne i k1 hi,gD es en i k2 hi]
   rcases stp i hi with h | rfl
   ·rw [if_neg (by omega),if_neg (by omega)];exact k5 i h hf
   ·rw [if_pos rfl,if_pos rfl];exact q4 (by rw [← hpn];exact hf)
  ·rw [gD ns ne i k1 hi,gD es en i k2 hi]
   rcases stp i hi with h | rfl
   ·rw [if_neg (by omega),if_neg (by omega)];exact k6 i h
   ·rw [if_pos rfl,if_pos rfl];exact q5
  ·rw [gD ns ne i k1 hi,gD es en i k2 hi]
   rcases stp i hi with h | rfl
   ·rw [if_neg (by omega),if_neg (by omega)];exact k7 i h hf
   ·rw [if_pos rfl,if_pos rfl];exact q6 (by rw [← hpn];exact hf)
 have b1:Nat.ble ((List.length ns+1) * 24) 140737488355328=true:=Nat.ble_eq_true_of_le (by omega)
 have b2:Nat.ble ((List.length es+1) * 24) 140737488355328=true:=Nat.ble_eq_true_of_le (by omega)
 have b3:Nat.ble ((List.length st+1) * 16) 140737488355328=true:=Nat.ble_eq_true_of_le (by omega)
 have b4:i64b ((k:Int)+1)=true:=xZ5D.2 (by omega)
 simp only [b1,b2,b3,b4,xZ3A]
 have nil2:(∃ l:List xZ0,([]:List xZ0)=cpE (l.mergeSort fun x y=>!elt y x))∧(∃ l:List Int,([]:List Int)=cpU (l.mergeSort fun x y=>decide (x≤y))):=⟨⟨[],by simp [cpE]⟩,⟨[],by simp [cpU]⟩⟩
 rw [W.cond]
 refine ⟨fun hf=>?_,fun hf=>?_⟩
 ·rw [W.cond]
  refine ⟨fun hg=>?_,fun hg=>?_⟩
  ·have hg:p.Neg=false:=by simpa using hg
   refine W.call (xZqm (n:=c.Places.length) h2 hk rfl h5 h3 g1) fun r hr=>?_
   obtain ⟨ne,en,few,cells⟩:=r
   obtain ⟨hcell,hr⟩:=hr
   dsimp only at hcell hr
   subst hcell
   dsimp only
   rw [W.cond]
   refine ⟨fun _=>W.ret.2 (.inl ⟨by decide,rfl⟩),fun hw=>?_⟩
   obtain ⟨t1,t2,t3,t4,t5⟩:=hr (by simpa using hw)
   exact next _ _ _ (by simp;omega) (fun e he=>by simp [he]) (fun _=>by simp) (fun _=>t1) ⟨t2,t3⟩ (fun h=>by rw [hg] at h;cases h) t4 t5
  ·have hg:p.Neg=true:=by simpa using hg
   exact next _ _ _ (by simp;omega) (fun e he=>by simp [he]) (fun _=>by simp) (fun h=>by rw [hg] at h;cases h) nil2 (fun _=>⟨rfl,rfl⟩) (by simp) (by simp)
 ·rw [W.cond]
  refine ⟨fun hg=>?_,fun hg=>?_⟩
  ·have hg:p.Neg=false:=by simpa using hg
   refine W.call (xZqm (n:=c.Places.length) h2 hk rfl h5 h3 g1) fun r hr=>?_
   obtain ⟨ne,en,few,cells⟩:=r
   obtain ⟨hcell,hr⟩:=hr
   dsimp only at hcell hr
   subst hcell
   dsimp only
   rw [W.cond]
   refine ⟨fun _=>W.ret.2 (.inl ⟨by decide,rfl⟩),fun hw=>?_⟩
   obtain ⟨t1,t2,t3,t4,t5⟩:=hr (by simpa using hw)
   exact next _ _ _ (by omega) (fun e he=>he) (fun h=>by rw [hf] at h;cases h) (fun _=>t1) ⟨t2,t3⟩ (fun h=>by rw [hg] at h;cases h) t4 t5
  ·have hg:p.Neg=true:=by simpa using hg
   exact next _ _ _ (by omega) (fun e he=>he) (fun h=>by rw [hf] at h;cases h) (fun h=>by rw [hg] at h;cases h) nil2 (fun _=>⟨rfl,rfl⟩) (by simp) (by simp)
section
section
theorem W.shift {α:Type} {f:Nat→Option α} {Q:α→Prop} (h:W (fun N=>f (N+1)) Q):W f Q:=by
 obtain ⟨a,⟨n,hn⟩,hq⟩:=h
 refine ⟨a,⟨n+1,fun N hN=>?_⟩,hq⟩
 obtain ⟨M,rfl⟩:∃ M,N=M+1:=⟨N - 1,by omega⟩
 exact hn M (by omega)
end
section
def hf (S j:Nat):Nat:=if j=0 then S % 18446744073709551616 else S / 18446744073709551616
end
section
section
variable {nodes:List xZ1} {pl:List xZ4} {wi:Int} {by_:List UInt8} {md:Int} {w:List (List UInt8)}
def CT.pk (n:Nat):CT→Prop
 | .eps _=>True
 | .leaf p=>0≤p∧p < (n:Int)
 | .cat _ a b=>a.pk n∧b.pk n
 | .or _ a b=>a.pk n∧b.pk n
 | .loop _ a=>a.pk n
end
def okCn (n:Nat) (e:xZ1):Bool:=leB 1 e.Kind&&(leB e.Kind 5&&(!(e.Kind==2) || (leB 0 e.Place&&ltB e.Place (n:Int))))
def fineB (c:xZy):Bool:=Nat.ble c.Nodes.length 200&&((cz c.Nodes 0==(c.Nodes.length:Int))&&(!((c.Nodes.length:Int)==0)&&c.Nodes.all (okCn c.Places.length)))
theorem xZl7 {c:xZy} (h:fineB c=true):c.Nodes.length≤200∧∃ t:CT,c.Nodes=t.fl∧t.pk c.Places.length:=by
 simp only [fineB,Bool.and_eq_true,beq_iff_eq,Bool.not_eq_true',beq_eq_false_iff_ne] at h
 obtain ⟨h1,h2,h3,h4⟩:=h
 have h1:=Nat.le_of_ble_eq_true h1
 have hk:∀ e∈c.Nodes,1≤e.Kind∧e.Kind≤5:=fun e he=>by
  have:=List.all_eq_true.1 h4 e he
  simp only [okCn,Bool.and_eq_true,xZ18] at this
  exact ⟨this.1,this.2.1⟩
 rw [cz,if_neg (by omega),if_neg (by omega)] at h2
 obtain ⟨ts,r,q1,q2,q3⟩:=xZeD c.Nodes 1 0 c.Nodes.length hk (by omega) (by omega) (by omega) (by simpa using h2)
 match ts,q1,q2,q3 with
 | [],_,q2,_=>simp at q2
 | _::_::_,_,q2,_=>simp at q2;omega
 | [t],q1,_,q3=>
   have hr:r=[]:=by
    have:=congrArg List.length q1
    simp at this q3
    exact List.length_eq_zero_iff.1 (by omega)
   rw [hr] at q1
   simp [CT.fls] at q1
   refine ⟨h1,t,q1,?_⟩
   have hp:∀ t:CT,(∀ e∈t.fl,okCn c.Places.length e=true)→t.pk c.Places.length:=fun t=>by
    induction t with
    | eps p=>exact fun _=>trivial
    | leaf p=>
      intro h
      have:=h _ (List.mem_singleton.2 rfl)
      simp only [okCn,Bool.and_eq_true,xZ18,xZ4M,show ((2:Int)==2)=true from rfl,Bool.not_true,Bool.false_or] at this
      exact this.2.2
    | cat p a b iha ihb=>intro h;exact ⟨iha fun e he=>h e (by simp [CT.fl,he]),ihb fun e he=>h e (by simp [CT.fl,he])⟩
    | or p a b iha ihb=>intro h;exact ⟨iha fun e he=>h e (by simp [CT.fl,he]),ihb fun e he=>h e (by simp [CT.fl,he])⟩
    | loop p a iha=>intro h;exact iha fun e he=>h e (by simp [CT.fl,he])
   exact hp t fun e he=>List.all_eq_true.1 h4 e (by rw [q1];exact he)
end
section
section
section
/-! ### Small facts -/
end
section
inductive TU where
 | own (n:List UInt8)
 | of (v n:List UInt8)
 | lit (v:xZe)
inductive TS where
 | u (a:TU)
 | op (k:Bool) (s:TS) (a:TU)
inductive TT where
 | or (a b:TT)
 | and (a b:TT)
 | not (a:TT)
 | test (o:Int) (a b:TS)
def TT.ht:TT→Nat
 | .or a b=>1+max a.ht b.ht
 | .and a b=>1+max a.ht b.ht
 | .not a=>1+a.ht
 | .test _ _ _=>1
end
section
open Go Classical
theorem xZqu (v:xZe) (hv:okS v.Text):W (fun N=>xZa4 N v) fun r=>¬ 0 < r→v.Text.length≤100:=by
 have:=xZqZ hv
 simp only [xZa4,W.gd,W.ret,xZ5D]
 exact ⟨by omega,fun h=>by omega⟩
theorem xZrC (l:List xZ2) (hl:l.length≤10000):W (fun N=>xZbZ N l) (·=l):=by
 simp only [xZbZ]
 refine wf2a (l:=l) (fun pre ys=>ys=pre) [] rfl rfl (by omega) rfl ?_ ?_
 ·rintro F pre e rest ys hl' h1 h2 h3 rfl hn
  simp only [xZa5,h1,h2,h3,Option.bind_some,cond_true,W.gd,true_and]
  refine ⟨Nat.ble_eq_true_of_le (by rw [hl'] at hl;simp at hl;omega),hn _ rfl⟩
 ·rintro F ys h1 rfl
  simp only [xZa5,h1,cond_false,W.ret]
theorem xZqp (l:List xZ2) (hl:okL (fun n:xZ2=>okS n.Val.Text) l):W (fun N=>xZbo N l) fun b=>¬ 0 < b→l.length≤40∧∀ n∈l,n.Var.length≤40∧n.Name.length≤40∧n.Val.Text.length≤100:=by
 have hlen:l.length≤9223372036854775807:=hl.2
 simp only [xZbo,W.cond,W.ret,xZ4M,xZ5T]
 refine ⟨fun h h2=>absurd (by omega) h2,fun h=>?_⟩
 refine wf1 (l:=l) (fun pre=>∀ n∈pre,n.Var.length≤40∧n.Name.length≤40∧n.Val.Text.length≤100) [] rfl rfl (by omega) (by simp) ?_ ?_
 ·intro F pre e rest hl' h1 h2 h3 hp hn
  have he:=hl.1 e (by rw [hl'];simp)
  simp only [xZ9c,h1,h2,h3,Option.bind_some,cond_true,W.cond,W.ret,xZ3A,xZ4M,xZ5T]
  refine ⟨fun _ h=>absurd (by omega) h,fun h40=>⟨fun _ h=>absurd (by omega) h,fun h41=>?_⟩⟩
  refine W.call (xZqu e.Val he) fun b hb=>?_
  simp only [W.cond,W.ret,xZ4M,xZ5T]
  refine ⟨fun _ h=>absurd (by omega) h,fun hb0=>hn fun t ht=>?_⟩
  rcases List.mem_append.1 ht with ht | ht
  ·exact hp t ht
  ·rw [List.mem_singleton.1 ht];exact ⟨by omega,by omega,hb (by omega)⟩
 ·intro F h1 hp
  simp only [xZ9c,h1,cond_false,W.ret]
  exact fun _=>⟨by omega,hp⟩
end
end
end
section
open Go Classical
def cB (c:xZy):Prop:=c.Nodes.length≤1000000∧c.Places.length≤1000000∧∀ p∈c.Places,p.Test.length≤10000
theorem xZrx (c:xZy) (hc:cB c):W (fun N=>xZc0 N c) (·=c):=by
 obtain ⟨h1,h2,h3⟩:=hc
 simp only [xZc0]
 refine wf2a (l:=c.Nodes) (fun pre ys=>ys=pre) [] rfl rfl (by omega) rfl ?_ ?_
 ·rintro F pre e rest ys hl k1 k2 k3 rfl hn
  simp only [xZa6,k1,k2,k3,Option.bind_some,cond_true,W.gd,true_and]
  exact ⟨Nat.ble_eq_true_of_le (by rw [hl] at h1;simp at h1;omega),hn _ rfl⟩
 ·rintro F ys k1 rfl
  simp only [xZa6,k1,cond_false]
  refine wf2a (l:=c.Places) (fun pre ys=>ys=pre) [] rfl rfl (by omega) rfl ?_ ?_
  ·rintro F pre e rest ys hl k1 k2 k3 rfl hn
   simp only [xZa7,k1,k2,Option.bind_some,cond_true]
   refine W.call (xZrC e.Test (h3 e (by rw [hl];simp))) ?_
   rintro _ rfl
   simp only [k3,W.gd,true_and]
   exact ⟨Nat.ble_eq_true_of_le (by rw [hl] at h2;simp at h2;omega),hn _ rfl⟩
  ·rintro F ys k1 rfl
   simp only [xZa7,k1,cond_false,W.ret]
theorem xZlO (k:Int) (N:Nat):xZ9p N k=some (kc k):=by
 simp only [xZ9p,kc]
 by_cases h3:k=3
 ·simp [h3]
 by_cases h4:k=4
 ·simp [h4]
 by_cases h5:k=5
 ·simp [h5]
 simp [h3,h4,h5,show (k==3)=false by simpa using h3,show (k==4)=false by simpa using h4,show (k==5)=false by simpa using h5]
theorem xZiJ (l:List xZ1) (a:Int) (hl:l.length≤1000000):W (fun N=>xZ8C N l a) (·=cz l a):=by
 simp only [xZ8C,cz]
 by_cases h1:a < 0
 ·simp only [show ltB a 0=true from xZ4M.2 h1,cond_true,if_pos h1,W.ret]
 simp only [show ltB a 0=false from xZ5T.2 (by omega),cond_false,if_neg h1]
 by_cases h2:(l.length:Int)≤a
 ·simp only [show leB (l.length:Int) a=true from xZ18.2 h2,cond_true,if_pos h2,W.ret]
 simp only [show leB (l.length:Int) a=false from xZ6J.2 (by omega),cond_false,if_neg h2]
 obtain ⟨n,rfl⟩:=Int.eq_ofNat_of_zero_le (show 0≤a by omega)
 rw [Int.toNat_natCast]
 refine W.lp2 (N:=fun N=>N) (P:=fun v i=>∃ c:Nat,i=((n+c:Nat):Int)∧n+c≤l.length∧0≤v∧v≤(c:Int)+1∧(if v=0 then (c:Int) else csz v (l.drop (n+c)) c)=csz 1 (l.drop n) 0) (m:=fun _ i=>l.length - i.toNat)
  ⟨0,by simp,by omega,by omega,by omega,by simp⟩ ?_
 rintro F v i ⟨c,rfl,c1,v0,v1,p3⟩ hn
 simp only [xZbr]
 by_cases hv:v=0
 ·subst hv
  rw [if_pos rfl] at p3
  simp only [show ltB 0 0=false from rfl,cond_false,W.gd,W.ret,xZ5D]
  exact ⟨by omega,by rw [← p3];omega⟩
 rw [if_neg hv] at p3
 simp only [show ltB 0 v=true from xZ4M.2 (by omega),cond_true]
 by_cases hc:n+c=l.length
 ·simp only [show leB (l.length:Int) ((n+c:Nat):Int)=true from xZ18.2 (by omega),cond_true,W.ret]
  rw [hc,List.drop_length,csz] at p3
  exact p3
 ·have hlt:n+c < l.length:=by omega
  have hd:l.drop (n+c)=l[n+c]::l.drop (n+c+1):=List.drop_eq_getElem_cons hlt
  have hg:ix l ((n+c:Nat):Int)=some l[n+c]:=by rw [ix_nat'];exact List.getElem?_eq_getElem hlt
  rw [hd] at p3
  generalize l[n+c]=e at *
  have hk:=kc_le e.Kind
  rw [csz] at p3
  simp only [show leB (l.length:Int) ((n+c:Nat):Int)=false from xZ6J.2 (by omega),cond_false,hg,Option.bind_some,xZlO,W.gd,xZ5D]
  refine ⟨by omega,by omega,by omega,hn _ _ ⟨c+1,by omega,by omega,by omega,by omega,?_⟩ (by omega)⟩
  by_cases hz:v+(kc e.Kind - 1)=0
  ·rw [if_pos hz] at p3
   rw [if_pos (by omega),← p3];omega
  ·rw [if_neg hz] at p3
   rw [if_neg (by omega),show v - 1+kc e.Kind=v+(kc e.Kind - 1) by omega,← p3]
   rfl
end
section
theorem xZnD {pre post:List xZ1} {t:CT} {l:List xZ1} (hl:l=pre++(t.fl++post)) (hb:l.length≤1000000):W (fun N=>xZ8C N l (pre.length:Int)) (·=(t.fl.length:Int)):=by
 refine (xZiJ l pre.length hb).mp ?_
 rintro _ rfl
 have:=xZqG t
 have hlen:l.length=pre.length+(t.fl.length+post.length):=by rw [hl];simp
 rw [cz,if_neg (by omega),if_neg (by omega),Int.toNat_natCast,hl,List.drop_left,xZj0 t post 1 0 (by omega),if_pos rfl];omega
theorem xZqs (c:xZy) (hl:c.Nodes.length≤1000000):W (fun N=>xZbq N c) (·=fineB c):=by
 simp only [xZbq,fineB]
 cases h3:((c.Nodes.length:Int)==0)
 rotate_left
 ·simp only [cond_true,Bool.not_true,Bool.false_and,Bool.and_false,W.ret]
 simp only [cond_false,Bool.not_false,Bool.true_and]
 by_cases h1:200 < c.Nodes.length
 ·have:Nat.ble c.Nodes.length 200=false:=by
   cases h:Nat.ble c.Nodes.length 200 with
   | false=>rfl
   | true=>have:=Nat.le_of_ble_eq_true h;omega
  simp only [show ltB 200 (c.Nodes.length:Int)=true from xZ4M.2 (by omega),cond_true,this,Bool.false_and,W.ret]
 simp only [show ltB 200 (c.Nodes.length:Int)=false from xZ5T.2 (by omega),cond_false,show Nat.ble c.Nodes.length 200=true from Nat.ble_eq_true_of_le (by omega),Bool.true_and]
 refine W.call (xZiJ _ _ hl) ?_
 rintro _ rfl
 by_cases h2:cz c.Nodes 0=(c.Nodes.length:Int)
 rotate_left
 ·simp only [show (cz c.Nodes 0 != (c.Nodes.length:Int))=true by simpa using h2,cond_true,show (cz c.Nodes 0==(c.Nodes.length:Int))=false by simpa using h2,Bool.false_and,W.ret]
 simp only [show (cz c.Nodes 0 != (c.Nodes.length:Int))=false by simpa using h2,cond_false,show (cz c.Nodes 0==(c.Nodes.length:Int))=true by simpa using h2,Bool.true_and]
 refine wf1 (l:=c.Nodes) (fun pre=>pre.all (okCn c.Places.length)=true) [] rfl rfl (by omega) rfl ?_ ?_
 ·rintro F pre e rest hl' k1 k2 k3 hp hn
  have nx:okCn c.Places.length e=true→W (fun p=>F p ((pre.length:Int)+1)) (·=c.Nodes.all (okCn c.Places.length)):=fun ho=>hn (by rw [List.all_append,hp];simp [ho])
  have no:okCn c.Places.length e=false→c.Nodes.all (okCn c.Places.length)=false:=fun ho=>by rw [hl'];simp [ho]
  obtain ⟨K,p⟩:=e
  have e1:ltB K 1=!leB 1 K:=rfl
  have e2:ltB 5 K=!leB K 5:=rfl
  have e3:ltB p 0=!leB 0 p:=rfl
  have e4:leB (c.Places.length:Int) p=!ltB p (c.Places.length:Int):=by simp [ltB]
  simp only [okCn] at nx no
  simp only [xZ9e,k1,k2,Option.bind_some,cond_true,k3,xZ3A,e1,e2,e3,e4]
  cases q1:leB 1 K
  ·rw [q1] at no;simp only [Bool.not_false,cond_true,W.ret];exact (no rfl).symm
  cases q2:leB K 5
  ·rw [q1,q2] at no;simp only [Bool.not_false,Bool.not_true,cond_true,cond_false,W.ret];exact (no rfl).symm
  rw [q1,q2] at no nx
  simp only [Bool.not_true,cond_false]
  cases q3:(K==2)
  ·rw [q3] at nx;simp only [cond_false];exact nx rfl
  rw [q3] at no nx
  simp only [cond_true]
  cases q4:leB 0 p
  ·rw [q4] at no;simp only [Bool.not_false,cond_true,W.ret];exact (no rfl).symm
  rw [q4] at no nx
  simp only [Bool.not_true,cond_false]
  cases q5:ltB p (c.Places.length:Int)
  ·rw [q5] at no;simp only [Bool.not_false,cond_true,W.ret];exact (no rfl).symm
  ·rw [q5] at nx;simp only [Bool.not_true,cond_false];exact nx rfl
 ·rintro F k1 hp
  simp only [xZ9e,k1,cond_false,W.ret]
  exact hp.symm
end
section
def CT.kd:CT→List CT
 | .eps _=>[]
 | .leaf _=>[]
 | .cat _ a b=>[a,b]
 | .or _ a b=>[a,b]
 | .loop _ a=>[a]
theorem ct_kd (t:CT):∃ e,t.fl=e::CT.fls t.kd∧kc e.Kind=(t.kd.length:Int)∧t.kd.length≤2:=by
 cases t with
 | eps p=>exact ⟨_,rfl,rfl,by simp [CT.kd]⟩
 | leaf p=>exact ⟨_,rfl,rfl,by simp [CT.kd]⟩
 | cat p a b=>exact ⟨_,by simp [CT.fl,CT.kd,CT.fls];rfl,rfl,by simp [CT.kd]⟩
 | or p a b=>exact ⟨_,by simp [CT.fl,CT.kd,CT.fls];rfl,rfl,by simp [CT.kd]⟩
 | loop p a=>exact ⟨_,by simp [CT.fl,CT.kd,CT.fls];rfl,rfl,by simp [CT.kd]⟩
theorem xZeE (a b:List CT):CT.fls (a++b)=CT.fls a++CT.fls b:=by
 induction a with
 | nil=>rfl
 | cons x a ih=>simp only [List.cons_append,CT.fls,ih,List.append_assoc]
def LPd (l:List xZ1) (t:CT):Prop:=∀ (pre post:List xZ1),l=pre++(t.fl++post)→W (fun N=>(xZ8V N) l (pre.length:Int)) fun r=>0≤r∧r≤(t.fl.length:Int)
theorem xZeL {l:List xZ1} (hl:l.length≤1000) (t:CT) (ih:∀ a∈t.kd,LPd l a):LPd l t:=by
 intro pre post hn
 obtain ⟨e,he,hk,hk2⟩:=ct_kd t
 have hix:ix l (pre.length:Int)=some e:=by rw [hn,he,ix_nat'];simp
 have hlen:=congrArg List.length hn
 simp only [List.length_append,he,List.length_cons] at hlen
 refine W.shift ?_
 show W (fun N=>xZbH N (xZ8V N) _ _) _
 simp only [xZbH,W.gd,xZ5D]
 refine ⟨by omega,?_⟩
 refine W.lp3 (N:=fun N=>N) (P:=fun out nx i=>∃ bs1 bs2,t.kd=bs1++bs2∧i=(bs1.length:Int)∧nx=((pre.length+1+(CT.fls bs1).length:Nat):Int)∧0≤out∧out≤((CT.fls bs1).length:Int)) (m:=fun _ _ i=>t.kd.length - i.toNat)
  ⟨[],t.kd,rfl,rfl,by simp [CT.fls],by omega,by simp [CT.fls]⟩ ?_
 rintro F out nx i ⟨bs1,bs2,hs,rfl,rfl,o1,o2⟩ hnx
 simp only [xZaI,hix,Option.bind_some,xZlO,hk]
 cases bs2 with
 | cons b bs2=>
   have hbl:t.kd.length=bs1.length+(bs2.length+1):=by rw [hs];simp
   have hfl:CT.fls t.kd=CT.fls bs1++(b.fl++CT.fls bs2):=by rw [hs,xZeE,CT.fls]
   have hfll:=congrArg List.length hfl
   simp only [List.length_append] at hfll
   have hb:l=(pre++[e]++CT.fls bs1)++(b.fl++(CT.fls bs2++post)):=by rw [hn,he,hfl];simp
   have hpl:(pre++[e]++CT.fls bs1).length=pre.length+1+(CT.fls bs1).length:=by simp;omega
   have h1:=ih b (by rw [hs];simp) _ _ hb
   have h2:=xZnD hb (by omega)
   rw [hpl] at h1 h2
   simp only [show ltB (bs1.length:Int) (t.kd.length:Int)=true from xZ4M.2 (by omega),cond_true]
   refine W.bind (W.lift h1) fun r hr=>?_
   refine W.call h2 ?_
   rintro _ rfl
   simp only [W.gd,xZ5D]
   refine ⟨by omega,by omega,hnx _ _ _ ⟨bs1++[b],bs2,by rw [hs];simp,by simp,by rw [xZeE];simp [CT.fls];omega,by omega,?_⟩ (by omega)⟩
   rw [xZeE];simp [CT.fls];omega
 | nil=>
   rw [List.append_nil] at hs
   subst hs
   simp only [xZis,cond_false]
   refine W.cond.2 ⟨fun _=>W.gd.2 ⟨xZ5D.2 (by omega),W.ret.2 ?_⟩,fun _=>W.ret.2 ?_⟩
   ·rw [he];simp only [List.length_cons];omega
   ·rw [he];simp only [List.length_cons];omega
theorem lpd {l:List xZ1} (hl:l.length≤1000):∀ t:CT,LPd l t:=by
 intro t
 induction t with
 | eps p=>exact xZeL hl _ fun a ha=>by cases ha
 | leaf p=>exact xZeL hl _ fun a ha=>by cases ha
 | cat p a b iha ihb=>exact xZeL hl _ fun x hx=>by simp [CT.kd] at hx;rcases hx with rfl | rfl<;>assumption
 | or p a b iha ihb=>exact xZeL hl _ fun x hx=>by simp [CT.kd] at hx;rcases hx with rfl | rfl<;>assumption
 | loop p a iha=>exact xZeL hl _ fun x hx=>by simp [CT.kd] at hx;subst hx;exact iha
def cT (c:xZy):Prop:=c.Nodes.length≤250∧c.Places.length≤40∧∀ p∈c.Places,p.Var.length≤40∧p.Test.length≤40
theorem xZqk (c:xZy) (hlenN:c.Nodes.length≤9223372036854775807) (hlenP:c.Places.length≤9223372036854775807) (ht:∀ q∈c.Places,okL (fun n:xZ2=>okS n.Val.Text) q.Test):W (fun N=>xZbp N c) fun b=>¬ 0 < b→cT c:=by
 simp only [xZbp,W.cond,W.ret,xZ4M,xZ5T]
 refine ⟨fun h h2=>absurd (by omega) h2,fun g1=>⟨fun h h2=>absurd (by omega) h2,fun g2=>⟨fun h h2=>absurd (by omega) h2,fun g3=>?_⟩⟩⟩
 refine wf1 (l:=c.Places) (fun pre=>∀ n∈pre,n.Var.length≤40∧n.Test.length≤40) [] rfl rfl (by omega) (by simp) ?_ ?_
 ·intro F pre e rest hl' h1 h2 h3 hq hn
  simp only [xZ9d,h1,h2,h3,Option.bind_some,cond_true,W.cond,W.ret,xZ3A,xZ4M,xZ5T]
  refine ⟨fun _ h=>absurd (by omega) h,fun h40=>⟨fun _ h=>absurd (by omega) h,fun h41=>?_⟩⟩
  refine W.call (xZqp e.Test (ht e (by rw [hl'];simp))) fun b hb=>?_
  simp only [W.cond,W.ret,xZ4M,xZ5T]
  refine ⟨fun _ h=>absurd (by omega) h,fun hb0=>hn fun t ht=>?_⟩
  rcases List.mem_append.1 ht with ht | ht
  ·exact hq t ht
  ·rw [List.mem_singleton.1 ht];exact ⟨by omega,(hb (by omega)).1⟩
 ·intro F h1 hq
  have hc:cT c:=⟨by omega,by omega,hq⟩
  simp only [xZ9d,h1,cond_false]
  refine W.call (xZqs ⟨c.Nodes,c.Places,c.Within,c.By,c.Mode⟩ (by show c.Nodes.length≤_;omega)) ?_
  rintro _ rfl
  cases hf:fineB ⟨c.Nodes,c.Places,c.Within,c.By,c.Mode⟩
  ·simp only [cond_false,W.ret];exact fun _=>hc
  ·obtain ⟨_,t,h2,_⟩:=xZl7 hf
   simp only at h2
   simp only [cond_true]
   refine W.call (f:=fun N=>xZbT N c.Nodes 0) (lpd (l:=c.Nodes) (by omega) t [] [] (by rw [h2];simp)) fun r _=>?_
   refine W.cond.2 ⟨fun _=>W.ret.2 fun _=>hc,fun _=>W.ret.2 fun _=>hc⟩
end
end
theorem xZnB {ι:Type} [Lim ι] {N:ι→Nat}:W (fun i=>(xZ84 (N i)).bind fun awak=>some awak) (·=true):=by
 simp only [xZ84,Option.bind_some,W.ret]
theorem xZjE:∀ l:List xZ0,l.Pairwise (fun x y=>(!elt y x)=true)→(cpE l).Pairwise fun x y=>elt x y=true
 | [],_=>by simp [cpE]
 | [x],_=>by simp [cpE]
 | x::y::l,h=>by
   rw [List.pairwise_cons] at h
   obtain ⟨h1,h2⟩:=h
   have ih:=xZjE (y::l) h2
   rw [cpE]
   split
   ·exact ih
   ·rename_i hne
    rw [List.pairwise_cons]
    refine ⟨fun z hz=>?_,ih⟩
    rw [xZgx] at hz
    have hy:=xZe8.1 (by simpa using h1 y (by simp))
    rw [xZfj]
    rcases List.mem_cons.1 hz with rfl | hz
    ·omega
    ·have hz1:=xZe8.1 (by simpa using (List.pairwise_cons.1 h2).1 z hz)
     omega
theorem xZjG:∀ l:List Int,l.Pairwise (fun x y=>decide (x≤y)=true)→(cpU l).Pairwise fun x y=>x < y
 | [],_=>by simp [cpU]
 | [x],_=>by simp [cpU]
 | x::y::l,h=>by
   rw [List.pairwise_cons] at h
   obtain ⟨h1,h2⟩:=h
   have ih:=xZjG (y::l) h2
   rw [cpU]
   split
   ·exact ih
   ·rename_i hne
    rw [List.pairwise_cons]
    refine ⟨fun z hz=>?_,ih⟩
    rw [xZgy] at hz
    have hy:x≤y:=by simpa using h1 y (by simp)
    rcases List.mem_cons.1 hz with rfl | hz
    ·omega
    ·have hz1:y≤z:=by simpa using (List.pairwise_cons.1 h2).1 z hz
     omega
theorem riseE {ne:List xZ0} (h:∃ l:List xZ0,ne=cpE (l.mergeSort fun x y=>!elt y x)):ne.Pairwise fun x y=>elt x y=true:=by
 obtain ⟨l,rfl⟩:=h
 refine xZjE _ (List.pairwise_mergeSort (fun a b c h1 h2=>?_) (fun a b=>?_) l)
 ·have h1:=xZe8.1 (by simpa using h1)
  have h2:=xZe8.1 (by simpa using h2)
  have:=xZe8.2 (show ¬ (c.To < a.To∨c.To=a.To∧c.Negs < a.Negs) by omega)
  simpa using this
 ·by_cases h:elt b a=true
  ·have h1:=xZfj.1 h
   have:=xZe8.2 (show ¬ (a.To < b.To∨a.To=b.To∧a.Negs < b.Negs) by omega)
   rw [this];simp
  ·simp only [Bool.not_eq_true] at h
   rw [h];rfl
theorem riseU {en:List Int} (h:∃ l:List Int,en=cpU (l.mergeSort fun x y=>decide (x≤y))):en.Pairwise fun x y=>x < y:=by
 obtain ⟨l,rfl⟩:=h
 refine xZjG _ (List.pairwise_mergeSort (fun a b c h1 h2=>?_) (fun a b=>?_) l)
 ·have h1:a≤b:=by simpa using h1
  have h2:b≤c:=by simpa using h2
  simpa using Int.le_trans h1 h2
 ·rcases Int.le_total a b with h | h
  ·simp [h]
  ·simp [h]
theorem pw_at {α:Type} {R:α→α→Prop} {l:List α} (h:l.Pairwise R) {k:Nat} {x y:α} (hk:0 < k) (h1:l[k - 1]?=some x) (h2:l[k]?=some y):R x y:=by
 obtain ⟨i1,e1⟩:=List.getElem?_eq_some_iff.1 h1
 obtain ⟨i2,e2⟩:=List.getElem?_eq_some_iff.1 h2
 rw [← e1,← e2]
 exact List.pairwise_iff_getElem.1 h (k - 1) k i1 i2 (by omega)
theorem sub_0 {S ng:Int} (hS:u32 S) (hg:u32 ng) (h:∀ j,inS S j=true→inS ng j=true):bwN .u32 S ng=0:=by
 have hn:=xZpl hS hg
 refine u_ext hn.1 u_0.1 fun j=>?_
 rw [hn.2,u_0.2]
 cases hj:inS S j with
 | false=>rfl
 | true=>rw [h j hj];rfl
theorem xZqt {c:xZy} {s:xZ2X} {ng:Int} {r:xZ1T} (hB:Blt c.Places s ng r):W (fun N=>lp1 (xZ6m N ng r.Start r.Next r.Ends) N 0) (·=true):=by
 have hf:=hB.few
 have hnl:=hB.nl
 have hel:=hB.el
 refine W.lp1 (fun x=>∃ i:Nat,x=(i:Int)∧i≤c.Places.length) (fun x=>(c.Places.length - x).toNat) ⟨0,rfl,by omega⟩ ?_
 rintro F x ⟨i,rfl,hi⟩ hg
 unfold xZ6m
 rw [hnl,ltN,W.cond]
 refine ⟨fun h=>?_,fun _=>?_⟩
 rotate_left
 ·obtain ⟨j,j1,j2⟩:=hB.sne
  have:=hB.sta j j1 j2
  have hp:=List.length_pos_of_mem this
  simp only [show ltB 0 (r.Start.length:Int)=true from xZ4M.2 (by omega),cond_true]
  exact xZnB
 have hi:=of_decide_eq_true h
 obtain ⟨e,e1,e2⟩:=ix_lt (l:=r.Next) (i:=(i:Int)) (by omega) (by omega)
 have e3:r.Next[i]?=some e:=by simpa using e2
 have e4:r.Next.getD i []=e:=by simp [List.getD,e3]
 have e5:=hB.nll e (List.mem_of_getElem? e3)
 obtain ⟨d,d1,d2⟩:=ix_lt (l:=r.Ends) (i:=(i:Int)) (by omega) (by omega)
 have d3:r.Ends[i]?=some d:=by simpa using d2
 have d4:r.Ends.getD i []=d:=by simp [List.getD,d3]
 have d5:=hB.ell d (List.mem_of_getElem? d3)
 have he:e.Pairwise (fun x y=>elt x y=true):=riseE (by rw [← e4];exact (hB.sort i hi).1)
 have hd:d.Pairwise (fun x y=>x < y):=riseU (by rw [← d4];exact (hB.sort i hi).2)
 have hne:∀ z∈e,bwN .u32 z.Negs ng=0:=fun z hz=>by
  have hng:ngP c.Places i=false:=by
   cases hn:ngP c.Places i with
   | false=>rfl
   | true=>rw [← e4,(hB.none i hi hn).1] at hz;cases hz
  obtain ⟨q,m,f1,f2,f3,f4,f5⟩:=(hB.told i hi hng).tn z (by rw [e4];exact hz)
  exact sub_0 (f1.u hf) hB.ngu fun j hj=>(f1.in hf j hj).2
 have hde:∀ z∈d,bwN .u32 z ng=0:=fun z hz=>by
  have hng:ngP c.Places i=false:=by
   cases hn:ngP c.Places i with
   | false=>rfl
   | true=>rw [← d4,(hB.none i hi hn).2] at hz;cases hz
  obtain ⟨q,f1,f2⟩:=(hB.told i hi hng).te z (by rw [d4];exact hz)
  exact sub_0 (f1.u hf) hB.ngu fun j hj=>(f1.in hf j hj).2
 have low:W (fun p:(Nat×Nat)×Nat=>lp1 (xZ6n p.1.1 ng (i:Int) r.Ends (F p.1)) p.1.1 0) (·=true):=by
  refine W.lp1 (fun x=>∃ k:Nat,x=(k:Int)∧k≤d.length) (fun x=>(d.length - x).toNat) ⟨0,rfl,by omega⟩ ?_
  rintro H x ⟨k,rfl,hk⟩ hm
  unfold xZ6n
  simp only [d1,Option.bind_some]
  rw [ltN,W.cond]
  refine ⟨fun h=>?_,fun _=>?_⟩
  rotate_left
  ·rw [W.gd,p1N]
   exact ⟨i64n (by omega),(hg _ ⟨i+1,rfl,hi⟩ (by omega)).lift.lift⟩
  have hk:=of_decide_eq_true h
  obtain ⟨v,v1,v2⟩:=ix_lt (l:=d) (i:=(k:Int)) (by omega) (by omega)
  have v3:d[k]?=some v:=by simpa using v2
  have more:W (fun p=>gd (i64b ((k:Int)+1)) (H p ((k:Int)+1))) (·=true):=by
   rw [W.gd,p1N]
   exact ⟨i64n (by omega),hm _ ⟨k+1,rfl,hk⟩ (by omega)⟩
  simp only [v1,Option.bind_some,hde v (List.mem_of_getElem? v3),show ((0:Int) != 0)=false from rfl,cond_false]
  rw [W.cond]
  refine ⟨fun h0=>?_,fun _=>more⟩
  have h0:=xZ4M.1 h0
  obtain ⟨u,u1,u2⟩:=ix_lt (l:=d) (i:=(k:Int) - 1) (by omega) (by omega)
  have u3:d[k - 1]?=some u:=by rw [show ((k:Int) - 1).toNat=k - 1 by omega] at u2;exact u2
  have:=pw_at hd (by omega) u3 v3
  simp only [u1,Option.bind_some,show leB v u=false from xZ6J.2 this,cond_false,W.gd]
  exact ⟨xZ5D.2 (by omega),by simpa only [W.gd] using more⟩
 have main:W (fun p:Nat×Nat=>lp1 (xZ58 p.1 ng (i:Int) r.Next r.Ends (F p)) p.1 0) (·=true):=by
  refine W.lp1 (fun x=>∃ k:Nat,x=(k:Int)∧k≤e.length) (fun x=>(e.length - x).toNat) ⟨0,rfl,by omega⟩ ?_
  rintro G x ⟨k,rfl,hk⟩ hm
  unfold xZ58
  simp only [e1,Option.bind_some]
  rw [ltN,W.cond]
  refine ⟨fun h=>?_,fun _=>low⟩
  have hk:=of_decide_eq_true h
  obtain ⟨v,v1,v2⟩:=ix_lt (l:=e) (i:=(k:Int)) (by omega) (by omega)
  have v3:e[k]?=some v:=by simpa using v2
  have more:W (fun p=>gd (i64b ((k:Int)+1)) (G p ((k:Int)+1))) (·=true):=by
   rw [W.gd,p1N]
   exact ⟨i64n (by omega),hm _ ⟨k+1,rfl,hk⟩ (by omega)⟩
  simp only [v1,Option.bind_some,hne v (List.mem_of_getElem? v3),show ((0:Int) != 0)=false from rfl,cond_false]
  rw [W.cond]
  refine ⟨fun h0=>?_,fun _=>more⟩
  have h0:=xZ4M.1 h0
  obtain ⟨u,u1,u2⟩:=ix_lt (l:=e) (i:=(k:Int) - 1) (by omega) (by omega)
  have u3:e[k - 1]?=some u:=by rw [show ((k:Int) - 1).toNat=k - 1 by omega] at u2;exact u2
  have hlt:=xZfj.1 (pw_at he (by omega) u3 v3)
  have b1:i64b ((k:Int) - 1)=true:=xZ5D.2 (by omega)
  simp only [u1,Option.bind_some,b1,xZ3A,show ltB v.To u.To=false from xZ5T.2 (by omega),cond_false]
  rw [W.cond]
  refine ⟨fun h1=>?_,fun _=>more⟩
  have h1:u.To=v.To:=by simpa using h1
  simp only [show leB v.Negs u.Negs=false from xZ6J.2 (by omega),cond_false]
  exact more
 simp only [e_has hB.ngu,Option.bind_some]
 rw [W.cond]
 refine ⟨fun hn=>?_,fun _=>main⟩
 rw [hB.ngb i hi] at hn
 have z:=hB.none i hi hn
 rw [e4,d4] at z
 obtain ⟨z1,z2⟩:=z
 subst z1
 subst z2
 simp only [e1,d1,Option.bind_some]
 exact main
theorem xZfQ (c:xZy) (hc:xZcE c):W (fun N=>xZ7N N c) (·=true):=by
 unfold xZ7N
 refine W.call (xZqk c hc.1.2 hc.2.1.2 fun q hq=>⟨fun n hn=>((hc.2.1.1 q hq).2.2.2.1 n hn).2.2.2.2.2.2.2,(hc.2.1.1 q hq).2.2.2.2⟩) fun b hb=>?_
 rw [W.cond]
 refine ⟨fun _=>xZnB,fun hb0=>?_⟩
 obtain ⟨a1,a2,a3⟩:=hb (by have:=xZ5T.1 hb0;omega)
 refine W.call (xZrx c ⟨by omega,by omega,fun p hp=>by have:=(a3 p hp).2;omega⟩) ?_
 rintro _ rfl
 rename_i c
 refine W.call (xZqj c) fun r hr=>?_
 rw [W.cond]
 refine ⟨fun _=>xZnB,fun h=>?_⟩
 have h:r.2=0:=by simpa using h
 rcases hr with ⟨h1,_⟩ | ⟨_,s,ng,_,hB⟩
 ·exact absurd h h1
 have hf:=hB.few
 refine W.lp2 (fun g x=>∃ i:Nat,x=(i:Int)∧i≤c.Places.length∧u32 g∧(∀ j,j < i→inS g j=ngP c.Places j)∧∀ j,i≤j→inS g j=false) (fun _ x=>(c.Places.length - x).toNat) ⟨0,rfl,by omega,u_0.1,fun j h=>by omega,fun j _=>u_0.2 j⟩ ?_
 rintro F g x ⟨i,rfl,hi,g1,g2,g3⟩ hn
 unfold xZ8o
 rw [ltN,W.cond]
 refine ⟨fun h=>?_,fun h=>?_⟩
 ·have hi:=of_decide_eq_true h
  obtain ⟨p,p1,p2⟩:=ix_lt (l:=c.Places) (i:=(i:Int)) (by omega) (by omega)
  have hp:ngP c.Places i=p.Neg:=by unfold ngP;rw [show c.Places[i]?=some p by simpa using p2]
  simp only [p1,Option.bind_some,p1N]
  have stp:∀ j,j < i+1→j < i∨j=i:=fun j h=>by omega
  rw [W.cond]
  refine ⟨fun hg=>?_,fun hg=>?_⟩
  ·have ho:=u_one (i:=i) (by omega)
   have hu:=u_or g1 ho.1
   rw [W.gd,W.gd]
   refine ⟨xZ18.2 (by omega),i64n (by omega),hn _ _ ⟨i+1,rfl,hi,hu.1,fun j h=>?_,fun j h=>?_⟩ (by omega)⟩
   ·rw [hu.2,ho.2]
    rcases stp j h with h | rfl
    ·rw [g2 j h,decide_eq_false (by omega),Bool.or_false]
    ·rw [hp,hg];simp
   ·rw [hu.2,ho.2,g3 j (by omega),decide_eq_false (by omega)];rfl
  ·rw [W.gd]
   refine ⟨i64n (by omega),hn _ _ ⟨i+1,rfl,hi,g1,fun j h=>?_,fun j h=>g3 j (by omega)⟩ (by omega)⟩
   rcases stp j h with h | rfl
   ·exact g2 j h
   ·rw [hp,hg];exact g3 _ (Nat.le_refl _)
 ·have hi':=of_decide_eq_false h
  obtain rfl:i=c.Places.length:=by omega
  have hge:g=ng:=u_ext g1 hB.ngu fun j=>by
   by_cases hj:j < c.Places.length
   ·rw [g2 j hj,hB.ngb j hj]
   ·rw [g3 j (by omega),hB.ngo j (by omega)]
  subst hge
  rw [show ((r.1.Ends.length:Int) != (r.1.Next.length:Int))=false by rw [hB.nl,hB.el];simp]
  simp only [cond_false]
  exact (xZqt hB).lift
end Go.Proofs.YtmfkphajohcklaaGreat.O
