/- What the law is handed, told as what its plain text takes. No premise beyond what each theorem says. -/
import Derived.Test.YtmllclbhdmajmaaGreatAG2
import Derived.Test.YtmllclbhdmajmaaGreatAA2
import Derived.Test.YtmllclbhdmajmaaGreatAA4
import Derived.Test.YtmllclbhdmajmaaGreatAG6
import Derived.Test.YtmllclbhdmajmaaGreatAG7
set_option linter.all false
set_option linter.unusedSimpArgs false
set_option linter.unusedVariables false
namespace Go.Proofs.YtmllclbhdmajmaaGreat.A
open Go
section
open Go.Proofs.Tryz
set_option maxRecDepth 1000000
def xZ5V (x:xZ1):Prop:=(inK .u8) x.Kind∧(inK .i64) x.Place
def xZ7U (x:xZ7):Prop:=(inK .u8) x.Kind∧(inK .i64) x.N∧(inK .u64) x.Bits∧okS x.Text
def xZ5W (x:xZ0):Prop:=(inK .u8) x.Kind∧(inK .u8) x.Op∧okS x.Var∧okS x.Name∧xZ7U x.Val
def xZ4q (x:xZ2):Prop:=(fun (_:Bool)=>True) x.Neg∧okS x.Var∧okS x.Type_∧(okL xZ5W) x.Test
def xZ5U (x:xZ6):Prop:=(okL xZ5V) x.Nodes∧(okL xZ4q) x.Places∧(inK .i64) x.Within∧okS x.By∧(inK .u8) x.Mode
def xZ9u (x:xZ67):Prop:=xZ5U x.i0∧xZ5U x.i1
theorem xZ11 {H:Type} (d:DataW H) (cs:List AV) (h:DAv prog 5 d cs):∃ x:Int,cs=[.v (.int .u8 x)]∧(inK .u8) x:=by
 obtain ⟨x,h,h1,h2⟩:=xZhK (k:=.u8) (by kernel_rfl) h
 exact ⟨x,h,h1,h2⟩
theorem xZ1o {H:Type} (d:DataW H) (cs:List AV) (h:DAv prog 3 d cs):∃ x:Int,cs=[.v (.int .i64 x)]∧(inK .i64) x:=by
 obtain ⟨x,h,h1,h2⟩:=xZhK (k:=.i64) (by kernel_rfl) h
 exact ⟨x,h,h1,h2⟩
theorem xZ6l {H:Type} (d:DataW H) (cs:List AV) (h:DAv prog 89 d cs):∃ x:xZ1,cs=[.v (.int .u8 x.Kind),.v (.int .i64 x.Place)]∧xZ5V x:=by
 obtain ⟨_,h⟩:=xZ7z (ts:=[5,3]) (by kernel_rfl) h
 obtain ⟨_,_,_,_,rfl,h0,h⟩:=xZ1m h
 obtain ⟨_,_,_,_,rfl,h1,h⟩:=xZ1m h
 obtain rfl:=xZa1 h
 obtain ⟨x0,rfl,k0⟩:=xZ11 _ _ h0
 obtain ⟨x1,rfl,k1⟩:=xZ1o _ _ h1
 exact ⟨⟨x0,x1⟩,rfl,⟨k0,k1⟩⟩
theorem xZ6g {H:Type} (d:DataW H) (cs:List AV) (h:DAv prog 38 d cs):∃ x:List xZ1,cs=[.sl 2 (List.map eA3 x)]∧(okL xZ5V) x:=by
 obtain ⟨x,h,h1,h2⟩:=xZaw (e:=89) (k:=2) eA3 xZ5V (by kernel_rfl) (by kernel_rfl) (fun d cs h=>by obtain ⟨x,h1,h2⟩:=xZ6l d cs h;subst h1;exact ⟨x,xZdk (by kernel_rfl),h2⟩) h
 exact ⟨x,h,h1,h2⟩
theorem xZ6z {H:Type} (d:DataW H) (cs:List AV) (h:DAv prog 4 d cs):∃ x:Bool,cs=[.v (.bool x)]∧(fun (_:Bool)=>True) x:=by
 obtain ⟨x,h⟩:=xZiR (by kernel_rfl) h
 exact ⟨x,h,trivial⟩
theorem xZs {H:Type} (d:DataW H) (cs:List AV) (h:DAv prog 9 d cs):∃ x:List UInt8,cs=[.v (.string (bs x))]∧okS x:=by
 obtain ⟨x,h,h1⟩:=xZg2 (by kernel_rfl) h
 exact ⟨x,h,h1⟩
theorem xZ5O {H:Type} (d:DataW H) (cs:List AV) (h:DAv prog 108 d cs):∃ x:Int,cs=[.v (.int .u64 x)]∧(inK .u64) x:=by
 obtain ⟨x,h,h1,h2⟩:=xZhK (k:=.u64) (by kernel_rfl) h
 exact ⟨x,h,h1,h2⟩
theorem xZ5P {H:Type} (d:DataW H) (cs:List AV) (h:DAv prog 124 d cs):∃ x:xZ7,cs=[.v (.int .u8 x.Kind),.v (.int .i64 x.N),.v (.int .u64 x.Bits),.v (.string (bs x.Text))]∧xZ7U x:=by
 obtain ⟨_,h⟩:=xZ7z (ts:=[5,3,108,9]) (by kernel_rfl) h
 obtain ⟨_,_,_,_,rfl,h0,h⟩:=xZ1m h
 obtain ⟨_,_,_,_,rfl,h1,h⟩:=xZ1m h
 obtain ⟨_,_,_,_,rfl,h2,h⟩:=xZ1m h
 obtain ⟨_,_,_,_,rfl,h3,h⟩:=xZ1m h
 obtain rfl:=xZa1 h
 obtain ⟨x0,rfl,k0⟩:=xZ11 _ _ h0
 obtain ⟨x1,rfl,k1⟩:=xZ1o _ _ h1
 obtain ⟨x2,rfl,k2⟩:=xZ5O _ _ h2
 obtain ⟨x3,rfl,k3⟩:=xZs _ _ h3
 exact ⟨⟨x0,x1,x2,x3⟩,rfl,⟨k0,k1,k2,k3⟩⟩
theorem xZ5Q {H:Type} (d:DataW H) (cs:List AV) (h:DAv prog 126 d cs):∃ x:xZ0,cs=[.v (.int .u8 x.Kind),.v (.int .u8 x.Op),.v (.string (bs x.Var)),.v (.string (bs x.Name)),.v (.int .u8 x.Val.Kind),.v (.int .i64 x.Val.N),.v (.int .u64 x.Val.Bits),.v (.string (bs x.Val.Text))]∧xZ5W x:=by
 obtain ⟨_,h⟩:=xZ7z (ts:=[5,5,9,9,124]) (by kernel_rfl) h
 obtain ⟨_,_,_,_,rfl,h0,h⟩:=xZ1m h
 obtain ⟨_,_,_,_,rfl,h1,h⟩:=xZ1m h
 obtain ⟨_,_,_,_,rfl,h2,h⟩:=xZ1m h
 obtain ⟨_,_,_,_,rfl,h3,h⟩:=xZ1m h
 obtain ⟨_,_,_,_,rfl,h4,h⟩:=xZ1m h
 obtain rfl:=xZa1 h
 obtain ⟨x0,rfl,k0⟩:=xZ11 _ _ h0
 obtain ⟨x1,rfl,k1⟩:=xZ11 _ _ h1
 obtain ⟨x2,rfl,k2⟩:=xZs _ _ h2
 obtain ⟨x3,rfl,k3⟩:=xZs _ _ h3
 obtain ⟨x4,rfl,k4⟩:=xZ5P _ _ h4
 exact ⟨⟨x0,x1,x2,x3,x4⟩,rfl,⟨k0,k1,k2,k3,k4⟩⟩
theorem xZ6k {H:Type} (d:DataW H) (cs:List AV) (h:DAv prog 70 d cs):∃ x:List xZ0,cs=[.sl 8 (List.map eA1 x)]∧(okL xZ5W) x:=by
 obtain ⟨x,h,h1,h2⟩:=xZaw (e:=126) (k:=8) eA1 xZ5W (by kernel_rfl) (by kernel_rfl) (fun d cs h=>by obtain ⟨x,h1,h2⟩:=xZ5Q d cs h;subst h1;exact ⟨x,xZdk (by kernel_rfl),h2⟩) h
 exact ⟨x,h,h1,h2⟩
theorem xZ6m {H:Type} (d:DataW H) (cs:List AV) (h:DAv prog 91 d cs):∃ x:xZ2,cs=[.v (.bool x.Neg),.v (.string (bs x.Var)),.v (.string (bs x.Type_)),.sl 8 (List.map eA1 x.Test)]∧xZ4q x:=by
 obtain ⟨_,h⟩:=xZ7z (ts:=[4,9,9,70]) (by kernel_rfl) h
 obtain ⟨_,_,_,_,rfl,h0,h⟩:=xZ1m h
 obtain ⟨_,_,_,_,rfl,h1,h⟩:=xZ1m h
 obtain ⟨_,_,_,_,rfl,h2,h⟩:=xZ1m h
 obtain ⟨_,_,_,_,rfl,h3,h⟩:=xZ1m h
 obtain rfl:=xZa1 h
 obtain ⟨x0,rfl,k0⟩:=xZ6z _ _ h0
 obtain ⟨x1,rfl,k1⟩:=xZs _ _ h1
 obtain ⟨x2,rfl,k2⟩:=xZs _ _ h2
 obtain ⟨x3,rfl,k3⟩:=xZ6k _ _ h3
 exact ⟨⟨x0,x1,x2,x3⟩,rfl,⟨k0,k1,k2,k3⟩⟩
theorem xZ6h {H:Type} (d:DataW H) (cs:List AV) (h:DAv prog 39 d cs):∃ x:List xZ2,cs=[.sl 4 (List.map eA2 x)]∧(okL xZ4q) x:=by
 obtain ⟨x,h,h1,h2⟩:=xZaw (e:=91) (k:=4) eA2 xZ4q (by kernel_rfl) (by kernel_rfl) (fun d cs h=>by obtain ⟨x,h1,h2⟩:=xZ6m d cs h;subst h1;exact ⟨x,xZdk (by kernel_rfl),h2⟩) h
 exact ⟨x,h,h1,h2⟩
theorem xZ2Y {H:Type} (d:DataW H) (cs:List AV) (h:DAv prog 41 d cs):∃ x:xZ6,cs=[.sl 2 (List.map eA3 x.Nodes),.sl 4 (List.map eA2 x.Places),.v (.int .i64 x.Within),.v (.string (bs x.By)),.v (.int .u8 x.Mode)]∧xZ5U x:=by
 obtain ⟨_,h⟩:=xZ7z (ts:=[38,39,3,9,5]) (by kernel_rfl) h
 obtain ⟨_,_,_,_,rfl,h0,h⟩:=xZ1m h
 obtain ⟨_,_,_,_,rfl,h1,h⟩:=xZ1m h
 obtain ⟨_,_,_,_,rfl,h2,h⟩:=xZ1m h
 obtain ⟨_,_,_,_,rfl,h3,h⟩:=xZ1m h
 obtain ⟨_,_,_,_,rfl,h4,h⟩:=xZ1m h
 obtain rfl:=xZa1 h
 obtain ⟨x0,rfl,k0⟩:=xZ6g _ _ h0
 obtain ⟨x1,rfl,k1⟩:=xZ6h _ _ h1
 obtain ⟨x2,rfl,k2⟩:=xZ1o _ _ h2
 obtain ⟨x3,rfl,k3⟩:=xZs _ _ h3
 obtain ⟨x4,rfl,k4⟩:=xZ11 _ _ h4
 exact ⟨⟨x0,x1,x2,x3,x4⟩,rfl,⟨k0,k1,k2,k3,k4⟩⟩
theorem xZ6j {H:Type} (d:DataW H) (cs:List AV) (h:DAv prog 55 d cs):∃ x:xZ67,cs=[.sl 2 (List.map eA3 x.i0.Nodes),.sl 4 (List.map eA2 x.i0.Places),.v (.int .i64 x.i0.Within),.v (.string (bs x.i0.By)),.v (.int .u8 x.i0.Mode),.sl 2 (List.map eA3 x.i1.Nodes),.sl 4 (List.map eA2 x.i1.Places),.v (.int .i64 x.i1.Within),.v (.string (bs x.i1.By)),.v (.int .u8 x.i1.Mode)]∧xZ9u x:=by
 obtain ⟨_,h⟩:=xZhJ (n:=2) (e:=41) (by kernel_rfl) h
 obtain ⟨_,_,_,_,rfl,h0,h⟩:=xZ1m h
 obtain ⟨_,_,_,_,rfl,h1,h⟩:=xZ1m h
 obtain rfl:=xZa1 h
 obtain ⟨x0,rfl,k0⟩:=xZ2Y _ _ h0
 obtain ⟨x1,rfl,k1⟩:=xZ2Y _ _ h1
 exact ⟨⟨x0,x1⟩,rfl,⟨k0,k1⟩⟩
theorem xZ6i {H:Type} (d:DataW H) (cs:List AV) (h:DAv prog 51 d cs):∃ x:List (List UInt8),cs=[.sl 1 (List.map eA0 x)]∧(okL okS) x:=by
 obtain ⟨x,h,h1,h2⟩:=xZaw (e:=9) (k:=1) eA0 okS (by kernel_rfl) (by kernel_rfl) (fun d cs h=>by obtain ⟨x,h1,h2⟩:=xZs d cs h;subst h1;exact ⟨x,xZf2 (by kernel_rfl),h2⟩) h
 exact ⟨x,h,h1,h2⟩
theorem xZ7y {H:Type} (ds:List (DataW H)) (xs:List AV) (h:DAvV prog [55,51,3] ds xs):
 ∃ (l:xZ67) (word:List (List UInt8)) (vat:Int),xs=[.agg [.sl 2 (List.map eA3 l.i0.Nodes),.sl 4 (List.map eA2 l.i0.Places),.v (.int .i64 l.i0.Within),.v (.string (bs l.i0.By)),.v (.int .u8 l.i0.Mode),.sl 2 (List.map eA3 l.i1.Nodes),.sl 4 (List.map eA2 l.i1.Places),.v (.int .i64 l.i1.Within),.v (.string (bs l.i1.By)),.v (.int .u8 l.i1.Mode)],.sl 1 (List.map eA0 word),.v (.int .i64 vat)]∧xZ9u l∧(okL okS) word∧(inK .i64) vat:=by
 obtain ⟨_,_,_,_,rfl,rfl,h0,h⟩:=xZcr h
 obtain ⟨_,_,_,_,rfl,rfl,h1,h⟩:=xZcr h
 obtain ⟨_,_,_,_,rfl,rfl,h2,h⟩:=xZcr h
 obtain ⟨rfl,rfl⟩:=xZiS h
 obtain ⟨x0,rfl,k0⟩:=xZ6j _ _ h0
 obtain ⟨x1,rfl,k1⟩:=xZ6i _ _ h1
 obtain ⟨x2,rfl,k2⟩:=xZ1o _ _ h2
 exact ⟨x0,x1,x2,by rw [xZdk (by kernel_rfl),xZf2 (by kernel_rfl),xZf2 (by kernel_rfl)],k0,k1,k2⟩
end
section
section
section
theorem wid {ι:Type} [Lim ι] {α:Type} {f:ι→Option α} {Q:α→Prop}:W (fun i=>(f i).bind fun a=>some a) Q ↔ W f Q:=by
 have:(fun i=>(f i).bind fun a=>some a)=f:=by funext i;cases f i<;>rfl
 rw [this]
end
section
/-! ### Small facts -/
end
section
inductive TU where
 | own (n:List UInt8)
 | of (v n:List UInt8)
 | lit (v:xZ7)
inductive TS where
 | u (a:TU)
 | op (k:Bool) (s:TS) (a:TU)
inductive TT where
 | or (a b:TT)
 | and (a b:TT)
 | not (a:TT)
 | test (o:Int) (a b:TS)
def TT.ht:TT→Nat
 | .or a b=>1+max a.ht b.ht
 | .and a b=>1+max a.ht b.ht
 | .not a=>1+a.ht
 | .test _ _ _=>1
end
section
open Go Classical
theorem xZka (v:xZ7) (hv:okS v.Text):W (fun N=>xZ4y N v) fun r=>¬ 0 < r→v.Text.length≤100:=by
 have:=xZkH hv
 simp only [xZ4y,W.gd,W.ret,xZ2f]
 exact ⟨by omega,fun h=>by omega⟩
theorem xZm9 (l:List xZ0) (hl:l.length≤10000):W (fun N=>xZ6Q N l) (·=l):=by
 simp only [xZ6Q]
 refine wf2a (l:=l) (fun pre ys=>ys=pre) [] rfl rfl (by omega) rfl ?_ ?_
 ·rintro F pre e rest ys hl' h1 h2 h3 rfl hn
  simp only [xZ4z,h1,h2,h3,Option.bind_some,cond_true,W.gd,true_and]
  refine ⟨Nat.ble_eq_true_of_le (by rw [hl'] at hl;simp at hl;omega),hn _ rfl⟩
 ·rintro F ys h1 rfl
  simp only [xZ4z,h1,cond_false,W.ret]
theorem xZk7 (l:List xZ0) (hl:okL (fun n:xZ0=>okS n.Val.Text) l):W (fun N=>xZ60 N l) fun b=>¬ 0 < b→l.length≤40∧∀ n∈l,n.Var.length≤40∧n.Name.length≤40∧n.Val.Text.length≤100:=by
 have hlen:l.length≤9223372036854775807:=hl.2
 simp only [xZ60,W.cond,W.ret,xZ15,xZ3i]
 refine ⟨fun h h2=>absurd (by omega) h2,fun h=>?_⟩
 refine wf1 (l:=l) (fun pre=>∀ n∈pre,n.Var.length≤40∧n.Name.length≤40∧n.Val.Text.length≤100) [] rfl rfl (by omega) (by simp) ?_ ?_
 ·intro F pre e rest hl' h1 h2 h3 hp hn
  have he:=hl.1 e (by rw [hl'];simp)
  simp only [xZ3K,h1,h2,h3,Option.bind_some,cond_true,W.cond,W.ret,xZS,xZ15,xZ3i]
  refine ⟨fun _ h=>absurd (by omega) h,fun h40=>⟨fun _ h=>absurd (by omega) h,fun h41=>?_⟩⟩
  refine W.call (xZka e.Val he) fun b hb=>?_
  simp only [W.cond,W.ret,xZ15,xZ3i]
  refine ⟨fun _ h=>absurd (by omega) h,fun hb0=>hn fun t ht=>?_⟩
  rcases List.mem_append.1 ht with ht | ht
  ·exact hp t ht
  ·rw [List.mem_singleton.1 ht];exact ⟨by omega,by omega,hb (by omega)⟩
 ·intro F h1 hp
  simp only [xZ3K,h1,cond_false,W.ret]
  exact fun _=>⟨by omega,hp⟩
end
section
open Go Classical
theorem w_eqs {ι:Type} [Lim ι] {β:Type} {a b:List β} (hab:a.length=b.length) (hl:a.length≤1000000000) {f:ι→(Int→Option Bool)→Int→Option Bool} {N:ι→Nat} [Tends N]
 (step:∀ (F:ι×Nat→Int→Option Bool) (i:Int) (e g:β),ix a i=some e→ix b i=some g→ltB i (a.length:Int)=true→i64b (i+1)=true→(e≠g→W (fun p:ι×Nat=>f p.1 (F p) i) (·=false))∧(e=g→∀ r,W (fun p=>F p (i+1)) (·=r)→W (fun p:ι×Nat=>f p.1 (F p) i) (·=r)))
 (done:∀ (F:ι×Nat→Int→Option Bool),ltB (a.length:Int) (a.length:Int)=false→W (fun p:ι×Nat=>f p.1 (F p) (a.length:Int)) (·=true)):
 W (fun i=>lp1 (f i) (N i) 0) (·=decide (a=b)):=by
 refine wr1 (l:=a) (fun pre rest=>decide (rest=b.drop pre.length)) [] a rfl rfl (by omega) ?_ ?_
 ·intro F pre e rest hl' h1 h2 h3 hn
  have hlen:=congrArg List.length hl'
  simp only [List.length_append,List.length_cons] at hlen
  have hlt:pre.length < b.length:=by omega
  have hd:b.drop pre.length=b[pre.length]::b.drop (pre.length+1):=List.drop_eq_getElem_cons hlt
  have hg:ix b (pre.length:Int)=some b[pre.length]:=by rw [ix_nat'];exact List.getElem?_eq_getElem hlt
  rw [List.length_append,List.length_singleton] at hn
  obtain ⟨k1,k2⟩:=step F _ e _ h2 hg h1 h3
  by_cases he:e=b[pre.length]
  ·have hn':=k2 he _ hn
   rw [hd,← he]
   refine W.mp hn' fun r hr=>?_
   rw [hr]
   by_cases h:rest=b.drop (pre.length+1)
   ·rw [decide_eq_true h,decide_eq_true (by rw [h])]
   ·rw [decide_eq_false h,decide_eq_false fun h2=>h (List.cons.inj h2).2]
  ·refine W.mp (k1 he) fun r hr=>?_
   rw [hr,hd,decide_eq_false fun h=>he (List.cons.inj h).1]
 ·intro F h1
  refine W.mp (done F h1) fun r hr=>?_
  rw [hr,List.drop_eq_nil_of_le (by omega),decide_eq_true rfl]
theorem xZeW {β:Type} {a b:List β}:((a.length:Int) != (b.length:Int))=!decide (a.length=b.length):=by
 by_cases h:a.length=b.length
 ·simp [h]
 ·simp [h];omega
theorem xZgR {e g:xZ0}:((e.Kind==g.Kind)&&((e.Op==g.Op)&&((e.Var==g.Var)&&((e.Name==g.Name)&&((e.Val.Kind==g.Val.Kind)&&((e.Val.N==g.Val.N)&&((e.Val.Bits==g.Val.Bits)&&(e.Val.Text==g.Val.Text))))))))=decide (e=g):=by
 obtain ⟨k,o,v,n,w⟩:=e
 obtain ⟨k',o',v',n',w'⟩:=g
 cases w;cases w'
 rw [Bool.eq_iff_iff]
 simp [Bool.and_eq_true]
end
section
open Go Classical
theorem xZk8 (a b:List xZ0) (hl:a.length≤1000000000):W (fun N=>xZ6R N a b) (·=decide (a=b)):=by
 simp only [xZ6R]
 refine wid.2 ?_
 simp only [xZ1F,xZeW,W.cond,W.ret]
 refine ⟨fun h=>?_,fun h=>?_⟩
 ·have h:¬ a.length=b.length:=by simpa using h
  rw [decide_eq_false (fun he=>h (by rw [he]))]
 ·refine w_eqs (by simpa using h) hl (fun F i e g h1 h2 h3 h4=>?_) (fun F h=>?_)
  ·simp only [xZ10,h1,h2,h3,h4,Option.bind_some,cond_true,xZS,xZgR]
   refine ⟨fun he=>?_,fun he r hr=>?_⟩
   ·simp only [decide_eq_false he,Bool.not_false,cond_true];exact W.ret.2 rfl
   ·simp only [decide_eq_true he,Bool.not_true,cond_false];exact hr
  ·simp only [xZ10,h,cond_false];exact W.ret.2 rfl
end
section
open Go Classical
theorem xZhm (a b:List xZ0) (hl:a.length≤1000000000):W (fun N=>xZ62 N a b) (·=decide (a=b)):=by
 simp only [xZ62,xZeW,W.cond,W.ret]
 refine ⟨fun h=>?_,fun h=>?_⟩
 ·have h:¬ a.length=b.length:=by simpa using h
  rw [decide_eq_false (fun he=>h (by rw [he]))]
 ·refine w_eqs (by simpa using h) hl (fun F i e g h1 h2 h3 h4=>?_) (fun F h=>?_)
  ·simp only [xZ3N,h1,h2,h3,h4,Option.bind_some,cond_true,xZS,xZgR]
   refine ⟨fun he=>?_,fun he r hr=>?_⟩
   ·simp only [decide_eq_false he,Bool.not_false,cond_true];exact W.ret.2 rfl
   ·simp only [decide_eq_true he,Bool.not_true,cond_false];exact hr
  ·simp only [xZ3N,h,cond_false];exact W.ret.2 rfl
end
end
end
section
open Go Classical
theorem xZiq {ι:Type} [Lim ι] {β:Type} {a b:List β} {D:Bool} (hab:a.length=b.length) (hl:a.length≤1000000000) {f:ι→(Int→Option Bool)→Int→Option Bool} {N:ι→Nat} [Tends N]
 (step:∀ (F:ι×Nat→Int→Option Bool) (i:Int) (e g:β),e∈a→g∈b→ix a i=some e→ix b i=some g→ltB i (a.length:Int)=true→i64b (i+1)=true→(e≠g→W (fun p:ι×Nat=>f p.1 (F p) i) (·=false))∧(e=g→∀ r,W (fun p=>F p (i+1)) (·=r)→W (fun p:ι×Nat=>f p.1 (F p) i) (·=r)))
 (done:∀ (F:ι×Nat→Int→Option Bool),ltB (a.length:Int) (a.length:Int)=false→W (fun p:ι×Nat=>f p.1 (F p) (a.length:Int)) (·=D)):
 W (fun i=>lp1 (f i) (N i) 0) (·=(decide (a=b)&&D)):=by
 refine wr1 (l:=a) (fun pre rest=>decide (rest=b.drop pre.length)&&D) [] a rfl rfl (by omega) ?_ ?_
 ·intro F pre e rest hl' h1 h2 h3 hn
  have hlen:=congrArg List.length hl'
  simp only [List.length_append,List.length_cons] at hlen
  have hlt:pre.length < b.length:=by omega
  have hd:b.drop pre.length=b[pre.length]::b.drop (pre.length+1):=List.drop_eq_getElem_cons hlt
  have hg:ix b (pre.length:Int)=some b[pre.length]:=by rw [ix_nat'];exact List.getElem?_eq_getElem hlt
  rw [List.length_append,List.length_singleton] at hn
  obtain ⟨k1,k2⟩:=step F _ e _ (by rw [hl'];simp) (List.getElem_mem hlt) h2 hg h1 h3
  by_cases he:e=b[pre.length]
  ·have hn':=k2 he _ hn
   rw [hd,← he]
   refine W.mp hn' fun r hr=>?_
   rw [hr]
   by_cases h:rest=b.drop (pre.length+1)
   ·rw [decide_eq_true h,decide_eq_true (by rw [h])]
   ·rw [decide_eq_false h,decide_eq_false fun h2=>h (List.cons.inj h2).2]
  ·refine W.mp (k1 he) fun r hr=>?_
   rw [hr,hd,decide_eq_false fun h=>he (List.cons.inj h).1];rfl
 ·intro F h1
  refine W.mp (done F h1) fun r hr=>?_
  rw [hr,List.drop_eq_nil_of_le (by omega),decide_eq_true rfl];rfl
def cB (c:xZ6):Prop:=c.Nodes.length≤1000000∧c.Places.length≤1000000∧∀ p∈c.Places,p.Test.length≤10000
theorem nEq {e g:xZ1}:((e.Kind==g.Kind)&&(e.Place==g.Place))=decide (e=g):=by
 obtain ⟨a,b⟩:=e;obtain ⟨c,d⟩:=g
 by_cases h:(⟨a,b⟩:xZ1)=⟨c,d⟩
 ·rw [decide_eq_true h];injection h with h1 h2;subst h1;subst h2;simp
 ·rw [decide_eq_false h,Bool.eq_false_iff]
  intro hh
  simp only [Bool.and_eq_true,beq_iff_eq] at hh
  exact h (by rw [hh.1,hh.2])
theorem xZhl {e g:xZ2} (hl:e.Test.length≤10000):W (fun N=>xZ6P N e g) (·=decide (e=g)):=by
 obtain ⟨a,b,c,d⟩:=e;obtain ⟨a',b',c',d'⟩:=g
 simp only [xZ6P]
 by_cases h1:a=a'
 rotate_left
 ·simp only [show (a==a')=false by simpa using h1,cond_false,W.ret]
  exact (decide_eq_false fun h=>h1 (xZ2.mk.inj h).1).symm
 by_cases h2:b=b'
 rotate_left
 ·simp only [show (a==a')=true by simpa using h1,show (b==b')=false by simpa using h2,cond_false,cond_true,W.ret]
  exact (decide_eq_false fun h=>h2 (xZ2.mk.inj h).2.1).symm
 by_cases h3:c=c'
 rotate_left
 ·simp only [show (a==a')=true by simpa using h1,show (b==b')=true by simpa using h2,show (c==c')=false by simpa using h3,cond_false,cond_true,W.ret]
  exact (decide_eq_false fun h=>h3 (xZ2.mk.inj h).2.2.1).symm
 subst h1;subst h2;subst h3
 simp only [beq_self_eq_true,cond_true]
 refine W.call (xZk8 d d' (by simp only at hl;omega)) ?_
 rintro _ rfl
 refine W.ret.2 ?_
 by_cases h:d=d'
 ·rw [decide_eq_true h,decide_eq_true (by rw [h])]
 ·rw [decide_eq_false h,decide_eq_false fun h'=>h (xZ2.mk.inj h').2.2.2]
theorem xZey {a b:xZ6} (h1:a.Within=b.Within) (h2:a.By=b.By) (h3:a.Mode=b.Mode):decide (a=b)=(decide (a.Nodes=b.Nodes)&&decide (a.Places=b.Places)):=by
 obtain ⟨n,p,w,y,m⟩:=a;obtain ⟨n',p',w',y',m'⟩:=b
 simp only at h1 h2 h3 ⊢
 subst h1;subst h2;subst h3
 by_cases h:n=n'
 ·by_cases h':p=p'
  ·simp [h,h']
  ·simp [h,h']
 ·simp [h]
theorem xZk5 (a b:xZ6) (ha:cB a):W (fun N=>xZ6M N a b) (·=decide (a=b)):=by
 simp only [xZ6M]
 by_cases h1:a.Within=b.Within
 rotate_left
 ·simp only [show (a.Within != b.Within)=true by simpa using h1,cond_true,W.ret]
  exact (decide_eq_false fun h=>h1 (by rw [h])).symm
 by_cases h2:a.By=b.By
 rotate_left
 ·simp only [show (a.Within != b.Within)=false by simpa using h1,show (a.By==b.By)=false by simpa using h2,Bool.not_false,cond_true,cond_false,W.ret]
  exact (decide_eq_false fun h=>h2 (by rw [h])).symm
 by_cases h3:a.Mode=b.Mode
 rotate_left
 ·simp only [show (a.Within != b.Within)=false by simpa using h1,show (a.By==b.By)=true by simpa using h2,show (a.Mode != b.Mode)=true by simpa using h3,Bool.not_true,cond_true,cond_false,W.ret]
  exact (decide_eq_false fun h=>h3 (by rw [h])).symm
 simp only [show (a.Within != b.Within)=false by simpa using h1,show (a.By==b.By)=true by simpa using h2,show (a.Mode != b.Mode)=false by simpa using h3,Bool.not_true,cond_false]
 rw [xZey h1 h2 h3]
 have hN:W (fun N=>xZ1d N a.Nodes b.Nodes) (·=decide (a.Nodes=b.Nodes)):=by
  simp only [xZ1d,xZeW,W.cond,W.ret]
  refine ⟨fun h=>?_,fun h=>?_⟩
  ·have h:¬ a.Nodes.length=b.Nodes.length:=by simpa using h
   rw [decide_eq_false (fun he=>h (by rw [he]))]
  ·refine w_eqs (by simpa using h) (by have:=ha.1;omega) (fun F i e g h1 h2 h3 h4=>?_) (fun F h=>?_)
   ·simp only [xZZ,h1,h2,h3,h4,Option.bind_some,cond_true,xZS,nEq]
    refine ⟨fun he=>?_,fun he r hr=>?_⟩
    ·simp only [decide_eq_false he,Bool.not_false,cond_true];exact W.ret.2 rfl
    ·simp only [decide_eq_true he,Bool.not_true,cond_false];exact hr
   ·simp only [xZZ,h,cond_false];exact W.ret.2 rfl
 have hP:W (fun N=>xZp N a.Places b.Places) (·=decide (a.Places=b.Places)):=by
  simp only [xZp,xZeW,W.cond,W.ret]
  refine ⟨fun h=>?_,fun h=>?_⟩
  ·have h:¬ a.Places.length=b.Places.length:=by simpa using h
   rw [decide_eq_false (fun he=>h (by rw [he]))]
  ·have:=xZiq (a:=a.Places) (b:=b.Places) (D:=true) (f:=fun i=>xZd i b.Places a.Places (a.Places.length:Int)) (N:=fun i=>i) (by simpa using h) (by have:=ha.2.1;omega) (fun F i e g m1 m2 h1 h2 h3 h4=>?_) (fun F h=>?_)
   ·simpa only [Bool.and_true] using this
   ·simp only [xZd,h1,h2,h3,h4,Option.bind_some,cond_true,xZS]
    refine ⟨fun he=>?_,fun he r hr=>?_⟩
    ·refine W.call (xZhl (ha.2.2 _ m1)) ?_
     rintro _ rfl
     simp only [decide_eq_false he,Bool.not_false,cond_true];exact W.ret.2 rfl
    ·refine W.call (xZhl (ha.2.2 _ m1)) ?_
     rintro _ rfl
     simp only [decide_eq_true he,Bool.not_true,cond_false];exact hr
   ·simp only [xZd,h,cond_false];exact W.ret.2 rfl
 refine W.call hN ?_
 rintro _ rfl
 cases hd:decide (a.Nodes=b.Nodes)
 ·simp only [cond_false,Bool.false_and];exact W.ret.2 rfl
 ·simp only [cond_true,Bool.true_and]
  refine W.call hP ?_
  rintro _ rfl
  exact W.ret.2 rfl
theorem xZgC (a b:xZ6) (ha:cB a):W (fun N=>xZ63 N a b) (·=decide (a=b)):=by
 simp only [xZ63]
 by_cases h1:a.Within=b.Within
 rotate_left
 ·simp only [show (a.Within != b.Within)=true by simpa using h1,cond_true,W.ret]
  exact (decide_eq_false fun h=>h1 (by rw [h])).symm
 by_cases h2:a.By=b.By
 rotate_left
 ·simp only [show (a.Within != b.Within)=false by simpa using h1,show (a.By==b.By)=false by simpa using h2,Bool.not_false,cond_true,cond_false,W.ret]
  exact (decide_eq_false fun h=>h2 (by rw [h])).symm
 by_cases h3:a.Mode=b.Mode
 rotate_left
 ·simp only [show (a.Within != b.Within)=false by simpa using h1,show (a.By==b.By)=true by simpa using h2,show (a.Mode != b.Mode)=true by simpa using h3,Bool.not_true,cond_true,cond_false,W.ret]
  exact (decide_eq_false fun h=>h3 (by rw [h])).symm
 simp only [show (a.Within != b.Within)=false by simpa using h1,show (a.By==b.By)=true by simpa using h2,show (a.Mode != b.Mode)=false by simpa using h3,Bool.not_true,cond_false,xZeW]
 by_cases h4:a.Nodes.length=b.Nodes.length
 rotate_left
 ·simp only [decide_eq_false h4,Bool.not_false,cond_true,W.ret]
  exact (decide_eq_false fun h=>h4 (by rw [h])).symm
 by_cases h5:a.Places.length=b.Places.length
 rotate_left
 ·simp only [decide_eq_true h4,decide_eq_false h5,Bool.not_true,Bool.not_false,cond_true,cond_false,W.ret]
  exact (decide_eq_false fun h=>h5 (by rw [h])).symm
 simp only [decide_eq_true h4,decide_eq_true h5,Bool.not_true,cond_false]
 rw [xZey h1 h2 h3]
 refine xZiq h4 (by have:=ha.1;omega) (fun F i e g m1 m2 h1 h2 h3 h4=>?_) (fun F h=>?_)
 ·simp only [xZ3P,h1,h2,h3,h4,Option.bind_some,cond_true,xZS,nEq]
  refine ⟨fun he=>?_,fun he r hr=>?_⟩
  ·simp only [decide_eq_false he,Bool.not_false,cond_true];exact W.ret.2 rfl
  ·simp only [decide_eq_true he,Bool.not_true,cond_false];exact hr
 ·simp only [xZ3P,h,cond_false]
  have:=xZiq (ι:=Nat×Nat) (a:=a.Places) (b:=b.Places) (D:=true) (f:=fun i=>xZ2S i.1 a.Places b.Places) (N:=fun i=>i.1) h5 (by have:=ha.2.1;omega) (fun F i e g m1 m2 h1 h2 h3 h4=>?_) (fun F h=>?_)
  ·simpa only [Bool.and_true] using this
  ·simp only [xZ2S,h1,h2,h3,h4,Option.bind_some,cond_true,xZS]
   obtain ⟨x,y,z,w⟩:=e;obtain ⟨x',y',z',w'⟩:=g
   have hw:=ha.2.2 _ m1
   simp only at hw ⊢
   refine ⟨fun he=>?_,fun he r hr=>?_⟩
   ·by_cases q1:x=x'
    rotate_left
    ·simp only [show (x==x')=false by simpa using q1,Bool.not_false,cond_true];exact W.ret.2 rfl
    by_cases q2:y=y'
    rotate_left
    ·simp only [show (x==x')=true by simpa using q1,show (y==y')=false by simpa using q2,Bool.not_true,Bool.not_false,cond_true,cond_false];exact W.ret.2 rfl
    by_cases q3:z=z'
    rotate_left
    ·simp only [show (x==x')=true by simpa using q1,show (y==y')=true by simpa using q2,show (z==z')=false by simpa using q3,Bool.not_true,Bool.not_false,cond_true,cond_false];exact W.ret.2 rfl
    simp only [show (x==x')=true by simpa using q1,show (y==y')=true by simpa using q2,show (z==z')=true by simpa using q3,Bool.not_true,cond_false]
    refine W.call (xZhm w w' (by omega)) ?_
    rintro _ rfl
    rw [decide_eq_false fun h=>he (by rw [q1,q2,q3,h])]
    exact W.ret.2 rfl
   ·injection he with q1 q2 q3 q4
    subst q1;subst q2;subst q3;subst q4
    simp only [beq_self_eq_true,Bool.not_true,cond_false]
    refine W.call (xZhm w w (by omega)) ?_
    rintro _ rfl
    rw [decide_eq_true rfl]
    exact hr
  ·simp only [xZ2S,h,cond_false];exact W.ret.2 rfl
theorem xZk4 (c:xZ6) (hc:cB c):W (fun N=>xZ5r N c) (·=c):=by
 obtain ⟨h1,h2,h3⟩:=hc
 simp only [xZ5r]
 refine wf2a (l:=c.Nodes) (fun pre ys=>ys=pre) [] rfl rfl (by omega) rfl ?_ ?_
 ·rintro F pre e rest ys hl k1 k2 k3 rfl hn
  simp only [xZ4A,k1,k2,k3,Option.bind_some,cond_true,W.gd,true_and]
  exact ⟨Nat.ble_eq_true_of_le (by rw [hl] at h1;simp at h1;omega),hn _ rfl⟩
 ·rintro F ys k1 rfl
  simp only [xZ4A,k1,cond_false]
  refine wf2a (l:=c.Places) (fun pre ys=>ys=pre) [] rfl rfl (by omega) rfl ?_ ?_
  ·rintro F pre e rest ys hl k1 k2 k3 rfl hn
   simp only [xZ4B,k1,k2,Option.bind_some,cond_true]
   refine W.call (xZm9 e.Test (h3 e (by rw [hl];simp))) ?_
   rintro _ rfl
   simp only [k3,W.gd,true_and]
   exact ⟨Nat.ble_eq_true_of_le (by rw [hl] at h2;simp at h2;omega),hn _ rfl⟩
  ·rintro F ys k1 rfl
   simp only [xZ4B,k1,cond_false,W.ret]
theorem xZgP (k:Int) (N:Nat):xZ42 N k=some (kc k):=by
 simp only [xZ42,kc]
 by_cases h3:k=3
 ·simp [h3]
 by_cases h4:k=4
 ·simp [h4]
 by_cases h5:k=5
 ·simp [h5]
 simp [h3,h4,h5,show (k==3)=false by simpa using h3,show (k==4)=false by simpa using h4,show (k==5)=false by simpa using h5]
theorem xZb6 (l:List xZ1) (a:Int) (hl:l.length≤1000000):W (fun N=>xZ1E N l a) (·=cz l a):=by
 simp only [xZ1E,cz]
 by_cases h1:a < 0
 ·simp only [show ltB a 0=true from xZ15.2 h1,cond_true,if_pos h1,W.ret]
 simp only [show ltB a 0=false from xZ3i.2 (by omega),cond_false,if_neg h1]
 by_cases h2:(l.length:Int)≤a
 ·simp only [show leB (l.length:Int) a=true from xZT.2 h2,cond_true,if_pos h2,W.ret]
 simp only [show leB (l.length:Int) a=false from xZeS.2 (by omega),cond_false,if_neg h2]
 obtain ⟨n,rfl⟩:=Int.eq_ofNat_of_zero_le (show 0≤a by omega)
 rw [Int.toNat_natCast]
 refine W.lp2 (N:=fun N=>N) (P:=fun v i=>∃ c:Nat,i=((n+c:Nat):Int)∧n+c≤l.length∧0≤v∧v≤(c:Int)+1∧(if v=0 then (c:Int) else csz v (l.drop (n+c)) c)=csz 1 (l.drop n) 0) (m:=fun _ i=>l.length - i.toNat)
  ⟨0,by simp,by omega,by omega,by omega,by simp⟩ ?_
 rintro F v i ⟨c,rfl,c1,v0,v1,p3⟩ hn
 simp only [xZ64]
 by_cases hv:v=0
 ·subst hv
  rw [if_pos rfl] at p3
  simp only [show ltB 0 0=false from rfl,cond_false,W.gd,W.ret,xZ2f]
  exact ⟨by omega,by rw [← p3];omega⟩
 rw [if_neg hv] at p3
 simp only [show ltB 0 v=true from xZ15.2 (by omega),cond_true]
 by_cases hc:n+c=l.length
 ·simp only [show leB (l.length:Int) ((n+c:Nat):Int)=true from xZT.2 (by omega),cond_true,W.ret]
  rw [hc,List.drop_length,csz] at p3
  exact p3
 ·have hlt:n+c < l.length:=by omega
  have hd:l.drop (n+c)=l[n+c]::l.drop (n+c+1):=List.drop_eq_getElem_cons hlt
  have hg:ix l ((n+c:Nat):Int)=some l[n+c]:=by rw [ix_nat'];exact List.getElem?_eq_getElem hlt
  rw [hd] at p3
  generalize l[n+c]=e at *
  have hk:=kc_le e.Kind
  rw [csz] at p3
  simp only [show leB (l.length:Int) ((n+c:Nat):Int)=false from xZeS.2 (by omega),cond_false,hg,Option.bind_some,xZgP,W.gd,xZ2f]
  refine ⟨by omega,by omega,by omega,hn _ _ ⟨c+1,by omega,by omega,by omega,by omega,?_⟩ (by omega)⟩
  by_cases hz:v+(kc e.Kind - 1)=0
  ·rw [if_pos hz] at p3
   rw [if_pos (by omega),← p3];omega
  ·rw [if_neg hz] at p3
   rw [if_neg (by omega),show v - 1+kc e.Kind=v+(kc e.Kind - 1) by omega,← p3]
   rfl
theorem xZg4 (neg:Bool) (v:List UInt8) (h:v.length≤1000000000000000) (N:Nat):xZ2U N neg v=some (ltr neg v):=by
 unfold xZ2U ltr
 rw [show Nat.ble (1+v.length) 9223372036854775807=true from Nat.ble_eq_true_of_le (by omega)]
 cases neg<;>rfl
end
section
def cset {α:Type} (n:Int) (v:α):Nat→List α→List α
 | _,[]=>[]
 | j,x::l=>cond (ieq n (Int.ofNat j)) v x::cset n v (j+1) l
theorem xZij {α:Type} (x:A102 α) (n:Int) (v:α):(A102.set x n v).l=cset n v 0 x.l:=rfl
theorem ieq_t {a b:Int}:ieq a b=true ↔ a=b:=by simp only [ieq,Bool.and_eq_true,xZT];omega
theorem xZgJ {α:Type} (n:Nat) (v:α):∀ (l:List α) (j:Nat),cset (n:Int) v j l=if j≤n then l.set (n - j) v else l
 | [],j=>by simp [cset]
 | x::l,j=>by
   rw [cset,xZgJ n v l (j+1)]
   by_cases h:n=j
   ·subst h
    have:ieq (n:Int) (Int.ofNat n)=true:=ieq_t.2 rfl
    rw [this,if_neg (by omega),if_pos (Nat.le_refl _),Nat.sub_self];rfl
   ·have:ieq (n:Int) (Int.ofNat j)=false:=by
     cases hh:ieq (n:Int) (Int.ofNat j) with
     | false=>rfl
     | true=>have:=ieq_t.1 hh;simp at this;omega
    rw [this]
    by_cases hj:j≤n
    ·rw [if_pos (by omega),if_pos hj,show n - j=n - (j+1)+1 by omega];rfl
    ·rw [if_neg (by omega),if_neg hj];rfl
theorem l_set {α:Type} (x:A102 α) (n:Nat) (v:α):(A102.set x (n:Int) v).l=x.l.set n v:=by rw [xZij,xZgJ,if_pos (Nat.zero_le _),Nat.sub_zero]
theorem l_len {α:Type} (x:A102 α):x.l.length=102:=rfl
theorem l_c {α:Type} (v:α):(A102.c v).l=List.replicate 102 v:=rfl
theorem ix_l {α:Type} (x:A102 α) {n:Nat} (h:n < 102) (d:α):ix x.l (n:Int)=some (x.l.getD n d):=by
 have:n < x.l.length:=by rw [l_len];exact h
 rw [ix_nat',List.getD,List.getElem?_eq_getElem this];rfl
theorem xZaC {α:Type} (l:List α) (n k:Nat) (v d:α) (hn:n < l.length):(l.set n v).getD k d=if k=n then v else l.getD k d:=by
 by_cases h:k=n
 ·subst h;rw [if_pos rfl];simp [List.getD,hn]
 ·rw [if_neg h];simp [List.getD,List.getElem?_set_ne (Ne.symm h)]
def eqc:List Bool→List Bool→Bool
 | [a],[b]=>a==b
 | a::r,b::s=>a==b&&eqc r s
 | _,_=>true
theorem xZkq (x y:A102 Bool):A102.eq x y=eqc x.l y.l:=rfl
theorem xZeF:∀ {l m:List Bool},l.length=m.length→(eqc l m=true ↔ l=m)
 | [],[],_=>by simp [eqc]
 | [a],[b],_=>by simp [eqc]
 | a::a'::r,b::b'::s,h=>by
   have ih:=xZeF (l:=a'::r) (m:=b'::s) (by simpa using h)
   rw [eqc,Bool.and_eq_true,ih]
   ·simp
   ·intro x y;cases x
 | [],_::_,h=>by simp at h
 | _::_,[],h=>by simp at h
 | [_],_::_::_,h=>by simp at h
 | _::_::_,[_],h=>by simp at h
def RS (s:A102 Bool) (S:Nat):Prop:=∀ i,i < 102→s.l.getD i false=S.testBit i
theorem xZiz {S:Nat} (h:S < 2 ^ 102) {i:Nat} (hi:102≤i):S.testBit i=false:=Nat.testBit_lt_two_pow (Nat.lt_of_lt_of_le h (Nat.pow_le_pow_right (by decide) hi))
theorem lt102 {S:Nat} (h:S < 2 ^ 101):S < 2 ^ 102:=Nat.lt_of_lt_of_le h (Nat.pow_le_pow_right (by decide) (by decide))
theorem RS.eqv {x y:A102 Bool} {S T:Nat} (hx:RS x S) (hy:RS y T) (hS:S < 2 ^ 102) (hT:T < 2 ^ 102):A102.eq x y=Nat.beq S T:=by
 rw [xZkq]
 by_cases h:S=T
 ·subst h
  rw [Nat.beq_refl,xZeF (by rw [l_len,l_len])]
  refine List.ext_getElem (by rw [l_len,l_len]) fun i h1 h2=>?_
  have a:=hx i (by rw [l_len] at h1;exact h1)
  have b:=hy i (by rw [l_len] at h1;exact h1)
  simp only [List.getD,List.getElem?_eq_getElem h1,List.getElem?_eq_getElem h2,Option.getD_some] at a b
  rw [a,b]
 ·have hb:Nat.beq S T=false:=by
   cases hh:Nat.beq S T with
   | false=>rfl
   | true=>exact absurd (Nat.eq_of_beq_eq_true hh) h
  rw [hb,Bool.eq_false_iff]
  intro hh
  have he:=(xZeF (by rw [l_len,l_len])).1 hh
  refine h (Nat.eq_of_testBit_eq fun i=>?_)
  by_cases hi:i < 102
  ·rw [← hx i hi,← hy i hi,he]
  ·rw [xZiz hS (by omega),xZiz hT (by omega)]
theorem xZfq:RS (A102.c false) 0:=fun i hi=>by
 rw [l_c,List.getD,List.getElem?_replicate,if_pos hi,Nat.zero_testBit];rfl
theorem RS.set {x:A102 Bool} {S k:Nat} (h:RS x S) (hk:k < 102):RS (A102.set x (k:Int) true) (S ||| 2 ^ k):=fun i hi=>by
 rw [l_set,xZaC _ _ _ _ _ (by rw [l_len];exact hk),Nat.testBit_or,Nat.testBit_two_pow,h i hi]
 by_cases he:i=k
 ·subst he;simp
 ·rw [if_neg he,decide_eq_false (fun h=>he h.symm),Bool.or_false]
theorem RS.clr {x:A102 Bool} {S k:Nat} (h:RS x S) (hk:k < 102) (h0:S.testBit k=false):RS (A102.set x (k:Int) false) S:=fun i hi=>by
 rw [l_set,xZaC _ _ _ _ _ (by rw [l_len];exact hk),h i hi]
 by_cases he:i=k
 ·subst he;rw [if_pos rfl,h0]
 ·rw [if_neg he]
theorem xZho {a b:A102 Bool} {S T:Nat} (ha:RS a S) (hb:RS b T):W (fun N=>xZ2x N a b) (RS · (S ||| T)):=by
 simp only [xZ2x]
 refine W.lp2 (N:=fun N=>N) (P:=fun i y=>∃ k:Nat,i=(k:Int)∧k≤102∧∀ j,j < 102→y.l.getD j false=if j < k then (S ||| T).testBit j else S.testBit j) (m:=fun i _=>102 - i.toNat)
  ⟨0,rfl,by omega,fun j hj=>by rw [if_neg (by omega),ha j hj]⟩ ?_
 rintro F i y ⟨k,rfl,hk,hy⟩ hn
 simp only [xZ5c]
 by_cases hlt:k < 102
 ·have hyk:=hy k hlt
  rw [if_neg (by omega)] at hyk
  have step:∀ v:Bool,v=(S ||| T).testBit k→W (fun p=>F p ((k:Int)+1) (A102.set y (k:Int) v)) (RS · (S ||| T)):=fun v hv=>by
   refine hn _ _ ⟨k+1,by omega,by omega,fun j hj=>?_⟩ (by omega)
   rw [l_set,xZaC _ _ _ _ _ (by rw [l_len];exact hlt)]
   by_cases he:j=k
   ·subst he;rw [if_pos rfl,if_pos (by omega),hv]
   ·rw [if_neg he,hy j hj]
    by_cases hjk:j < k
    ·rw [if_pos hjk,if_pos (by omega)]
    ·rw [if_neg hjk,if_neg (by omega)]
  simp only [show ltB (k:Int) 102=true from xZ15.2 (by omega),show leB 0 (k:Int)=true from xZT.2 (by omega),show i64b ((k:Int)+1)=true from xZ2f.2 (by omega),cond_true,xZS,ix_l y hlt false,ix_l b hlt false,Option.bind_some,hyk]
  rw [hb k hlt]
  cases hs:S.testBit k
  ·simp only [cond_false]
   exact step _ (by rw [Nat.testBit_or,hs,Bool.false_or])
  ·simp only [cond_true]
   exact step _ (by rw [Nat.testBit_or,hs,Bool.true_or])
 ·obtain rfl:k=102:=by omega
  simp only [show ltB ((102:Nat):Int) 102=false from rfl,cond_false,W.ret]
  intro j hj
  rw [hy j hj,if_pos hj]
theorem xZk9 {w:List (List UInt8)} {from_:A102 Bool} {S:Nat} (hw:w.length≤100) (hf:RS from_ S) (s:List UInt8):W (fun N=>xZ43 N from_ w s) (RS · (ovL s S 0 w 0)):=by
 simp only [xZ43]
 refine wf2a (l:=w) (fun pre y=>∃ acc,RS y acc∧acc < 2 ^ (pre.length+1)∧ovL s S pre.length (w.drop pre.length) acc=ovL s S 0 w 0) [] rfl rfl (by omega) ⟨0,xZfq,by decide,rfl⟩ ?_ ?_
 ·rintro F pre e rest y hl h1 h2 h3 ⟨acc,q1,q2,q3⟩ hn
  have hlen:pre.length+1≤w.length:=by rw [hl];simp
  have hd:w.drop pre.length=e::rest:=by rw [hl];simp
  have hd1:w.drop (pre++[e]).length=rest:=by rw [hl];simp
  rw [hd,ovL] at q3
  have h0:acc.testBit (pre.length+1)=false:=Nat.testBit_lt_two_pow q2
  have hx:=ix_l y (n:=pre.length+1) (by omega) false
  rw [show ((pre.length+1:Nat):Int)=(pre.length:Int)+1 by omega] at hx
  have hlt2:acc < 2 ^ (pre.length+1+1):=Nat.lt_of_lt_of_le q2 (Nat.pow_le_pow_right (by decide) (by omega))
  have clr:=q1.clr (k:=pre.length+1) (by omega) h0
  rw [show ((pre.length+1:Nat):Int)=(pre.length:Int)+1 by omega] at clr
  have st:=q1.set (k:=pre.length+1) (by omega)
  rw [show ((pre.length+1:Nat):Int)=(pre.length:Int)+1 by omega] at st
  simp only [xZ3Q,h1,h2,h3,cond_true,xZS,show leB 0 (pre.length:Int)=true from xZT.2 (by omega),show ltB (pre.length:Int) 102=true from xZ15.2 (by omega),ix_l from_ (show pre.length < 102 by omega) false,hf _ (show pre.length < 102 by omega),Option.bind_some,show leB 0 ((pre.length:Int)+1)=true from xZT.2 (by omega),show ltB ((pre.length:Int)+1) 102=true from xZ15.2 (by omega),hx]
  cases hb:S.testBit pre.length
  ·rw [hb] at q3
   simp only [Bool.and_false,cond_false] at q3 ⊢
   exact hn _ ⟨acc,clr,by simpa using hlt2,by rw [hd1];simpa using q3⟩
  ·rw [hb] at q3
   simp only [Bool.and_true,cond_true] at q3 ⊢
   cases he:e==s
   ·rw [he] at q3
    simp only [cond_false] at q3
    exact hn _ ⟨acc,clr,by simpa using hlt2,by rw [hd1];simpa using q3⟩
   ·rw [he] at q3
    simp only [cond_true] at q3
    exact hn _ ⟨acc ||| 2 ^ (pre.length+1),st,by simpa using Nat.or_lt_two_pow hlt2 (Nat.pow_lt_pow_right (by decide) (by omega)),by rw [hd1];simpa using q3⟩
 ·rintro F y h1 ⟨acc,q1,q2,q3⟩
  rw [List.drop_length,ovL] at q3
  simp only [xZ3Q,h1,cond_false,W.ret]
  rw [← q3];exact q1
theorem xZfg (s:List UInt8):∀ (i:Nat) (w:List (List UInt8)),ovL s 0 i w 0=0
 | _,[]=>rfl
 | i,x::r=>by rw [ovL,Nat.zero_testBit,Bool.and_false];exact xZfg s (i+1) r
theorem xZ98 (w:List (List UInt8)) (pl:List xZ2):∀ t:CT,t.bh w pl 0=0
 | .eps _=>rfl
 | .leaf p=>by rw [CT.bh];split;exact xZfg _ _ _;rfl
 | .cat _ a b=>by rw [CT.bh,xZ98 w pl a,xZ98 w pl b]
 | .or _ a b=>by rw [CT.bh,xZ98 w pl a,xZ98 w pl b];rfl
 | .loop _ a=>by rw [CT.bh,xZ98 w pl a,lpf,xZ98 w pl a];rfl
theorem xZb7 {pre post:List xZ1} {t:CT} {l:List xZ1} (hl:l=pre++(t.fl++post)) (hb:l.length≤1000000):W (fun N=>xZ1E N l (pre.length:Int)) (·=(t.fl.length:Int)):=by
 refine (xZb6 l pre.length hb).mp ?_
 rintro _ rfl
 have:=xZiF t
 have hlen:l.length=pre.length+(t.fl.length+post.length):=by rw [hl];simp
 rw [cz,if_neg (by omega),if_neg (by omega),Int.toNat_natCast,hl,List.drop_left,xZco t post 1 0 (by omega),if_pos rfl];omega
section
variable {c:xZ6} {w:List (List UInt8)}
def BHd (c:xZ6) (w:List (List UInt8)) (t:CT):Prop:=∀ (pre post:List xZ1) (S:Nat) (s:A102 Bool) (q:Int),q=(pre.length:Int)→S < 2 ^ 101→RS s S→c.Nodes=pre++(t.fl++post)→W (fun N=>(xZV N) c q s w) (RS · (t.bh w c.Places S))
theorem xZkf (hlen:c.Nodes.length≤1000) (hw:w.length≤100) (hv:∀ q∈c.Places,q.Var.length≤1000000000000000):∀ t:CT,t.pk c.Places.length→BHd c w t:=by
 have start:∀ (t:CT) (e:xZ1) (r:List xZ1),t.fl=e::r→∀ (pre post:List xZ1) (S:Nat) (s:A102 Bool) (q:Int),q=(pre.length:Int)→S < 2 ^ 101→RS s S→c.Nodes=pre++(t.fl++post)→(Nat.beq S 0=false→W (fun N=>bif (e.Kind==1) then some s else bif (e.Kind==2) then (ix c.Places e.Place).bind fun e2=>(xZ2U N e2.Neg e2.Var).bind fun lett=>(xZ43 N s w lett).bind fun over=>some over else
  gd (i64b (q+1)) (((xZV N) c (q+1) s w).bind fun behi=>gd (i64b (q+1)) (gd (i64b (q+1)) ((xZ1E N c.Nodes (q+1)).bind fun size=>gd (i64b ((q+1)+size)) (
  bif (e.Kind==3) then ((xZV N) c ((q+1)+size) behi w).bind fun behi2=>some behi2
  else bif (e.Kind==4) then ((xZV N) c ((q+1)+size) s w).bind fun behi3=>(xZ2x N behi behi3).bind fun unio=>some unio
  else lp2 (xZ2T N (xZV N) q w c.Nodes c.Places c.Within c.By c.Mode) N 0 behi))))) (RS · (t.bh w c.Places S)))→W (fun N=>(xZV N) c q s w) (RS · (t.bh w c.Places S)):=by
  intro t e r he pre post S s q hq hS hs hn hm
  have hix:ix c.Nodes q=some e:=by rw [hq,hn,he,ix_nat'];simp
  refine W.shift ?_
  show W (fun N=>xZ5F N (xZV N) _ _ _ _) _
  simp only [xZ5F,hix,Option.bind_some,hs.eqv xZfq (lt102 hS) (by decide)]
  cases h0:Nat.beq S 0
  ·simp only [cond_false]
   exact hm h0
  ·simp only [cond_true,W.ret]
   rw [Nat.eq_of_beq_eq_true h0,xZ98]
   rw [Nat.eq_of_beq_eq_true h0] at hs
   exact hs
 intro t
 induction t with
 | eps p=>
   intro _ pre post S s q hq hS hs hn
   refine start _ _ _ rfl pre post S s q hq hS hs hn fun _=>?_
   simp only [show ((1:Int)==1)=true from rfl,cond_true,W.ret]
   exact hs
 | leaf p=>
   intro hp pre post S s q hq hS hs hn
   refine start _ _ _ rfl pre post S s q hq hS hs hn fun _=>?_
   obtain ⟨e,he1,he2⟩:=ix_lt hp.1 hp.2
   have hbh:CT.bh w c.Places (.leaf p) S=ovL (ltr e.Neg e.Var) S 0 w 0:=by rw [CT.bh,he2]
   simp only [show ((2:Int)==1)=false from rfl,show ((2:Int)==2)=true from rfl,cond_true,cond_false,he1,Option.bind_some,xZg4 _ _ (hv e (List.mem_of_getElem? he2))]
   rw [hbh]
   refine W.call (xZk9 hw hs _) fun r hr=>?_
   exact W.ret.2 hr
 | cat p a b iha ihb=>
   intro hp pre post S s q hq hS hs hn
   refine start _ _ _ rfl pre post S s q hq hS hs hn fun _=>?_
   have hn1:c.Nodes=(pre++[⟨3,p⟩])++(a.fl++(b.fl++post)):=by rw [hn];simp [CT.fl]
   have hn2:c.Nodes=(pre++[⟨3,p⟩]++a.fl)++(b.fl++post):=by rw [hn];simp [CT.fl]
   have hl2:=congrArg List.length hn2
   simp only [List.length_append,List.length_cons,List.length_nil] at hl2
   have g1:i64b (q+1)=true:=xZ2f.2 (by omega)
   simp only [show ((3:Int)==1)=false from rfl,show ((3:Int)==2)=false from rfl,show ((3:Int)==3)=true from rfl,cond_true,cond_false,g1,xZS]
   have hS1:=bh_lt w c.Places (show w.length < 101 by omega) a S hS
   have hsz:=xZb7 (l:=c.Nodes) hn1 (by omega)
   rw [show ((pre++[(⟨3,p⟩:xZ1)]).length:Int)=q+1 by simp;omega] at hsz
   refine W.bind (iha hp.1 _ _ S s (q+1) (by simp;omega) hS hs hn1) fun r hr=>?_
   refine W.call hsz ?_
   rintro _ rfl
   refine W.gd.2 ⟨xZ2f.2 (by omega),?_⟩
   refine W.bind (ihb hp.2 _ _ _ r (q+1+(a.fl.length:Int)) (by simp;omega) hS1 hr hn2) fun r hr=>?_
   exact W.ret.2 hr
 | or p a b iha ihb=>
   intro hp pre post S s q hq hS hs hn
   refine start _ _ _ rfl pre post S s q hq hS hs hn fun _=>?_
   have hn1:c.Nodes=(pre++[⟨4,p⟩])++(a.fl++(b.fl++post)):=by rw [hn];simp [CT.fl]
   have hn2:c.Nodes=(pre++[⟨4,p⟩]++a.fl)++(b.fl++post):=by rw [hn];simp [CT.fl]
   have hl2:=congrArg List.length hn2
   simp only [List.length_append,List.length_cons,List.length_nil] at hl2
   have g1:i64b (q+1)=true:=xZ2f.2 (by omega)
   simp only [show ((4:Int)==1)=false from rfl,show ((4:Int)==2)=false from rfl,show ((4:Int)==3)=false from rfl,show ((4:Int)==4)=true from rfl,cond_true,cond_false,g1,xZS]
   have hsz:=xZb7 (l:=c.Nodes) hn1 (by omega)
   rw [show ((pre++[(⟨4,p⟩:xZ1)]).length:Int)=q+1 by simp;omega] at hsz
   refine W.bind (iha hp.1 _ _ S s (q+1) (by simp;omega) hS hs hn1) fun r hr=>?_
   refine W.call hsz ?_
   rintro _ rfl
   refine W.gd.2 ⟨xZ2f.2 (by omega),?_⟩
   refine W.bind (ihb hp.2 _ _ _ s (q+1+(a.fl.length:Int)) (by simp;omega) hS hs hn2) fun r' hr'=>?_
   refine W.call (xZho hr hr') fun r hr=>?_
   exact W.ret.2 hr
 | loop p a iha=>
   intro hp pre post S s q hq hS hs hn
   refine start _ _ _ rfl pre post S s q hq hS hs hn fun _=>?_
   have hn1:c.Nodes=(pre++[⟨5,p⟩])++(a.fl++post):=by rw [hn];simp [CT.fl]
   have hl1:=congrArg List.length hn1
   simp only [List.length_append,List.length_cons,List.length_nil] at hl1
   have g1:i64b (q+1)=true:=xZ2f.2 (by omega)
   simp only [show ((5:Int)==1)=false from rfl,show ((5:Int)==2)=false from rfl,show ((5:Int)==3)=false from rfl,show ((5:Int)==4)=false from rfl,cond_true,cond_false,g1,xZS]
   have hlt:=fun s hs=>bh_lt w c.Places (show w.length < 101 by omega) a s hs
   have hsz:=xZb7 (l:=c.Nodes) hn1 (by omega)
   rw [show ((pre++[(⟨5,p⟩:xZ1)]).length:Int)=q+1 by simp;omega] at hsz
   refine W.bind (iha hp _ _ S s (q+1) (by simp;omega) hS hs hn1) fun r hr=>?_
   refine W.call hsz ?_
   rintro _ rfl
   refine W.gd.2 ⟨xZ2f.2 (by omega),?_⟩
   refine W.lp2 (N:=fun N=>N) (P:=fun i y=>∃ (k T:Nat),i=(k:Int)∧k≤102∧RS y T∧T < 2 ^ 101∧lpf (a.bh w c.Places) (102 - k) T=CT.bh w c.Places (.loop p a) S) (m:=fun i _=>102 - i.toNat)
    ⟨0,_,rfl,by omega,hr,hlt S hS,rfl⟩ ?_
   rintro F i y ⟨k,T,rfl,hk,hy,hT,hL⟩ hnx
   simp only [xZ2T]
   by_cases hkl:k < 102
   ·simp only [show ltB (k:Int) 102=true from xZ15.2 (by omega),cond_true,g1,xZS]
    have hc:=iha hp _ _ T y (q+1) (by simp;omega) hT hy hn1
    refine W.bind (W.lift hc) fun r hr=>?_
    refine W.call (xZho hy hr) fun r2 hr2=>?_
    have hf:=hlt T hT
    have hol:=Nat.or_lt_two_pow hT hf
    rw [show 102 - k=102 - (k+1)+1 by omega,lpf] at hL
    simp only [hr2.eqv hy (lt102 hol) (lt102 hT)]
    cases hb:Nat.beq (T ||| a.bh w c.Places T) T
    ·rw [hb] at hL
     simp only [cond_false] at hL ⊢
     refine W.gd.2 ⟨xZ2f.2 (by omega),hnx _ _ ⟨k+1,_,by omega,by omega,hr2,hol,hL⟩ (by omega)⟩
    ·rw [hb] at hL
     simp only [cond_true] at hL ⊢
     rw [← hL]
     exact W.ret.2 hy
   ·obtain rfl:k=102:=by omega
    simp only [show ltB ((102:Nat):Int) 102=false from rfl,cond_false,W.ret]
    rw [Nat.sub_self,lpf] at hL
    rw [← hL];exact hy
end
theorem xZhn (c:xZ6) (hl:c.Nodes.length≤1000000):W (fun N=>xZ41 N c) (·=fineB c):=by
 simp only [xZ41,fineB]
 cases h3:((c.Nodes.length:Int)==0)
 rotate_left
 ·simp only [cond_true,Bool.not_true,Bool.false_and,Bool.and_false,W.ret]
 simp only [cond_false,Bool.not_false,Bool.true_and]
 by_cases h1:200 < c.Nodes.length
 ·have:Nat.ble c.Nodes.length 200=false:=by
   cases h:Nat.ble c.Nodes.length 200 with
   | false=>rfl
   | true=>have:=Nat.le_of_ble_eq_true h;omega
  simp only [show ltB 200 (c.Nodes.length:Int)=true from xZ15.2 (by omega),cond_true,this,Bool.false_and,W.ret]
 simp only [show ltB 200 (c.Nodes.length:Int)=false from xZ3i.2 (by omega),cond_false,show Nat.ble c.Nodes.length 200=true from Nat.ble_eq_true_of_le (by omega),Bool.true_and]
 refine W.call (xZb6 _ _ hl) ?_
 rintro _ rfl
 by_cases h2:cz c.Nodes 0=(c.Nodes.length:Int)
 rotate_left
 ·simp only [show (cz c.Nodes 0 != (c.Nodes.length:Int))=true by simpa using h2,cond_true,show (cz c.Nodes 0==(c.Nodes.length:Int))=false by simpa using h2,Bool.false_and,W.ret]
 simp only [show (cz c.Nodes 0 != (c.Nodes.length:Int))=false by simpa using h2,cond_false,show (cz c.Nodes 0==(c.Nodes.length:Int))=true by simpa using h2,Bool.true_and]
 refine wf1 (l:=c.Nodes) (fun pre=>pre.all (okCn c.Places.length)=true) [] rfl rfl (by omega) rfl ?_ ?_
 ·rintro F pre e rest hl' k1 k2 k3 hp hn
  have nx:okCn c.Places.length e=true→W (fun p=>F p ((pre.length:Int)+1)) (·=c.Nodes.all (okCn c.Places.length)):=fun ho=>hn (by rw [List.all_append,hp];simp [ho])
  have no:okCn c.Places.length e=false→c.Nodes.all (okCn c.Places.length)=false:=fun ho=>by rw [hl'];simp [ho]
  obtain ⟨K,p⟩:=e
  have e1:ltB K 1=!leB 1 K:=rfl
  have e2:ltB 5 K=!leB K 5:=rfl
  have e3:ltB p 0=!leB 0 p:=rfl
  have e4:leB (c.Places.length:Int) p=!ltB p (c.Places.length:Int):=by simp [ltB]
  simp only [okCn] at nx no
  simp only [xZ3O,k1,k2,Option.bind_some,cond_true,k3,xZS,e1,e2,e3,e4]
  cases q1:leB 1 K
  ·rw [q1] at no;simp only [Bool.not_false,cond_true,W.ret];exact (no rfl).symm
  cases q2:leB K 5
  ·rw [q1,q2] at no;simp only [Bool.not_false,Bool.not_true,cond_true,cond_false,W.ret];exact (no rfl).symm
  rw [q1,q2] at no nx
  simp only [Bool.not_true,cond_false]
  cases q3:(K==2)
  ·rw [q3] at nx;simp only [cond_false];exact nx rfl
  rw [q3] at no nx
  simp only [cond_true]
  cases q4:leB 0 p
  ·rw [q4] at no;simp only [Bool.not_false,cond_true,W.ret];exact (no rfl).symm
  rw [q4] at no nx
  simp only [Bool.not_true,cond_false]
  cases q5:ltB p (c.Places.length:Int)
  ·rw [q5] at no;simp only [Bool.not_false,cond_true,W.ret];exact (no rfl).symm
  ·rw [q5] at nx;simp only [Bool.not_true,cond_false];exact nx rfl
 ·rintro F k1 hp
  simp only [xZ3O,k1,cond_false,W.ret]
  exact hp.symm
theorem xZl5:RS (A102.set (A102.c false) 0 true) 1:=by
 have:=xZfq.set (k:=0) (by decide)
 exact this
theorem xZfH (c:xZ6) (w:List (List UInt8)) (hl:c.Nodes.length≤1000000) (hv:∀ q∈c.Places,q.Var.length≤1000000000000000):W (fun N=>xZ3g N c w) (·=accB c w):=by
 simp only [xZ3g]
 refine W.call (xZhn c hl) ?_
 rintro _ rfl
 cases hf:fineB c
 ·simp only [Bool.not_false,cond_true,W.ret]
  rw [accB,hf];rfl
 simp only [Bool.not_true,cond_false]
 by_cases hw:100 < w.length
 ·have:Nat.ble w.length 100=false:=by
   cases h:Nat.ble w.length 100 with
   | false=>rfl
   | true=>have:=Nat.le_of_ble_eq_true h;omega
  simp only [show ltB 100 (w.length:Int)=true from xZ15.2 (by omega),cond_true,W.ret]
  rw [accB,hf,this];rfl
 simp only [show ltB 100 (w.length:Int)=false from xZ3i.2 (by omega),cond_false]
 obtain ⟨h1,t,h2,h3⟩:=xZaA hf
 refine W.call (f:=fun N=>xZ65 N c 0 (A102.set (A102.c false) 0 true) w) (xZkf (c:=c) (w:=w) (by omega) (by omega) hv t h3 [] [] 1 _ 0 rfl (by decide) xZl5 (by rw [h2];simp)) fun r hr=>?_
 simp only [ix_l r (show w.length < 102 by omega) false,Option.bind_some,W.ret,hr _ (show w.length < 102 by omega)]
 rw [xZis hf h2 h1 (by omega)]
end
theorem W.sub {ι:Type} [Lim ι] {α:Type} {f:ι→Option α} {Q:α→Prop} (h:W f Q):W f fun _=>True:=h.mp fun _ _=>trivial
def CT.kd:CT→List CT
 | .eps _=>[]
 | .leaf _=>[]
 | .cat _ a b=>[a,b]
 | .or _ a b=>[a,b]
 | .loop _ a=>[a]
theorem ct_kd (t:CT):∃ e,t.fl=e::CT.fls t.kd∧kc e.Kind=(t.kd.length:Int)∧t.kd.length≤2:=by
 cases t with
 | eps p=>exact ⟨_,rfl,rfl,by simp [CT.kd]⟩
 | leaf p=>exact ⟨_,rfl,rfl,by simp [CT.kd]⟩
 | cat p a b=>exact ⟨_,by simp [CT.fl,CT.kd,CT.fls];rfl,rfl,by simp [CT.kd]⟩
 | or p a b=>exact ⟨_,by simp [CT.fl,CT.kd,CT.fls];rfl,rfl,by simp [CT.kd]⟩
 | loop p a=>exact ⟨_,by simp [CT.fl,CT.kd,CT.fls];rfl,rfl,by simp [CT.kd]⟩
theorem xZ9g (a b:List CT):CT.fls (a++b)=CT.fls a++CT.fls b:=by
 induction a with
 | nil=>rfl
 | cons x a ih=>simp only [List.cons_append,CT.fls,ih,List.append_assoc]
def LPd (l:List xZ1) (t:CT):Prop:=∀ (pre post:List xZ1),l=pre++(t.fl++post)→W (fun N=>(xZ3s N) l (pre.length:Int)) fun r=>0≤r∧r≤(t.fl.length:Int)
theorem xZ9o {l:List xZ1} (hl:l.length≤1000) (t:CT) (ih:∀ a∈t.kd,LPd l a):LPd l t:=by
 intro pre post hn
 obtain ⟨e,he,hk,hk2⟩:=ct_kd t
 have hix:ix l (pre.length:Int)=some e:=by rw [hn,he,ix_nat'];simp
 have hlen:=congrArg List.length hn
 simp only [List.length_append,he,List.length_cons] at hlen
 refine W.shift ?_
 show W (fun N=>xZ6w N (xZ3s N) _ _) _
 simp only [xZ6w,W.gd,xZ2f]
 refine ⟨by omega,?_⟩
 refine W.lp3 (N:=fun N=>N) (P:=fun out nx i=>∃ bs1 bs2,t.kd=bs1++bs2∧i=(bs1.length:Int)∧nx=((pre.length+1+(CT.fls bs1).length:Nat):Int)∧0≤out∧out≤((CT.fls bs1).length:Int)) (m:=fun _ _ i=>t.kd.length - i.toNat)
  ⟨[],t.kd,rfl,rfl,by simp [CT.fls],by omega,by simp [CT.fls]⟩ ?_
 rintro F out nx i ⟨bs1,bs2,hs,rfl,rfl,o1,o2⟩ hnx
 simp only [xZ5b,hix,Option.bind_some,xZgP,hk]
 cases bs2 with
 | cons b bs2=>
   have hbl:t.kd.length=bs1.length+(bs2.length+1):=by rw [hs];simp
   have hfl:CT.fls t.kd=CT.fls bs1++(b.fl++CT.fls bs2):=by rw [hs,xZ9g,CT.fls]
   have hfll:=congrArg List.length hfl
   simp only [List.length_append] at hfll
   have hb:l=(pre++[e]++CT.fls bs1)++(b.fl++(CT.fls bs2++post)):=by rw [hn,he,hfl];simp
   have hpl:(pre++[e]++CT.fls bs1).length=pre.length+1+(CT.fls bs1).length:=by simp;omega
   have h1:=ih b (by rw [hs];simp) _ _ hb
   have h2:=xZb7 hb (by omega)
   rw [hpl] at h1 h2
   simp only [show ltB (bs1.length:Int) (t.kd.length:Int)=true from xZ15.2 (by omega),cond_true]
   refine W.bind (W.lift h1) fun r hr=>?_
   refine W.call h2 ?_
   rintro _ rfl
   simp only [W.gd,xZ2f]
   refine ⟨by omega,by omega,hnx _ _ _ ⟨bs1++[b],bs2,by rw [hs];simp,by simp,by rw [xZ9g];simp [CT.fls];omega,by omega,?_⟩ (by omega)⟩
   rw [xZ9g];simp [CT.fls];omega
 | nil=>
   rw [List.append_nil] at hs
   subst hs
   simp only [xZ9p,cond_false]
   refine W.cond.2 ⟨fun _=>W.gd.2 ⟨xZ2f.2 (by omega),W.ret.2 ?_⟩,fun _=>W.ret.2 ?_⟩
   ·rw [he];simp only [List.length_cons];omega
   ·rw [he];simp only [List.length_cons];omega
theorem lpd {l:List xZ1} (hl:l.length≤1000):∀ t:CT,LPd l t:=by
 intro t
 induction t with
 | eps p=>exact xZ9o hl _ fun a ha=>by cases ha
 | leaf p=>exact xZ9o hl _ fun a ha=>by cases ha
 | cat p a b iha ihb=>exact xZ9o hl _ fun x hx=>by simp [CT.kd] at hx;rcases hx with rfl | rfl<;>assumption
 | or p a b iha ihb=>exact xZ9o hl _ fun x hx=>by simp [CT.kd] at hx;rcases hx with rfl | rfl<;>assumption
 | loop p a iha=>exact xZ9o hl _ fun x hx=>by simp [CT.kd] at hx;subst hx;exact iha
def cT (c:xZ6):Prop:=c.Nodes.length≤250∧c.Places.length≤40∧∀ p∈c.Places,p.Var.length≤40∧p.Test.length≤40
theorem xZk3 (c:xZ6) (hlenN:c.Nodes.length≤9223372036854775807) (hlenP:c.Places.length≤9223372036854775807) (ht:∀ q∈c.Places,okL (fun n:xZ0=>okS n.Val.Text) q.Test):W (fun N=>xZ38 N c) fun b=>¬ 0 < b→cT c:=by
 simp only [xZ38,W.cond,W.ret,xZ15,xZ3i]
 refine ⟨fun h h2=>absurd (by omega) h2,fun g1=>⟨fun h h2=>absurd (by omega) h2,fun g2=>⟨fun h h2=>absurd (by omega) h2,fun g3=>?_⟩⟩⟩
 refine wf1 (l:=c.Places) (fun pre=>∀ n∈pre,n.Var.length≤40∧n.Test.length≤40) [] rfl rfl (by omega) (by simp) ?_ ?_
 ·intro F pre e rest hl' h1 h2 h3 hq hn
  simp only [xZ3M,h1,h2,h3,Option.bind_some,cond_true,W.cond,W.ret,xZS,xZ15,xZ3i]
  refine ⟨fun _ h=>absurd (by omega) h,fun h40=>⟨fun _ h=>absurd (by omega) h,fun h41=>?_⟩⟩
  refine W.call (xZk7 e.Test (ht e (by rw [hl'];simp))) fun b hb=>?_
  simp only [W.cond,W.ret,xZ15,xZ3i]
  refine ⟨fun _ h=>absurd (by omega) h,fun hb0=>hn fun t ht=>?_⟩
  rcases List.mem_append.1 ht with ht | ht
  ·exact hq t ht
  ·rw [List.mem_singleton.1 ht];exact ⟨by omega,(hb (by omega)).1⟩
 ·intro F h1 hq
  have hc:cT c:=⟨by omega,by omega,hq⟩
  simp only [xZ3M,h1,cond_false]
  refine W.call (xZhn ⟨c.Nodes,c.Places,c.Within,c.By,c.Mode⟩ (by show c.Nodes.length≤_;omega)) ?_
  rintro _ rfl
  cases hf:fineB ⟨c.Nodes,c.Places,c.Within,c.By,c.Mode⟩
  ·simp only [cond_false,W.ret];exact fun _=>hc
  ·obtain ⟨_,t,h2,_⟩:=xZaA hf
   simp only at h2
   simp only [cond_true]
   refine W.call (f:=fun N=>xZ6I N c.Nodes 0) (lpd (l:=c.Nodes) (by omega) t [] [] (by rw [h2];simp)) fun r _=>?_
   refine W.cond.2 ⟨fun _=>W.ret.2 fun _=>hc,fun _=>W.ret.2 fun _=>hc⟩
theorem xZm8 (w:List (List UInt8)) (hl:w.length≤9223372036854775807):W (fun N=>xZ61 N w) fun b=>¬ 0 < b→w.length≤120:=by
 simp only [xZ61,W.cond,W.ret,xZ15,xZ3i]
 refine ⟨fun h h2=>absurd (by omega) h2,fun g1=>?_⟩
 refine wf1 (l:=w) (fun pre=>True) [] rfl rfl (by omega) trivial ?_ ?_
 ·intro F pre e rest hl' h1 h2 h3 _ hn
  simp only [xZ3L,h1,h2,h3,Option.bind_some,cond_true,W.cond,W.ret,xZS,xZ15,xZ3i]
  exact ⟨fun _ h=>absurd (by omega) h,fun _=>hn trivial⟩
 ·intro F h1 _
  simp only [xZ3L,h1,cond_false,W.ret]
  exact fun _=>by omega
theorem xZgB {ι:Type} [Lim ι] (N:ι→Nat):W (fun i=>(xZ1X (N i)).bind fun a=>some a) (·=true):=by
 simp only [xZ1X,Option.bind_some,W.ret]
section
open Go Classical
theorem xZ9i (l:xZ67) (w:List (List UInt8)) (vat:Int) (hl:xZ9u l) (hw:okL okS w) (_:inK .i64 vat):W (fun N=>xZ1M N l w vat) (·=true):=by
 have ov:∀ c:xZ6,xZ5U c→W (fun N=>xZ38 N c) fun b=>¬ 0 < b→cT c:=fun c hc=>xZk3 c hc.1.2 hc.2.1.2 fun q hq=>⟨fun n hn=>((hc.2.1.1 q hq).2.2.2.1 n hn).2.2.2.2.2.2.2,(hc.2.1.1 q hq).2.2.2.2⟩
 simp only [xZ1M]
 refine W.call (ov l.i0 hl.1) fun b hb=>?_
 refine W.cond.2 ⟨fun _=>xZgB _,fun hb0=>?_⟩
 obtain ⟨a1,a2,a3⟩:=hb (by have:=xZ3i.1 hb0;omega)
 refine W.call (ov l.i1 hl.2) fun b hb=>?_
 refine W.cond.2 ⟨fun _=>xZgB _,fun hb0=>?_⟩
 obtain ⟨b1,b2,b3⟩:=hb (by have:=xZ3i.1 hb0;omega)
 refine W.call (xZm8 w hw.2) fun b hb=>?_
 refine W.cond.2 ⟨fun _=>xZgB _,fun hb0=>?_⟩
 have ha:cB l.i0:=⟨by omega,by omega,fun p hp=>by have:=(a3 p hp).2;omega⟩
 have hbb:cB l.i1:=⟨by omega,by omega,fun p hp=>by have:=(b3 p hp).2;omega⟩
 have hv:∀ q∈l.i0.Places,q.Var.length≤1000000000000000:=fun q hq=>by have:=(a3 q hq).1;omega
 refine W.call (xZk4 _ ha) ?_
 rintro _ rfl
 refine W.call (xZk4 _ hbb) ?_
 rintro _ rfl
 refine W.call (xZbT _ w (by omega) hv) ?_
 rintro _ rfl
 refine W.call (xZfH _ w (by omega) hv) ?_
 rintro _ rfl
 simp only [beq_self_eq_true,cond_true]
 refine W.call (xZk5 _ _ ha) ?_
 rintro _ rfl
 refine W.call (xZgC _ _ ha) ?_
 rintro _ rfl
 simp only [beq_self_eq_true,cond_true]
 refine W.call (xZfF _ _ ha.1) ?_
 rintro _ rfl
 refine W.call (xZb6 _ _ ha.1) ?_
 rintro _ rfl
 simp only [beq_self_eq_true,cond_true]
 exact xZgB _
end
end Go.Proofs.YtmllclbhdmajmaaGreat.A
