/- Patterns as text: what a text's tokens are read as; the program's reader. No premise beyond what each theorem says. -/
import Derived.Test.YtahklhniofiofaaGreatDoorEP1
set_option linter.all false
set_option linter.unusedSimpArgs false
set_option linter.unusedVariables false
namespace Go.Proofs.YtahklhniofiofaaGreatDoor.E
open Go
section
def tG (n:xZ1):Prop:=okN n.Test∧n.Test.length≤700
def tR:RG→Prop
 | .inl _=>True
 | .inr (l,_)=>∀ n∈l,tG n
theorem xZiy:okN []:=fun m h=>by cases h
section
variable {y:List xZ0} {e:Int}
theorem xZlt (hy:y.length≤700) (ht:okT y) (k:Int) (i:Nat):tR (atomS y e k i):=by
 unfold atomS
 split
 ·split
  ·split
   ·split
    ·rename_i h1 h2 h3 h4
     have l4:=xZ1m (by decide) (xZ1j h4).1
     cases hq:PAR y (i+4) e with
     | inl x=>trivial
     | inr p=>
       obtain ⟨l,j⟩:=p
       have hl:=xZjx hy (by omega) hq
       have ho:okN l:=by
        have:=(SPP_l ht 51).1 0 (i+4)
        unfold PAR at hq
        cases hs:(SPP y 51).1 0 (i+4) with
        | inl x=>rw [hs] at hq;cases hq
        | inr p=>
          rw [hs] at hq this
          simp only at hq
          split at hq
          ·cases hq;exact this
          ·cases hq
       simp only
       split
       ·intro n hn;rw [List.mem_singleton.1 hn];exact ⟨ho,by show l.length≤700;omega⟩
       ·trivial
    ·intro n hn;rw [List.mem_singleton.1 hn];exact ⟨xZiy,by simp⟩
   ·trivial
  ·trivial
 ·trivial
theorem xZnl {l:List xZ1} (h:∀ n∈l,tG n):∀ (o:(Int×Int)⊕(Option (Int×Int)×Nat)),tR (oftR l o)
 | .inl _=>trivial
 | .inr (none,j)=>h
 | .inr (some (a,b),j)=>fun n hn=>by
   rcases List.mem_cons.1 hn with rfl | hn
   ·exact ⟨xZiy,by simp [repN]⟩
   ·exact h n hn
theorem itS_t (hy:y.length≤700) (ht:okT y) {b:Int→Nat→RG} (hb:∀ d j,tR (b d j)) (d:Int) (i:Nat):tR (itS y e b d i):=by
 unfold itS
 split
 ·exact xZlt hy ht 5 (i+1)
 ·split
  ·split
   ·trivial
   ·have:=hb (d+1) (i+1)
    cases h:b (d+1) (i+1) with
    | inl x=>trivial
    | inr p=>
      obtain ⟨l,j⟩:=p
      rw [h] at this
      simp only
      split
      ·exact xZnl this _
      ·trivial
  ·have:=xZlt (e:=e) hy ht 4 i
   cases h:atomS y e 4 i with
   | inl x=>trivial
   | inr p=>rw [h] at this;exact xZnl this _
theorem hdN_t {k:Int} {s:Int×List xZ1} (h:∀ n∈s.2,tG n):∀ n∈hdN k s,tG n:=fun n hn=>by
 rcases List.mem_cons.1 hn with rfl | hn
 ·exact ⟨xZiy,by simp⟩
 ·exact h n hn
theorem xZo1 {k:Int} {s:Int×List xZ1} {l:List xZ1} (h:∀ n∈s.2,tG n) (hl:∀ n∈l,tG n):∀ n∈(addG k s l).2,tG n:=by
 cases l with
 | nil=>exact h
 | cons a r=>
   by_cases hk:a.Kind=k
   ·intro n hn
    rw [addG,if_pos hk] at hn
    rcases List.mem_append.1 hn with hn | hn
    ·exact h n hn
    ·exact hl n (List.mem_cons_of_mem _ hn)
   ·intro n hn
    rw [addG,if_neg hk] at hn
    rcases List.mem_append.1 hn with hn | hn
    ·exact h n hn
    ·exact hl n hn
theorem lpS_t {k:Int} {sep:List UInt8} {f:Nat→RG} (hf:∀ j,tR (f j)):∀ (n:Nat) (s:Int×List xZ1) (j:Nat),(∀ n∈s.2,tG n)→tR (lpS y k sep f n s j)
 | 0,s,j,h=>hdN_t h
 | n+1,s,j,h=>by
   unfold lpS
   split
   ·have:=hf (j+1)
    cases g:f (j+1) with
    | inl x=>trivial
    | inr p=>rw [g] at this;exact lpS_t hf n _ _ (xZo1 h this)
   ·exact hdN_t h
theorem lsS_t {k:Int} {sep:List UInt8} {f:Nat→RG} (hf:∀ j,tR (f j)) (i:Nat):tR (lsS y k sep f i):=by
 have:=hf i
 unfold lsS
 cases g:f i with
 | inl x=>trivial
 | inr p=>
   rw [g] at this
   simp only
   split
   ·exact lpS_t hf _ _ _ (xZo1 (fun n hn=>by cases hn) this)
   ·exact this
theorem SB_t (hy:y.length≤700) (ht:okT y):∀ (n:Nat) (d:Int) (i:Nat),tR (SB y e n d i)
 | 0,d,i=>trivial
 | n+1,d,i=>lsS_t (fun j=>lsS_t (fun m=>itS_t hy ht (SB_t hy ht n) d m) j) i
end
section
variable (y:List xZ0) (e:Int)
def modS (j:Nat):Int:=if isT' y j 2 (wdS 1)=true then 1 else if isT' y j 2 (wdS 2)=true then 2 else if isT' y j 2 (wdS 3)=true then 3 else 0
def cntP (l:List xZ1) (w:Int) (b:List UInt8) (j:Nat):(Int×Int)⊕xZ5:=if modS y j=0 then .inl (4,plc y e j) else if j+1 < y.length then .inl (4,plc y e (j+1)) else .inr ⟨l,w,b,modS y j⟩
def patS:(Int×Int)⊕xZ5:=match SB y e 17 0 0 with
 | .inl x=>.inl x
 | .inr (l,j)=>if isT' y j 2 [119,105,116,104,105,110]=true then (match numS y (j+1) with
    | none=>.inl (4,plc y e (j+1))
    | some w=>if isT' y (j+2) 2 [98,121]=true then (if (tk y (j+3)).Kind=1 then cntP y e l w (tk y (j+3)).Text (j+4) else .inl (4,plc y e (j+3))) else cntP y e l w [] (j+2))
   else .inl (4,plc y e j)
end
section
variable {y:List xZ0} {e:Int}
theorem xZo2 {j:Nat} {m:Int} (h1:1≤m) (h3:m≤3) (hb:∀ a:Int,1≤a→a < m→isT' y j 2 (wdS a)=false) (h:isT' y j 2 (wdS m)=true):modS y j=m:=by
 unfold modS
 rcases (show m=1∨m=2∨m=3 by omega) with rfl | rfl | rfl
 ·rw [if_pos h]
 ·rw [hb 1 (by omega) (by omega),if_neg (by decide),if_pos h]
 ·rw [hb 1 (by omega) (by omega),hb 2 (by omega) (by omega),if_neg (by decide),if_neg (by decide),if_pos h]
theorem xZnq {j:Nat} (hb:∀ a:Int,1≤a→a < 4→isT' y j 2 (wdS a)=false):modS y j=0:=by
 unfold modS
 rw [hb 1 (by omega) (by omega),hb 2 (by omega) (by omega),hb 3 (by omega) (by omega)];rfl
theorem xZnx {q:Nat} (hq:q≤1000):W (fun N=>xZw N y q e) (fun r=>if modS y q=0 then ∃ j:Int,r=.inr (4,plc y e q,y,j,e) else r=.inl (modS y q,y,((q+1:Nat):Int),e)):=by
 simp only [xZw]
 refine W.lp4 (P:=fun v0 v1 v2 v3=>1≤v0∧v0≤4∧v1=y∧v2=(q:Int)∧v3=e∧∀ a:Int,1≤a→a < v0→isT' y q 2 (wdS a)=false) (m:=fun v0 _ _ _=>(4 - v0).toNat) ⟨by omega,by omega,rfl,rfl,rfl,fun a h1 h2=>by omega⟩ ?_
 rintro F v0 v1 v2 v3 ⟨h1,h2,rfl,rfl,rfl,hb⟩ hn
 simp only [xZ1x]
 by_cases h3:v0≤3
 ·simp only [show leB v0 3=true from xZ1e.2 h3,cond_true,e_wd,Option.bind_some,xZ85 (y:=v1) (i:=q) (e:=v3) (show (2:Int)≠0 by decide) _ (show q≤1000000 by omega)]
  by_cases hs:isT' v1 q 2 (wdS v0)=true
  ·simp only [hs,if_true,cond_true,W.ret]
   have:=xZo2 h1 h3 hb hs
   rw [if_neg (by omega),this]
  ·have hs':isT' v1 q 2 (wdS v0)=false:=by simpa using hs
   simp only [hs',Bool.false_eq_true,if_false,cond_false]
   have hw:IntKind.u8.wrap (v0+1)=v0+1:=by
    rcases (show v0=1∨v0=2∨v0=3 by omega) with rfl | rfl | rfl<;>rfl
   rw [hw]
   refine hn _ _ _ _ ⟨by omega,by omega,rfl,rfl,rfl,fun a a1 a2=>?_⟩ (by omega)
   by_cases ha:a=v0
   ·subst ha;exact hs'
   ·exact hb a a1 (by omega)
 ·obtain rfl:v0=4:=by omega
  simp only [show leB (4:Int) 3=false from rfl,cond_false,xZax (y:=v1) (i:=q) (e:=v3) (show (4:Int)≠0 by decide),Option.bind_some,Sum.elim_inr,W.ret]
  rw [if_pos (xZnq hb)]
  exact ⟨_,rfl⟩
def EP (y:List xZ0) (e:Int):(Int×Int)⊕xZ5→(xZ5×List xZ0×Int×Int)⊕ErG→Prop
 | .inl (c,a),r=>∃ j:Int,r=.inr (c,a,y,j,e)
 | .inr p,r=>∃ j:Int,r=.inl (p,y,j,e)
theorem xZov {l:List xZ1} {w:Int} {b:List UInt8} {j:Nat} (hj:j≤1000):W (fun N=>(xZw N y j e).bind fun x=>Sum.elim
 (fun mode=>bif (ltB mode.2.2.1 (List.length mode.2.1:Int)) then
   (xZd N 4 mode.2.1 mode.2.2.1 mode.2.2.2).bind fun x=>Sum.elim
   (fun fail=>some (Sum.inl ((xZ5.mk l w b mode.1),fail.1,fail.2.1,fail.2.2)))
   (fun fail2=>some (Sum.inr (fail2.1,fail2.2.1,fail2.2.2.1,fail2.2.2.2.1,fail2.2.2.2.2))) x
  else some (Sum.inl ((xZ5.mk l w b mode.1),mode.2.1,mode.2.2.1,mode.2.2.2)))
 (fun mode2=>some (Sum.inr (mode2.1,mode2.2.1,mode2.2.2.1,mode2.2.2.2.1,mode2.2.2.2.2))) x) (EP y e (cntP y e l w b j)):=by
 refine W.call (xZnx (y:=y) (e:=e) hj) fun r hr=>?_
 unfold cntP
 by_cases h0:modS y j=0
 ·rw [if_pos h0] at hr ⊢
  obtain ⟨q,rfl⟩:=hr
  simp only [Sum.elim_inr,W.ret];exact ⟨_,rfl⟩
 ·rw [if_neg h0] at hr ⊢
  subst hr
  simp only [Sum.elim_inl]
  by_cases hl:j+1 < y.length
  ·simp only [show ltB ((j+1:Nat):Int) (y.length:Int)=true from xZ18.2 (by omega),cond_true,xZax (y:=y) (i:=j+1) (e:=e) (show (4:Int)≠0 by decide),Option.bind_some,Sum.elim_inr,W.ret,if_pos hl]
   exact ⟨_,rfl⟩
  ·simp only [show ltB ((j+1:Nat):Int) (y.length:Int)=false from xZ28.2 (by omega),cond_false,W.ret,if_neg hl]
   exact ⟨_,rfl⟩
theorem xZqE (hy:y.length≤700):W (fun N=>xZf N y 0 e) (EP y e (patS y e)):=by
 simp only [xZf]
 have ok:=SB_ok (e:=e) hy 17 0 0 (by omega) (by omega) (by omega) (Nat.zero_le _)
 have hg:=g_all (e:=e) hy 17 0 0 (by omega) (by omega) (by omega) (Nat.zero_le _)
 refine W.call (show W (fun N=>xZ21 N 0 y 0 e) _ from hg) fun r hr=>?_
 unfold patS
 cases h:SB y e 17 0 0 with
 | inl x=>
   obtain ⟨c,a⟩:=x
   rw [h] at hr
   obtain ⟨j,rfl⟩:=hr
   simp only [Sum.elim_inr,W.ret];exact ⟨_,rfl⟩
 | inr x=>
   obtain ⟨l,j⟩:=x
   rw [h] at hr ok
   have hj:j≤y.length:=ok.2.1
   have hr:r=.inl (l,y,(j:Int),e):=hr
   subst hr
   simp only [Sum.elim_inl,xZ9z (y:=y) (i:=j) (e:=e) (show (2:Int)≠0 by decide) _ (show j≤1000000 by omega),Option.bind_some]
   by_cases h1:isT' y j 2 [119,105,116,104,105,110]=true
   rotate_left
   ·simp only [if_neg h1,Sum.elim_inr,W.ret];exact ⟨_,rfl⟩
   simp only [if_pos h1,Sum.elim_inl,xZk9 (y:=y) (i:=j+1) (e:=e) (show j+1≤1000000 by omega),Option.bind_some]
   cases h2:numS y (j+1) with
   | none=>simp only [Sum.elim_inr,W.ret];exact ⟨_,rfl⟩
   | some w=>
     simp only [Sum.elim_inl,show j+1+1=j+2 from rfl,xZ85 (y:=y) (i:=j+2) (e:=e) (show (2:Int)≠0 by decide) _ (show j+2≤1000000 by omega),Option.bind_some]
     by_cases h3:isT' y (j+2) 2 [98,121]=true
     ·simp only [if_pos h3,cond_true,show j+2+1=j+3 from rfl,xZdR (y:=y) (i:=j+3) (e:=e) (show j+3≤1000000 by omega),Option.bind_some]
      by_cases h4:(tk y (j+3)).Kind=1
      ·simp only [if_pos h4,Sum.elim_inl,show j+3+1=j+4 from rfl]
       exact xZov (by omega)
      ·simp only [if_neg h4,Sum.elim_inr,W.ret];exact ⟨_,rfl⟩
     ·simp only [if_neg h3,cond_false]
      exact xZov (by omega)
theorem xZqj (hy:y.length≤700) (ht:okT y) {p:xZ5} (h:patS y e=.inr p):p.Body.length≤2000∧∀ n∈p.Body,tG n:=by
 have ok:=SB_ok (e:=e) hy 17 0 0 (by omega) (by omega) (by omega) (Nat.zero_le _)
 have t:=SB_t (e:=e) hy ht 17 0 0
 unfold patS at h
 cases hs:SB y e 17 0 0 with
 | inl x=>rw [hs] at h;cases h
 | inr x=>
   obtain ⟨l,j⟩:=x
   rw [hs] at h ok t
   have key:∀ w b q,cntP y e l w b q=.inr p→p.Body=l:=fun w b q hq=>by
    unfold cntP at hq
    split at hq
    ·cases hq
    ·split at hq
     ·cases hq
     ·cases hq;rfl
   have hb:p.Body=l:=by
    simp only at h
    split at h
    ·split at h
     ·cases h
     ·split at h
      ·split at h
       ·exact key _ _ _ h
       ·cases h
      ·exact key _ _ _ h
    ·cases h
   rw [hb]
   obtain ⟨a1,a2,n,r,rfl,a4,a5,a6⟩:=ok
   exact ⟨by omega,t⟩
end
def GP (s:List UInt8):(Int×Int)⊕xZ5:=match scan s with
 | .inr x=>.inl x
 | .inl y=>match patS y s.length with
   | .inl x=>.inl x
   | .inr p=>if chkG p=0 then .inr p else .inl (chkG p,0)
def z13:xZ5:=⟨[],0,[],0⟩
theorem xZb3 (s:List UInt8) (hs:s.length≤700):W (fun N=>xZE N s) (·=match GP s with
 | .inl (c,a)=>.inr (z13,c,a)
 | .inr p=>.inl p):=by
 simp only [xZE]
 refine W.call (xZow s hs) ?_
 rintro _ rfl
 unfold GP
 cases hq:scan s with
 | inr x=>obtain ⟨c,a⟩:=x;simp only [scanE,Sum.elim_inr,W.ret];rfl
 | inl y=>
   obtain ⟨hy,ht⟩:=xZiD hq
   simp only [scanE,Sum.elim_inl,xZ13]
   refine W.bind (P:=fun r=>match patS y s.length with
    | .inl (c,a)=>∃ j:Int,r=.inr (z13,c,a,y,j,(s.length:Int))
    | .inr p=>∃ j:Int,r=.inl (p,y,j,(s.length:Int))) (W.bind (show W (fun N=>xZf N y 0 (s.length:Int)) _ from xZqE (by omega)) fun r hr=>?_) fun r hr=>?_
   ·cases hp:patS y s.length with
    | inl x=>obtain ⟨c,a⟩:=x;rw [hp] at hr;obtain ⟨j,rfl⟩:=hr;exact W.ret.2 ⟨j,rfl⟩
    | inr p=>rw [hp] at hr;obtain ⟨j,rfl⟩:=hr;exact W.ret.2 ⟨j,rfl⟩
   ·cases hp:patS y s.length with
    | inl x=>obtain ⟨c,a⟩:=x;rw [hp] at hr;obtain ⟨j,rfl⟩:=hr;simp only [Sum.elim_inr];exact W.ret.2 rfl
    | inr p=>
      rw [hp] at hr
      obtain ⟨j,rfl⟩:=hr
      simp only [Sum.elim_inl]
      refine W.call (xZc6 p) ?_
      rintro _ rfl
      by_cases hc:chkG p=0
      ·simp only [hc,show ((0:Int) != 0)=false from rfl,cond_false,W.ret,if_true]
      ·simp only [show (chkG p != 0)=true by simpa using hc,cond_true,xZR,show (chkG p==0)=false by simpa using hc,cond_false,Option.bind_some,Sum.elim_inr,W.ret,if_neg hc];rfl
end
section
open Go Classical
theorem w_eqs {ι:Type} [Lim ι] {β:Type} {a b:List β} (hab:a.length=b.length) (hl:a.length≤1000000000) {f:ι→(Int→Option Bool)→Int→Option Bool} {N:ι→Nat} [Tends N]
 (step:∀ (F:ι×Nat→Int→Option Bool) (i:Int) (e g:β),ix a i=some e→ix b i=some g→ltB i (a.length:Int)=true→i64b (i+1)=true→(e≠g→W (fun p:ι×Nat=>f p.1 (F p) i) (·=false))∧(e=g→∀ r,W (fun p=>F p (i+1)) (·=r)→W (fun p:ι×Nat=>f p.1 (F p) i) (·=r)))
 (done:∀ (F:ι×Nat→Int→Option Bool),ltB (a.length:Int) (a.length:Int)=false→W (fun p:ι×Nat=>f p.1 (F p) (a.length:Int)) (·=true)):
 W (fun i=>lp1 (f i) (N i) 0) (·=decide (a=b)):=by
 refine wr1 (l:=a) (fun pre rest=>decide (rest=b.drop pre.length)) [] a rfl rfl (by omega) ?_ ?_
 ·intro F pre e rest hl' h1 h2 h3 hn
  have hlen:=congrArg List.length hl'
  simp only [List.length_append,List.length_cons] at hlen
  have hlt:pre.length < b.length:=by omega
  have hd:b.drop pre.length=b[pre.length]::b.drop (pre.length+1):=List.drop_eq_getElem_cons hlt
  have hg:ix b (pre.length:Int)=some b[pre.length]:=by rw [ix_nat'];exact List.getElem?_eq_getElem hlt
  rw [List.length_append,List.length_singleton] at hn
  obtain ⟨k1,k2⟩:=step F _ e _ h2 hg h1 h3
  by_cases he:e=b[pre.length]
  ·have hn':=k2 he _ hn
   rw [hd,← he]
   refine W.mp hn' fun r hr=>?_
   rw [hr]
   by_cases h:rest=b.drop (pre.length+1)
   ·rw [decide_eq_true h,decide_eq_true (by rw [h])]
   ·rw [decide_eq_false h,decide_eq_false fun h2=>h (List.cons.inj h2).2]
  ·refine W.mp (k1 he) fun r hr=>?_
   rw [hr,hd,decide_eq_false fun h=>he (List.cons.inj h).1]
 ·intro F h1
  refine W.mp (done F h1) fun r hr=>?_
  rw [hr,List.drop_eq_nil_of_le (by omega),decide_eq_true rfl]
theorem xZrb {β:Type} {a b:List β}:((a.length:Int) != (b.length:Int))=!decide (a.length=b.length):=by
 by_cases h:a.length=b.length
 ·simp [h]
 ·simp [h];omega
theorem xZop {e g:xZ2}:((e.Kind==g.Kind)&&((e.Op==g.Op)&&((e.Var==g.Var)&&((e.Name==g.Name)&&((e.Val.Kind==g.Val.Kind)&&((e.Val.N==g.Val.N)&&((e.Val.Bits==g.Val.Bits)&&(e.Val.Text==g.Val.Text))))))))=decide (e=g):=by
 obtain ⟨k,o,v,n,w⟩:=e
 obtain ⟨k',o',v',n',w'⟩:=g
 cases w;cases w'
 rw [Bool.eq_iff_iff]
 simp [Bool.and_eq_true]
end
section
def Rl (R:Int→Int→Prop) {α:Type}:(Int×Int)⊕α→(Int×Int)⊕α→Prop
 | .inl (c,a),.inl (c',a')=>c=c'∧R a a'
 | .inr x,.inr x'=>x=x'
 | _,_=>False
theorem Rl.elim {R:Int→Int→Prop} {α:Type} {x y:(Int×Int)⊕α} (h:Rl R x y):(∃ c a a',x=.inl (c,a)∧y=.inl (c,a')∧R a a')∨∃ z,x=.inr z∧y=.inr z:=by
 cases x with
 | inl x=>cases y with
   | inl y=>exact .inl ⟨x.1,x.2,y.2,rfl,by rw [show x.1=y.1 from h.1],h.2⟩
   | inr y=>exact False.elim h
 | inr x=>cases y with
   | inl y=>exact False.elim h
   | inr y=>have h:x=y:=h;subst h;exact .inr ⟨x,rfl,rfl⟩
section
variable {y z:List xZ0} {e f:Int} {R:Int→Int→Prop}
structure Lk (y z:List xZ0) (e f:Int) (R:Int→Int→Prop):Prop where
 len:z.length=y.length
 kd:∀ i,(tk z i).Kind=(tk y i).Kind
 tx:∀ i,(tk z i).Text=(tk y i).Text
 vl:∀ i,(tk z i).Val=(tk y i).Val
 pl:∀ i,R (plc y e i) (plc z f i)
variable (h:Lk y z e f R)
include h
theorem Lk.isT (i:Nat) (k:Int) (s:List UInt8):isT' z i k s=isT' y i k s:=by simp only [isT',h.kd,h.tx]
theorem Lk.num (i:Nat):numS z i=numS y i:=by simp only [numS,h.kd,h.vl]
theorem Lk.U (i:Nat):U z i=U y i:=by simp only [Go.Proofs.YtahklhniofiofaaGreatDoor.E.U,h.isT,h.kd,h.tx,h.vl]
theorem Lk.UR:UR z=UR y:=by funext i;simp only [Go.Proofs.YtahklhniofiofaaGreatDoor.E.UR,h.U]
theorem Lk.sepS:sepS z=sepS y:=by funext i;simp only [Go.Proofs.YtahklhniofiofaaGreatDoor.E.sepS,h.isT]
theorem Lk.SU (i:Nat):SU z i=SU y i:=by simp only [Go.Proofs.YtahklhniofiofaaGreatDoor.E.SU,h.UR,h.sepS,h.len]
theorem Lk.sepK (s:List UInt8) (k:Int):sepK z s k=sepK y s k:=by funext i;simp only [Go.Proofs.YtahklhniofiofaaGreatDoor.E.sepK,h.isT]
theorem Lk.rowS (g:Nat→RR) (sep:Nat→Option Int):rowS z g sep=rowS y g sep:=by funext i;simp only [Go.Proofs.YtahklhniofiofaaGreatDoor.E.rowS,h.len]
theorem Lk.partS (p:SPT) (d:Int):partS z p d=partS y p d:=by funext i;simp only [Go.Proofs.YtahklhniofiofaaGreatDoor.E.partS,h.isT,h.SU,h.kd,h.tx]
theorem Lk.SPP:∀ n,SPP z n=SPP y n
 | 0=>rfl
 | n+1=>by simp only [Go.Proofs.YtahklhniofiofaaGreatDoor.E.SPP,Lk.SPP n,h.rowS,h.sepK,h.partS]
theorem Lk.PAR (b:Nat):Rl R (PAR y b e) (PAR z b f):=by
 simp only [Go.Proofs.YtahklhniofiofaaGreatDoor.E.PAR,h.SPP]
 cases (Go.Proofs.YtahklhniofiofaaGreatDoor.E.SPP y 51).1 0 b with
 | inl x=>exact ⟨rfl,h.pl _⟩
 | inr x=>
   simp only
   by_cases hc:chk x.1=0
   ·rw [if_pos hc,if_pos hc];rfl
   ·rw [if_neg hc,if_neg hc];exact ⟨rfl,h.pl _⟩
theorem Lk.atomS (k:Int) (i:Nat):Rl R (atomS y e k i) (atomS z f k i):=by
 have hp:∀ j,Rl R (.inl (4,plc y e j):RG) (.inl (4,plc z f j)):=fun j=>⟨rfl,h.pl _⟩
 simp only [Go.Proofs.YtahklhniofiofaaGreatDoor.E.atomS,h.isT,h.kd,h.tx]
 by_cases h1:(tk y i).Kind=1
 ·rw [if_pos h1,if_pos h1]
  by_cases h2:isT' y (i+1) 4 [58]=true
  ·rw [if_pos h2,if_pos h2]
   by_cases h3:(tk y (i+2)).Kind=1
   ·rw [if_pos h3,if_pos h3]
    by_cases h4:isT' y (i+3) 4 [91]=true
    ·rw [if_pos h4,if_pos h4]
     rcases (h.PAR (i+4)).elim with ⟨c,a,a',g1,g2,g3⟩ | ⟨⟨l,j⟩,g1,g2⟩
     ·rw [g1,g2];exact ⟨rfl,g3⟩
     ·rw [g1,g2];simp only
      by_cases h5:isT' y j 4 [93]=true
      ·rw [if_pos h5,if_pos h5];rfl
      ·rw [if_neg h5,if_neg h5];exact hp _
    ·rw [if_neg h4,if_neg h4];rfl
   ·rw [if_neg h3,if_neg h3];exact hp _
  ·rw [if_neg h2,if_neg h2];exact hp _
 ·rw [if_neg h1,if_neg h1];exact hp _
theorem Lk.cntS (i:Nat):Rl R (cntS y e i) (cntS z f i):=by
 simp only [Go.Proofs.YtahklhniofiofaaGreatDoor.E.cntS,h.isT,h.num]
 cases numS y i with
 | none=>exact ⟨rfl,h.pl _⟩
 | some a=>
   simp only
   by_cases h1:isT' y (i+1) 4 [44]=true
   ·rw [if_pos h1,if_pos h1]
    by_cases h2:isT' y (i+2) 4 [125]=true
    ·rw [if_pos h2,if_pos h2];rfl
    ·rw [if_neg h2,if_neg h2]
     cases numS y (i+2) with
     | none=>exact ⟨rfl,h.pl _⟩
     | some b=>
       simp only
       by_cases h3:isT' y (i+3) 4 [125]=true
       ·rw [if_pos h3,if_pos h3];rfl
       ·rw [if_neg h3,if_neg h3];exact ⟨rfl,h.pl _⟩
   ·rw [if_neg h1,if_neg h1]
    by_cases h2:isT' y (i+1) 4 [125]=true
    ·rw [if_pos h2,if_pos h2];rfl
    ·rw [if_neg h2,if_neg h2];exact ⟨rfl,h.pl _⟩
theorem Lk.oftS (i:Nat):Rl R (oftS y e i) (oftS z f i):=by
 simp only [Go.Proofs.YtahklhniofiofaaGreatDoor.E.oftS,h.isT]
 by_cases h1:isT' y i 4 [43]=true
 ·rw [if_pos h1,if_pos h1];rfl
 rw [if_neg h1,if_neg h1]
 by_cases h2:isT' y i 4 [42]=true
 ·rw [if_pos h2,if_pos h2];rfl
 rw [if_neg h2,if_neg h2]
 by_cases h3:isT' y i 4 [63]=true
 ·rw [if_pos h3,if_pos h3];rfl
 rw [if_neg h3,if_neg h3]
 by_cases h4:isT' y i 4 [123]=true
 ·rw [if_pos h4,if_pos h4]
  rcases (h.cntS (i+1)).elim with ⟨c,a,a',g1,g2,g3⟩ | ⟨⟨l,j⟩,g1,g2⟩
  ·rw [g1,g2];exact ⟨rfl,g3⟩
  ·rw [g1,g2];rfl
 ·rw [if_neg h4,if_neg h4];rfl
omit h in
theorem xZoa {l:List xZ1} {a b:(Int×Int)⊕(Option (Int×Int)×Nat)} (h:Rl R a b):Rl R (oftR l a) (oftR l b):=by
 rcases h.elim with ⟨c,a,a',rfl,rfl,g3⟩ | ⟨⟨o,j⟩,rfl,rfl⟩
 ·exact ⟨rfl,g3⟩
 ·cases o<;>rfl
theorem Lk.itS {b b':Int→Nat→RG} (hb:∀ d j,Rl R (b d j) (b' d j)) (d:Int) (i:Nat):Rl R (itS y e b d i) (itS z f b' d i):=by
 simp only [Go.Proofs.YtahklhniofiofaaGreatDoor.E.itS,h.isT]
 by_cases h1:isT' y i 4 [33]=true
 ·rw [if_pos h1,if_pos h1];exact h.atomS 5 (i+1)
 rw [if_neg h1,if_neg h1]
 by_cases h2:isT' y i 4 [40]=true
 ·rw [if_pos h2,if_pos h2]
  by_cases h3:16≤d
  ·rw [if_pos h3,if_pos h3];exact ⟨rfl,h.pl _⟩
  rw [if_neg h3,if_neg h3]
  rcases (hb (d+1) (i+1)).elim with ⟨c,a,a',g1,g2,g3⟩ | ⟨⟨l,j⟩,g1,g2⟩
  ·rw [g1,g2];exact ⟨rfl,g3⟩
  ·rw [g1,g2];simp only
   by_cases h5:isT' y j 4 [41]=true
   ·rw [if_pos h5,if_pos h5];exact xZoa (h.oftS _)
   ·rw [if_neg h5,if_neg h5];exact ⟨rfl,h.pl _⟩
 ·rw [if_neg h2,if_neg h2]
  rcases (h.atomS 4 i).elim with ⟨c,a,a',g1,g2,g3⟩ | ⟨⟨l,j⟩,g1,g2⟩
  ·rw [g1,g2];exact ⟨rfl,g3⟩
  ·rw [g1,g2];exact xZoa (h.oftS _)
theorem Lk.lpS {k:Int} {sep:List UInt8} {g g':Nat→RG} (hg:∀ j,Rl R (g j) (g' j)):∀ (n:Nat) (s:Int×List xZ1) (j:Nat),Rl R (lpS y k sep g n s j) (lpS z k sep g' n s j)
 | 0,s,j=>rfl
 | n+1,s,j=>by
   simp only [Go.Proofs.YtahklhniofiofaaGreatDoor.E.lpS,h.isT]
   by_cases h1:isT' y j 4 sep=true
   ·rw [if_pos h1,if_pos h1]
    rcases (hg (j+1)).elim with ⟨c,a,a',g1,g2,g3⟩ | ⟨⟨l,j'⟩,g1,g2⟩
    ·rw [g1,g2];exact ⟨rfl,g3⟩
    ·rw [g1,g2];exact Lk.lpS hg n _ _
   ·rw [if_neg h1,if_neg h1];rfl
theorem Lk.lsS {k:Int} {sep:List UInt8} {g g':Nat→RG} (hg:∀ j,Rl R (g j) (g' j)) (i:Nat):Rl R (lsS y k sep g i) (lsS z k sep g' i):=by
 simp only [Go.Proofs.YtahklhniofiofaaGreatDoor.E.lsS,h.isT,h.len]
 rcases (hg i).elim with ⟨c,a,a',g1,g2,g3⟩ | ⟨⟨l,j⟩,g1,g2⟩
 ·rw [g1,g2];exact ⟨rfl,g3⟩
 ·rw [g1,g2];simp only
  by_cases h1:isT' y j 4 sep=true
  ·rw [if_pos h1,if_pos h1];exact h.lpS hg _ _ _
  ·rw [if_neg h1,if_neg h1];rfl
theorem Lk.SB:∀ (n:Nat) (d:Int) (i:Nat),Rl R (SB y e n d i) (SB z f n d i)
 | 0,d,i=>⟨rfl,h.pl _⟩
 | n+1,d,i=>h.lsS (fun j=>h.lsS (fun m=>h.itS (Lk.SB n) d m) j) i
theorem Lk.cnt (l:List xZ1) (w:Int) (b:List UInt8) (j:Nat):Rl R (cntP y e l w b j) (cntP z f l w b j):=by
 have hm:modS z j=modS y j:=by simp only [modS,h.isT]
 simp only [cntP,hm,h.len]
 by_cases h1:modS y j=0
 ·rw [if_pos h1,if_pos h1];exact ⟨rfl,h.pl _⟩
 rw [if_neg h1,if_neg h1]
 by_cases h2:j+1 < y.length
 ·rw [if_pos h2,if_pos h2];exact ⟨rfl,h.pl _⟩
 ·rw [if_neg h2,if_neg h2];rfl
theorem Lk.pat:Rl R (patS y e) (patS z f):=by
 simp only [patS,h.isT,h.num,h.kd,h.tx]
 rcases (h.SB 17 0 0).elim with ⟨c,a,a',g1,g2,g3⟩ | ⟨⟨l,j⟩,g1,g2⟩
 ·rw [g1,g2];exact ⟨rfl,g3⟩
 rw [g1,g2];simp only
 by_cases h1:isT' y j 2 [119,105,116,104,105,110]=true
 ·rw [if_pos h1,if_pos h1]
  cases numS y (j+1) with
  | none=>exact ⟨rfl,h.pl _⟩
  | some w=>
    simp only
    by_cases h2:isT' y (j+2) 2 [98,121]=true
    ·rw [if_pos h2,if_pos h2]
     by_cases h3:(tk y (j+3)).Kind=1
     ·rw [if_pos h3,if_pos h3];exact h.cnt _ _ _ _
     ·rw [if_neg h3,if_neg h3];exact ⟨rfl,h.pl _⟩
    ·rw [if_neg h2,if_neg h2];exact h.cnt _ _ _ _
 ·rw [if_neg h1,if_neg h1];exact ⟨rfl,h.pl _⟩
end
theorem tk_sh (q:Nat) (y:List xZ0) (i:Nat):(tk (y.map (sh q)) i).Kind=(tk y i).Kind∧(tk (y.map (sh q)) i).Text=(tk y i).Text∧(tk (y.map (sh q)) i).Val=(tk y i).Val:=by
 simp only [tk,List.getElem?_map]
 cases y[i]?<;>exact ⟨rfl,rfl,rfl⟩
theorem lk_sh (y:List xZ0) (e:Int) (q:Nat):Lk y (y.map (sh q)) e (e+q) (fun a a'=>a'=a+q):=
 ⟨by simp,fun i=>(tk_sh q y i).1,fun i=>(tk_sh q y i).2.1,fun i=>(tk_sh q y i).2.2,fun i=>by
   simp only [plc,List.getElem?_map]
   cases y[i]?<;>rfl⟩
theorem xZra (y:List xZ0) (e f:Int):Lk y y e f (fun _ _=>True):=⟨rfl,fun _=>rfl,fun _=>rfl,fun _=>rfl,fun _=>trivial⟩
theorem lk_at {y:List xZ0} {n:Nat} (h:Asc n 0 y):Lk y y n n (fun a _=>0≤a∧a≤n):=⟨rfl,fun _=>rfl,fun _=>rfl,fun _=>rfl,fun i=>by
 unfold plc
 cases g:y[i]? with
 | none=>simp only;omega
 | some t=>
   have:=Asc.mem h t (List.mem_of_getElem? g)
   simp only;omega⟩
theorem xZj2 (q:Nat):∀ (n:Nat) (r:List UInt8),r.length≤n→∀ (p:Nat) (out:List xZ0),scanR r (p+q) (out.map (sh q))=shE q [] (scanR r p out)
 | n,[],_,p,out=>by rw [xZ5g,xZ5g];rfl
 | 0,c::t,hn,_,_=>by simp at hn
 | n+1,c::t,hn,p,out=>by
   simp only [List.length_cons,Nat.add_le_add_iff_right] at hn
   rw [xZ2Q,xZ2Q]
   by_cases h1:blank c=true
   ·simp only [h1,if_true]
    have:=xZj2 q n t hn (p+1) out
    rwa [show p+1+q=p+q+1 by omega] at this
   simp only [h1,Bool.false_eq_true,if_false,List.length_map]
   by_cases h2:(known c&&decide (out.length=200))=true
   ·simp only [h2,if_true,shE];congr 2
   simp only [h2,Bool.false_eq_true,if_false]
   cases ho:oneR (c::t) with
   | inr f=>
     obtain ⟨e,o⟩:=f
     simp only [shE]
     congr 2
     omega
   | inl f=>
     obtain ⟨k,y,v,m⟩:=f
     dsimp only
     have:=xZj2 q n (t.drop (m - 1)) (by rw [List.length_drop];omega) (p+m) (out++[⟨k,(p:Int),y,v⟩])
     have e1:(out++([⟨k,(p:Int),y,v⟩]:List xZ0)).map (sh q)=out.map (sh q)++[⟨k,((p+q:Nat):Int),y,v⟩]:=by
      rw [List.map_append]
      rfl
     rw [e1,show p+m+q=p+q+m by omega] at this
     exact this
theorem xZff (s:List UInt8) (out:List xZ0):∀ (k p:Nat),scanR (List.replicate k 32++s) p out=scanR s (p+k) out
 | 0,p=>rfl
 | k+1,p=>by
   rw [List.replicate_succ,List.cons_append,xZ2Q,if_pos (by decide),xZff s out k (p+1)]
   congr 1;omega
theorem xZkh (b:List UInt8) (hb:∀ x∈b,x=32):∀ (n:Nat) (t:List UInt8),t.length≤n→∀ (off:Nat) (acc:List UInt8),quoR (t++b) off acc=quoR t off acc
 | _,[],_,off,acc=>by
   rw [xZ7Q,List.nil_append]
   induction b generalizing off acc with
   | nil=>rw [xZ7Q]
   | cons x b ih=>
     obtain rfl:=hb x (by simp)
     rw [xZ2k,if_neg (by decide),if_neg (by decide),if_neg (by decide)]
     exact ih (fun z hz=>hb z (List.mem_cons_of_mem _ hz)) _ _
 | 0,c::t,hn,_,_=>by simp at hn
 | n+1,c::t,hn,off,acc=>by
   simp only [List.length_cons,Nat.add_le_add_iff_right] at hn
   rw [List.cons_append,xZ2k,xZ2k]
   by_cases h1:c.toNat < 32∨126 < c.toNat
   ·rw [if_pos h1,if_pos h1]
   rw [if_neg h1,if_neg h1]
   have hx:hx 32=none:=by decide
   by_cases h2:c=92
   ·rw [if_pos h2,if_pos h2]
    match t,hn with
    | [],_=>
      match b,hb with
      | [],_=>rfl
      | [x],_=>rfl
      | x::w::b,hb=>
        obtain rfl:=hb x (by simp)
        simp only [List.nil_append,hx]
    | [x],_=>
      match b,hb with
      | [],_=>rfl
      | w::b,hb=>
        obtain rfl:=hb w (by simp)
        simp only [List.cons_append,List.nil_append,hx]
        cases Go.Proofs.YtahklhniofiofaaGreatDoor.E.hx x<;>rfl
    | x::w::t,hn=>
      simp only [List.cons_append]
      cases Go.Proofs.YtahklhniofiofaaGreatDoor.E.hx x with
      | none=>rfl
      | some h=>cases Go.Proofs.YtahklhniofiofaaGreatDoor.E.hx w with
        | none=>rfl
        | some l=>exact xZkh b hb n t (by simp at hn;omega) _ _
   rw [if_neg h2,if_neg h2]
   by_cases h3:c=39
   ·rw [if_pos h3,if_pos h3]
    match t,hn with
    | [],_=>
      match b,hb with
      | [],_=>rfl
      | x::b,hb=>
        obtain rfl:=hb x (by simp)
        simp only [List.nil_append,show ¬ ((32:UInt8)=39) by decide,if_false]
    | x::t,hn=>
      simp only [List.cons_append]
      by_cases h4:x=39
      ·rw [if_pos h4,if_pos h4];exact xZkh b hb n t (by simp at hn;omega) _ _
      ·rw [if_neg h4,if_neg h4]
   ·rw [if_neg h3,if_neg h3];exact xZkh b hb n t hn _ _
theorem xZqT (c:UInt8) (t b:List UInt8) (hb:∀ x∈b,x=32):oneR (c::t++b)=oneR (c::t):=by
 cases b with
 | nil=>rw [List.append_nil]
 | cons x b=>
   obtain rfl:=hb x (by simp)
   simp only [oneR,List.cons_append]
   by_cases h1:isS c=true
   ·simp only [h1,if_true]
    rw [show c::(t++32::b)=(c::t)++32::b from rfl,xZje (by decide)]
   simp only [h1,Bool.false_eq_true,if_false]
   by_cases h2:isD c=true
   ·simp only [h2,if_true]
    rw [show c::(t++32::b)=(c::t)++32::b from rfl,xZje (by decide)]
   simp only [h2,Bool.false_eq_true,if_false]
   rw [xZl6 dl32,xZkh _ hb _ t (Nat.le_refl _),xZiu dl32]
theorem xZbn (b:List UInt8) (hb:∀ x∈b,x=32):∀ (n:Nat) (r:List UInt8),r.length≤n→∀ (p:Nat) (out:List xZ0),scanR (r++b) p out=scanR r p out
 | n,[],_,p,out=>by
   rw [List.nil_append,xZ5g]
   induction b generalizing p with
   | nil=>rw [xZ5g]
   | cons x b ih=>
     obtain rfl:=hb x (by simp)
     rw [xZ2Q,if_pos (by decide)]
     exact ih (fun z hz=>hb z (List.mem_cons_of_mem _ hz)) _
 | 0,c::t,hn,_,_=>by simp at hn
 | n+1,c::t,hn,p,out=>by
   simp only [List.length_cons,Nat.add_le_add_iff_right] at hn
   rw [List.cons_append,xZ2Q,xZ2Q]
   have:=xZqT c t b hb
   rw [List.cons_append] at this
   rw [this,xZbn b hb n t hn]
   by_cases h1:blank c=true
   ·rw [if_pos h1,if_pos h1]
   rw [if_neg h1,if_neg h1]
   by_cases h2:(known c&&decide (out.length=200))=true
   ·rw [if_pos h2,if_pos h2]
   rw [if_neg h2,if_neg h2]
   cases ho:oneR (c::t) with
   | inr f=>rfl
   | inl f=>
     obtain ⟨k,y,v,m⟩:=f
     have hm:=xZkG ho
     simp only
     rw [List.drop_append_of_le_length (by omega)]
     exact xZbn b hb n _ (by rw [List.length_drop];omega) _ _
def GR (q:Nat) (a a':Int):Prop:=a'=a+q∨a=0∧a'=0
theorem xZik {s:List UInt8} {k:Nat} (hs:s.length≤500) (hk:k≤20):Rl (GR k) (GP s) (GP (List.replicate k 32++s)):=by
 have e0:scan s=scanR s 0 []:=by rw [scan,if_neg (by omega)]
 have e1:scan (List.replicate k 32++s)=shE k [] (scanR s 0 []):=by
  rw [scan,if_neg (by simp;omega),xZff]
  exact xZj2 k _ s (Nat.le_refl _) 0 []
 unfold GP
 rw [e0,e1]
 cases scanR s 0 [] with
 | inr x=>exact ⟨rfl,.inl rfl⟩
 | inl y=>
   simp only [shE,List.nil_append]
   rw [show (((List.replicate k (32:UInt8)++s).length:Nat):Int)=(s.length:Int)+k by simp;omega]
   rcases (lk_sh y s.length k).pat.elim with ⟨c,a,a',g1,g2,g3⟩ | ⟨p,g1,g2⟩
   ·rw [g1,g2];exact ⟨rfl,.inl g3⟩
   ·rw [g1,g2];simp only
    by_cases hc:chkG p=0
    ·rw [if_pos hc];rfl
    ·rw [if_neg hc];exact ⟨rfl,.inr ⟨rfl,rfl⟩⟩
theorem xZh6 {s:List UInt8} {k:Nat} (hs:s.length≤500) (hk:k≤20):Rl (fun _ _=>True) (GP s) (GP (s++List.replicate k 32)):=by
 have e0:scan s=scanR s 0 []:=by rw [scan,if_neg (by omega)]
 have e1:scan (s++List.replicate k 32)=scanR s 0 []:=by
  rw [scan,if_neg (by simp;omega)]
  exact xZbn _ (fun x hx=>List.eq_of_mem_replicate hx) _ s (Nat.le_refl _) 0 []
 unfold GP
 rw [e0,e1]
 cases scanR s 0 [] with
 | inr x=>exact ⟨rfl,trivial⟩
 | inl y=>
   simp only
   rcases (xZra y s.length ((s++List.replicate k (32:UInt8)).length:Nat)).pat.elim with ⟨c,a,a',g1,g2,g3⟩ | ⟨p,g1,g2⟩
   ·rw [g1,g2];exact ⟨rfl,trivial⟩
   ·rw [g1,g2];simp only
    by_cases hc:chkG p=0
    ·rw [if_pos hc];rfl
    ·rw [if_neg hc];exact ⟨rfl,trivial⟩
theorem GP_at {s:List UInt8} {c a:Int} (h:GP s=.inl (c,a)):0≤a∧a≤s.length:=by
 unfold GP at h
 cases g:scan s with
 | inr x=>
   rw [g] at h
   unfold scan at g
   split at g
   ·cases g;cases h;omega
   ·have:=xZfH _ s (Nat.le_refl _) (show scanR s 0 []=.inr (x.1,x.2) from g)
    cases h;omega
 | inl y=>
   rw [g] at h
   have hA:Asc s.length 0 y:=by
    unfold scan at g
    split at g
    ·cases g
    ·obtain ⟨l2,h1,h2,_⟩:=xZe7 _ s (Nat.le_refl _) (by simp) g
     rw [h1,List.nil_append];simpa using h2
   simp only at h
   rcases (lk_at hA).pat.elim with ⟨c,a,a',g1,g2,g3⟩ | ⟨p,g1,g2⟩
   ·rw [g1] at h;cases h;exact g3
   ·rw [g1] at h;simp only at h
    split at h
    ·cases h
    ·cases h;omega
end
def dgU (n:Int):TU:=.lit ⟨1,n,0,[]⟩
def dg (n:Int):List UInt8:=(dgU n).tx
theorem xZoq {n:Int} (h0:0≤n) (h1:n≤1073741824):(dgU n).ok:=by
 refine ⟨?_,show (0:Int)≤0 by decide,show (0:Int) < 18446744073709551616 by decide⟩
 simp only [vchk,if_true]
 rw [if_neg (by omega),if_pos ⟨trivial,trivial⟩]
theorem xZih {n:Int} (h0:0≤n) (h1:n≤1073741824):(dg n).length≤100:=TU_tl (xZoq h0 h1)
theorem w_dg {n:Int} (h0:0≤n) (h1:n≤1073741824):W (fun N=>xZk N n) (·=dg n):=by
 simp only [xZk,xZ5p,Option.bind_some,show max (-4611686018427387904) (min n 4611686018427387904)=n by omega]
 refine W.call (xZgV ⟨1,n,0,[]⟩ (show (0:Int)≤0 by decide) (show (0:Int) < 18446744073709551616 by decide)) ?_
 rintro _ rfl
 exact W.ret.2 rfl
def timS (lo hi:Int):List UInt8:=if hi=1 then [63] else if hi=0∧lo=0 then [42] else if hi=0∧lo=1 then [43] else if hi=0 then 123::(dg lo++[44,125]) else if hi=lo then 123::(dg lo++[125]) else 123::(((dg lo++[44])++dg hi)++[125])
theorem xZin {lo hi:Int} (h1:0≤lo) (h2:lo≤8) (h3:0≤hi) (h4:hi≤8):(timS lo hi).length≤300:=by
 have a:=xZih h1 (show lo≤1073741824 by omega)
 have b:=xZih h3 (show hi≤1073741824 by omega)
 unfold timS
 split
 ·simp
 split
 ·simp
 split
 ·simp
 split
 ·simp;omega
 split
 ·simp;omega
 ·simp;omega
theorem w_tim {n:xZ1} (h1:0≤n.Lo) (h2:n.Lo≤8) (h3:0≤n.Hi) (h4:n.Hi≤8):W (fun N=>xZ3R N n) (·=timS n.Lo n.Hi):=by
 have wl:=w_dg h1 (show n.Lo≤1073741824 by omega)
 have wh:=w_dg h3 (show n.Hi≤1073741824 by omega)
 have a:=xZih h1 (show n.Lo≤1073741824 by omega)
 have b:=xZih h3 (show n.Hi≤1073741824 by omega)
 have g:∀ m:Nat,m≤100000→Nat.ble m 9223372036854775807=true:=fun m hm=>Nat.ble_eq_true_of_le (by omega)
 have k1:W (fun N=>(xZk N n.Lo).bind fun digi=>gd (Nat.ble (1+(List.length digi)) 9223372036854775807) (gd (Nat.ble ((List.length digi+1)+2) 9223372036854775807) (some (123::(digi++[44,125]))))) (·=123::(dg n.Lo++[44,125])):=by
  refine W.call wl ?_
  rintro _ rfl
  simp only [g _ (show 1+(dg n.Lo).length≤100000 by omega),g _ (show (dg n.Lo).length+1+2≤100000 by omega),xZ1w,W.ret]
 have k2:W (fun N=>(xZk N n.Lo).bind fun digi=>gd (Nat.ble (1+(List.length digi)) 9223372036854775807) (gd (Nat.ble ((List.length digi+1)+1) 9223372036854775807) (some (123::(digi++[125]))))) (·=123::(dg n.Lo++[125])):=by
  refine W.call wl ?_
  rintro _ rfl
  simp only [g _ (show 1+(dg n.Lo).length≤100000 by omega),g _ (show (dg n.Lo).length+1+1≤100000 by omega),xZ1w,W.ret]
 have k3:W (fun N=>(xZk N n.Lo).bind fun digi3=>gd (Nat.ble (1+(List.length digi3)) 9223372036854775807) (gd (Nat.ble ((List.length digi3+1)+1) 9223372036854775807) ((xZk N n.Hi).bind fun digi4=>
  gd (Nat.ble ((List.length (digi3++[44])+1)+(List.length digi4)) 9223372036854775807) (gd (Nat.ble ((List.length ((digi3++[44])++digi4)+1)+1) 9223372036854775807) (some (123::(((digi3++[44])++digi4)++[125]))))))) (·=123::(((dg n.Lo++[44])++dg n.Hi)++[125])):=by
  refine W.call wl ?_
  rintro _ rfl
  simp only [g _ (show 1+(dg n.Lo).length≤100000 by omega),g _ (show (dg n.Lo).length+1+1≤100000 by omega),xZ1w]
  refine W.call wh ?_
  rintro _ rfl
  simp only [g _ (show (dg n.Lo++[44]).length+1+(dg n.Hi).length≤100000 by simp;omega),g _ (show (dg n.Lo++[44]++dg n.Hi).length+1+1≤100000 by simp;omega),xZ1w,W.ret]
 simp only [xZ3R]
 unfold timS
 by_cases c1:n.Hi=1
 ·simp only [show (n.Hi==1)=true by simpa using c1,cond_true,if_pos c1,W.ret]
 have c1':(n.Hi==1)=false:=by simpa using c1
 by_cases c2:n.Hi=0
 ·have c2':(n.Hi==0)=true:=by simpa using c2
  by_cases c3:n.Lo=0
  ·simp only [c1',c2',show (n.Lo==0)=true by simpa using c3,cond_true,cond_false,if_neg c1,if_pos (And.intro c2 c3),W.ret]
  by_cases c4:n.Lo=1
  ·simp only [c1',c2',show (n.Lo==0)=false by simpa using c3,show (n.Lo==1)=true by simpa using c4,cond_true,cond_false,if_neg c1,if_neg (show ¬ (n.Hi=0∧n.Lo=0) from fun h=>c3 h.2),if_pos (And.intro c2 c4),W.ret]
  ·simp only [c1',c2',show (n.Lo==0)=false by simpa using c3,show (n.Lo==1)=false by simpa using c4,cond_true,cond_false,if_neg c1,if_neg (show ¬ (n.Hi=0∧n.Lo=0) from fun h=>c3 h.2),if_neg (show ¬ (n.Hi=0∧n.Lo=1) from fun h=>c4 h.2),if_pos c2]
   exact k1
 ·have c2':(n.Hi==0)=false:=by simpa using c2
  by_cases c5:n.Hi=n.Lo
  ·simp only [c1',c2',show (n.Hi==n.Lo)=true by simpa using c5,cond_true,cond_false,if_neg c1,if_neg (show ¬ (n.Hi=0∧n.Lo=0) from fun h=>c2 h.1),if_neg (show ¬ (n.Hi=0∧n.Lo=1) from fun h=>c2 h.1),if_neg c2,if_pos c5]
   exact k2
  ·simp only [c1',c2',show (n.Hi==n.Lo)=false by simpa using c5,cond_true,cond_false,if_neg c1,if_neg (show ¬ (n.Hi=0∧n.Lo=0) from fun h=>c2 h.1),if_neg (show ¬ (n.Hi=0∧n.Lo=1) from fun h=>c2 h.1),if_neg c2,if_neg c5]
   exact k3
def oX:Option TT→List UInt8
 | none=>[]
 | some t=>91::(t.tx++[93])
def lfT (neg:Bool) (v t:List UInt8) (o:Option TT):List UInt8:=if neg then 33::(((v++[58])++t)++oX o) else ((v++[58])++t)++oX o
theorem xZqW {neg:Bool} {v t:List UInt8} {o:Option TT} (hv:nm v=true) (ht:nm t=true) (ho:oK o):W (fun N=>xZ4m N ⟨kL neg,0,0,0,v,t,oT o⟩) (·=lfT neg v t o):=by
 have g:∀ m:Nat,m≤100000→Nat.ble m 9223372036854775807=true:=fun m hm=>Nat.ble_eq_true_of_le (by omega)
 have l1:=(xZcU hv).1
 have l2:=(xZcU ht).1
 have lv:((v++[58])++t).length≤30:=by simp;omega
 simp only [xZ4m,g _ (show v.length+1≤100000 by omega),g _ (show (v++[58]).length+t.length≤100000 by simp;omega),xZ1w]
 generalize hx:(v++[58])++t=x at lv
 cases o with
 | none=>
   have e0:ltB 0 (List.length (oT none):Int)=false:=rfl
   simp only [e0,cond_false,lfT,hx,oX,List.append_nil]
   cases neg
   ·simp only [show (kL false==5)=false from rfl,cond_false,W.ret];rfl
   ·simp only [show (kL true==5)=true from rfl,cond_true,g _ (show 1+x.length≤100000 by omega),xZ1w,W.ret];rfl
 | some p=>
   obtain ⟨o1,o2,o3,o4⟩:=ho
   obtain ⟨nd,r,f1,f2⟩:=xZiE p
   have hp:=TT_tl o1
   have e0:ltB 0 (List.length (oT (some p)):Int)=true:=by show ltB 0 (List.length p.fl:Int)=true;rw [f1];exact xZ18.2 (by simp only [List.length_cons];omega)
   simp only [e0,cond_true,lfT,hx,oX]
   have hw:W (fun N=>xZ54 N (oT (some p))) (·=p.tx):=xZmv o1 o4 o3
   cases neg
   ·simp only [show (kL false==5)=false from rfl,cond_false]
    refine W.call hw ?_
    rintro _ rfl
    simp only [g _ (show 1+p.tx.length≤100000 by omega),g _ (show p.tx.length+1+1≤100000 by omega),g _ (show x.length+((p.tx++[93]).length+1)≤100000 by simp;omega),xZ1w,W.ret]
    rfl
   ·simp only [show (kL true==5)=true from rfl,cond_true,g _ (show 1+x.length≤100000 by omega),xZ1w]
    refine W.call hw ?_
    rintro _ rfl
    simp only [g _ (show 1+p.tx.length≤100000 by omega),g _ (show p.tx.length+1+1≤100000 by omega),g _ (show x.length+1+((p.tx++[93]).length+1)≤100000 by simp;omega),xZ1w,W.ret]
    rfl
def sepT (alt:Bool):List UInt8:=if alt then [32,124,32] else [59,32]
mutual
def GT.tx:GT→Int→List UInt8
 | .leaf neg v t o,_=>lfT neg v t o
 | .rep lo hi a,w=>brT (decide (w=3)) (GT.tx a 3++timS lo hi)
 | .lst alt bs,w=>brT (decide (w=3∨(w=1∧alt=true))) ((GT.txr bs alt).drop (sepT alt).length)
def GT.txr:List GT→Bool→List UInt8
 | [],_=>[]
 | a::r,alt=>(sepT alt++GT.tx a (kA alt))++GT.txr r alt
end
theorem xZoj {neg:Bool} {v t:List UInt8} {o:Option TT} (hv:nm v=true) (ht:nm t=true) (ho:oK o):(lfT neg v t o).length≤4000:=by
 have l1:=(xZcU hv).1
 have l2:=(xZcU ht).1
 have:(oX o).length≤3602:=by
  cases o with
  | none=>simp [oX]
  | some p=>have:=TT_tl ho.1;have:=ho.2.2.1;simp only [oX,List.length_cons,List.length_append,List.length_nil];omega
 cases neg<;>simp [lfT]<;>omega
mutual
theorem xZjM:∀ (t:GT) (w:Int),t.ok w→(t.tx w).length≤4010 * t.fl.length
 | .leaf neg v t o,w,h=>by
   have:=xZoj (neg:=neg) h.2.1 h.2.2.1 h.2.2.2
   simp only [GT.tx,GT.fl,List.length_singleton];omega
 | .rep lo hi a,w,h=>by
   have h1:=xZjM a 3 h.2
   have h2:=xZin h.1.1 h.1.2.1 h.1.2.2.1 h.1.2.2.2.1
   have h3:=xZa2 (decide (w=3)) (GT.tx a 3++timS lo hi)
   rw [List.length_append] at h3
   simp only [GT.tx,GT.fl,List.length_cons];omega
 | .lst alt bs,w,h=>by
   have h1:=xZiY bs alt h.2.2.2
   have h3:=xZa2 (decide (w=3∨(w=1∧alt=true))) ((GT.txr bs alt).drop (sepT alt).length)
   rw [List.length_drop] at h3
   have h4:=h.2.2.1
   simp only [GT.tx,GT.fl,List.length_cons];omega
theorem xZiY:∀ (bs:List GT) (alt:Bool),GT.oks bs (kA alt)→(GT.txr bs alt).length≤4010 * (GT.fls bs).length+3 * bs.length
 | [],alt,_=>by simp [GT.txr]
 | a::r,alt,h=>by
   have h1:=xZjM a (kA alt) h.1
   have h2:=xZiY r alt h.2
   have h3:(sepT alt).length≤3:=by cases alt<;>decide
   simp only [GT.txr,GT.fls,List.length_append,List.length_cons];omega
end
theorem s58:Cut' [58] [sg [58]]:=xZ69 fun _=>rfl
theorem s59:Cut' [59] [sg [59]]:=xZ69 fun _=>rfl
theorem s91:Cut' [91] [sg [91]]:=xZ69 fun _=>rfl
theorem s93:Cut' [93] [sg [93]]:=xZ69 fun _=>rfl
theorem s123:Cut' [123] [sg [123]]:=xZ69 fun _=>rfl
theorem s125:Cut' [125] [sg [125]]:=xZ69 fun _=>rfl
theorem s124:Cut' [124] [sg [124]]:=xZ69 fun _=>rfl
theorem s44:Cut' [44] [sg [44]]:=xZ69 fun _=>rfl
theorem s63:Cut' [63] [sg [63]]:=xZ69 fun _=>rfl
theorem s42:Cut' [42] [sg [42]]:=xZ69 fun _=>rfl
theorem hdD {d:UInt8} {b:List UInt8} (h:Dl d):Hd (d::b):=⟨_,_,rfl,h⟩
theorem dl58:Dl 58:=⟨by decide,by decide,by decide,by decide,by decide⟩
theorem dl59:Dl 59:=⟨by decide,by decide,by decide,by decide,by decide⟩
theorem dl91:Dl 91:=⟨by decide,by decide,by decide,by decide,by decide⟩
theorem dl93:Dl 93:=⟨by decide,by decide,by decide,by decide,by decide⟩
theorem dl123:Dl 123:=⟨by decide,by decide,by decide,by decide,by decide⟩
theorem dl125:Dl 125:=⟨by decide,by decide,by decide,by decide,by decide⟩
theorem dl44:Dl 44:=⟨by decide,by decide,by decide,by decide,by decide⟩
theorem dl63:Dl 63:=⟨by decide,by decide,by decide,by decide,by decide⟩
theorem dl42:Dl 42:=⟨by decide,by decide,by decide,by decide,by decide⟩
theorem dl43:Dl 43:=⟨by decide,by decide,by decide,by decide,by decide⟩
def nK (n:Int):Tk:=(3,[],⟨1,n,0,[]⟩)
theorem xZn3 {n:Int} (h0:0≤n) (h1:n≤1073741824):Cut (dg n) [nK n]:=by
 have:=xZim (a:=dgU n) (xZoq h0 h1)
 have e:(dgU n).tk=[nK n]:=by
  show (if (1:Int)=1∧n < 0 then _ else _)=_
  rw [if_neg (by omega)];rfl
 rwa [e] at this
def oKt:Option TT→List Tk
 | none=>[]
 | some p=>sg [91]::(p.tk++[sg [93]])
def lfK (neg:Bool) (v t:List UInt8) (o:Option TT):List Tk:=(if neg then [sg [33]] else [])++((1,v,zv)::sg [58]::(1,t,zv)::oKt o)
def timK (lo hi:Int):List Tk:=if hi=1 then [sg [63]] else if hi=0∧lo=0 then [sg [42]] else if hi=0∧lo=1 then [sg [43]] else if hi=0 then [sg [123],nK lo,sg [44],sg [125]] else if hi=lo then [sg [123],nK lo,sg [125]] else [sg [123],nK lo,sg [44],nK hi,sg [125]]
theorem xZnK {lo hi:Int} (h1:0≤lo) (h2:lo≤8) (h3:0≤hi) (h4:hi≤8):Cut (timS lo hi) (timK lo hi)∧Hd (timS lo hi):=by
 have a:=xZn3 h1 (show lo≤1073741824 by omega)
 have b:=xZn3 h3 (show hi≤1073741824 by omega)
 unfold timS timK
 split
 ·exact ⟨s63.sc,hdD dl63⟩
 split
 ·exact ⟨s42.sc,hdD dl42⟩
 split
 ·exact ⟨s43.sc,hdD dl43⟩
 split
 ·refine ⟨?_,hdD dl123⟩
  show Cut ([123]++(dg lo++([44]++[125]))) ([sg [123]]++([nK lo]++([sg [44]]++[sg [125]])))
  exact sc2 s123 (sc1 a (hdD dl44) (sc2 s44 s125.sc))
 split
 ·refine ⟨?_,hdD dl123⟩
  show Cut ([123]++(dg lo++[125])) ([sg [123]]++([nK lo]++[sg [125]]))
  exact sc2 s123 (sc1 a (hdD dl125) s125.sc)
 ·refine ⟨?_,hdD dl123⟩
  have e:(123::(((dg lo++[44])++dg hi)++[125]):List UInt8)=[123]++(dg lo++([44]++(dg hi++[125]))):=by simp
  rw [e]
  show Cut _ ([sg [123]]++([nK lo]++([sg [44]]++([nK hi]++[sg [125]]))))
  exact sc2 s123 (sc1 a (hdD dl44) (sc2 s44 (sc1 b (hdD dl125) s125.sc)))
theorem xZpO:CutX (fun b=>∃ c r,b=c::r∧c≠61) [33] [sg [33]]:=fun rest p out hf ho=>by
 obtain ⟨c,r,rfl,hc⟩:=hf
 have h2:oneR (33::c::r)=.inl (4,[33],zv,1):=by
  show signR 33 (c::r)=_
  unfold signR
  rw [if_neg (by rintro ⟨_,h⟩;simp at h;exact hc h)]
 exact ⟨fun ho=>⟨[⟨4,(p:Int),[33],zv⟩],rfl,xZjc (by simp) rfl h2 (by simp at ho;omega)⟩,fun h2=>xZjn (by simp) rfl (by simp at h2;omega)⟩
theorem cut_o {o:Option TT} (h:oK o):Cut (oX o) (oKt o)∧(oX o=[]∨Hd (oX o)):=by
 cases o with
 | none=>exact ⟨fun rest p out _ ho=>⟨fun _=>⟨[],rfl,by simp [oX]⟩,fun h2=>by simp [oKt] at h2;omega⟩,.inl rfl⟩
 | some t=>
   refine ⟨?_,.inr (hdD dl91)⟩
   show Cut ([91]++(t.tx++[93])) ([sg [91]]++(t.tk++[sg [93]]))
   exact sc2 s91 (sc1 (xZdi h.1) (hdD dl93) s93.sc)
theorem xZhJ {a b:List UInt8} {s t:List Tk} (h1:Cut a s) (hb:b=[]∨Hd b) (h2:Cut b t):Cut (a++b) (s++t):=
 xZgj h1 h2 fun rest hr=>by
  rcases hb with rfl | ⟨d,r,rfl,h⟩
  ·exact hr
  ·exact .inr ⟨d,r++rest,rfl,h⟩
theorem xZlY {neg:Bool} {v t:List UInt8} {o:Option TT} (hv:nm v=true) (ht:nm t=true) (ho:oK o):Cut (lfT neg v t o) (lfK neg v t o):=by
 obtain ⟨c1,c2⟩:=cut_o ho
 have hm:Cut (v++([58]++(t++oX o))) ([(1,v,zv)]++([sg [58]]++([(1,t,zv)]++oKt o))):=
  sc1 (xZdq hv) (hdD dl58) (sc2 s58 (xZhJ (xZdq ht) c2 c1))
 have e:((v++[58])++t)++oX o=v++([58]++(t++oX o)):=by simp
 cases neg
 ·show Cut (((v++[58])++t)++oX o) _
  rw [e];exact hm
 ·show Cut ([33]++(((v++[58])++t)++oX o)) ([sg [33]]++_)
  rw [e]
  refine xZgj xZpO hm fun rest _=>?_
  cases v with
  | nil=>cases hv
  | cons c q=>
    refine ⟨c,_,rfl,fun hc=>?_⟩
    subst hc
    simp only [nm,Bool.and_eq_true] at hv
    exact absurd hv.2.1 (by decide)
mutual
def GT.tk:GT→Int→List Tk
 | .leaf neg v t o,_=>lfK neg v t o
 | .rep lo hi a,w=>brk (decide (w=3)) (GT.tk a 3++timK lo hi)
 | .lst alt bs,w=>brk (decide (w=3∨(w=1∧alt=true))) ((GT.tkr bs alt).drop 1)
def GT.tkr:List GT→Bool→List Tk
 | [],_=>[]
 | a::r,alt=>(sg (if alt then [124] else [59])::GT.tk a (kA alt))++GT.tkr r alt
end
theorem xZnw (alt:Bool):Cut' (sepT alt) [sg (if alt then [124] else [59])]:=by
 cases alt
 ·exact xZgj s59 xZ6o fun _ _=>trivial
 ·exact xZgj xZ6o (xZgj s124 xZ6o fun _ _=>trivial) fun _ _=>trivial
theorem xZnJ (bs:List GT) (alt:Bool):GT.txr bs alt=[]∨Hd (GT.txr bs alt):=by
 cases bs with
 | nil=>exact .inl rfl
 | cons a r=>
   refine .inr ?_
   rw [GT.txr]
   cases alt
   ·exact hdD dl59
   ·exact hdD dl32
mutual
theorem cut_g:∀ (t:GT) (w:Int),t.ok w→Cut (t.tx w) (t.tk w)
 | .leaf neg v t o,w,h=>by
   rw [GT.tx,GT.tk];exact xZlY h.2.1 h.2.2.1 h.2.2.2
 | .rep lo hi a,w,h=>by
   obtain ⟨c1,c2⟩:=xZnK h.1.1 h.1.2.1 h.1.2.2.1 h.1.2.2.2.1
   rw [GT.tx,GT.tk]
   exact sc_br (sc1 (cut_g a 3 h.2) c2 c1)
 | .lst alt [],w,h=>absurd h.2.1 (by simp)
 | .lst alt (a::r),w,h=>by
   rw [GT.tx,GT.tk]
   refine sc_br ?_
   rw [GT.txr,GT.tkr,List.append_assoc,List.drop_left]
   show Cut _ (GT.tk a (kA alt)++GT.tkr r alt)
   exact xZhJ (cut_g a (kA alt) h.2.2.2.1) (xZnJ r alt) (xZoH r alt h.2.2.2.2)
theorem xZoH:∀ (bs:List GT) (alt:Bool),GT.oks bs (kA alt)→Cut (GT.txr bs alt) (GT.tkr bs alt)
 | [],alt,_=>fun rest p out _ ho=>⟨fun _=>⟨[],rfl,by simp [GT.txr]⟩,fun h2=>by simp [GT.tkr] at h2;omega⟩
 | a::r,alt,h=>by
   rw [GT.txr,GT.tkr,List.append_assoc]
   show Cut _ (([sg (if alt then [124] else [59])]++GT.tk a (kA alt))++GT.tkr r alt)
   rw [List.append_assoc]
   exact sc2 (xZnw alt) (xZhJ (cut_g a (kA alt) h.1) (xZnJ r alt) (xZoH r alt h.2))
end
def btT (wi:Int) (b:List UInt8) (m:Int):List UInt8:=[32,119,105,116,104,105,110,32]++(dg wi++((if b=[] then [] else 32::98::121::32::b)++(32::wdS m)))
def btK (wi:Int) (b:List UInt8) (m:Int):List Tk:=kw [119,105,116,104,105,110]::nK wi::((if b=[] then [] else [kw [98,121],(1,b,zv)])++[kw (wdS m)])
theorem xZqh {wi:Int} {b:List UInt8} {m:Int} (h1:1≤wi) (h2:wi≤1073741824) (h3:b=[]∨nm b=true) (h4:m=1∨m=2∨m=3):Cut (btT wi b m) (btK wi b m):=by
 have hw:Cut (wdS m) [kw (wdS m)]:=by rcases h4 with rfl | rfl | rfl<;>exact xZcZ (by decide) rfl
 have ht:Cut ([32]++wdS m) ([]++[kw (wdS m)]):=sc2 xZ6o hw
 have hm:Cut ((if b=[] then [] else 32::98::121::32::b)++(32::wdS m)) ((if b=[] then [] else [kw [98,121],(1,b,zv)])++[kw (wdS m)])∧Hd ((if b=[] then [] else 32::98::121::32::b)++(32::wdS m)):=by
  by_cases hb:b=[]
  ·rw [if_pos hb,if_pos hb]
   exact ⟨ht,hdD dl32⟩
  ·rw [if_neg hb,if_neg hb]
   refine ⟨?_,hdD dl32⟩
   show Cut (([32]++([98,121]++([32]++b)))++([32]++wdS m)) (([]++([kw [98,121]]++([]++[(1,b,zv)])))++([]++[kw (wdS m)]))
   exact sc1 (sc2 xZ6o (sc1 (xZcZ (by decide) rfl) hd32 (sc2 xZ6o (xZdq (h3.resolve_left hb))))) hd32 ht
 show Cut ([32]++([119,105,116,104,105,110]++([32]++(dg wi++_)))) ([]++([kw [119,105,116,104,105,110]]++([]++([nK wi]++_))))
 exact sc2 xZ6o (sc1 (xZcZ (by decide) rfl) hd32 (sc2 xZ6o (sc1 (xZn3 (by omega) h2) hm.2 hm.1)))
section
theorem brk_l (c:Bool) (l:List Tk):(brk c l).length=l.length+(if c then 2 else 0):=by cases c<;>simp [brk]
def nn (y:List xZ0):Prop:=∀ i,(tk y i).Val.Kind=1→0≤(tk y i).Val.N
section
variable {y:List xZ0} {e:Int}
theorem UR_wt (hn:nn y) {i j:Nat} {l:List xZ2} (h:UR y i=.inr (l,j)):∃ a:TU,l=[a.nd]∧i+a.tk.length≤j:=by
 have hw:∀ v:xZ4,(TU.lit v).tk.length≤2:=fun v=>by
  show (if _ then _ else _:List Tk).length≤2
  split<;>simp
 unfold UR U at h
 by_cases h1:isT' y i 4 [45]=true
 ·rw [if_pos h1] at h
  by_cases h2:(tk y (i+1)).Val.Kind=1∧(tk y (i+1)).Kind=3
  ·rw [if_pos h2] at h;cases h
   exact ⟨.lit _,rfl,by have:=hw ⟨(tk y (i+1)).Val.Kind,IntKind.i64.wrap (0 - (tk y (i+1)).Val.N),(tk y (i+1)).Val.Bits,(tk y (i+1)).Val.Text⟩;omega⟩
  ·rw [if_neg h2] at h;cases h
 rw [if_neg h1] at h
 by_cases h2:(tk y i).Kind=3
 ·rw [if_pos h2] at h;cases h
  refine ⟨.lit (tk y i).Val,rfl,?_⟩
  have:(TU.lit (tk y i).Val).tk=[(3,[],(tk y i).Val)]:=if_neg fun hc=>by have:=hn i hc.1;omega
  rw [this];simp
 rw [if_neg h2] at h
 by_cases h3:(tk y i).Kind=1
 ·rw [if_pos h3] at h
  by_cases h4:isT' y (i+1) 4 [46]=true
  ·rw [if_pos h4] at h
   by_cases h5:(tk y (i+2)).Kind=1
   ·rw [if_pos h5] at h;cases h
    exact ⟨.of (tk y i).Text (tk y (i+2)).Text,rfl,Nat.le_refl _⟩
   ·rw [if_neg h5] at h;cases h
  ·rw [if_neg h4] at h;cases h
   exact ⟨.own (tk y i).Text,rfl,Nat.le_refl _⟩
 ·rw [if_neg h3] at h;cases h
theorem xZo7 (hn:nn y) {i:Nat}:∀ (n:Nat) (s:TS) (j:Nat) {l:List xZ2} {j':Nat},i+s.tk.length≤j→lpG (UR y) (sepS y) n s.fl j=.inr (l,j')→∃ s':TS,l=s'.fl∧i+s'.tk.length≤j'
 | 0,s,j,l,j',hs,h=>by cases h;exact ⟨s,rfl,hs⟩
 | n+1,s,j,l,j',hs,h=>by
   unfold lpG at h
   have key:∀ k:Bool,(match UR y (j+1) with | .inl x=>.inl x | .inr (r,j')=>lpG (UR y) (sepS y) n (bn (if k then 6 else 5)::(s.fl++r)) j':RR)=.inr (l,j')→∃ s':TS,l=s'.fl∧i+s'.tk.length≤j':=fun k h=>by
    cases hu:UR y (j+1) with
    | inl x=>rw [hu] at h;cases h
    | inr p=>
      obtain ⟨r,j1⟩:=p
      rw [hu] at h
      obtain ⟨a,rfl,ha⟩:=UR_wt hn hu
      refine xZo7 hn n (.op k s a) j1 ?_ h
      simp only [TS.tk,List.length_append,List.length_cons];omega
   unfold sepS at h
   by_cases h1:isT' y j 4 [43]=true
   ·rw [if_pos h1] at h;exact key false h
   rw [if_neg h1] at h
   by_cases h2:isT' y j 4 [45]=true
   ·rw [if_pos h2] at h;exact key true h
   rw [if_neg h2] at h;cases h;exact ⟨s,rfl,hs⟩
theorem SU_wt (hn:nn y) {i j:Nat} {l:List xZ2} (h:SU y i=.inr (l,j)):∃ s:TS,l=s.fl∧i+s.tk.length≤j:=by
 unfold SU at h
 cases hu:UR y i with
 | inl x=>rw [hu] at h;cases h
 | inr p=>
   obtain ⟨r,j1⟩:=p
   rw [hu] at h
   obtain ⟨a,rfl,ha⟩:=UR_wt hn hu
   exact xZo7 hn _ (.u a) j1 ha h
def Wt (b:Nat) (i:Nat) (r:RR):Prop:=∀ l j,r=.inr (l,j)→∃ t:TT,l=t.fl∧i+(brk (decide (t.bd < b)) t.tk).length≤j
theorem xZpH {f:Nat→RR} (hf:∀ j,Wt 2 j (f j)) {i:Nat}:∀ (n:Nat) (t:TT) (j:Nat) {l:List xZ2} {j':Nat},i+t.tk.length≤j→lpG f (sepK y [111,114] 2) n t.fl j=.inr (l,j')→∃ t':TT,l=t'.fl∧i+t'.tk.length≤j'
 | 0,t,j,l,j',hs,h=>by cases h;exact ⟨t,rfl,hs⟩
 | n+1,t,j,l,j',hs,h=>by
   unfold lpG sepK at h
   by_cases h1:isT' y j 2 [111,114]=true
   ·rw [if_pos h1] at h
    simp only at h
    cases hu:f (j+1) with
    | inl x=>rw [hu] at h;cases h
    | inr p=>
      obtain ⟨r,j1⟩:=p
      rw [hu] at h
      obtain ⟨a,rfl,ha⟩:=hf _ _ _ hu
      refine xZpH hf n (.or t a) j1 ?_ h
      have:=(bd3 t).1
      simp only [TT.tk,List.length_append,List.length_cons,brk_l,show decide (t.bd < 1)=false from decide_eq_false (by omega),Bool.false_eq_true,if_false] at ha ⊢
      omega
   ·rw [if_neg h1] at h;cases h;exact ⟨t,rfl,hs⟩
theorem xZno {f:Nat→RR} (hf:∀ j,Wt 3 j (f j)) {i:Nat}:∀ (n:Nat) (t:TT) (j:Nat) {l:List xZ2} {j':Nat},i+(brk (decide (t.bd < 2)) t.tk).length≤j→lpG f (sepK y [97,110,100] 1) n t.fl j=.inr (l,j')→∃ t':TT,l=t'.fl∧i+(brk (decide (t'.bd < 2)) t'.tk).length≤j'
 | 0,t,j,l,j',hs,h=>by cases h;exact ⟨t,rfl,hs⟩
 | n+1,t,j,l,j',hs,h=>by
   unfold lpG sepK at h
   by_cases h1:isT' y j 2 [97,110,100]=true
   ·rw [if_pos h1] at h
    simp only at h
    cases hu:f (j+1) with
    | inl x=>rw [hu] at h;cases h
    | inr p=>
      obtain ⟨r,j1⟩:=p
      rw [hu] at h
      obtain ⟨a,rfl,ha⟩:=hf _ _ _ hu
      refine xZno hf n (.and t a) j1 ?_ h
      simp only [TT.tk,show (TT.and t a).bd=2 from rfl,Nat.lt_irrefl,decide_false,List.length_append,List.length_cons,brk_l,Bool.false_eq_true,if_false] at ha hs ⊢
      omega
   ·rw [if_neg h1] at h;cases h;exact ⟨t,rfl,hs⟩
theorem xZoo (hn:nn y):∀ n:Nat,(∀ d i,Wt 1 i ((SPP y n).1 d i))∧(∀ d i,Wt 2 i ((SPP y n).2.1 d i))∧∀ d i,Wt 3 i ((SPP y n).2.2 d i)
 | 0=>⟨fun d i l j h=>(by cases h),fun d i l j h=>(by cases h),fun d i l j h=>(by cases h)⟩
 | n+1=>by
   obtain ⟨i1,i2,i3⟩:=xZoo hn n
   refine ⟨fun d i l j h=>?_,fun d i l j h=>?_,fun d i l j h=>?_⟩
   ·have h:rowS y ((SPP y n).2.1 d) (sepK y [111,114] 2) i=.inr (l,j):=h
    unfold rowS at h
    cases hu:(SPP y n).2.1 d i with
    | inl x=>rw [hu] at h;cases h
    | inr p=>
      obtain ⟨r,j1⟩:=p
      rw [hu] at h
      obtain ⟨a,rfl,ha⟩:=i2 _ _ _ _ hu
      rw [brk_l] at ha
      obtain ⟨t,h1,h2⟩:=xZpH (fun j=>i2 d j) _ a j1 (i:=i) (by omega) h
      have:=(bd3 t).1
      exact ⟨t,h1,by rw [show decide (t.bd < 1)=false from decide_eq_false (by omega)];exact h2⟩
   ·have h:rowS y ((SPP y n).2.2 d) (sepK y [97,110,100] 1) i=.inr (l,j):=h
    unfold rowS at h
    cases hu:(SPP y n).2.2 d i with
    | inl x=>rw [hu] at h;cases h
    | inr p=>
      obtain ⟨r,j1⟩:=p
      rw [hu] at h
      obtain ⟨a,rfl,ha⟩:=i3 _ _ _ _ hu
      refine xZno (fun j=>i3 d j) _ a j1 (i:=i) ?_ h
      rw [brk_l] at ha ⊢
      by_cases hb:a.bd < 2
      ·simp only [hb,show a.bd < 3 by omega,decide_true,if_true] at ha ⊢;exact ha
      ·simp only [hb,decide_false,Bool.false_eq_true,if_false];omega
   ·have h:partS y (SPP y n) d i=.inr (l,j):=h
    unfold partS at h
    by_cases h1:isT' y i 2 nt=true∨isT' y i 4 [40]=true
    ·rw [if_pos h1] at h
     by_cases h2:16≤d
     ·rw [if_pos h2] at h;cases h
     rw [if_neg h2] at h
     by_cases h3:isT' y i 2 nt=true
     ·rw [if_pos h3] at h
      cases hu:(SPP y n).2.2 (d+1) (i+1) with
      | inl x=>rw [hu] at h;cases h
      | inr p=>
        obtain ⟨r,j1⟩:=p
        rw [hu] at h;cases h
        obtain ⟨a,rfl,ha⟩:=i3 _ _ _ _ hu
        refine ⟨.not a,rfl,?_⟩
        simp only [TT.tk,show (TT.not a).bd=3 from rfl,Nat.lt_irrefl,decide_false,List.length_cons,brk_l,Bool.false_eq_true,if_false] at ha ⊢
        omega
     ·rw [if_neg h3] at h
      cases hu:(SPP y n).1 (d+1) (i+1) with
      | inl x=>rw [hu] at h;cases h
      | inr p=>
        obtain ⟨r,j1⟩:=p
        rw [hu] at h
        simp only at h
        by_cases h4:isT' y j1 4 [41]=true
        ·rw [if_pos h4] at h;cases h
         obtain ⟨a,rfl,ha⟩:=i1 _ _ _ _ hu
         refine ⟨a,rfl,?_⟩
         rw [brk_l] at ha ⊢
         split<;>omega
        ·rw [if_neg h4] at h;cases h
    ·rw [if_neg h1] at h
     cases hu:SU y i with
     | inl x=>rw [hu] at h;cases h
     | inr p=>
       obtain ⟨r,j1⟩:=p
       rw [hu] at h
       obtain ⟨a,rfl,ha⟩:=SU_wt hn hu
       simp only at h
       by_cases h2:(tk y j1).Kind=4∧opV (tk y j1).Text≠0
       ·rw [if_pos h2] at h
        cases hv:SU y (j1+1) with
        | inl x=>rw [hv] at h;cases h
        | inr p=>
          obtain ⟨r',j2⟩:=p
          rw [hv] at h;cases h
          obtain ⟨b,rfl,hb⟩:=SU_wt hn hv
          refine ⟨.test (opV (tk y j1).Text) a b,rfl,?_⟩
          simp only [TT.tk,show (TT.test (opV (tk y j1).Text) a b).bd=3 from rfl,Nat.lt_irrefl,decide_false,List.length_append,List.length_cons,brk_l,Bool.false_eq_true,if_false]
          omega
       ·rw [if_neg h2] at h;cases h
theorem xZpL (hn:nn y) {b j:Nat} {l:List xZ2} (h:PAR y b e=.inr (l,j)):∃ t:TT,l=t.fl∧b+t.tk.length≤j:=by
 unfold PAR at h
 cases hu:(SPP y 51).1 0 b with
 | inl x=>rw [hu] at h;cases h
 | inr p=>
   obtain ⟨r,j1⟩:=p
   rw [hu] at h
   simp only at h
   by_cases hz:chk r=0
   ·rw [if_pos hz] at h;cases h
    obtain ⟨t,h1,h2⟩:=(xZoo hn 51).1 _ _ _ _ hu
    rw [brk_l] at h2
    exact ⟨t,h1,by omega⟩
   ·rw [if_neg hz] at h;cases h
end
/-! ### A list has one tree at most -/
theorem xZoI {a b:TU} (h:a.nd=b.nd):a=b:=by
 cases a<;>cases b<;>simp only [TU.nd,xZ2.mk.injEq] at h<;>first | (exact absurd h.1 (by decide)) | skip
 ·rw [h.2.2.2.1]
 ·rw [h.2.2.1,h.2.2.2.1]
 ·rw [h.2.2.2.2]
theorem nd_k (a:TU):a.nd.Kind=7∨a.nd.Kind=8∨a.nd.Kind=9:=by cases a<;>simp [TU.nd]
theorem xZmb:∀ {s t:TS} {x z:List xZ2},s.fl++x=t.fl++z→s=t∧x=z
 | .u a,.u b,x,z,h=>by
   simp only [TS.fl,List.cons_append,List.nil_append,List.cons.injEq] at h
   exact ⟨by rw [xZoI h.1],h.2⟩
 | .u a,.op k t b,x,z,h=>by
   simp only [TS.fl,List.cons_append,List.nil_append,List.cons.injEq] at h
   have:=nd_k a
   rw [h.1] at this
   cases k<;>exact absurd this (by decide)
 | .op k s a,.u b,x,z,h=>by
   simp only [TS.fl,List.cons_append,List.nil_append,List.cons.injEq] at h
   have:=nd_k b
   rw [← h.1] at this
   cases k<;>exact absurd this (by decide)
 | .op k s a,.op k' t b,x,z,h=>by
   simp only [TS.fl,List.cons_append,List.append_assoc,List.nil_append,List.cons.injEq] at h
   obtain ⟨rfl,h2⟩:=xZmb h.2
   simp only [List.cons.injEq] at h2
   have hk:k=k':=by cases k<;>cases k'<;>first | rfl | exact absurd (congrArg xZ2.Kind h.1) (by decide)
   exact ⟨by rw [hk,xZoI h2.1],h2.2⟩
theorem xZhB:∀ {s t:TT} {x z:List xZ2},s.fl++x=t.fl++z→s=t∧x=z
 | .or a b,.or c d,x,z,h=>by
   simp only [TT.fl,List.cons_append,List.append_assoc,List.cons.injEq,true_and] at h
   obtain ⟨rfl,h2⟩:=xZhB h
   obtain ⟨rfl,h3⟩:=xZhB h2
   exact ⟨rfl,h3⟩
 | .and a b,.and c d,x,z,h=>by
   simp only [TT.fl,List.cons_append,List.append_assoc,List.cons.injEq,true_and] at h
   obtain ⟨rfl,h2⟩:=xZhB h
   obtain ⟨rfl,h3⟩:=xZhB h2
   exact ⟨rfl,h3⟩
 | .not a,.not c,x,z,h=>by
   simp only [TT.fl,List.cons_append,List.append_assoc,List.cons.injEq,true_and] at h
   obtain ⟨rfl,h2⟩:=xZhB h
   exact ⟨rfl,h2⟩
 | .test o a b,.test p c d,x,z,h=>by
   simp only [TT.fl,List.cons_append,List.append_assoc,List.cons.injEq,xZ2.mk.injEq] at h
   obtain ⟨rfl,h2⟩:=xZmb h.2
   obtain ⟨rfl,h3⟩:=xZmb h2
   exact ⟨by rw [h.1.2.1],h3⟩
 | .or a b,.and c d,x,z,h=>by simp [TT.fl,bn] at h
 | .or a b,.not c,x,z,h=>by simp [TT.fl,bn] at h
 | .or a b,.test p c d,x,z,h=>by simp [TT.fl,bn] at h
 | .and a b,.or c d,x,z,h=>by simp [TT.fl,bn] at h
 | .and a b,.not c,x,z,h=>by simp [TT.fl,bn] at h
 | .and a b,.test p c d,x,z,h=>by simp [TT.fl,bn] at h
 | .not a,.or c d,x,z,h=>by simp [TT.fl,bn] at h
 | .not a,.and c d,x,z,h=>by simp [TT.fl,bn] at h
 | .not a,.test p c d,x,z,h=>by simp [TT.fl,bn] at h
 | .test o a b,.or c d,x,z,h=>by simp [TT.fl,bn] at h
 | .test o a b,.and c d,x,z,h=>by simp [TT.fl,bn] at h
 | .test o a b,.not c,x,z,h=>by simp [TT.fl,bn] at h
theorem xZpE:∀ t:TT,t.fl≠[]
 | .or ..=>List.cons_ne_nil _ _
 | .and ..=>List.cons_ne_nil _ _
 | .not ..=>List.cons_ne_nil _ _
 | .test ..=>List.cons_ne_nil _ _
theorem xZpP:∀ {o p:Option TT},oT o=oT p→o=p
 | none,none,h=>rfl
 | none,some t,h=>absurd h.symm (xZpE t)
 | some t,none,h=>absurd h (xZpE t)
 | some s,some t,h=>congrArg some (xZhB (s:=s) (t:=t) (x:=[]) (z:=[]) (by rw [List.append_nil,List.append_nil];exact h)).1
mutual
theorem xZmJ:∀ (a b:GT) (x z:List xZ1),a.fl++x=b.fl++z→a=b∧x=z
 | .leaf n v t o,.leaf n' v' t' o',x,z,h=>by
   simp only [GT.fl,List.cons_append,List.nil_append,List.cons.injEq,xZ1.mk.injEq,true_and] at h
   have hn:n=n':=by cases n<;>cases n'<;>first | rfl | exact absurd h.1.1 (by decide)
   rw [hn,h.1.2.1,h.1.2.2.1,xZpP h.1.2.2.2]
   exact ⟨rfl,h.2⟩
 | .rep lo hi a,.rep lo' hi' b,x,z,h=>by
   simp only [GT.fl,List.cons_append,List.cons.injEq,xZ1.mk.injEq,true_and,and_true] at h
   obtain ⟨rfl,h2⟩:=xZmJ a b x z h.2
   exact ⟨by rw [h.1.1,h.1.2],h2⟩
 | .lst alt bs,.lst alt' cs,x,z,h=>by
   simp only [GT.fl,List.cons_append,List.cons.injEq,xZ1.mk.injEq,true_and,and_true] at h
   have hn:alt=alt':=by cases alt<;>cases alt'<;>first | rfl | exact absurd h.1.1 (by decide)
   obtain ⟨rfl,h2⟩:=xZlL bs cs x z (by omega) h.2
   exact ⟨by rw [hn],h2⟩
 | .leaf n v t o,.rep ..,x,z,h=>by cases n<;>simp [GT.fl,kL] at h
 | .leaf n v t o,.lst alt ..,x,z,h=>by cases n<;>cases alt<;>simp [GT.fl,kL,kA] at h
 | .rep ..,.leaf n v t o,x,z,h=>by cases n<;>simp [GT.fl,kL] at h
 | .rep ..,.lst alt ..,x,z,h=>by cases alt<;>simp [GT.fl,kA] at h
 | .lst alt ..,.leaf n v t o,x,z,h=>by cases n<;>cases alt<;>simp [GT.fl,kL,kA] at h
 | .lst alt ..,.rep ..,x,z,h=>by cases alt<;>simp [GT.fl,kA] at h
theorem xZlL:∀ (a b:List GT) (x z:List xZ1),a.length=b.length→GT.fls a++x=GT.fls b++z→a=b∧x=z
 | [],[],x,z,_,h=>⟨rfl,h⟩
 | a::r,b::s,x,z,hl,h=>by
   simp only [GT.fls,List.append_assoc] at h
   obtain ⟨h1,h2⟩:=xZmJ a b _ _ h
   obtain ⟨h3,h4⟩:=xZlL r s x z (by simpa using hl) h2
   exact ⟨by rw [h1,h3],h4⟩
 | [],_::_,x,z,hl,h=>by simp at hl
 | _::_,[],x,z,hl,h=>by simp at hl
end
end
section
theorem tkw_l (t:GT):(t.tk 3).length≤(t.tk 0).length+2∧(t.tk 1).length≤(t.tk 0).length+2∧(t.tk 0).length≤(t.tk 1).length∧(t.tk 2).length=(t.tk 0).length:=by
 cases t with
 | leaf n v t o=>refine ⟨?_,?_,?_,?_⟩<;>simp only [GT.tk]<;>omega
 | rep lo hi a=>
   simp only [GT.tk,brk_l,show decide ((3:Int)=3)=true from rfl,show decide ((1:Int)=3)=false from rfl,show decide ((0:Int)=3)=false from rfl,show decide ((2:Int)=3)=false from rfl,decide_true,if_true,Bool.false_eq_true,if_false]
   refine ⟨?_,?_,?_,trivial⟩<;>omega
 | lst alt bs=>
   simp only [GT.tk,brk_l]
   cases alt<;>simp
theorem xZl0 (alt:Bool):∀ a b:List GT,GT.tkr (a++b) alt=GT.tkr a alt++GT.tkr b alt
 | [],b=>rfl
 | x::a,b=>by simp only [List.cons_append,GT.tkr,xZl0 alt a b,List.append_assoc]
def Wg (w:Int) (i:Nat) (r:RG):Prop:=∀ l j,r=.inr (l,j)→∃ t:GT,l=t.fl∧i+(t.tk w).length≤j
section
variable {y:List xZ0} {e:Int}
theorem xZl3 (hn:nn y) (neg:Bool) {i:Nat} {l:List xZ1} {j:Nat} (h:atomS y e (kL neg) i=.inr (l,j)):∃ v t o,l=(GT.leaf neg v t o).fl∧i+(lfK false v t o).length≤j:=by
 unfold atomS at h
 split at h
 ·split at h
  ·split at h
   ·split at h
    ·cases hq:PAR y (i+4) e with
     | inl x=>rw [hq] at h;cases h
     | inr p=>
       obtain ⟨l',j'⟩:=p
       rw [hq] at h
       simp only at h
       split at h
       ·cases h
        obtain ⟨t,rfl,ht⟩:=xZpL hn hq
        exact ⟨_,_,some t,rfl,by simp only [lfK,oKt,Bool.false_eq_true,if_false,List.nil_append,List.length_cons,List.length_append,List.length_nil];omega⟩
       ·cases h
    ·cases h
     exact ⟨_,_,none,rfl,by simp only [lfK,oKt,Bool.false_eq_true,if_false,List.nil_append,List.length_cons,List.length_nil];omega⟩
   ·cases h
  ·cases h
 ·cases h
theorem xZqK (a b:Int):(timK a b).length≤5:=by
 unfold timK
 repeat' split
 all_goals simp
theorem xZqY {i:Nat} {o:Option (Int×Int)} {j:Nat} (h:oftS y e i=.inr (o,j)):(o=none→i≤j)∧∀ a b,o=some (a,b)→i+(timK a b).length≤j:=by
 have hs:∀ {a b:Int} {m q:Nat},(timK a b).length≤m→i+m≤q→(∃ x:Option (Int×Int),x=some (a,b)∧o=x∧j=q)→(o=none→i≤j)∧∀ a b,o=some (a,b)→i+(timK a b).length≤j:=by
  rintro a b m q h1 h2 ⟨x,rfl,rfl,rfl⟩
  exact ⟨fun h=>(by cases h),fun c d h=>by cases h;omega⟩
 unfold oftS at h
 split at h
 ·cases h;exact hs (m:=1) (by decide) (Nat.le_refl _) ⟨_,rfl,rfl,rfl⟩
 split at h
 ·cases h;exact hs (m:=1) (by decide) (Nat.le_refl _) ⟨_,rfl,rfl,rfl⟩
 split at h
 ·cases h;exact hs (m:=1) (by decide) (Nat.le_refl _) ⟨_,rfl,rfl,rfl⟩
 split at h
 ·cases hc:cntS y e (i+1) with
  | inl x=>rw [hc] at h;cases h
  | inr p=>
    obtain ⟨a,b,j'⟩:=p
    rw [hc] at h;cases h
    unfold cntS at hc
    cases h1:numS y (i+1) with
    | none=>rw [h1] at hc;cases hc
    | some a'=>
      rw [h1] at hc
      simp only at hc
      split at hc
      ·split at hc
       ·cases hc
        refine hs (m:=4) ?_ (Nat.le_refl _) ⟨_,rfl,rfl,rfl⟩
        unfold timK
        rw [if_neg (by decide)]
        by_cases g1:a=0
        ·rw [if_pos ⟨rfl,g1⟩];simp
        rw [if_neg (fun g=>g1 g.2)]
        by_cases g2:a=1
        ·rw [if_pos ⟨rfl,g2⟩];simp
        rw [if_neg (fun g=>g2 g.2),if_pos rfl];simp
       ·cases h2:numS y (i+1+2) with
        | none=>rw [h2] at hc;cases hc
        | some b'=>
          rw [h2] at hc
          simp only at hc
          split at hc
          ·cases hc;exact hs (xZqK _ _) (Nat.le_refl _) ⟨_,rfl,rfl,rfl⟩
          ·cases hc
      ·split at hc
       ·cases hc
        refine hs (m:=3) ?_ (Nat.le_refl _) ⟨_,rfl,rfl,rfl⟩
        unfold timK
        by_cases g0:a=1
        ·rw [if_pos g0];simp
        rw [if_neg g0]
        by_cases g1:a=0
        ·rw [if_pos ⟨g1,g1⟩];simp
        rw [if_neg (fun g=>g1 g.2),if_neg (fun g=>g0 g.2),if_neg g1,if_pos rfl];simp
       ·cases hc
 ·cases h;exact ⟨fun _=>Nat.le_refl _,fun a b h=>by cases h⟩
theorem xZl9 {t:GT} {i j0:Nat} (h3:i+(t.tk 3).length≤j0) (h1:i+(t.tk 1).length≤j0):Wg 1 i (oftR t.fl (oftS y e j0)):=by
 intro l j h
 cases ho:oftS y e j0 with
 | inl x=>rw [ho] at h;cases h
 | inr p=>
   obtain ⟨o,j'⟩:=p
   have hw:=xZqY ho
   rw [ho] at h
   cases o with
   | none=>cases h;exact ⟨t,rfl,by have:=hw.1 rfl;omega⟩
   | some x=>
     obtain ⟨a,b⟩:=x
     cases h
     refine ⟨.rep a b t,rfl,?_⟩
     have:=hw.2 a b rfl
     simp only [GT.tk,brk_l,show decide ((1:Int)=3)=false from rfl,Bool.false_eq_true,if_false,List.length_append]
     omega
theorem xZqG (hn:nn y) {b:Int→Nat→RG} (hb:∀ d i,Wg 0 i (b d i)) (d:Int) (i:Nat):Wg 1 i (itS y e b d i):=by
 intro l j h
 unfold itS at h
 by_cases h1:isT' y i 4 [33]=true
 ·rw [if_pos h1] at h
  obtain ⟨v,t,o,rfl,hw⟩:=xZl3 hn true h
  refine ⟨_,rfl,?_⟩
  simp only [GT.tk,lfK,Bool.false_eq_true,if_false,if_true,List.nil_append,List.length_append,List.length_singleton] at hw ⊢
  omega
 rw [if_neg h1] at h
 by_cases h2:isT' y i 4 [40]=true
 ·rw [if_pos h2] at h
  by_cases h3:16≤d
  ·rw [if_pos h3] at h;cases h
  rw [if_neg h3] at h
  cases hq:b (d+1) (i+1) with
  | inl x=>rw [hq] at h;cases h
  | inr p=>
    obtain ⟨l',j'⟩:=p
    rw [hq] at h
    obtain ⟨t,rfl,ht⟩:=hb _ _ _ _ hq
    simp only at h
    by_cases h4:isT' y j' 4 [41]=true
    ·rw [if_pos h4] at h
     have:=tkw_l t
     exact xZl9 (by omega) (by omega) _ _ h
    ·rw [if_neg h4] at h;cases h
 ·rw [if_neg h2] at h
  cases hq:atomS y e 4 i with
  | inl x=>rw [hq] at h;cases h
  | inr p=>
    obtain ⟨l',j'⟩:=p
    rw [hq] at h
    obtain ⟨v,t,o,rfl,hw⟩:=xZl3 hn false hq
    exact xZl9 (by simpa only [GT.tk] using hw) (by simpa only [GT.tk] using hw) _ _ h
theorem xZly (alt:Bool) (bs:List GT) (t:GT):∃ cs,addG (kA alt) ((bs.length:Int),GT.fls bs) t.fl=(((bs++cs).length:Int),GT.fls (bs++cs))∧(GT.tkr cs alt).length≤(t.tk (kA alt)).length+1:=by
 have one:(∀ n r,t.fl=n::r→n.Kind≠kA alt)→(∃ n r,t.fl=n::r)→∃ cs,addG (kA alt) ((bs.length:Int),GT.fls bs) t.fl=(((bs++cs).length:Int),GT.fls (bs++cs))∧(GT.tkr cs alt).length≤(t.tk (kA alt)).length+1:=by
  rintro h ⟨n,r,hr⟩
  refine ⟨[t],?_,by simp only [GT.tkr,List.length_append,List.length_cons,List.length_nil];omega⟩
  rw [xZf8]
  simp only [GT.fls,List.append_nil]
  rw [hr]
  show (if n.Kind=kA alt then _ else _)=_
  rw [if_neg (h n r hr)]
  simp
 cases t with
 | leaf neg v t o=>exact one (fun n r h=>by cases h;show kL neg≠kA alt;cases neg<;>cases alt<;>decide) ⟨_,_,rfl⟩
 | rep lo hi a=>exact one (fun n r h=>by cases h;show (3:Int)≠kA alt;cases alt<;>decide) ⟨_,_,rfl⟩
 | lst alt' ds=>
   by_cases ha:alt'=alt
   ·subst ha
    refine ⟨ds,?_,?_⟩
    ·rw [xZf8]
     simp only [GT.fl,addG,if_true,List.length_append]
     rw [Int.natCast_add]
    ·simp only [GT.tk,brk_l,List.length_drop]
     omega
   ·exact one (fun n r h=>by cases h;show kA alt'≠kA alt;cases alt<;>cases alt'<;>first | exact absurd rfl ha | decide) ⟨_,_,rfl⟩
theorem xZnO (alt:Bool) (bs:List GT):((GT.lst alt bs).tk 0).length=(GT.tkr bs alt).length - 1:=by
 simp only [GT.tk,brk_l,show decide ((0:Int)=3∨(0:Int)=1∧alt=true)=false from by simp,Bool.false_eq_true,if_false,List.length_drop,Nat.add_zero]
theorem xZlT {alt:Bool} {sep:List UInt8} {f:Nat→RG} (hf:∀ j,Wg (kA alt) j (f j)) {i:Nat}:∀ (n:Nat) (bs:List GT) (j:Nat),i≤j→i+(GT.tkr bs alt).length≤j+1→Wg 0 i (lpS y (kA alt) sep f n ((bs.length:Int),GT.fls bs) j)
 | 0,bs,j,hi,hs=>fun l j' h=>by
   cases h
   refine ⟨.lst alt bs,rfl,?_⟩
   rw [xZnO]
   omega
 | n+1,bs,j,hi,hs=>fun l j' h=>by
   unfold lpS at h
   by_cases h1:isT' y j 4 sep=true
   ·rw [if_pos h1] at h
    cases hu:f (j+1) with
    | inl x=>rw [hu] at h;cases h
    | inr p=>
      obtain ⟨r,j1⟩:=p
      rw [hu] at h
      obtain ⟨t,rfl,ht⟩:=hf _ _ _ hu
      obtain ⟨cs,c1,c2⟩:=xZly alt bs t
      simp only [c1] at h
      exact xZlT hf n (bs++cs) j1 (by omega) (by rw [xZl0,List.length_append];omega) _ _ h
   ·rw [if_neg h1] at h
    exact xZlT (sep:=sep) hf 0 bs j hi hs _ _ h
theorem xZoz {alt:Bool} {sep:List UInt8} {f:Nat→RG} (hf:∀ j,Wg (kA alt) j (f j)) (i:Nat):Wg 0 i (lsS y (kA alt) sep f i):=by
 intro l j h
 unfold lsS at h
 cases hu:f i with
 | inl x=>rw [hu] at h;cases h
 | inr p=>
   obtain ⟨r,j1⟩:=p
   rw [hu] at h
   obtain ⟨t,rfl,ht⟩:=hf _ _ _ hu
   simp only at h
   by_cases h1:isT' y j1 4 sep=true
   ·rw [if_pos h1] at h
    obtain ⟨cs,c1,c2⟩:=xZly alt [] t
    have c1:addG (kA alt) (0,[]) t.fl=((cs.length:Int),GT.fls cs):=c1
    rw [c1] at h
    exact xZlT hf _ cs j1 (by omega) (by omega) _ _ h
   ·rw [if_neg h1] at h
    cases h
    have:=tkw_l t
    refine ⟨t,rfl,?_⟩
    cases alt
    ·have ht:i+(t.tk 1).length≤j:=ht
     omega
    ·have ht:i+(t.tk 2).length≤j:=ht
     omega
theorem SB_wt (hn:nn y):∀ (n:Nat) (d:Int) (i:Nat),Wg 0 i (SB y e n d i)
 | 0,d,i=>fun l j h=>by cases h
 | n+1,d,i=>xZoz (alt:=true) (fun j l q h=>by
   obtain ⟨t,h1,h2⟩:=xZoz (alt:=false) (fun m=>xZqG hn (SB_wt hn n) d m) j l q h
   exact ⟨t,h1,by have:=tkw_l t;show j+(t.tk 2).length≤q;omega⟩) i
theorem xZns {j:Nat} (h:modS y j≠0):j < y.length:=by
 unfold modS at h
 split at h
 ·rename_i g;exact xZ1m (by decide) (xZ1j g).1
 split at h
 ·rename_i g;exact xZ1m (by decide) (xZ1j g).1
 split at h
 ·rename_i g;exact xZ1m (by decide) (xZ1j g).1
 ·exact absurd rfl h
theorem xZnf {l:List xZ1} {w:Int} {b:List UInt8} {j:Nat} {p:xZ5} (h:cntP y e l w b j=.inr p):j < y.length∧p.Body=l∧p.Within=w∧p.By=b:=by
 unfold cntP at h
 split at h
 ·cases h
 ·rename_i h0
  split at h
  ·cases h
  ·cases h;exact ⟨xZns h0,rfl,rfl,rfl⟩
theorem xZro (hn:nn y) {p:xZ5} (h:patS y e=.inr p):∃ t:GT,p.Body=t.fl∧(t.tk 0++btK p.Within p.By p.Mode).length≤y.length:=by
 have hb:∀ (w:Int) (b:List UInt8) (m:Int),(btK w b m).length=if b=[] then 3 else 5:=fun w b m=>by
  unfold btK
  split<;>simp
 unfold patS at h
 cases hs:SB y e 17 0 0 with
 | inl x=>rw [hs] at h;cases h
 | inr x=>
   obtain ⟨l,j⟩:=x
   rw [hs] at h
   obtain ⟨t,rfl,ht⟩:=SB_wt hn 17 0 0 _ _ hs
   simp only at h
   split at h
   ·split at h
    ·cases h
    ·split at h
     ·split at h
      ·obtain ⟨c1,c2,c3,c4⟩:=xZnf h
       refine ⟨t,c2,?_⟩
       rw [List.length_append,hb]
       split<;>omega
      ·cases h
     ·obtain ⟨c1,c2,c3,c4⟩:=xZnf h
      refine ⟨t,c2,?_⟩
      rw [List.length_append,hb,if_pos c4]
      omega
   ·cases h
end
theorem xZr1 {r:List UInt8} {k:Int} {x:List UInt8} {v:xZ4} {m:Nat} (h:oneR r=.inl (k,x,v,m)):v.Kind=1→0≤v.N:=by
 have q:∀ (n:Nat) (t:List UInt8),t.length≤n→∀ {off:Nat} {b:List UInt8} {k:Int} {x:List UInt8} {v:xZ4} {m:Nat},quoR t off b=.inl (k,x,v,m)→v.N=0:=by
  intro n
  induction n with
  | zero=>
    intro t hn off b k x v m h
    cases t with
    | nil=>rw [xZ7Q] at h;cases h
    | cons c t=>simp at hn
  | succ n ih=>
    intro t hn off b k x v m h
    match t,hn with
    | [],_=>rw [xZ7Q] at h;cases h
    | c::t,hn=>
      simp only [List.length_cons,Nat.add_le_add_iff_right] at hn
      rw [xZ2k] at h
      split at h
      ·cases h
      ·split at h
       ·split at h
        ·split at h
         ·exact ih _ (by simp at hn;omega) h
         ·cases h
        ·cases h
       ·split at h
        ·split at h
         ·split at h
          ·exact ih _ (by simp at hn;omega) h
          ·split at h
           ·cases h
           ·cases h;rfl
         ·split at h
          ·cases h
          ·cases h;rfl
        ·exact ih t hn h
 intro hk
 cases r with
 | nil=>cases h
 | cons c t=>
   simp only [oneR] at h
   split at h
   ·unfold wordR at h
    split at h
    ·cases h;decide
    ·split at h
     ·cases h;decide
     ·split at h
      ·cases h;decide
      ·split at h
       ·cases h
       ·cases h;decide
   ·split at h
    ·unfold numR at h
     split at h
     ·cases h
     ·split at h
      ·cases h
      ·cases h;exact Int.natCast_nonneg _
    ·split at h
     ·unfold dblR at h
      split at h
      ·cases h
      ·split at h
       ·cases h
       ·split at h
        ·cases h;exact Int.le_refl _
        ·cases h
     ·split at h
      ·rw [q _ t (Nat.le_refl _) h];decide
      ·split at h
       ·unfold signR at h
        split at h<;>(cases h;decide)
       ·cases h
theorem xZoy {s:List UInt8} {y:List xZ0} (h:scan s=.inl y):nn y:=by
 unfold scan at h
 split at h
 ·cases h
 ·intro i hi
  have:=xZcb (P:=fun t=>t.Val.Kind=1→0≤t.Val.N) (fun _ h=>xZr1 h) _ s (Nat.le_refl _) (by simp) h
  cases g:y[i]? with
  | none=>rw [tk,g];exact Int.le_refl _
  | some t=>
    rw [tk,g] at hi ⊢
    exact this t (List.mem_of_getElem? g) hi
end
section
theorem xZfW {α:Type} {l:List α} {i:Nat} {nd:α} {r:List α} (h:l.drop i=nd::r):l[i]?=some nd∧l.drop (i+1)=r:=by
 have h1:(l.drop i)[0]?=some nd:=by rw [h];rfl
 rw [List.getElem?_drop,Nat.add_zero] at h1
 refine ⟨h1,?_⟩
 have:(l.drop i).drop 1=r:=by rw [h];rfl
 rwa [List.drop_drop] at this
theorem xZgK {α:Type} {l:List α} {i:Nat} {a b:List α} (h:l.drop i=a++b):l.drop (i+a.length)=b:=by
 rw [← List.drop_drop,h,List.drop_left]
theorem xZib:∀ (a b:List GT) (alt:Bool),GT.txr (a++b) alt=GT.txr a alt++GT.txr b alt
 | [],b,alt=>by simp [GT.txr]
 | x::a,b,alt=>by simp only [List.cons_append,GT.txr,xZib a b alt,List.append_assoc]
theorem gN {m:Nat} (h:m≤1000000):Nat.ble m 9223372036854775807=true:=Nat.ble_eq_true_of_le (by omega)
section
variable {y:List xZ1} {y2:Int} {y3:List UInt8} {y4:Int}
def PRG (y:List xZ1) (y2:Int) (y3:List UInt8) (y4:Int) (t:GT) (w:Int):Prop:=∀ (i:Nat) (r:List xZ1),y.drop i=t.fl++r→W (fun N=>(xZu N) w y y2 y3 y4 (i:Int)) (·=(t.tx w,y,y2,y3,y4,((i+t.fl.length:Nat):Int)))
theorem xZm8 (hy:y.length≤40) {neg:Bool} {v t:List UInt8} {o:Option TT} {w:Int} (h:(GT.leaf neg v t o).ok w):PRG y y2 y3 y4 (.leaf neg v t o) w:=fun i r hd=>by
 simp only [GT.fl,List.singleton_append] at hd
 obtain ⟨h1,h2⟩:=xZfW hd
 have hlt:=(List.getElem?_eq_some_iff.1 h1).1
 have hx:ix y (i:Int)=some ⟨kL neg,0,0,0,v,t,oT o⟩:=by rw [ix_nat',h1]
 refine W.shift ?_
 show W (fun N=>xZ1d N (xZu N) w y y2 y3 y4 (i:Int)) _
 have hl:lfG ⟨kL neg,0,0,0,v,t,oT o⟩=true:=by cases neg<;>rfl
 simp only [xZ1d,hx,Option.bind_some,W.gd,xZT,e_lf,hl,cond_true]
 refine ⟨by omega,W.call (xZqW h.2.1 h.2.2.1 h.2.2.2) ?_⟩
 rintro _ rfl
 exact W.ret.2 rfl
theorem xZor (hy:y.length≤40) {lo hi:Int} {a:GT} {w:Int} (h:(GT.rep lo hi a).ok w) (ha:PRG y y2 y3 y4 a 3):PRG y y2 y3 y4 (.rep lo hi a) w:=fun i r hd=>by
 simp only [GT.fl,List.cons_append] at hd
 obtain ⟨h1,h2⟩:=xZfW hd
 have hlt:=(List.getElem?_eq_some_iff.1 h1).1
 have hx:ix y (i:Int)=some ⟨3,1,lo,hi,[],[],[]⟩:=by rw [ix_nat',h1]
 have hfl:a.fl.length≤40:=by
  have:=congrArg List.length h2
  simp only [List.length_drop,List.length_append] at this;omega
 have hta:=xZjM a 3 h.2
 have htm:=xZin h.1.1 h.1.2.1 h.1.2.2.1 h.1.2.2.2.1
 refine W.shift ?_
 show W (fun N=>xZ1d N (xZu N) w y y2 y3 y4 (i:Int)) _
 simp only [xZ1d,hx,Option.bind_some,W.gd,xZT,e_lf,show lfG ⟨3,1,lo,hi,[],[],[]⟩=false from rfl,cond_false,show ((3:Int)==2)=false from rfl,e_kdG,show kdG ⟨3,1,lo,hi,[],[],[]⟩=1 from rfl]
 refine ⟨by omega,?_⟩
 have hw:=ha (i+1) r h2
 refine W.bind (show W (fun N=>(xZu N) 3 y y2 y3 y4 ((i:Int)+1)) _ from hw) ?_
 rintro _ rfl
 simp only [W.gd,xZT]
 refine ⟨by omega,?_⟩
 have hout:brT (decide (w=3)) (GT.tx a 3++timS lo hi)=(GT.rep lo hi a).tx w:=by rw [GT.tx]
 rw [← hout,show i+(GT.rep lo hi a).fl.length=i+1+a.fl.length by simp only [GT.fl,List.length_cons];omega]
 refine W.lp8 (P:=fun v0 v1 v2 v3 v4 v5 v6 v7=>v1=a.tx 3∧v2=0∧v3=y∧v4=y2∧v5=y3∧v6=y4∧v7=((i+1+a.fl.length:Nat):Int)) (m:=fun _ _ _ _ _ _ _ _=>0) ⟨rfl,rfl,rfl,rfl,rfl,rfl,rfl⟩ ?_
 rintro F v0 v1 v2 v3 v4 v5 v6 v7 ⟨rfl,rfl,rfl,rfl,rfl,rfl,rfl⟩ hn
 simp only [xZ1f,show ltB 0 ((1:Int) - 1)=false from rfl,cond_false,show ((3:Int)==3)=true from rfl,cond_true]
 refine W.call (w_tim (n:=⟨3,1,lo,hi,[],[],[]⟩) h.1.1 h.1.2.1 h.1.2.2.1 h.1.2.2.2.1) ?_
 rintro _ rfl
 have e1:(a.tx 3++timS lo hi).length≤200000:=by rw [List.length_append];omega
 have e1':(a.tx 3).length+(timS lo hi).length≤1000000:=by omega
 simp only [gN e1',xZ1w]
 generalize a.tx 3++timS lo hi=z at *
 by_cases hw3:w=3
 ·subst hw3
  simp only [show ((3:Int)==3)=true from rfl,cond_true,gN (show 1+z.length≤1000000 by omega),gN (show z.length+1+1≤1000000 by omega),xZ1w,W.ret]
  rfl
 ·simp only [show (w==3)=false by simpa using hw3,cond_false,show ((3:Int)==2)=false from rfl,decide_eq_false hw3]
  cases w==1<;>exact W.ret.2 rfl
theorem xZo3 (hy:y.length≤40) {alt:Bool} {bs:List GT} {w:Int} (h:(GT.lst alt bs).ok w) (hb:∀ b∈bs,PRG y y2 y3 y4 b (kA alt)):PRG y y2 y3 y4 (.lst alt bs) w:=fun i r hd=>by
 obtain ⟨g1,g2,g3,g4⟩:=h
 simp only [GT.fl,List.cons_append] at hd
 obtain ⟨h1,h2⟩:=xZfW hd
 have hlt:=(List.getElem?_eq_some_iff.1 h1).1
 generalize hnd:(⟨kA alt,(bs.length:Int),0,0,[],[],[]⟩:xZ1)=nd at *
 have hx:ix y (i:Int)=some nd:=by rw [ix_nat',h1]
 have hlf:lfG nd=false:=by subst hnd;cases alt<;>rfl
 have hk:nd.Kind=kA alt:=by subst hnd;rfl
 have hkd:kdG nd=bs.length:=by
  subst hnd
  have:isLs ⟨kA alt,(bs.length:Int),0,0,[],[],[]⟩=true:=by cases alt<;>rfl
  unfold kdG
  rw [if_pos this]
  show max 0 (min (bs.length:Int) 40)=_
  omega
 obtain ⟨a,q,rfl⟩:∃ a q,bs=a::q:=by
  cases bs with
  | nil=>simp at g2
  | cons a q=>exact ⟨a,q,rfl⟩
 have hq40:q.length≤40:=by simp only [List.length_cons] at g3;omega
 have hfl:(GT.fls (a::q)).length≤40:=by
  have:=congrArg List.length h2
  simp only [List.length_drop,List.length_append] at this;omega
 have htx:=xZiY (a::q) alt g4
 have hB:(GT.txr (a::q) alt).length≤200000:=by omega
 have hd0:y.drop (i+1)=a.fl++(GT.fls q++r):=by rw [h2,GT.fls,List.append_assoc]
 have hw:=hb a (List.mem_cons_self ..) (i+1) _ hd0
 have hd1:=xZgK hd0
 refine W.shift ?_
 show W (fun N=>xZ1d N (xZu N) w y y2 y3 y4 (i:Int)) _
 have hloop:∀ (x:Int),x=(q.length:Int)→W (fun N=>lp8 (xZ1f N (xZu N) w x (kA alt) nd.Kids nd.Lo nd.Hi nd.Var nd.Type_ nd.Test) N (sepT alt) (a.tx (kA alt)) 0 y y2 y3 y4 ((i+1+a.fl.length:Nat):Int)) (·=((GT.lst alt (a::q)).tx w,y,y2,y3,y4,((i+(GT.lst alt (a::q)).fl.length:Nat):Int))):=by
  rintro x rfl
  refine W.lp8 (P:=fun v0 v1 v2 v3 v4 v5 v6 v7=>v0=sepT alt∧v3=y∧v4=y2∧v5=y3∧v6=y4∧∃ pre suf:List GT,q=pre++suf∧v1=a.tx (kA alt)++GT.txr pre alt∧v2=(pre.length:Int)∧v7=((i+1+a.fl.length+(GT.fls pre).length:Nat):Int)) (m:=fun _ _ v2 _ _ _ _ _=>q.length - v2.toNat)
   ⟨rfl,rfl,rfl,rfl,rfl,[],q,rfl,by simp [GT.txr],rfl,by simp [GT.fls]⟩ ?_
  rintro F v0 v1 v2 v3 v4 v5 v6 v7 ⟨rfl,rfl,rfl,rfl,rfl,pre,suf,hq,rfl,rfl,rfl⟩ hn
  simp only [xZ1f]
  cases suf with
  | cons b suf=>
    have hql:q.length=pre.length+(suf.length+1):=by rw [hq];simp
    simp only [show ltB (pre.length:Int) (q.length:Int)=true from xZ18.2 (by omega),cond_true]
    have hd2:v3.drop (i+1+a.fl.length+(GT.fls pre).length)=b.fl++(GT.fls suf++r):=by
     refine xZgK (b:=_) ?_
     rw [hd1,hq,xZf8,GT.fls,List.append_assoc,List.append_assoc]
    have hwb:=hb b (by rw [hq];simp) _ _ hd2
    refine W.bind (W.lift hwb) ?_
    rintro _ rfl
    have hB2:(sepT alt).length+(a.tx (kA alt)).length+(GT.txr pre alt).length+((sepT alt).length+(b.tx (kA alt)).length)≤200000:=by
     have:=hB
     rw [hq] at this
     simp only [GT.txr,xZib,List.length_append] at this
     omega
    simp only [gN (show (sepT alt).length+(b.tx (kA alt)).length≤1000000 by omega),gN (show (a.tx (kA alt)++GT.txr pre alt).length+(sepT alt++b.tx (kA alt)).length≤1000000 by simp only [List.length_append];omega),xZ1w,W.gd,xZT]
    refine ⟨by omega,hn _ _ _ _ _ _ _ _ ⟨rfl,rfl,rfl,rfl,rfl,pre++[b],suf,by rw [hq];simp,?_,by simp,?_⟩ (by simp only [Int.toNat_natCast];omega)⟩
    ·rw [xZib,GT.txr,GT.txr,List.append_nil,List.append_assoc]
    ·rw [xZf8,GT.fls,GT.fls,List.append_nil,List.length_append]
     congr 1
     omega
  | nil=>
    rw [List.append_nil] at hq
    subst hq
    have e0:ltB (q.length:Int) (q.length:Int)=false:=by rw [xZ8k];simp
    have hz:(GT.txr (a::q) alt).drop (sepT alt).length=a.tx (kA alt)++GT.txr q alt:=by rw [GT.txr,List.append_assoc,List.drop_left]
    have hpos:i+(GT.lst alt (a::q)).fl.length=i+1+a.fl.length+(GT.fls q).length:=by simp only [GT.fl,GT.fls,List.length_cons,List.length_append];omega
    have hzl:(a.tx (kA alt)++GT.txr q alt).length≤200000:=by rw [← hz,List.length_drop];omega
    rw [hpos,GT.tx,hz]
    simp only [e0,cond_false]
    generalize a.tx (kA alt)++GT.txr q alt=z at *
    have k3:(kA alt==3)=false:=by cases alt<;>rfl
    simp only [k3,cond_false]
    by_cases hw3:w=3
    ·subst hw3
     simp only [show ((3:Int)==3)=true from rfl,cond_true,gN (show 1+z.length≤1000000 by omega),gN (show z.length+1+1≤1000000 by omega),xZ1w,W.ret]
     rfl
    ·simp only [show (w==3)=false by simpa using hw3,cond_false]
     by_cases hw1:w=1
     ·subst hw1
      simp only [show ((1:Int)==1)=true from rfl,cond_true]
      cases alt
      ·exact W.ret.2 rfl
      ·simp only [show (kA true==2)=true from rfl,cond_true,gN (show 1+z.length≤1000000 by omega),gN (show z.length+1+1≤1000000 by omega),xZ1w,W.ret]
       rfl
     ·have:decide (w=3∨(w=1∧alt=true))=false:=decide_eq_false fun hh=>hh.elim hw3 fun h=>hw1 h.1
      simp only [show (w==1)=false by simpa using hw1,cond_false,W.ret,this]
      rfl
 simp only [xZ1d,hx,Option.bind_some,W.gd,xZT,e_lf,hlf,cond_false,e_kdG,hkd,hk]
 refine ⟨by omega,?_⟩
 have hl1:((List.length (a::q):Int) - 1)=(q.length:Int):=by simp only [List.length_cons];omega
 cases alt
 ·simp only [show (kA false==2)=false from rfl,cond_false]
  refine W.bind (show W (fun N=>(xZu N) (kA false) y y2 y3 y4 ((i:Int)+1)) _ from hw) ?_
  rintro _ rfl
  simp only [W.gd,xZT]
  exact ⟨by omega,hloop _ hl1⟩
 ·simp only [show (kA true==2)=true from rfl,cond_true]
  refine W.bind (show W (fun N=>(xZu N) (kA true) y y2 y3 y4 ((i:Int)+1)) _ from hw) ?_
  rintro _ rfl
  simp only [W.gd,xZT]
  exact ⟨by omega,hloop _ hl1⟩
mutual
theorem pr_g (hy:y.length≤40):∀ (t:GT) (w:Int),t.ok w→PRG y y2 y3 y4 t w
 | .leaf neg v t o,w,h=>xZm8 hy h
 | .rep lo hi a,w,h=>xZor hy h (pr_g hy a 3 h.2)
 | .lst alt bs,w,h=>xZo3 hy h (pr_gs hy bs (kA alt) h.2.2.2)
theorem pr_gs (hy:y.length≤40):∀ (bs:List GT) (w:Int),GT.oks bs w→∀ b∈bs,PRG y y2 y3 y4 b w
 | [],w,_,b,hb=>by cases hb
 | a::r,w,h,b,hb=>by
   rcases List.mem_cons.1 hb with e | hb
   ·rw [e];exact pr_g hy a w h.1
   ·exact pr_gs hy r w h.2 b hb
end
end
end
section
section
variable {y:List xZ0} {e:Int}
theorem xZqC {b:Nat} {p:TT} (ho:oK (some p)) (hm:M y b p.tk) (hs:ke (tk y (b+p.tk.length))=sg [93]):PAR y b e=.inr (p.fl,b+p.tk.length):=by
 obtain ⟨o1,o2,o3,o4⟩:=ho
 obtain ⟨m,_,h3⟩:=(pp3 (y:=y) p o1).1 51 0 b (by omega) (fun _=>by omega) (by omega) hm (Fo_sg hs (by decide) (by decide) (by decide)) (by rw [xZ12 hs];rfl)
 rw [xZ9F (xZ9T (by rw [xZ12 hs];rfl))] at h3
 unfold PAR
 rw [show (SPP y 51).1 0 b=_ from h3]
 simp only [o4,if_true]
theorem xZln {v t:List UInt8} {o:Option TT} {k:Int} {i:Nat} (ho:oK o) (hm:M y i ((1,v,zv)::sg [58]::(1,t,zv)::oKt o)) (hx:isT' y (i+(3+(oKt o).length)) 4 [91]=false):
 atomS y e k i=.inr ([⟨k,0,0,0,v,t,oT o⟩],i+(3+(oKt o).length)):=by
 obtain ⟨m1,m2,m3,m4⟩:=hm
 have k1:(tk y i).Kind=1:=congrArg (·.1) m1
 have t1:(tk y i).Text=v:=congrArg (·.2.1) m1
 have k3:(tk y (i+2)).Kind=1:=congrArg (·.1) m3
 have t3:(tk y (i+2)).Text=t:=congrArg (·.2.1) m3
 have s2:isT' y (i+1) 4 [58]=true:=by rw [xZ12 m2];rfl
 unfold atomS
 rw [if_pos k1,if_pos s2,if_pos k3]
 cases o with
 | none=>
   have hx:isT' y (i+3) 4 [91]=false:=hx
   rw [if_neg (by rw [hx];decide),t1,t3]
   rfl
 | some p=>
   obtain ⟨n1,n2⟩:=m4
   obtain ⟨n2,n3⟩:=M_app.1 n2
   have s4:isT' y (i+3) 4 [91]=true:=by rw [xZ12 n1];rfl
   have s5:isT' y (i+4+p.tk.length) 4 [93]=true:=by rw [show i+4+p.tk.length=i+1+1+1+1+p.tk.length by omega,xZ12 n3.1];rfl
   have hP:PAR y (i+4) e=.inr (p.fl,i+4+p.tk.length):=xZqC ho n2 n3.1
   rw [if_pos s4,hP]
   simp only [s5,if_true,t1,t3]
   simp only [oT,oKt,List.length_cons,List.length_append,List.length_nil]
   rw [show i+4+p.tk.length+1=i+(3+(p.tk.length+(0+1)+1)) by omega]
def Nx (y:List xZ0) (j:Nat):Prop:=isT' y j 4 [43]=false∧isT' y j 4 [42]=false∧isT' y j 4 [63]=false∧isT' y j 4 [123]=false∧isT' y j 4 [91]=false
theorem xZiJ {j:Nat} (h:Nx y j):oftS y e j=.inr (none,j):=by
 obtain ⟨h1,h2,h3,h4,_⟩:=h
 unfold oftS
 rw [if_neg (by rw [h1];decide),if_neg (by rw [h2];decide),if_neg (by rw [h3];decide),if_neg (by rw [h4];decide)]
theorem xZj8 {i:Nat} {n:Int} (h:ke (tk y i)=nK n):numS y i=some n:=by
 have k1:(tk y i).Kind=3:=congrArg (·.1) h
 have k2:(tk y i).Val=⟨1,n,0,[]⟩:=congrArg (·.2.2) h
 unfold numS
 rw [k1,k2];rfl
theorem xZpm {j:Nat} {lo hi:Int} (h:0≤lo∧lo≤8∧0≤hi∧hi≤8∧¬ (lo=1∧hi=1)∧(hi=0∨lo≤hi)) (hm:M y j (timK lo hi)):oftS y e j=.inr (some (lo,hi),j+(timK lo hi).length)∧isT' y j 4 [91]=false:=by
 obtain ⟨a1,a2,a3,a4,a5,a6⟩:=h
 unfold timK at hm ⊢
 by_cases c1:hi=1
 ·have hl:lo=0:=by omega
  subst c1 hl
  rw [if_pos rfl] at hm ⊢
  have m:=hm.1
  refine ⟨?_,by rw [xZ12 m];rfl⟩
  unfold oftS
  rw [if_neg (by rw [xZ12 m];decide),if_neg (by rw [xZ12 m];decide),if_pos (by rw [xZ12 m];rfl)]
  rfl
 rw [if_neg c1] at hm ⊢
 by_cases c2:hi=0∧lo=0
 ·obtain ⟨rfl,rfl⟩:=c2
  rw [if_pos ⟨rfl,rfl⟩] at hm ⊢
  have m:=hm.1
  refine ⟨?_,by rw [xZ12 m];rfl⟩
  unfold oftS
  rw [if_neg (by rw [xZ12 m];decide),if_pos (by rw [xZ12 m];rfl)]
  rfl
 rw [if_neg c2] at hm ⊢
 by_cases c3:hi=0∧lo=1
 ·obtain ⟨rfl,rfl⟩:=c3
  rw [if_pos ⟨rfl,rfl⟩] at hm ⊢
  have m:=hm.1
  refine ⟨?_,by rw [xZ12 m];rfl⟩
  unfold oftS
  rw [if_pos (by rw [xZ12 m];rfl)]
  rfl
 rw [if_neg c3] at hm ⊢
 have hb:∀ x:(Int×Int)⊕(Int×Int×Nat),ke (tk y j)=sg [123]→cntS y e (j+1)=x→oftS y e j=(match x with | .inl x=>.inl x | .inr (a,b,k)=>.inr (some (a,b),k)):=fun x m hx=>by
  unfold oftS
  rw [if_neg (by rw [xZ12 m];decide),if_neg (by rw [xZ12 m];decide),if_neg (by rw [xZ12 m];decide),if_pos (by rw [xZ12 m];rfl),hx]
  rcases x with x | ⟨a,b,k⟩<;>rfl
 by_cases c4:hi=0
 ·subst c4
  rw [if_pos rfl] at hm ⊢
  obtain ⟨m1,m2,m3,m4,_⟩:=hm
  refine ⟨?_,by rw [xZ12 m1];rfl⟩
  have:cntS y e (j+1)=.inr (lo,0,j+4):=by
   unfold cntS
   rw [xZj8 m2]
   simp only [xZ12 m3,xZ12 m4]
   rfl
  rw [hb _ m1 this];rfl
 rw [if_neg c4] at hm ⊢
 by_cases c5:hi=lo
 ·subst c5
  rw [if_pos rfl] at hm ⊢
  obtain ⟨m1,m2,m3,_⟩:=hm
  refine ⟨?_,by rw [xZ12 m1];rfl⟩
  have:cntS y e (j+1)=.inr (hi,hi,j+3):=by
   unfold cntS
   rw [xZj8 m2]
   simp only [xZ12 m3]
   rfl
  rw [hb _ m1 this];rfl
 rw [if_neg c5] at hm ⊢
 obtain ⟨m1,m2,m3,m4,m5,_⟩:=hm
 refine ⟨?_,by rw [xZ12 m1];rfl⟩
 have n4:numS y (j+1+2)=some hi:=xZj8 m4
 have f4:isT' y (j+1+2) 4 [125]=false:=by rw [show j+1+2=j+1+1+1 from rfl,xZ12 m4];rfl
 have f3:isT' y (j+1+1) 4 [44]=true:=by rw [xZ12 m3];rfl
 have f5:isT' y (j+1+3) 4 [125]=true:=by rw [show j+1+3=j+1+1+1+1 from rfl,xZ12 m5];rfl
 have:cntS y e (j+1)=.inr (lo,hi,j+5):=by
  unfold cntS
  rw [xZj8 m2]
  simp only [f3,f4,n4,f5,if_true,Bool.false_eq_true,if_false]
 rw [hb _ m1 this];rfl
end
end
section
def GT.isB:GT→Int→Bool
 | .leaf ..,_=>false
 | .rep ..,w=>decide (w=3)
 | .lst alt _,w=>decide (w=3∨(w=1∧alt=true))
def GT.isA:GT→Bool
 | .lst true _=>true
 | _=>false
theorem xZmW:∀ (t:GT) (w:Int),t.tk w=brk (t.isB w) (t.tk 0)
 | .leaf neg v t o,w=>by rw [GT.tk,GT.tk];rfl
 | .rep lo hi a,w=>by rw [GT.tk,GT.tk];rfl
 | .lst alt bs,w=>by
   rw [GT.tk,GT.tk]
   have:decide ((0:Int)=3∨((0:Int)=1∧alt=true))=false:=decide_eq_false (by omega)
   rw [this];rfl
theorem xZq0 (t:GT):1≤t.dp:=by cases t<;>simp [GT.dp]
theorem xZjl:∀ {bs:List GT} {b:GT},b∈bs→b.dp≤GT.dps bs
 | a::r,b,h=>by
   rcases List.mem_cons.1 h with e | h
   ·rw [e,GT.dps];omega
   ·have:=xZjl h;rw [GT.dps];omega
theorem xZiP {w:Int}:∀ {bs:List GT} {b:GT},GT.oks bs w→b∈bs→b.ok w
 | a::r,b,ho,h=>by
   rcases List.mem_cons.1 h with e | h
   ·rw [e];exact ho.1
   ·exact xZiP ho.2 h
theorem fl_hd:∀ (t:GT) {w:Int},t.ok w→w=1∨w=2→∃ nd r,t.fl=nd::r∧nd.Kind≠w
 | .leaf neg v t o,w,h,hw=>⟨_,_,rfl,by show kL neg≠w;cases neg<;>simp only [kL]<;>rcases hw with rfl | rfl<;>decide⟩
 | .rep lo hi a,w,h,hw=>⟨_,_,rfl,by show (3:Int)≠w;omega⟩
 | .lst alt bs,w,h,hw=>⟨_,_,rfl,h.1⟩
section
variable {y:List xZ0} {e:Int}
def BBg (y:List xZ0) (e:Int) (t:GT):Prop:=∀ (i n:Nat) (d:Int),M y i (t.tk 0)→Nx y (i+(t.tk 0).length)→isT' y (i+(t.tk 0).length) 4 [59]=false→isT' y (i+(t.tk 0).length) 4 [124]=false→d+t.dp≤17→d≤16→17≤d+n→SB y e n d i=.inr (t.fl,i+(t.tk 0).length)
def RBg (y:List xZ0) (e:Int) (t:GT):Prop:=∀ (i n:Nat) (d:Int),M y i (t.tk 0)→Nx y (i+(t.tk 0).length)→isT' y (i+(t.tk 0).length) 4 [59]=false→d+t.dp≤17→d≤16→16≤d+n→lsS y 1 [59] (itS y e (SB y e n) d) i=.inr (t.fl,i+(t.tk 0).length)
theorem xZm1 {t:GT} (hB:BBg y e t) {i n:Nat} {d:Int} (hm:M y i (brk true (t.tk 0))) (hd:d+t.dp≤16) (hn:16≤d+n):
 itS y e (SB y e n) d i=oftR t.fl (oftS y e (i+(brk true (t.tk 0)).length)):=by
 have hp:=xZq0 t
 have el:(brk true (t.tk 0)).length=(t.tk 0).length+2:=by simp [brk]
 obtain ⟨h1,h2⟩:=hm
 obtain ⟨h2,h3⟩:=M_app.1 h2
 have h3:=h3.1
 have hs:∀ s:List UInt8,s≠[41]→isT' y (i+1+(t.tk 0).length) 4 s=false:=fun s hs=>by
  rw [xZ12 h3]
  have:(([41]:List UInt8)==s)=false:=by simpa using fun q:[41]=s=>hs q.symm
  rw [this];rfl
 unfold itS
 rw [if_neg (by rw [xZ12 h1];decide),if_pos (by rw [xZ12 h1];rfl),if_neg (by omega),
  hB (i+1) n (d+1) h2 ⟨hs _ (by decide),hs _ (by decide),hs _ (by decide),hs _ (by decide),hs _ (by decide)⟩ (hs _ (by decide)) (hs _ (by decide)) (by omega) (by omega) (by omega)]
 have e3:isT' y (i+1+(t.tk 0).length) 4 [41]=true:=by rw [xZ12 h3];rfl
 simp only [e3,if_true,el]
 rw [show i+1+(t.tk 0).length+1=i+((t.tk 0).length+2) by omega]
theorem xZny {v t:List UInt8} {o:Option TT} {f:Int→Nat→RG} {i:Nat} {d:Int} (ho:oK o) (hm:M y i (lfK false v t o)) (hx:isT' y (i+(lfK false v t o).length) 4 [91]=false):
 itS y e f d i=oftR (GT.leaf false v t o).fl (oftS y e (i+(lfK false v t o).length)):=by
 have hl:(lfK false v t o).length=3+(oKt o).length:=by simp [lfK];omega
 rw [hl] at hx ⊢
 have hm:M y i ((1,v,zv)::sg [58]::(1,t,zv)::oKt o):=hm
 have m1:=hm.1
 unfold itS
 rw [if_neg (by rw [xZ12 m1];simp),if_neg (by rw [xZ12 m1];simp),xZln ho hm hx]
 rfl
theorem xZqb {v t:List UInt8} {o:Option TT} {f:Int→Nat→RG} {i:Nat} {d:Int} (ho:oK o) (hm:M y i (lfK true v t o)) (hx:isT' y (i+(lfK true v t o).length) 4 [91]=false):
 itS y e f d i=.inr ((GT.leaf true v t o).fl,i+(lfK true v t o).length):=by
 have hl:(lfK true v t o).length=1+(3+(oKt o).length):=by simp [lfK];omega
 rw [hl,← Nat.add_assoc] at hx
 rw [hl,← Nat.add_assoc]
 have hm:M y i (sg [33]::(1,v,zv)::sg [58]::(1,t,zv)::oKt o):=hm
 unfold itS
 rw [if_pos (by rw [xZ12 hm.1];rfl),xZln ho hm.2 hx]
 rfl
theorem core3 {a:GT} (h:a.ok 3) (hB:BBg y e a) {i n:Nat} {d:Int} (hm:M y i (a.tk 3)) (hx:isT' y (i+(a.tk 3).length) 4 [91]=false) (hd:d+a.dp≤16) (hn:16≤d+n):
 itS y e (SB y e n) d i=oftR a.fl (oftS y e (i+(a.tk 3).length)):=by
 have hbk:=xZmW a 3
 cases a with
 | leaf neg v t o=>
   cases neg with
   | true=>exact absurd rfl (h.1 rfl)
   | false=>
     rw [GT.tk] at hm hx ⊢
     exact xZny h.2.2.2 hm hx
 | rep lo hi b=>
   have:(GT.rep lo hi b).isB 3=true:=rfl
   rw [this] at hbk
   rw [hbk] at hm ⊢
   exact xZm1 hB hm hd hn
 | lst alt bs=>
   have:(GT.lst alt bs).isB 3=true:=by simp [GT.isB]
   rw [this] at hbk
   rw [hbk] at hm ⊢
   exact xZm1 hB hm hd hn
theorem xZkc {neg:Bool} {v t:List UInt8} {o:Option TT} {f:Int→Nat→RG} {i:Nat} {d:Int} (ho:oK o) (hm:M y i ((GT.leaf neg v t o).tk 0)) (hx:Nx y (i+((GT.leaf neg v t o).tk 0).length)):
 itS y e f d i=.inr ((GT.leaf neg v t o).fl,i+((GT.leaf neg v t o).tk 0).length):=by
 rw [GT.tk] at hm hx ⊢
 cases neg with
 | true=>exact xZqb ho hm hx.2.2.2.2
 | false=>rw [xZny ho hm hx.2.2.2.2,xZiJ hx];rfl
theorem xZn6 {lo hi:Int} {a:GT} {w:Int} (h:(GT.rep lo hi a).ok w) (hB:BBg y e a) {i n:Nat} {d:Int} (hm:M y i ((GT.rep lo hi a).tk 0)) (hd:d+(GT.rep lo hi a).dp≤17) (hn:16≤d+n):
 itS y e (SB y e n) d i=.inr ((GT.rep lo hi a).fl,i+((GT.rep lo hi a).tk 0).length):=by
 have e0:(GT.rep lo hi a).tk 0=a.tk 3++timK lo hi:=by rw [GT.tk];rfl
 rw [e0] at hm ⊢
 obtain ⟨m1,m2⟩:=M_app.1 hm
 obtain ⟨o1,o2⟩:=xZpm (e:=e) h.1 m2
 have hdp:(GT.rep lo hi a).dp=a.dp+1:=by rw [GT.dp]
 rw [core3 h.2 hB m1 o2 (by omega) hn,o1,List.length_append,← Nat.add_assoc]
 rfl
def spB (alt:Bool):List UInt8:=if alt then [124] else [59]
theorem xZlj {alt:Bool}:∀ (bs:List GT) (j:Nat),M y j (GT.tkr bs alt)→bs.length≤y.length - j
 | [],j,_=>Nat.zero_le _
 | a::r,j,hm=>by
   rw [GT.tkr] at hm
   obtain ⟨h1,h2⟩:=M_app.1 hm
   have hl:=ke_lt (by decide) h1.1
   have:=xZlj r _ h2
   simp only [List.length_cons] at this ⊢
   omega
theorem xZli {alt:Bool} {f:Nat→RG} {E:Nat→Prop} (hE:∀ j,E j→isT' y j 4 (spB alt)=false):∀ (bs:List GT) (m j:Nat) (s:Int×List xZ1),GT.oks bs (kA alt)→
 (∀ b∈bs,∀ i,M y i (b.tk (kA alt))→(ke (tk y (i+(b.tk (kA alt)).length))=sg (spB alt)∨E (i+(b.tk (kA alt)).length))→f i=.inr (b.fl,i+(b.tk (kA alt)).length))→
 M y j (GT.tkr bs alt)→E (j+(GT.tkr bs alt).length)→bs.length≤m→lpS y (kA alt) (spB alt) f m s j=.inr (hdN (kA alt) (s.1+bs.length,s.2++GT.fls bs),j+(GT.tkr bs alt).length)
 | [],m,j,s,_,_,_,he,_=>by
   have:=hE j he
   rw [xZj6 (by rw [this];decide)]
   simp [GT.fls,GT.tkr]
 | b::r,0,j,s,_,_,_,_,hl=>by simp at hl
 | b::r,m+1,j,s,ho,hf,hm,he,hl=>by
   rw [GT.tkr] at hm he
   obtain ⟨h1,h2⟩:=M_app.1 hm
   obtain ⟨h0,h1⟩:=h1
   simp only [List.length_cons] at h2
   have hsep:isT' y j 4 (spB alt)=true:=by rw [xZ12 h0];cases alt<;>rfl
   have hnext:ke (tk y (j+1+(b.tk (kA alt)).length))=sg (spB alt)∨E (j+1+(b.tk (kA alt)).length):=by
    cases r with
    | nil=>
      right
      simp only [GT.tkr,List.append_nil,List.length_cons] at he
      rwa [show j+((b.tk (kA alt)).length+1)=j+1+(b.tk (kA alt)).length by omega] at he
    | cons c r=>
      left
      rw [GT.tkr] at h2
      have:=(M_app.1 h2).1.1
      rwa [show j+((b.tk (kA alt)).length+1)=j+1+(b.tk (kA alt)).length by omega] at this
   have hb:=hf b (List.mem_cons_self ..) (j+1) h1 hnext
   obtain ⟨nd,q,q1,q2⟩:=fl_hd b ho.1 (by cases alt<;>decide)
   have hadd:addG (kA alt) s b.fl=(s.1+1,s.2++b.fl):=by rw [q1,addG,if_neg q2]
   rw [lpS,if_pos hsep,hb]
   show lpS y (kA alt) (spB alt) f m (addG (kA alt) s b.fl) (j+1+(b.tk (kA alt)).length)=_
   rw [hadd,xZli hE r m _ _ ho.2 (fun c hc=>hf c (List.mem_cons_of_mem _ hc)) (by rwa [show j+1+(b.tk (kA alt)).length=j+((b.tk (kA alt)).length+1) by omega])
    (by simp only [List.length_append,List.length_cons] at he;rwa [show j+1+(b.tk (kA alt)).length+(GT.tkr r alt).length=j+((b.tk (kA alt)).length+1+(GT.tkr r alt).length) by omega]) (by simp only [List.length_cons] at hl;omega)]
   simp only [GT.fls,GT.tkr,List.length_cons,List.length_append,List.append_assoc]
   rw [show s.1+1+(r.length:Int)=s.1+((r.length+1:Nat):Int) by omega,show j+1+(b.tk (kA alt)).length+(GT.tkr r alt).length=j+((b.tk (kA alt)).length+1+(GT.tkr r alt).length) by omega]
theorem xZlE {alt:Bool} {f:Nat→RG} {E:Nat→Prop} (hE:∀ j,E j→isT' y j 4 (spB alt)=false) {bs:List GT} {i:Nat} (hl:2≤bs.length) (ho:GT.oks bs (kA alt))
 (hf:∀ b∈bs,∀ i,M y i (b.tk (kA alt))→(ke (tk y (i+(b.tk (kA alt)).length))=sg (spB alt)∨E (i+(b.tk (kA alt)).length))→f i=.inr (b.fl,i+(b.tk (kA alt)).length))
 (hm:M y i ((GT.tkr bs alt).drop 1)) (he:E (i+((GT.tkr bs alt).drop 1).length)):lsS y (kA alt) (spB alt) f i=.inr ((GT.lst alt bs).fl,i+((GT.tkr bs alt).drop 1).length):=by
 obtain ⟨a,b,r,rfl⟩:∃ a b r,bs=a::b::r:=by
  match bs,hl with
  | a::b::r,_=>exact ⟨a,b,r,rfl⟩
 have e0:(GT.tkr (a::b::r) alt).drop 1=a.tk (kA alt)++GT.tkr (b::r) alt:=by rw [GT.tkr];rfl
 rw [e0] at hm he ⊢
 obtain ⟨h1,h2⟩:=M_app.1 hm
 have hsg:ke (tk y (i+(a.tk (kA alt)).length))=sg (spB alt):=by
  rw [GT.tkr] at h2
  exact (M_app.1 h2).1.1
 have ha:=hf a (List.mem_cons_self ..) i h1 (.inl hsg)
 have hsep:isT' y (i+(a.tk (kA alt)).length) 4 (spB alt)=true:=by rw [xZ12 hsg];cases alt<;>rfl
 obtain ⟨nd,q,q1,q2⟩:=fl_hd a ho.1 (by cases alt<;>decide)
 have hadd:addG (kA alt) (0,[]) a.fl=(1,a.fl):=by rw [q1,addG,if_neg q2];simp
 unfold lsS
 rw [ha]
 simp only [hsep,if_true,hadd]
 rw [xZli hE (b::r) _ _ _ ho.2 (fun c hc=>hf c (List.mem_cons_of_mem _ hc)) h2 (by rw [List.length_append] at he;rwa [Nat.add_assoc]) (xZlj _ _ h2)]
 simp only [GT.fl,hdN,List.length_append,Nat.add_assoc]
 rw [show (1:Int)+((b::r).length:Int)=((a::b::r).length:Int) by simp only [List.length_cons];omega]
 rfl
end
end
section
def GT.isL:GT→Bool
 | .lst ..=>true
 | _=>false
section
variable {y:List xZ0} {e:Int}
def IBg (y:List xZ0) (e:Int) (t:GT):Prop:=∀ (i n:Nat) (d:Int),M y i (t.tk 0)→Nx y (i+(t.tk 0).length)→d+t.dp≤17→16≤d+n→itS y e (SB y e n) d i=.inr (t.fl,i+(t.tk 0).length)
def PGr (y:List xZ0) (e:Int) (t:GT):Prop:=(t.isL=false→IBg y e t)∧(t.isA=false→RBg y e t)∧BBg y e t
theorem xZjA {t:GT} (h:IBg y e t):RBg y e t:=fun i n d hm hx h59 h1 h2 h3=>by
 unfold lsS
 rw [h i n d hm hx h1 h3]
 simp only [h59,Bool.false_eq_true,if_false]
theorem xZn5 {t:GT} (h:RBg y e t):BBg y e t:=fun i n d hm hx h59 h124 h1 h2 h3=>by
 obtain ⟨n,rfl⟩:∃ k,n=k+1:=⟨n - 1,by omega⟩
 show lsS y 2 [124] (lsS y 1 [59] (itS y e (SB y e n) d)) i=_
 unfold lsS
 have:=h i n d hm hx h59 h1 h2 (by omega)
 unfold lsS at this
 rw [this]
 simp only [h124,Bool.false_eq_true,if_false]
theorem Nx_sg {j:Nat} {s:List UInt8} (h:ke (tk y j)=sg s) (h1:s=[59]∨s=[124]):Nx y j:=by
 rcases h1 with rfl | rfl<;>exact ⟨by rw [xZ12 h];rfl,by rw [xZ12 h];rfl,by rw [xZ12 h];rfl,by rw [xZ12 h];rfl,by rw [xZ12 h];rfl⟩
theorem xZoG (alt:Bool) (bs:List GT):(GT.lst alt bs).tk 0=(GT.tkr bs alt).drop 1:=by
 rw [GT.tk]
 have:decide ((0:Int)=3∨((0:Int)=1∧alt=true))=false:=decide_eq_false (by omega)
 rw [this];rfl
theorem kid1 {t:GT} (h:t.ok 1) (hp:PGr y e t) {i n:Nat} {d:Int} (hm:M y i (t.tk 1)) (hx:Nx y (i+(t.tk 1).length)) (hd:d+t.dp≤16) (hn:16≤d+n):
 itS y e (SB y e n) d i=.inr (t.fl,i+(t.tk 1).length):=by
 have hbk:=xZmW t 1
 cases t with
 | leaf neg v u o=>
   have:(GT.leaf neg v u o).isB 1=false:=rfl
   rw [this] at hbk
   have hbk:(GT.leaf neg v u o).tk 1=(GT.leaf neg v u o).tk 0:=hbk
   rw [hbk] at hm hx ⊢
   exact hp.1 rfl i n d hm hx (by omega) hn
 | rep lo hi a=>
   have:(GT.rep lo hi a).isB 1=false:=rfl
   rw [this] at hbk
   have hbk:(GT.rep lo hi a).tk 1=(GT.rep lo hi a).tk 0:=hbk
   rw [hbk] at hm hx ⊢
   exact hp.1 rfl i n d hm hx (by omega) hn
 | lst alt bs=>
   cases alt with
   | false=>exact absurd rfl h.1
   | true=>
     have:(GT.lst true bs).isB 1=true:=rfl
     rw [this] at hbk
     rw [hbk] at hm hx ⊢
     rw [xZm1 hp.2.2 hm hd hn,xZiJ hx]
     rfl
theorem xZob {neg:Bool} {v t:List UInt8} {o:Option TT} (ho:oK o):PGr y e (.leaf neg v t o):=by
 have h1:IBg y e (.leaf neg v t o):=fun i n d hm hx _ _=>xZkc ho hm hx
 exact ⟨fun _=>h1,fun _=>xZjA h1,xZn5 (xZjA h1)⟩
theorem xZpT {lo hi:Int} {a:GT} {w:Int} (h:(GT.rep lo hi a).ok w) (ha:PGr y e a):PGr y e (.rep lo hi a):=by
 have h1:IBg y e (.rep lo hi a):=fun i n d hm hx hd hn=>xZn6 h ha.2.2 hm hd hn
 exact ⟨fun _=>h1,fun _=>xZjA h1,xZn5 (xZjA h1)⟩
theorem xZpV {alt:Bool} {bs:List GT} {w:Int} (h:(GT.lst alt bs).ok w) (hb:∀ b∈bs,PGr y e b):PGr y e (.lst alt bs):=by
 have hdp:(GT.lst alt bs).dp=GT.dps bs+1:=by rw [GT.dp]
 obtain ⟨g1,g2,g3,g4⟩:=h
 cases alt with
 | false=>
   have hR:RBg y e (.lst false bs):=fun i n d hm hx h59 h1 h2 h3=>by
    rw [xZoG] at hm hx h59 ⊢
    refine xZlE (alt:=false) (E:=fun j=>Nx y j∧isT' y j 4 [59]=false) (fun j hj=>hj.2) g2 g4 (fun b hbm j hm' hn'=>?_) hm ⟨hx,h59⟩
    have hbd:=xZjl hbm
    exact kid1 (xZiP g4 hbm) (hb b hbm) hm' (hn'.elim (fun q=>Nx_sg q (.inl rfl)) fun q=>q.1) (by omega) h3
   exact ⟨fun q=>(by cases q),fun _=>hR,xZn5 hR⟩
 | true=>
   refine ⟨fun q=>(by cases q),fun q=>(by cases q),fun i n d hm hx h59 h124 h1 h2 h3=>?_⟩
   obtain ⟨n,rfl⟩:∃ k,n=k+1:=⟨n - 1,by omega⟩
   rw [xZoG] at hm hx h59 h124 ⊢
   show lsS y 2 [124] (lsS y 1 [59] (itS y e (SB y e n) d)) i=_
   refine xZlE (alt:=true) (E:=fun j=>Nx y j∧isT' y j 4 [59]=false∧isT' y j 4 [124]=false) (fun j hj=>hj.2.2) g2 g4 (fun b hbm j hm' hn'=>?_) hm ⟨hx,h59,h124⟩
   have hbd:=xZjl hbm
   have hbo:b.ok 2:=xZiP g4 hbm
   have hbk:=xZmW b 2
   have hB:b.isB 2=false∧b.isA=false:=by
    cases b with
    | leaf neg v t o=>exact ⟨rfl,rfl⟩
    | rep lo hi a=>exact ⟨rfl,rfl⟩
    | lst alt' bs'=>
      cases alt' with
      | true=>exact absurd rfl hbo.1
      | false=>exact ⟨rfl,rfl⟩
   rw [hB.1] at hbk
   have hbk:b.tk 2=b.tk 0:=hbk
   have hk2:b.tk (kA true)=b.tk 0:=hbk
   rw [hk2] at hm' hn' ⊢
   refine (hb b hbm).2.1 hB.2 j n d hm' ?_ ?_ (by omega) h2 (by omega)
   ·exact hn'.elim (fun q=>Nx_sg q (.inr rfl)) fun q=>q.1
   ·exact hn'.elim (fun q=>by rw [xZ12 q];rfl) fun q=>q.2.1
mutual
theorem pg_g:∀ (t:GT) (w:Int),t.ok w→PGr y e t
 | .leaf neg v t o,w,h=>xZob h.2.2.2
 | .rep lo hi a,w,h=>xZpT h (pg_g a 3 h.2)
 | .lst alt bs,w,h=>xZpV h (pg_gs bs (kA alt) h.2.2.2)
theorem pg_gs:∀ (bs:List GT) (w:Int),GT.oks bs w→∀ b∈bs,PGr y e b
 | [],w,_,b,hb=>by cases hb
 | a::r,w,h,b,hb=>by
   rcases List.mem_cons.1 hb with q | hb
   ·rw [q];exact pg_g a w h.1
   ·exact pg_gs r w h.2 b hb
end
end
end
theorem wd_eq {a m:Int} (h1:1≤a) (h2:a≤3) (h3:m=1∨m=2∨m=3):(wdS m==wdS a)=decide (a=m):=by
 rcases (show a=1∨a=2∨a=3 by omega) with rfl | rfl | rfl<;>rcases h3 with rfl | rfl | rfl<;>rfl
theorem xZon {y:List xZ0} {e m:Int} {q:Nat} (hy:y.length≤700) (hq:q≤y.length) (hm:m=1∨m=2∨m=3) (hk:ke (tk y q)=kw (wdS m)):W (fun N=>xZw N y q e) (·=.inl (m,y,((q+1:Nat):Int),e)):=by
 simp only [xZw]
 refine W.lp4 (P:=fun v0 v1 v2 v3=>1≤v0∧v0≤m∧v1=y∧v2=(q:Int)∧v3=e) (m:=fun v0 _ _ _=>(m - v0).toNat) ⟨by omega,by omega,rfl,rfl,rfl⟩ ?_
 rintro F v0 v1 v2 v3 ⟨h1,h2,rfl,rfl,rfl⟩ hn
 have h3:v0≤3:=by omega
 have hs:isT' v1 q 2 (wdS v0)=decide (v0=m):=by rw [xZ12 hk,wd_eq h1 h3 hm];rfl
 simp only [xZ1x,show leB v0 3=true from xZ1e.2 h3,cond_true,e_wd,Option.bind_some,xZ85 (y:=v1) (i:=q) (e:=v3) (show (2:Int)≠0 by decide) _ (show q≤1000000 by omega),hs]
 by_cases hv:v0=m
 ·subst hv
  simp only [decide_true,if_true,cond_true,W.ret]
 ·simp only [decide_eq_false hv,Bool.false_eq_true,if_false,cond_false]
  have hw:IntKind.u8.wrap (v0+1)=v0+1:=by
   rcases (show v0=1∨v0=2∨v0=3 by omega) with rfl | rfl | rfl<;>rfl
  rw [hw]
  exact hn _ _ _ _ ⟨by omega,by omega,rfl,rfl,rfl⟩ (by omega)
theorem Nx_kw {y:List xZ0} {j:Nat} {s:List UInt8} (h:ke (tk y j)=kw s) (u:List UInt8):isT' y j 4 u=false:=by rw [xZ12 h];rfl
theorem xZrj {y:List xZ0} {e wi m:Int} {b:List UInt8} {t:GT} (hy:y.length≤700) (ht:t.ok 0) (hdp:t.dp≤16) (h4:m=1∨m=2∨m=3) (hb:b=[]∨nm b=true)
 (hm:M y 0 (t.tk 0++btK wi b m)) (hl:y.length=(t.tk 0++btK wi b m).length):W (fun N=>xZf N y 0 e) (fun r=>∃ j:Int,r=.inl (⟨t.fl,wi,b,m⟩,y,j,e)):=by
 obtain ⟨m1,m2⟩:=M_app.1 hm
 rw [Nat.zero_add] at m2
 obtain ⟨k1,k2,m3⟩:=m2
 rw [List.length_append] at hl
 have hP:=(pg_g (y:=y) (e:=e) t 0 ht).2.2 0 17 0 m1 (by rw [Nat.zero_add];exact ⟨Nx_kw k1 _,Nx_kw k1 _,Nx_kw k1 _,Nx_kw k1 _,Nx_kw k1 _⟩) (by rw [Nat.zero_add];exact Nx_kw k1 _) (by rw [Nat.zero_add];exact Nx_kw k1 _) (by omega) (by omega) (by omega)
 rw [Nat.zero_add] at hP
 have hg:=g_all (e:=e) hy 17 0 0 (by omega) (by omega) (by omega) (Nat.zero_le _)
 rw [hP] at hg
 simp only [xZf]
 refine W.call (show W (fun N=>xZ21 N 0 y 0 e) _ from hg) ?_
 intro r hr
 have hr:r=.inl (t.fl,y,(((t.tk 0).length:Nat):Int),e):=hr
 subst hr
 generalize (t.tk 0).length=L at *
 have hbl:3≤(btK wi b m).length:=by simp only [btK,List.length_cons,List.length_append,List.length_nil];omega
 have hw:isT' y L 2 [119,105,116,104,105,110]=true:=by rw [xZ12 k1];rfl
 simp only [Sum.elim_inl,xZ9z (y:=y) (i:=L) (e:=e) (show (2:Int)≠0 by decide) _ (show L≤1000000 by omega),if_pos hw,Option.bind_some,xZk9 (y:=y) (i:=L+1) (e:=e) (show L+1≤1000000 by omega),xZj8 k2,
  xZ85 (y:=y) (i:=L+1+1) (e:=e) (show (2:Int)≠0 by decide) _ (show L+1+1≤1000000 by omega)]
 by_cases hbe:b=[]
 ·subst hbe
  rw [if_pos rfl,List.nil_append] at m3
  have k3:=m3.1
  have hby:isT' y (L+1+1) 2 [98,121]=false:=by
   rw [xZ12 k3]
   rcases h4 with rfl | rfl | rfl<;>rfl
  have hlen:y.length=L+3:=by rw [hl];simp [btK]
  simp only [hby,Bool.false_eq_true,if_false,cond_false]
  refine W.call (xZon hy (by omega) h4 k3) ?_
  rintro _ rfl
  have hlt:ltB ((L+1+1+1:Nat):Int) (y.length:Int)=false:=by rw [xZ8k];exact decide_eq_false (by omega)
  simp only [Sum.elim_inl,hlt,cond_false,W.ret]
  exact ⟨_,rfl⟩
 ·rw [if_neg hbe] at m3
  obtain ⟨k3,k4,k5,_⟩:=m3
  have hby:isT' y (L+1+1) 2 [98,121]=true:=by rw [xZ12 k3];rfl
  have hlen:y.length=L+5:=by rw [hl];simp [btK,hbe]
  have n1:(tk y (L+1+1+1)).Kind=1:=congrArg (·.1) k4
  have n2:(tk y (L+1+1+1)).Text=b:=congrArg (·.2.1) k4
  simp only [hby,if_true,cond_true,xZdR (y:=y) (i:=L+1+1+1) (e:=e) (show L+1+1+1≤1000000 by omega),if_pos n1,n2,Option.bind_some,Sum.elim_inl]
  refine W.call (xZon hy (by omega) h4 k5) ?_
  rintro _ rfl
  have hlt:ltB ((L+1+1+1+1+1:Nat):Int) (y.length:Int)=false:=by rw [xZ8k];exact decide_eq_false (by omega)
  simp only [Sum.elim_inl,hlt,cond_false,W.ret]
  exact ⟨_,rfl⟩
theorem W.both {ι:Type} [Lim ι] {α:Type} {q:EqR α} {f g:ι→Option α} {r:α} (h1:W f (·=r)) (h2:W g (·=r)):W (fun i=>Go.Proofs.YtahklhniofiofaaGreatDoor.E.both q (f i) (g i)) (·=r):=by
 exact ⟨r,Lim.mono (fun i h=>by show Go.Proofs.YtahklhniofiofaaGreatDoor.E.both q (f i) (g i)=Option.some r;rw [h.1,h.2];exact xZkb rfl) (Lim.and h1.tl h2.tl),rfl⟩
def ptT (p:xZ5) (t:GT):List UInt8:=t.tx 0++btT p.Within p.By p.Mode
theorem xZkp {p:xZ5} {t:GT} (hc:chkG p=0) (hl:p.Body.length≤40) (h1:1≤p.Within) (h2:p.Within≤1073741824) (hb:p.By=[]∨nm p.By=true) (hm:p.Mode=1∨p.Mode=2∨p.Mode=3) (ht:t.ok 0) (hf:p.Body=t.fl):W (fun N=>xZ5v N p) (·=ptT p t):=by
 have hpr:W (fun N=>xZ36 N 0 p.Body p.Within p.By p.Mode 0) (·=(t.tx 0,p.Body,p.Within,p.By,p.Mode,((0+t.fl.length:Nat):Int))):=pr_g (y:=p.Body) hl t 0 ht 0 [] (by rw [hf];simp)
 have htl:=xZjM t 0 ht
 have hfl:t.fl.length≤40:=by rw [← hf];exact hl
 have hd:=xZih (show 0≤p.Within by omega) h2
 have hbl:p.By.length≤12:=by
  rcases hb with h | h
  ·rw [h];simp
  ·exact (xZcU h).1
 have hwl:(wdS p.Mode).length≤6:=by rcases hm with h | h | h<;>rw [h]<;>decide
 simp only [xZ5v]
 refine W.call (xZc6 p) ?_
 rintro _ rfl
 simp only [hc,show ((0:Int) != 0)=false from rfl,cond_false,e_wd,Option.bind_some]
 refine W.both ?_ ?_
 all_goals
  refine W.call hpr ?_
  rintro _ rfl
  simp only [gN (show (t.tx 0).length+8≤1000000 by omega),xZ1w]
  refine W.call (w_dg (show 0≤p.Within by omega) h2) ?_
  rintro _ rfl
  simp only [gN (show (t.tx 0++[32,119,105,116,104,105,110,32]).length+(dg p.Within).length≤1000000 by simp;omega),xZ1w]
  by_cases hbe:p.By=[]
  ·simp only [hbe,show (!(([]:List UInt8)==[]))=false from rfl,cond_false]
   simp only [gN (show (t.tx 0++[32,119,105,116,104,105,110,32]++dg p.Within).length+1≤1000000 by simp;omega),gN (show (t.tx 0++[32,119,105,116,104,105,110,32]++dg p.Within++[32]).length+(wdS p.Mode).length≤1000000 by simp;omega),xZ1w,W.ret]
   simp [ptT,btT,hbe]
  ·simp only [show (!(p.By==[]))=true by simpa using hbe,cond_true]
   simp only [gN (show 4+p.By.length≤1000000 by omega),gN (show (t.tx 0++[32,119,105,116,104,105,110,32]++dg p.Within).length+(p.By.length+4)≤1000000 by simp;omega),
    gN (show (t.tx 0++[32,119,105,116,104,105,110,32]++dg p.Within++(32::98::121::32::p.By)).length+1≤1000000 by simp;omega),
    gN (show (t.tx 0++[32,119,105,116,104,105,110,32]++dg p.Within++(32::98::121::32::p.By)++[32]).length+(wdS p.Mode).length≤1000000 by simp;omega),xZ1w,W.ret]
   simp [ptT,btT,hbe]
section
open Go Classical
theorem xZnD (a b:List xZ2) (hl:a.length≤1000000000):W (fun N=>xZ8r N a b) (·=decide (a=b)):=by
 simp only [xZ8r]
 refine wid.2 ?_
 simp only [xZ3n,xZrb,W.cond,W.ret]
 refine ⟨fun h=>?_,fun h=>?_⟩
 ·have h:¬ a.length=b.length:=by simpa using h
  rw [decide_eq_false (fun he=>h (by rw [he]))]
 ·refine w_eqs (by simpa using h) hl (fun F i e g h1 h2 h3 h4=>?_) (fun F h=>?_)
  ·simp only [xZ24,h1,h2,h3,h4,Option.bind_some,cond_true,xZ1w,xZop]
   refine ⟨fun he=>?_,fun he r hr=>?_⟩
   ·simp only [decide_eq_false he,Bool.not_false,cond_true];exact W.ret.2 rfl
   ·simp only [decide_eq_true he,Bool.not_true,cond_false];exact hr
  ·simp only [xZ24,h,cond_false];exact W.ret.2 rfl
end
section
open Go Classical
theorem xZni:W (fun N=>xZ1o N) fun r=>r=true:=⟨true,⟨300,fun N hN=>by
 simp only [xZ1o,Nat.ble_eq_true_of_le hN,cond_true]⟩,rfl⟩
theorem eaw14 {ι:Type} [Lim ι] (N:ι→Nat) [Tends N]:W (fun i=>(xZ1o (N i)).bind fun a=>some a) (·=true):=wid.2 (xZni.of N)
theorem xZgz (p:xZ5) (h50:p.Body.length≤2000) (ht:∀ n∈p.Body,n.Test.length≤700):W (fun N=>xZN N p p) (·=true):=by
 have e1:∀ a:Int,(a==a)=true:=fun a=>by simp
 have e2:∀ a:List UInt8,(a==a)=true:=fun a=>by simp
 have hne:((List.length p.Body:Int) != (List.length p.Body:Int))=false:=by simp
 simp only [xZN,e1,e2,cond_true,xZ1D,hne,cond_false]
 refine wid.2 ?_
 refine wf1 (l:=p.Body) (fun _=>True) [] rfl rfl (by omega) trivial ?_ ?_
 ·intro F pre e rest hl' h1 h2 h3 _ hn
  simp only [xZX,h1,h2,Option.bind_some,cond_true,xZau,e1,e2]
  refine W.call (f:=fun N=>(xZ8r N e.Test e.Test).bind fun same=>some same) (P:=(·=true)) (wid.2 ((xZnD e.Test e.Test (by have:=ht e (by rw [hl'];simp);omega)).mp fun a h=>by rw [h];exact decide_eq_true rfl)) ?_
  rintro _ rfl
  simp only [Bool.not_true,cond_false,h3,xZ1w]
  exact hn trivial
 ·intro F h1 _
  simp only [xZX,h1,cond_false,W.ret]
theorem xZk7 {p:xZ5} {t:GT} (hc:chkG p=0) (h1:1≤p.Within) (h2:p.Within≤1073741824) (hb:p.By=[]∨nm p.By=true) (hm:p.Mode=1∨p.Mode=2∨p.Mode=3) (ht:t.ok 0) (hd:t.dp≤16) (hf:p.Body=t.fl) (hl:(ptT p t).length≤600) (hk:(t.tk 0++btK p.Within p.By p.Mode).length≤200):
 W (fun N=>xZE N (ptT p t)) (·=.inl p):=by
 have hcut:Cut (ptT p t) (t.tk 0++btK p.Within p.By p.Mode):=sc1 (cut_g t 0 ht) (hdD dl32) (xZqh h1 h2 hb hm)
 obtain ⟨x1,x2⟩:=hcut [] 0 [] (.inl rfl) (by simp)
 rw [List.append_nil,List.length_nil,Nat.zero_add] at x1 x2
 simp only [xZE]
 refine W.call (xZow (ptT p t) (by omega)) ?_
 rintro _ rfl
 have hsc:scan (ptT p t)=scanR (ptT p t) 0 []:=by rw [scan,if_neg (by omega)]
 rw [hsc]
 obtain ⟨ms,m1,m2⟩:=x1 hk
 rw [xZ5g,List.nil_append] at m2
 have hlen:ms.length=(t.tk 0++btK p.Within p.By p.Mode).length:=by rw [← m1,List.length_map]
 have hM:M ms 0 (t.tk 0++btK p.Within p.By p.Mode):=M_of (p:=[]) (r:=ms) rfl (by rw [← hlen,← List.length_map (f:=ke),List.take_length,m1])
 rw [m2]
 simp only [scanE,Sum.elim_inl,xZ13]
 refine W.bind (P:=fun r=>∃ j:Int,r=.inl (⟨t.fl,p.Within,p.By,p.Mode⟩,ms,j,((ptT p t).length:Int))) (W.bind (show W (fun N=>xZf N ms 0 ((ptT p t).length:Int)) _ from xZrj (by omega) ht hd hm hb hM hlen) ?_) ?_
 ·rintro _ ⟨j,rfl⟩
  exact W.ret.2 ⟨j,rfl⟩
 ·rintro _ ⟨j,rfl⟩
  have hp:(⟨t.fl,p.Within,p.By,p.Mode⟩:xZ5)=p:=by rw [← hf]
  simp only [Sum.elim_inl,hp]
  refine W.call (xZc6 p) ?_
  rintro _ rfl
  simp only [hc,show ((0:Int) != 0)=false from rfl,cond_false,W.ret]
theorem xZkd (s:List UInt8) (hs:600 < s.length):W (fun N=>xZE N s) (fun r=>∃ x,r=.inr x):=by
 simp only [xZE,xZ9B,show ltB 600 (s.length:Int)=true from xZ18.2 (by omega),cond_true,xZR,show ((5:Int)==0)=false from rfl,cond_false,Option.bind_some,Sum.elim_inr,W.ret]
 exact ⟨_,rfl⟩
theorem xZqk {n:Int} (h:inK .u8 n):∃ k:Nat,k≤20∧IntKind.i64.wrap (Int.tmod n 21)=(k:Int):=by
 obtain ⟨h1,h2⟩:=xZq3 h
 have h3:Int.tmod n 21=n % 21:=Int.tmod_eq_emod_of_nonneg h1
 refine ⟨(n % 21).toNat,by omega,?_⟩
 rw [h3,IntKind.wrap_i64];omega
theorem xZcY (s:List UInt8) (n:Int) (hs:okS s) (hn:inK .u8 n):W (fun N=>xZ3A N s n) (·=true):=by
 obtain ⟨k,hk,ek⟩:=xZqk hn
 simp only [xZ3A,W.cond,xZ18,xZ28]
 refine ⟨fun _=>eaw14 _,fun h=>?_⟩
 have h500:s.length≤500:=by omega
 have hrl:∀ j:Nat,(List.replicate j (32:UInt8)).length=j:=fun j=>List.length_replicate
 have hrs:∀ j:Nat,List.replicate j (32:UInt8)++[32]=List.replicate (j+1) 32:=fun j=>List.replicate_succ'.symm
 refine W.call (xZb3 s (by omega)) ?_
 rintro _ rfl
 cases hq:GP s with
 | inr p=>
   have hp:chkG p=0∧(p.Body.length≤2000∧∀ n∈p.Body,tG n)∧∃ t:GT,p.Body=t.fl∧(t.tk 0++btK p.Within p.By p.Mode).length≤200:=by
    have hq:=hq
    unfold GP at hq
    cases hsc:scan s with
    | inr x=>rw [hsc] at hq;cases hq
    | inl y=>
      rw [hsc] at hq
      obtain ⟨hy,ht⟩:=xZiD hsc
      simp only at hq
      cases hpt:patS y s.length with
      | inl x=>rw [hpt] at hq;cases hq
      | inr p'=>
        rw [hpt] at hq
        simp only at hq
        split at hq
        ·rename_i hc
         cases hq
         obtain ⟨t,t1,t2⟩:=xZro (xZoy hsc) hpt
         exact ⟨hc,xZqj (by omega) ht hpt,t,t1,by omega⟩
        ·cases hq
   obtain ⟨hc,hp,t,t1,t2⟩:=hp
   obtain ⟨q1,q2,q3,q4,q5,t',q6,q7,q8⟩:=xZjD (fun n hn=>(hp.2 n hn).1) hc
   obtain rfl:t=t':=(xZmJ t t' [] [] (by rw [← t1,← q8])).1
   have hsame:=xZgz p hp.1 (fun n hn=>(hp.2 n hn).2)
   simp only [Sum.elim_inl]
   refine W.call (xZc6 p) ?_
   rintro _ rfl
   simp only [hc,show ((0:Int) != 0)=false from rfl,xZ3D,cond_false]
   refine W.lp2 (N:=fun N=>N) (fun b i=>∃ j:Nat,b=List.replicate j 32∧i=(j:Int)∧j≤k) (fun _ i=>k - i.toNat) ⟨0,rfl,rfl,Nat.zero_le _⟩ ?_
   rintro F b i ⟨j,rfl,rfl,hj⟩ hnx
   simp only [xZ49,ek]
   refine W.cond.2 ⟨fun hlt=>?_,fun hge=>?_⟩
   ·have hlt:=xZ18.1 hlt
    simp only [W.gd,xZT,hrl,hrs]
    exact ⟨Nat.ble_eq_true_of_le (by omega),by omega,hnx _ _ ⟨j+1,rfl,by omega,by omega⟩ (by omega)⟩
   ·have hge:=xZ28.1 hge
    have ha:=xZik (s:=s) (k:=j) h500 (by omega)
    have hb:=xZh6 (s:=s) (k:=j) h500 (by omega)
    rw [hq] at ha hb
    have e1:GP (List.replicate j 32++s)=.inr p:=by
     rcases ha.elim with ⟨c,a,a',h1,h2,h3⟩ | ⟨z,h1,h2⟩
     ·cases h1
     ·cases h1;exact h2
    have e2:GP (s++List.replicate j 32)=.inr p:=by
     rcases hb.elim with ⟨c,a,a',h1,h2,h3⟩ | ⟨z,h1,h2⟩
     ·cases h1
     ·cases h1;exact h2
    simp only [W.gd,hrl]
    refine ⟨Nat.ble_eq_true_of_le (by omega),?_⟩
    refine W.call (xZb3 (List.replicate j 32++s) (by rw [List.length_append,hrl];omega)) ?_
    rintro _ rfl
    simp only [e1,Sum.elim_inl,W.gd,hrl]
    refine ⟨Nat.ble_eq_true_of_le (by omega),?_⟩
    refine W.call (xZb3 (s++List.replicate j 32) (by rw [List.length_append,hrl];omega)) ?_
    rintro _ rfl
    simp only [e2,Sum.elim_inl,xZz,Option.bind_some,show ((0:Int) != 0)=false from rfl,cond_false]
    refine W.call hsame ?_
    rintro _ rfl
    simp only [Bool.not_true,cond_false]
    refine W.call hsame ?_
    rintro _ rfl
    simp only [Bool.not_true,xZv,cond_false]
    refine W.call (xZkp hc q1 q2 q3 q4 q5 q6 q8) ?_
    rintro _ rfl
    by_cases h6:(ptT p t).length≤600
    ·refine W.call (xZk7 hc q2 q3 q4 q5 q6 q7 q8 h6 t2) ?_
     rintro _ rfl
     simp only [Sum.elim_inl,show ltB 600 ((ptT p t).length:Int)=false from xZ28.2 (by omega),cond_false]
     refine W.call hsame ?_
     rintro _ rfl
     simp only [cond_true]
     exact eaw14 _
    ·refine W.call (xZkd _ (by omega)) ?_
     rintro _ ⟨x,rfl⟩
     simp only [Sum.elim_inr,show ltB 600 ((ptT p t).length:Int)=true from xZ18.2 (by omega),cond_true]
     exact eaw14 _
 | inl x=>
   obtain ⟨c,a⟩:=x
   obtain ⟨a1,a2⟩:=GP_at hq
   have hsame:=xZgz z13 (by simp [z13]) (fun n hn=>by cases hn)
   simp only [Sum.elim_inr,show ((List.length z13.Body:Int) != 0)=false from rfl,cond_false,xZ2t,xZ3i,Option.bind_some,show ltB a 0=false from xZ28.2 (by omega),show ltB (s.length:Int) a=false from xZ28.2 (by omega),xZ1n]
   refine W.lp2 (N:=fun N=>N) (fun b i=>∃ j:Nat,b=List.replicate j 32∧i=(j:Int)∧j≤k) (fun _ i=>k - i.toNat) ⟨0,rfl,rfl,Nat.zero_le _⟩ ?_
   rintro F b i ⟨j,rfl,rfl,hj⟩ hnx
   simp only [xZ48,ek]
   refine W.cond.2 ⟨fun hlt=>?_,fun hge=>?_⟩
   ·have hlt:=xZ18.1 hlt
    simp only [W.gd,xZT,hrl,hrs]
    exact ⟨Nat.ble_eq_true_of_le (by omega),by omega,hnx _ _ ⟨j+1,rfl,by omega,by omega⟩ (by omega)⟩
   ·have hge:=xZ28.1 hge
    have ha:=xZik (s:=s) (k:=j) h500 (by omega)
    have hb:=xZh6 (s:=s) (k:=j) h500 (by omega)
    rw [hq] at ha hb
    obtain ⟨a',e1,hr⟩:∃ a',GP (List.replicate j 32++s)=.inl (c,a')∧GR j a a':=by
     rcases ha.elim with ⟨c,a,a',h1,h2,h3⟩ | ⟨z,h1,h2⟩
     ·cases h1;exact ⟨_,h2,h3⟩
     ·cases h1
    obtain ⟨a'',e2⟩:∃ a',GP (s++List.replicate j 32)=.inl (c,a'):=by
     rcases hb.elim with ⟨c,a,a',h1,h2,h3⟩ | ⟨z,h1,h2⟩
     ·cases h1;exact ⟨_,h2⟩
     ·cases h1
    simp only [W.gd,hrl]
    refine ⟨Nat.ble_eq_true_of_le (by omega),?_⟩
    refine W.call (xZb3 (List.replicate j 32++s) (by rw [List.length_append,hrl];omega)) ?_
    rintro _ rfl
    simp only [e1,Sum.elim_inr,W.gd,hrl]
    refine ⟨Nat.ble_eq_true_of_le (by omega),?_⟩
    refine W.call (xZb3 (s++List.replicate j 32) (by rw [List.length_append,hrl];omega)) ?_
    rintro _ rfl
    simp only [e2,Sum.elim_inr,xZA,xZ3i,Option.bind_some,bne_self_eq_false,cond_false]
    refine W.call hsame ?_
    rintro _ rfl
    simp only [Bool.not_true,cond_false]
    refine W.call hsame ?_
    rintro _ rfl
    simp only [Bool.not_true,xZt,cond_false,xZ2t,xZ3i,Option.bind_some,hrl,W.gd,xZT]
    refine ⟨by omega,?_⟩
    rcases hr with rfl | ⟨rfl,rfl⟩
    ·simp only [BEq.rfl,cond_true,xZ1r,xZ29]
     exact eaw14 _
    ·by_cases h0:j=0
     ·subst h0
      simp only [show ((0:Int)==0+((0:Nat):Int))=true from rfl,cond_true,xZ1r,xZ29]
      exact eaw14 _
     ·simp only [show ((0:Int)==0+(j:Int))=false from by simpa using by omega,cond_false,show ((0:Int)==0)=true from rfl,cond_true,xZ1r,xZ29]
      exact eaw14 _
end
end Go.Proofs.YtahklhniofiofaaGreatDoor.E
