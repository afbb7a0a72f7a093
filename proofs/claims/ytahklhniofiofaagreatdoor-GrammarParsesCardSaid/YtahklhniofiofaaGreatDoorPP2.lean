/- Patterns as text: the reference's small steps. No premise beyond what each theorem says. -/
import Derived.Test.YtahklhniofiofaaGreatDoorPP1
set_option linter.all false
set_option linter.unusedSimpArgs false
set_option linter.unusedVariables false
namespace Go.Proofs.YtahklhniofiofaaGreatDoor.P
open Go
section
section
variable {N:Nat} {y:List xZ0} {i:Nat} {e:Int} {f:xZ3}
theorem xZqF {k:Int} (hk:k≠0) (s:List UInt8):xZ7a N ⟨y,i,e,f⟩ k s=some (isT' y i k s):=by
 simp only [xZ7a,xZdR]
 by_cases h:i < y.length
 ·simp only [h,decide_true,cond_true,(ix_at h).1,Option.bind_some,isT']
  cases (tk y i).Kind==k<;>simp
 ·have:isT' y i k s=false:=by
   rw [isT',xZgm h]
   have:(zT.Kind==k)=false:=by simpa [zT] using fun e:(0:Int)=k=>hk e.symm
   rw [this];rfl
  simp [h,this]
theorem xZnO (s:List UInt8):xZ1c N ⟨y,i,e,f⟩ s=some (isT' y i 4 s):=by
 simp only [xZ1c,xZqF (show (4:Int)≠0 by decide),Option.bind_some]
def flS (y:List xZ0) (e:Int) (i:Nat) (f:xZ3) (c:Int):xZ7:=if f.E=0 then ⟨y,i,e,⟨c,plc y e i⟩⟩ else ⟨y,i,e,f⟩
theorem xZnb (c:Int):xZ1i N ⟨y,i,e,f⟩ c=some (flS y e i f c):=by
 simp only [xZ1i,xZdR,flS]
 by_cases h:i < y.length
 ·simp only [h,decide_true,cond_true,(ix_at h).1,Option.bind_some,plc,(ix_at h).2]
  by_cases h0:f.E=0
  ·simp [h0]
  ·simp [h0,show (f.E==0)=false by simpa using h0]
 ·simp only [h,decide_false,cond_false,plc,List.getElem?_eq_none (Nat.le_of_not_lt h)]
  by_cases h0:f.E=0
  ·simp [h0]
  ·simp [h0,show (f.E==0)=false by simpa using h0]
theorem flS0 (c a:Int):flS y e i ⟨0,a⟩ c=⟨y,i,e,⟨c,plc y e i⟩⟩:=if_pos rfl
theorem flSf {c c' a:Int} (h:c'≠0):flS y e i ⟨c',a⟩ c=⟨y,i,e,⟨c',a⟩⟩:=if_neg h
theorem xZcp {k:Int} (hk:k≠0) (s:List UInt8) (hi:i≤1000000):xZz N ⟨y,i,e,f⟩ k s=some (if isT' y i k s=true then ⟨y,((i+1:Nat):Int),e,f⟩ else flS y e i f 4):=by
 simp only [xZz,xZqF hk,Option.bind_some,xZnb,xZ8a hi,xZ1S]
 cases isT' y i k s<;>simp
theorem xZpE (hi:i≤1000000):xZ4G N ⟨y,i,e,f⟩=some (if f.E=0∧(tk y i).Kind=1 then ((tk y i).Text,⟨y,((i+1:Nat):Int),e,f⟩) else ([],flS y e i f 4)):=by
 simp only [xZ4G,xZn8,xZnb,Option.bind_some,xZ8a hi,xZ1S]
 by_cases h0:f.E=0
 ·simp only [show (f.E != 0)=false by simpa using h0,cond_false]
  by_cases h:i < y.length
  ·simp only [h,decide_true,Bool.not_true,cond_false,(ix_at h).1,Option.bind_some]
   by_cases h1:(tk y i).Kind=1
   ·simp [h0,h1]
   ·simp [h0,h1,show ((tk y i).Kind != 1)=true by simpa using h1]
  ·simp [h,xZgm h,zT]
 ·simp [h0,show (f.E != 0)=true by simpa using h0]
theorem xZp4 (hi:i≤1000000):xZ41 N ⟨y,i,e,f⟩=some (if f.E=0 then (match numS y i with | some a=>(a,⟨y,((i+1:Nat):Int),e,f⟩) | none=>(0,flS y e i f 4)) else (0,flS y e i f 4)):=by
 simp only [xZ41,xZn8,xZnb,Option.bind_some,xZ8a hi,xZ1S]
 by_cases h0:f.E=0
 ·simp only [show (f.E != 0)=false by simpa using h0,cond_false,if_pos h0,numS]
  by_cases h:i < y.length
  ·simp only [h,decide_true,Bool.not_true,cond_false,(ix_at h).1,Option.bind_some]
   by_cases h1:(tk y i).Kind=3
   ·by_cases h2:(tk y i).Val.Kind=1
    ·simp [h1,h2]
    ·simp [h1,h2,show ((tk y i).Val.Kind != 1)=true by simpa using h2]
   ·simp [h1,show ((tk y i).Kind != 3)=true by simpa using h1]
  ·simp [h,xZgm h,zT]
 ·simp [h0,show (f.E != 0)=true by simpa using h0]
end
def ER (K:Nat) (y:List xZ0) (e:Int):RG→List xZ1×xZ7→Prop
 | .inl (c,a),r=>c≠0∧(∃ j:Nat,j≤100000∧r.2=⟨y,(j:Int),e,⟨c,a⟩⟩)∧r.1.length≤K∧∀ n t,r.1=n::t→0≤n.Kids∧n.Kids≤K
 | .inr (l,i),r=>r=(l,⟨y,(i:Int),e,⟨0,0⟩⟩)
theorem ER.mono {K K':Nat} (h:K≤K') {y:List xZ0} {e:Int}:∀ {g:RG} {r:List xZ1×xZ7},ER K y e g r→ER K' y e g r
 | .inl (c,a),r,⟨h1,h2,h3,h4⟩=>⟨h1,h2,by omega,fun n t hn=>by have:=h4 n t hn;omega⟩
 | .inr (l,i),r,h=>h
theorem xZrJ {y:List xZ0} {e k:Int} {i:Nat} (hy:y.length≤700) (hi:i≤y.length) (ht:okT y):W (fun N=>xZ6Y N ⟨y,i,e,⟨0,0⟩⟩ k) (ER 1500 y e (atomS y e k i)):=by
 have z4:(4:Int)≠0:=by decide
 have b4:((4:Int)==0)=false:=rfl
 have b0:((0:Int)==0)=true:=rfl
 have one:∀ (n:xZ1),n.Kids=0→∀ m t,[n]=m::t→0≤m.Kids∧m.Kids≤((1500:Nat):Int):=fun n hn m t h=>by cases h;omega
 simp only [xZ6Y,xZpE (y:=y) (i:=i) (e:=e) (f:=⟨0,0⟩) (show i≤1000000 by omega),true_and,flS0]
 unfold atomS
 by_cases h1:(tk y i).Kind=1
 ·have l1:=xZS (by decide) h1
  simp only [if_pos h1,Option.bind_some,b0,cond_true,xZcp (y:=y) (i:=i+1) (e:=e) (f:=⟨0,0⟩) z4 [58] (show i+1≤1000000 by omega),flS0]
  by_cases h2:isT' y (i+1) 4 [58]=true
  ·have l2:=xZS (by decide) (xZP h2).1
   simp only [if_pos h2,xZpE (y:=y) (i:=i+1+1) (e:=e) (f:=⟨0,0⟩) (show i+1+1≤1000000 by omega),true_and,flS0,Option.bind_some]
   by_cases h3:(tk y (i+2)).Kind=1
   ·have l3:=xZS (by decide) h3
    simp only [show i+1+1=i+2 from rfl,if_pos h3,b0,cond_true,show i+2+1=i+3 from rfl,xZnO,Option.bind_some]
    by_cases h4:isT' y (i+3) 4 [91]=true
    ·have l4:=xZS (by decide) (xZP h4).1
     simp only [h4,if_true,cond_true,xZ8a (show i+3≤1000000 by omega),xZ1S]
     refine W.call (f:=fun N=>xZ4I N y ((i+3:Nat)+1:Int) e) (P:=(·=_)) (xZsj (b:=i+4) (e:=e) hy (by omega) ht) ?_
     rintro _ rfl
     cases hq:PAR y (i+4) e with
     | inl x=>
       obtain ⟨c,a⟩:=x
       have hc:=xZw2 hy (by omega) hq
       simp only [show (c != 0)=true by simpa using hc,cond_true,W.ret]
       exact ⟨hc,⟨_,by omega,rfl⟩,by simp,fun n t h=>by cases h⟩
     | inr p=>
       obtain ⟨l,j⟩:=p
       have hl:=xZmI hy (by omega) hq
       simp only [show ((0:Int) != 0)=false from rfl,cond_false,xZcp (y:=y) (i:=j) (e:=e) (f:=⟨0,0⟩) z4 [93] (show j≤1000000 by omega),flS0,Option.bind_some]
       by_cases h5:isT' y j 4 [93]=true
       ·simp only [if_pos h5,W.ret];rfl
       ·simp only [if_neg h5,W.ret];exact ⟨z4,⟨_,by omega,rfl⟩,by simp,one _ rfl⟩
    ·simp only [show isT' y (i+3) 4 [91]=false by simpa using h4,cond_false,W.ret,Bool.false_eq_true,if_false];rfl
   ·simp only [show i+1+1=i+2 from rfl,if_neg h3,b4,cond_false,W.ret];exact ⟨z4,⟨_,by omega,rfl⟩,by simp,one _ rfl⟩
  ·simp only [if_neg h2,xZpE (y:=y) (i:=i+1) (e:=e) (show i+1≤1000000 by omega),Option.bind_some,show ¬ ((4:Int)=0∧(tk y (i+1)).Kind=1) from fun h=>z4 h.1,if_false,flSf z4,b4,cond_false,W.ret]
   exact ⟨z4,⟨_,by omega,rfl⟩,by simp,one _ rfl⟩
 ·simp only [if_neg h1,Option.bind_some,b4,cond_false,xZpE (y:=y) (i:=i) (e:=e) (show i≤1000000 by omega),show ¬ ((4:Int)=0∧(tk y i).Kind=1) from fun h=>z4 h.1,if_false,flSf z4,W.ret]
  exact ⟨z4,⟨_,by omega,rfl⟩,by simp,one _ rfl⟩
def EO (y:List xZ0) (e:Int):(Int×Int)⊕(Option (Int×Int)×Nat)→Int×Int×Bool×xZ7→Prop
 | .inl (c,a),r=>c≠0∧r.2.2.1=true∧∃ j:Nat,j≤100000∧r.2.2.2=⟨y,(j:Int),e,⟨c,a⟩⟩
 | .inr (none,j),r=>r=(0,0,false,⟨y,(j:Int),e,⟨0,0⟩⟩)
 | .inr (some (a,b),j),r=>r=(a,b,true,⟨y,(j:Int),e,⟨0,0⟩⟩)
theorem xZsC {y:List xZ0} {e:Int} {i:Nat} (hi:i≤90000):W (fun N=>xZ3M N ⟨y,i,e,⟨0,0⟩⟩) (EO y e (oftS y e i)):=by
 have z4:(4:Int)≠0:=by decide
 have b4:((4:Int)==0)=false:=rfl
 have b0:((0:Int)==0)=true:=rfl
 simp only [xZ3M,xZnO,Option.bind_some]
 unfold oftS
 by_cases h1:isT' y i 4 [43]=true
 ·simp only [h1,if_true,cond_true,xZcp (y:=y) (i:=i) (e:=e) (f:=⟨0,0⟩) z4 [43] (show i≤1000000 by omega),Option.bind_some,W.ret];rfl
 simp only [show isT' y i 4 [43]=false by simpa using h1,Bool.false_eq_true,if_false,cond_false]
 by_cases h2:isT' y i 4 [42]=true
 ·simp only [h2,if_true,cond_true,xZcp (y:=y) (i:=i) (e:=e) (f:=⟨0,0⟩) z4 [42] (show i≤1000000 by omega),Option.bind_some,W.ret];rfl
 simp only [show isT' y i 4 [42]=false by simpa using h2,Bool.false_eq_true,if_false,cond_false]
 by_cases h3:isT' y i 4 [63]=true
 ·simp only [h3,if_true,cond_true,xZcp (y:=y) (i:=i) (e:=e) (f:=⟨0,0⟩) z4 [63] (show i≤1000000 by omega),Option.bind_some,W.ret];rfl
 simp only [show isT' y i 4 [63]=false by simpa using h3,Bool.false_eq_true,if_false,cond_false]
 by_cases h4:isT' y i 4 [123]=true
 rotate_left
 ·simp only [show isT' y i 4 [123]=false by simpa using h4,Bool.false_eq_true,if_false,Bool.not_false,cond_true,W.ret];rfl
 simp only [h4,if_true,Bool.not_true,cond_false,xZcp (y:=y) (i:=i) (e:=e) (f:=⟨0,0⟩) z4 [123] (show i≤1000000 by omega),Option.bind_some,xZp4 (y:=y) (i:=i+1) (e:=e) (f:=⟨0,0⟩) (show i+1≤1000000 by omega),flS0]
 unfold cntS
 cases g1:numS y (i+1) with
 | none=>simp only [b4,cond_false,W.ret];exact ⟨z4,rfl,_,by omega,rfl⟩
 | some a=>
   simp only [b0,cond_true,xZnO,Option.bind_some]
   by_cases h5:isT' y (i+1+1) 4 [44]=true
   ·simp only [h5,if_true,cond_true,xZcp (y:=y) (i:=i+1+1) (e:=e) (f:=⟨0,0⟩) z4 [44] (show i+1+1≤1000000 by omega),Option.bind_some,xZnO]
    by_cases h6:isT' y (i+1+2) 4 [125]=true
    ·simp only [show i+1+1+1=i+1+2 from rfl,h6,if_true,Bool.not_true,cond_false,b0,cond_true,xZcp (y:=y) (i:=i+1+2) (e:=e) (f:=⟨0,0⟩) z4 [125] (show i+1+2≤1000000 by omega),Option.bind_some,W.ret];rfl
    ·simp only [show i+1+1+1=i+1+2 from rfl,show isT' y (i+1+2) 4 [125]=false by simpa using h6,Bool.false_eq_true,if_false,Bool.not_false,cond_true,xZp4 (y:=y) (i:=i+1+2) (e:=e) (f:=⟨0,0⟩) (show i+1+2≤1000000 by omega),if_true,flS0,Option.bind_some]
     cases g2:numS y (i+1+2) with
     | none=>simp only [b4,cond_false,W.ret];exact ⟨z4,rfl,_,by omega,rfl⟩
     | some b=>
       simp only [b0,cond_true,xZcp (y:=y) (i:=i+1+2+1) (e:=e) (f:=⟨0,0⟩) z4 [125] (show i+1+2+1≤1000000 by omega),flS0,Option.bind_some,W.ret]
       by_cases h7:isT' y (i+1+3) 4 [125]=true
       ·simp only [show i+1+2+1=i+1+3 from rfl,h7,if_true];rfl
       ·simp only [show i+1+2+1=i+1+3 from rfl,show isT' y (i+1+3) 4 [125]=false by simpa using h7,Bool.false_eq_true,if_false];exact ⟨z4,rfl,_,by omega,rfl⟩
   ·simp only [show isT' y (i+1+1) 4 [44]=false by simpa using h5,Bool.false_eq_true,if_false,cond_false,xZcp (y:=y) (i:=i+1+1) (e:=e) (f:=⟨0,0⟩) z4 [125] (show i+1+1≤1000000 by omega),flS0,Option.bind_some,W.ret]
    by_cases h7:isT' y (i+1+1) 4 [125]=true
    ·simp only [h7,if_true];rfl
    ·simp only [show isT' y (i+1+1) 4 [125]=false by simpa using h7,Bool.false_eq_true,if_false];exact ⟨z4,rfl,_,by omega,rfl⟩
end
def addR (k:Int) (s:Int×List xZ1):List xZ1→Int×List xZ1
 | []=>(s.1+1,s.2)
 | n::r=>addG k s (n::r)
def foR (k:Int) (ys:List (List xZ1)):Int×List xZ1:=ys.foldl (addR k) (0,[])
def joR (k:Int):List (List xZ1)→List xZ1
 | [l]=>l
 | ys=>hdN k (foR k ys)
theorem xZrM (k:Int) (ys:List (List xZ1)) (l:List xZ1):foR k (ys++[l])=addR k (foR k ys) l:=by simp [foR,List.foldl_append]
def few (l:List xZ1):Prop:=l.length≤10000000∧∀ n t,l=n::t→0≤n.Kids∧n.Kids≤10000000
theorem xZrA {k:Int}:∀ (ys:List (List xZ1)) (s:Int×List xZ1) (m:Nat),(∀ l∈ys,few l)→0≤s.1→s.1≤10000000 * (m:Int)→s.2.length≤10000000 * m→
 0≤(ys.foldl (addR k) s).1∧(ys.foldl (addR k) s).1≤10000000 * ((m:Int)+ys.length)∧(ys.foldl (addR k) s).2.length≤10000000 * (m+ys.length)
 | [],s,m,h,h1,h2,h3=>⟨h1,by simpa using h2,by simpa using h3⟩
 | l::ys,s,m,h,h1,h2,h3=>by
   have hl:=h l (List.mem_cons_self ..)
   obtain ⟨a1,a2⟩:=hl
   have key:0≤(addR k s l).1∧(addR k s l).1≤10000000 * ((m+1:Nat):Int)∧(addR k s l).2.length≤10000000 * (m+1):=by
    cases l with
    | nil=>simp only [addR];omega
    | cons n r=>
      obtain ⟨k1,k2⟩:=a2 n r rfl
      simp only [List.length_cons] at a1
      simp only [addR,addG]
      split<;>simp only [List.length_append,List.length_cons]<;>omega
   obtain ⟨q1,q2,q3⟩:=xZrA ys (addR k s l) (m+1) (fun x hx=>h x (List.mem_cons_of_mem _ hx)) key.1 key.2.1 key.2.2
   simp only [List.foldl_cons,List.length_cons]
   exact ⟨q1,by omega,by omega⟩
theorem j1_eq {k:Int} {s:Int×List xZ1} {l:List (List xZ1)} {p:Nat} {e:List xZ1} {next:Int→List xZ1→Option (List xZ1)} (N:Nat) (hlt:ltB (p:Int) (l.length:Int)=true) (hix:ix l (p:Int)=some e) (hi:i64b ((p:Int)+1)=true)
 (h1:0≤s.1∧s.1≤20000000000) (h2:few e) (h3:s.2.length≤20000000000):
 xZ3c N k l next p (hdN k s)=next ((p:Int)+1) (hdN k (addR k s e)):=by
 have e0:∀ (a:xZ1) (l:List xZ1),ix (a::l) 0=some a:=fun _ _=>rfl
 obtain ⟨f1,f2⟩:=h2
 simp only [xZ3c,hlt,hix,hi,cond_true,Option.bind_some,xZ1S,hdN,e0]
 cases e with
 | nil=>
   have g1:i64b (s.1+1)=true:=xZo.2 (by omega)
   have g3:Nat.ble ((List.length (List.set ((⟨k,s.1,0,0,[],[],[]⟩:xZ1)::s.2) 0 (xZ1.mk k (s.1+1) 0 0 [] [] []))+List.length ([]:List xZ1)) * 88) 140737488355328=true:=Nat.ble_eq_true_of_le (by simp only [List.length_set,List.length_cons,List.length_nil];omega)
   simp only [show ltB 0 ((([]:List xZ1).length:Nat):Int)=false from rfl,cond_false,g1,xZ1S,g3,addR]
   simp only [List.append_nil];rfl
 | cons n r=>
   obtain ⟨k1,k2⟩:=f2 n r rfl
   have hl0:ltB 0 (((n::r).length:Nat):Int)=true:=xZv.2 (by simp only [List.length_cons];omega)
   simp only [List.length_cons] at f1
   simp only [hl0,cond_true,addR,addG]
   by_cases hk:n.Kind=k
   ·have g1:i64b (s.1+n.Kids)=true:=xZo.2 (by omega)
    have g2:leB 1 ((n::r).length:Int)=true:=xZ16.2 (by simp only [List.length_cons];omega)
    have g3:Nat.ble ((List.length (List.set ((⟨k,s.1,0,0,[],[],[]⟩:xZ1)::s.2) 0 (xZ1.mk k (s.1+n.Kids) 0 0 [] [] []))+List.length (List.drop 1 (n::r))) * 88) 140737488355328=true:=Nat.ble_eq_true_of_le (by simp only [List.length_set,List.length_cons,List.drop_succ_cons,List.drop_zero];omega)
    simp only [show (n.Kind==k)=true by simpa using hk,cond_true,if_pos hk,g1,g2,g3,xZ1S,e0,Option.bind_some];rfl
   ·have g1:i64b (s.1+1)=true:=xZo.2 (by omega)
    have g3:Nat.ble ((List.length (List.set ((⟨k,s.1,0,0,[],[],[]⟩:xZ1)::s.2) 0 (xZ1.mk k (s.1+1) 0 0 [] [] []))+List.length (n::r)) * 88) 140737488355328=true:=Nat.ble_eq_true_of_le (by simp only [List.length_set,List.length_cons];omega)
    simp only [show (n.Kind==k)=false by simpa using hk,cond_false,if_neg hk,g1,g3,xZ1S,e0,Option.bind_some];rfl
theorem xZo1 {k:Int} {l:List (List xZ1)} (h0:1≤l.length) (h1:l.length≤1000) (hl:∀ x∈l,few x):W (fun N=>xZW N k l) (·=joR k l):=by
 simp only [xZW]
 by_cases h:l.length=1
 ·obtain ⟨x,rfl⟩:=List.length_eq_one_iff.1 h
  exact wall fun _=>rfl
 have hj:joR k l=hdN k (foR k l):=by
  match l,h0,h with
  | [x],_,h=>exact absurd rfl h
  | x::y::r,_,_=>rfl
 have hne:((l.length:Int)==1)=false:=by simpa using (by omega:¬ (l.length:Int)=1)
 rw [hj]
 simp only [hne,cond_false]
 refine wf2a (l:=l) (fun pre ys=>ys=hdN k (foR k pre)) [] rfl rfl (by omega) rfl ?_ ?_
 ·rintro F pre e rest ys hl' a1 a2 a3 rfl hn
  have hm:∀ x∈pre,few x:=fun x hx=>hl x (by rw [hl'];simp [hx])
  obtain ⟨b1,b2,b3⟩:=xZrA (k:=k) pre (0,[]) 0 hm (Int.le_refl _) (by simp) (by simp)
  have hpl:pre.length≤1000:=by rw [hl'] at h1;simp at h1;omega
  have:(fun p=>xZ3c p.1 k l (F p) (pre.length:Int) (hdN k (foR k pre)))=fun p=>F p ((pre.length:Int)+1) (hdN k (foR k (pre++[e]))):=by
   funext p
   rw [xZrM]
   exact j1_eq p.1 a1 a2 a3 ⟨b1,by simp only [foR] at *;omega⟩ (hl e (by rw [hl'];simp)) (by simp only [foR] at *;omega)
  rw [this]
  exact hn _ rfl
 ·rintro F ys a1 rfl
  simp only [xZ3c,a1,cond_false,W.ret]
theorem xZtM {k:Int} {l:List (List xZ1)} (h1:l.length≤800) (K:Nat) (h:∀ x∈l,x.length≤K∧∀ n t,x=n::t→0≤n.Kids∧n.Kids≤(K:Int)) (hk:1≤K):(joR k l).length≤800 * K+1∧∀ n t,joR k l=n::t→0≤n.Kids∧n.Kids≤800 * (K:Int)+1:=by
 have key:∀ (ys:List (List xZ1)) (s:Int×List xZ1),(∀ l∈ys,l.length≤K∧∀ n t,l=n::t→0≤n.Kids∧n.Kids≤(K:Int))→0≤s.1→
  0≤(ys.foldl (addR k) s).1∧(ys.foldl (addR k) s).1≤s.1+((K * ys.length:Nat):Int)∧(ys.foldl (addR k) s).2.length≤s.2.length+K * ys.length:=by
  intro ys
  induction ys with
  | nil=>intro s _ h;simp;exact h
  | cons x ys ih=>
    intro s hx h0
    obtain ⟨a1,a2⟩:=hx x (List.mem_cons_self ..)
    have k3:0≤(addR k s x).1∧(addR k s x).1≤s.1+K∧(addR k s x).2.length≤s.2.length+K:=by
     cases x with
     | nil=>simp only [addR];omega
     | cons n r=>
       obtain ⟨k1,k2⟩:=a2 n r rfl
       simp only [List.length_cons] at a1
       simp only [addR,addG]
       split<;>simp only [List.length_append,List.length_cons]<;>omega
    obtain ⟨q1,q2,q3⟩:=ih (addR k s x) (fun l hl=>hx l (List.mem_cons_of_mem _ hl)) k3.1
    simp only [List.foldl_cons,List.length_cons,Nat.mul_succ]
    exact ⟨q1,by omega,by omega⟩
 obtain ⟨q1,q2,q3⟩:=key l (0,[]) h (Int.le_refl _)
 have hm:K * l.length≤K * 800:=Nat.mul_le_mul_left K h1
 simp only [List.length_nil] at q3
 match l,h1,h,q1,q2,q3,hm with
 | [x],_,h,_,_,_,_=>
   obtain ⟨a1,a2⟩:=h x (by simp)
   exact ⟨by show x.length≤_;omega,fun n t hn=>by have:=a2 n t hn;omega⟩
 | [],_,_,_,_,_,_=>exact ⟨by simp [joR,hdN,foR],fun n t hn=>by cases hn;simp [foR];omega⟩
 | x::z::r,h1,_,q1,q2,q3,hm=>
   refine ⟨?_,fun n t hn=>?_⟩
   ·show (foR k (x::z::r)).2.length+1≤_
    simp only [foR];omega
   ·cases hn
    simp only [foR];omega
theorem xZci {R:Type} {q:EqR R} {a:Option R}:both q a a=a:=xZpV rfl
theorem xZuc {y:List xZ0} {e:Int} (hy:y.length≤700) {k:Int} {sep:List UInt8} {f:Nat→RG} {g:Nat→xZ7→Option (List xZ1×xZ7)}
 {F0:Nat→(List xZ0→Int→Int→Int→Int→List (List xZ1)→Option (List xZ1×xZ7))→List xZ0→Int→Int→Int→Int→List (List xZ1)→Option (List xZ1×xZ7)} {c:Nat} (hc:c≤1) {K K':Nat} (hK:K≤10000000) (hk1:2000≤K) (hK':800 * K+1≤K')
 (hg:∀ j:Nat,j≤y.length→okG y (c+1) j (f j)∧W (fun N=>g N ⟨y,j,e,⟨0,0⟩⟩) (ER K y e (f j)))
 (hF:∀ N nx y1 y2 y3 y4 y5 ys,F0 N nx y1 y2 y3 y4 y5 ys=bif (y4==0) then
   (xZ1c N (xZ7.mk y1 y2 y3 (xZ3.mk y4 y5)) sep).bind fun sign=>
   bif sign then
    (xZz N (xZ7.mk y1 y2 y3 (xZ3.mk y4 y5)) 4 sep).bind fun past=>
    (g N past).bind fun b=>
    gd (Nat.ble ((List.length ys+1) * 24) 140737488355328) (nx b.2.l b.2.at_ b.2.end_ b.2.f.E b.2.f.At (ys++[b.1]))
   else
    both EqR.cls ((xZW N k ys).bind fun join=>some (join,(xZ7.mk y1 y2 y3 (xZ3.mk y4 y5)))) ((xZW N k ys).bind fun join2=>some (join2,(xZ7.mk y1 y2 y3 (xZ3.mk y4 y5))))
  else
   both EqR.cls ((xZW N k ys).bind fun join3=>some (join3,(xZ7.mk y1 y2 y3 (xZ3.mk y4 y5)))) ((xZW N k ys).bind fun join4=>some (join4,(xZ7.mk y1 y2 y3 (xZ3.mk y4 y5)))))
 {i:Nat} (hi:i≤y.length):
 W (fun N=>(g N ⟨y,i,e,⟨0,0⟩⟩).bind fun item=>lp6 (F0 N) N item.2.l item.2.at_ item.2.end_ item.2.f.E item.2.f.At [item.1]) (ER K' y e (lsS y k sep f i)):=by
 obtain ⟨ok,hw⟩:=hg i hi
 have fewK:∀ {l:List xZ1},(l.length≤K∧∀ n t,l=n::t→0≤n.Kids∧n.Kids≤(K:Int))→few l:=fun h=>⟨by omega,fun n t hn=>by have:=h.2 n t hn;omega⟩
 refine W.bind hw fun r hr=>?_
 refine W.lp6 (P:=fun v0 v1 v2 v3 v4 (ys:List (List xZ1))=>v0=y∧v2=e∧1≤ys.length∧(∀ l∈ys,l.length≤K∧∀ n t,l=n::t→0≤n.Kids∧n.Kids≤(K:Int))∧
  ((∃ m j:Nat,v1=(j:Int)∧v3=0∧v4=0∧i < j∧j≤y.length∧y.length≤j+m+1∧ys.length≤j∧
     (if isT' y j 4 sep=true then (match f (j+1) with
       | .inl x=>.inl x
       | .inr (l,j')=>lpS y k sep f m (addG k (foR k ys) l) j') else .inr (joR k ys,j))=lsS y k sep f i)∨
   (∃ (a:Int) (j:Nat),v3≠0∧v4=a∧v1=(j:Int)∧j≤100000∧ys.length≤800∧lsS y k sep f i=.inl (v3,a))))
  (m:=fun _ v1 _ v3 _ _=>if v3=0 then y.length+1 - v1.toNat else 0) ?_ ?_
 ·
  unfold lsS
  cases h:f i with
  | inl x=>
    obtain ⟨q,a⟩:=x
    rw [h] at hr
    obtain ⟨q1,⟨j,q2,q3⟩,q4,q5⟩:=hr
    rw [q3]
    exact ⟨rfl,rfl,by simp,fun l hl=>by rw [List.mem_singleton.1 hl];exact ⟨q4,q5⟩,.inr ⟨a,j,q1,rfl,rfl,q2,by simp,rfl⟩⟩
  | inr p=>
    obtain ⟨l,j⟩:=p
    rw [h] at hr ok
    obtain rfl:r=(l,⟨y,(j:Int),e,⟨0,0⟩⟩):=hr
    obtain ⟨a1,a2,n,t,rfl,a4,a5,a6⟩:=ok
    refine ⟨rfl,rfl,by simp,fun l hl=>by rw [List.mem_singleton.1 hl];exact ⟨by show (n::t).length≤K;omega,fun m t' hm=>by cases hm;omega⟩,.inl ⟨y.length - j - 1,j,rfl,rfl,rfl,a1,a2,by omega,by simp;omega,?_⟩⟩
    by_cases hs:isT' y j 4 sep=true
    ·have:=xZS (by decide) (xZP hs).1
     obtain ⟨m,hm⟩:∃ m,y.length - j=m+1:=⟨y.length - j - 1,by omega⟩
     simp only [if_pos hs,hm,lpS,Nat.add_sub_cancel];rfl
    ·simp only [if_neg hs];rfl
 ·rintro F v0 v1 v2 v3 v4 ys ⟨rfl,rfl,l1,lk,hst⟩ hn
  simp only [hF,xZci]
  rcases hst with ⟨m,j,rfl,rfl,rfl,p1,p2,p3,p4,p5⟩ | ⟨a,j,p1,rfl,rfl,p2,p3,p4⟩
  ·simp only [show ((0:Int)==0)=true from rfl,cond_true,xZnO,Option.bind_some]
   by_cases hs:isT' v0 j 4 sep=true
   ·have hj:=xZS (by decide) (xZP hs).1
    simp only [hs,cond_true,if_true,xZcp (y:=v0) (i:=j) (e:=v2) (f:=⟨0,0⟩) (show (4:Int)≠0 by decide) sep (show j≤1000000 by omega),Option.bind_some]
    obtain ⟨ok2,hw2⟩:=hg (j+1) (by omega)
    have g3:Nat.ble ((List.length ys+1) * 24) 140737488355328=true:=Nat.ble_eq_true_of_le (by omega)
    refine W.bind (W.lift hw2) fun b hb=>?_
    simp only [g3,xZ1S]
    cases h:f (j+1) with
    | inl x=>
      obtain ⟨q,a⟩:=x
      rw [h] at hb p5
      obtain ⟨q1,⟨j2,q2,q3⟩,q4,q5⟩:=hb
      rw [q3]
      refine hn v0 (j2:Int) v2 q a (ys++[b.1]) ⟨rfl,rfl,by simp,fun l hl=>?_,.inr ⟨a,j2,q1,rfl,rfl,q2,by simp;omega,by rw [← p5,if_pos hs]⟩⟩ ?_
      ·rcases List.mem_append.1 hl with hl | hl
       ·exact lk l hl
       ·rw [List.mem_singleton.1 hl];exact ⟨q4,q5⟩
      ·simp only [if_neg q1,if_true,Int.toNat_natCast];omega
    | inr p=>
      obtain ⟨l,j2⟩:=p
      rw [h] at hb ok2 p5
      obtain rfl:b=(l,⟨v0,(j2:Int),v2,⟨0,0⟩⟩):=hb
      obtain ⟨a1,a2,n,t,rfl,a4,a5,a6⟩:=ok2
      have hfo:foR k (ys++[n::t])=addG k (foR k ys) (n::t):=by rw [xZrM];rfl
      have hjo:joR k (ys++[n::t])=hdN k (foR k (ys++[n::t])):=by
       match ys,l1 with
       | x::r,_=>cases r<;>rfl
      refine hn v0 (j2:Int) v2 0 0 (ys++[n::t]) ⟨rfl,rfl,by simp,fun l hl=>?_,.inl ⟨m - 1,j2,rfl,rfl,rfl,by omega,a2,by omega,by simp;omega,?_⟩⟩ ?_
      ·rcases List.mem_append.1 hl with hl | hl
       ·exact lk l hl
       ·rw [List.mem_singleton.1 hl];exact ⟨by omega,fun m t hm=>by cases hm;omega⟩
      ·rw [← p5,if_pos hs,hjo,hfo]
       by_cases hs2:isT' v0 j2 4 sep=true
       ·have:=xZS (by decide) (xZP hs2).1
        obtain ⟨m',hm⟩:∃ m',m=m'+1:=⟨m - 1,by omega⟩
        subst hm
        simp only [if_pos hs2,lpS,Nat.add_sub_cancel];rfl
       ·simp only [if_neg hs2,xZp1 hs2]
      ·simp only [if_true,Int.toNat_natCast];omega
   ·simp only [show isT' v0 j 4 sep=false by simpa using hs,cond_false,Bool.false_eq_true,if_false]
    refine W.call (xZo1 l1 (by omega) fun x hx=>fewK (lk x hx)) ?_
    rintro _ rfl
    rw [← p5,if_neg hs]
    exact W.ret.2 rfl
  ·simp only [show (v3==0)=false by simpa using p1,cond_false]
   refine W.call (xZo1 l1 (by omega) fun x hx=>fewK (lk x hx)) ?_
   rintro _ rfl
   rw [p4]
   obtain ⟨q1,q2⟩:=xZtM (k:=k) (l:=ys) (by omega) K lk (by omega)
   exact W.ret.2 ⟨p1,⟨j,p2,rfl⟩,by show (joR k ys).length≤K';omega,fun n t hn=>by have:=q2 n t hn;omega⟩
theorem xZw0 {y:List xZ0} {e:Int} (hy:y.length≤700) (ht:okT y) {b:Int→Nat→RG} {d:Int} {i:Nat} (h0:0≤d) (h16:d≤16) (hi:i≤y.length)
 (hb:d < 16→∀ j:Nat,j≤y.length→okG y 0 j (b (d+1) j)∧∃ K,W (fun N=>(xZ13 N).1 ⟨y,j,e,⟨0,0⟩⟩ (d+1)) (ER K y e (b (d+1) j))):
 W (fun N=>xZd8 N (xZ13 N) ⟨y,i,e,⟨0,0⟩⟩ d) (ER 2000 y e (itS y e b d i)):=by
 have z4:(4:Int)≠0:=by decide
 have b0:((0:Int)==0)=true:=rfl
 have c0:((0:Int) != 0)=false:=rfl
 have nilB:∀ {n:xZ1} {t:List xZ1},([]:List xZ1)=n::t→0≤n.Kids∧n.Kids≤((2000:Nat):Int):=fun h=>by cases h
 have oft:∀ {l:List xZ1} {j:Nat},j≤y.length→okG y 0 i (.inr (l,j))→∀ j',j'≤j+1→W (fun N=>(xZ3M N ⟨y,j',e,⟨0,0⟩⟩).bind fun ofte=>
  bif (!ofte.2.2.1) then some (l,ofte.2.2.2) else bif (ofte.2.2.2.f.E != 0) then some (l,ofte.2.2.2) else
   both EqR.cls (gd (Nat.ble ((1+List.length l) * 88) 140737488355328) (some (((xZ1.mk 3 1 ofte.1 ofte.2.1 [] [] [])::l),ofte.2.2.2))) (
    both EqR.cls (gd (Nat.ble ((1+List.length l) * 88) 140737488355328) (some (((xZ1.mk 3 1 ofte.1 ofte.2.1 [] [] [])::l),ofte.2.2.2)))
     (gd (Nat.ble ((1+List.length l) * 88) 140737488355328) (some (((xZ1.mk 3 1 ofte.1 ofte.2.1 [] [] [])::l),ofte.2.2.2))))) (ER 2000 y e (oftR l (oftS y e j'))):=by
  intro l j hj hok j' hj'
  obtain ⟨a1,a2,n,r,rfl,a4,a5,a6⟩:=hok
  refine W.call (xZsC (y:=y) (e:=e) (i:=j') (by omega)) fun u hu=>?_
  have g:Nat.ble ((1+List.length (n::r)) * 88) 140737488355328=true:=Nat.ble_eq_true_of_le (by omega)
  simp only [xZci,g,xZ1S]
  cases h:oftS y e j' with
  | inl x=>
    obtain ⟨c,a⟩:=x
    rw [h] at hu
    obtain ⟨u1,u2,q,u3,u4⟩:=hu
    simp only [u2,u4,Bool.not_true,cond_false,show (c != 0)=true by simpa using u1,cond_true,W.ret]
    exact ⟨u1,⟨q,u3,rfl⟩,by show (n::r).length≤2000;omega,fun m t hm=>by cases hm;omega⟩
  | inr x=>
    obtain ⟨o,q⟩:=x
    rw [h] at hu
    cases o with
    | none=>
      obtain rfl:u=(0,0,false,⟨y,(q:Int),e,⟨0,0⟩⟩):=hu
      exact W.ret.2 rfl
    | some ab=>
      obtain ⟨a,b'⟩:=ab
      obtain rfl:u=(a,b',true,⟨y,(q:Int),e,⟨0,0⟩⟩):=hu
      exact W.ret.2 rfl
 simp only [xZd8,xZnO,Option.bind_some]
 unfold itS
 by_cases h1:isT' y i 4 [33]=true
 ·have l1:=xZS (by decide) (xZP h1).1
  simp only [h1,if_true,cond_true,xZcp (y:=y) (i:=i) (e:=e) (f:=⟨0,0⟩) z4 [33] (show i≤1000000 by omega),Option.bind_some]
  refine W.call (xZrJ (k:=5) (i:=i+1) hy l1 ht) fun r hr=>W.ret.2 (ER.mono (by omega) hr)
 simp only [show isT' y i 4 [33]=false by simpa using h1,Bool.false_eq_true,if_false,cond_false]
 by_cases h2:isT' y i 4 [40]=true
 ·have l2:=xZS (by decide) (xZP h2).1
  simp only [h2,cond_true,if_true]
  by_cases hd:16≤d
  ·simp only [show leB 16 d=true from xZ16.2 hd,cond_true,if_pos hd,xZnb,flS0,Option.bind_some,W.ret]
   exact ⟨by decide,⟨i,by omega,rfl⟩,by simp,fun _ _=>nilB⟩
  have hd':leB 16 d=false:=by rw [xZ5b];simpa using hd
  simp only [hd',cond_false,if_neg hd,xZcp (y:=y) (i:=i) (e:=e) (f:=⟨0,0⟩) z4 [40] (show i≤1000000 by omega),h2,if_true,Option.bind_some,W.gd,xZo]
  refine ⟨by omega,?_⟩
  obtain ⟨ok,K,hw⟩:=hb (by omega) (i+1) l2
  refine W.bind hw fun r hr=>?_
  cases h:b (d+1) (i+1) with
  | inl x=>
    obtain ⟨c,a⟩:=x
    rw [h] at hr
    obtain ⟨r1,⟨q,r2,r3⟩,_⟩:=hr
    simp only [r3,show (c==0)=false by simpa using r1,show (c != 0)=true by simpa using r1,cond_false,cond_true,W.ret]
    exact ⟨r1,⟨q,r2,rfl⟩,by simp,fun _ _=>nilB⟩
  | inr x=>
    obtain ⟨l,j⟩:=x
    rw [h] at hr ok
    obtain rfl:r=(l,⟨y,(j:Int),e,⟨0,0⟩⟩):=hr
    have hjl:j≤y.length:=ok.2.1
    simp only [b0,cond_true,xZcp (y:=y) (i:=j) (e:=e) (f:=⟨0,0⟩) z4 [41] (show j≤1000000 by omega),flS0,Option.bind_some]
    by_cases h3:isT' y j 4 [41]=true
    ·simp only [h3,if_true,c0,cond_false]
     obtain ⟨a1,a2,n,r,rfl,a4,a5,a6⟩:=ok
     exact oft (l:=n::r) (j:=j) hjl ⟨by omega,a2,n,r,rfl,by omega,a5,by omega⟩ (j+1) (Nat.le_refl _)
    ·simp only [if_neg h3,show ((4:Int) != 0)=true from rfl,cond_true,W.ret]
     exact ⟨z4,⟨j,by omega,rfl⟩,by simp,fun _ _=>nilB⟩
 ·simp only [show isT' y i 4 [40]=false by simpa using h2,cond_false,Bool.false_eq_true,if_false]
  have ok:=xZiN (e:=e) (k:=4) (i:=i) hy
  refine W.call (xZrJ (k:=4) (i:=i) hy hi ht) fun r hr=>?_
  cases h:atomS y e 4 i with
  | inl x=>
    obtain ⟨c,a⟩:=x
    rw [h] at hr
    obtain ⟨r1,⟨q,r2,r3⟩,_⟩:=hr
    simp only [r3,show (c != 0)=true by simpa using r1,cond_true,W.ret]
    exact ⟨r1,⟨q,r2,rfl⟩,by simp,fun _ _=>nilB⟩
  | inr x=>
    obtain ⟨l,j⟩:=x
    rw [h] at hr ok
    obtain rfl:r=(l,⟨y,(j:Int),e,⟨0,0⟩⟩):=hr
    simp only [c0,cond_false]
    obtain ⟨a1,a2,n,r,rfl,a4,a5,a6⟩:=ok
    exact oft (l:=n::r) (j:=j) a2 ⟨a1,a2,n,r,rfl,by omega,a5,by omega⟩ j (by omega)
theorem xZru {y:List xZ0} {e:Int} (hy:y.length≤700) (ht:okT y):∀ (n:Nat) (d:Int) (i:Nat),0≤d→d≤16→17 - d≤n→i≤y.length→
 W (fun N=>(xZ13 N).1 ⟨y,i,e,⟨0,0⟩⟩ d) (ER 8000000001 y e (SB y e n d i))
 | 0,d,i,h1,h2,h3,h4=>by omega
 | n+1,d,i,h1,h2,h3,h4=>by
   have hit:=fun (j:Nat) (hj:j≤y.length)=>And.intro (xZsb (y:=y) (e:=e) (b:=SB y e n) (d:=d) (i:=j) hy fun hd hl=>SB_ok hy n (d+1) (j+1) (by omega) (by omega) (by omega) hl)
    (W.shift (f:=fun N=>(xZ13 N).2.2 ⟨y,j,e,⟨0,0⟩⟩ d) (xZw0 hy ht (b:=SB y e n) h1 h2 hj fun hd m hm=>⟨SB_ok hy n (d+1) m (by omega) (by omega) (by omega) hm,_,xZru hy ht n (d+1) m (by omega) (by omega) (by omega) hm⟩))
   have hbr:=fun (j:Nat) (hj:j≤y.length)=>And.intro (xZqx (k:=1) (sep:=[59]) (c:=1) (Nat.le_refl _) (fun m hm=>(hit m hm).1) hj)
    (W.shift (f:=fun N=>(xZ13 N).2.1 ⟨y,j,e,⟨0,0⟩⟩ d) (xZuc hy (k:=1) (sep:=[59]) (g:=fun N s=>(xZ13 N).2.2 s d) (F0:=fun N=>xZ6I N (xZ13 N) d) (c:=1) (K:=2000) (K':=10000000) (Nat.le_refl _) (by omega) (by omega) (by omega) hit (fun N nx y1 y2 y3 y4 y5 ys=>rfl) hj))
   exact W.shift (f:=fun N=>(xZ13 N).1 ⟨y,i,e,⟨0,0⟩⟩ d) (xZuc hy (k:=2) (sep:=[124]) (g:=fun N s=>(xZ13 N).2.1 s d) (F0:=fun N=>xZ9R N (xZ13 N) d) (c:=0) (K:=10000000) (K':=8000000001) (Nat.zero_le _) (by omega) (by omega) (by omega) hbr (fun N nx y1 y2 y3 y4 y5 ys=>rfl) h4)
theorem xZvm (n:xZ1) (N:Nat):xZa4 N n=some (kdG n):=by
 simp only [xZa4,kdG,isLs,Int.min_comm n.Kids 40]
 by_cases h1:n.Kind=1
 ·simp [h1]
 by_cases h2:n.Kind=2
 ·simp [h2]
 by_cases h3:n.Kind=3
 ·simp [h3]
 ·simp [h1,h2,h3,show (n.Kind==1)=false by simpa using h1,show (n.Kind==2)=false by simpa using h2,show (n.Kind==3)=false by simpa using h3]
theorem e_rwd (m:Int) (N:Nat):xZ5q N m=some (wdS m):=by
 simp only [xZ5q,wdS]
 by_cases h1:m=1
 ·subst h1;rfl
 by_cases h2:m=2
 ·subst h2;rfl
 by_cases h3:m=3
 ·subst h3;rfl
 simp [h1,h2,h3,show (m==1)=false by simpa using h1,show (m==2)=false by simpa using h2,show (m==3)=false by simpa using h3]
def ndG (n:xZ1):Int:=if lkG n=true then 4 else if moG n=true then 2 else 0
theorem e_j4 {N:Nat} {leaf:Bool} {k kids lo hi:Int} {v t:List UInt8} {te:List xZ2} (hk:leaf=(k==4 || k==5)) (x:Bool):
 xZ20 N leaf x k kids lo hi v t te=some (if x=true then 4 else if (if leaf=true then (lo != 0 || hi != 0 || kids != 0) else ((!(v==[]) || !(t==[]) || ltB 0 (te.length:Int)) || (lo != 0 || hi != 0)&&k != 3))=true then 2 else 0):=by
 cases x
 rotate_left
 ·rfl
 simp only [xZ20,xZ6M,xZ3F,cond_false,Bool.false_eq_true,if_false]
 cases leaf
 ·cases h3:k != 3<;>cases h1:lo != 0<;>cases h2:hi != 0<;>cases hv:v==[]<;>cases ht:t==[]<;>cases hz:ltB 0 (te.length:Int)<;>rfl
 ·have h3:(k != 3)=true:=by
   have:k=4∨k=5:=by simpa using hk.symm
   simp;omega
  rw [h3]
  cases h0:kids != 0<;>cases h1:lo != 0<;>cases h2:hi != 0<;>rfl
theorem xZsx {n:xZ1} (h1:1≤n.Kind) (h5:n.Kind≤5) (ho:okN n.Test):W (fun N=>xZ3J N n) (·=ndG n):=by
 obtain ⟨k,kids,lo,hi,v,t,te⟩:=n
 simp only at h1 h5 ho
 have leaf:∀ k:Int,k=4∨k=5→W (fun N=>xZ1B N true false k kids lo hi v t te) (·=ndG ⟨k,kids,lo,hi,v,t,te⟩):=fun k hk=>by
  have e3:(k==3)=false:=by simp;omega
  have el:(k==4 || k==5)=true:=by simpa using hk
  have e1:(k==1 || k==2)=false:=by simp;omega
  simp only [xZ1B,cond_false,e3,xZA,cond_true,e_j4 (leaf:=true) (k:=k) el.symm,ndG,lkG,isLs,e1,Bool.false_eq_true,if_false,show ¬ k=3 by omega,moG,lfG,el,if_true]
  refine W.call (xZ5y v) ?_
  rintro _ rfl
  cases nm v
  ·exact W.ret.2 rfl
  refine W.call (xZ5y t) ?_
  rintro _ rfl
  cases nm t
  ·exact W.ret.2 rfl
  refine W.call (xZpR te ho) ?_
  rintro _ rfl
  exact W.ret.2 rfl
 have list:∀ k:Int,k=1∨k=2→W (fun N=>xZ3B N false true k kids lo hi v t te) (·=ndG ⟨k,kids,lo,hi,v,t,te⟩):=fun k hk=>by
  have e3:(k==3)=false:=by simp;omega
  have el:(k==4 || k==5)=false:=by simp;omega
  have e1:(k==1 || k==2)=true:=by simpa using hk
  simp only [xZ3B,xZ1B,cond_true,cond_false,e3,xZA,e_j4 (leaf:=false) (k:=k) el.symm,ndG,lkG,isLs,e1,if_true,moG,lfG,el,Bool.false_eq_true,if_false]
  cases h1:ltB kids 2<;>cases h2:ltB 40 kids<;>exact W.ret.2 rfl
 rcases (show k=1∨k=2∨k=3∨k=4∨k=5 by omega) with rfl | rfl | rfl | rfl | rfl
 ·exact list 1 (.inl rfl)
 ·exact list 2 (.inr rfl)
 ·have e1:ltB hi lo=!leB lo hi:=by
   rw [xZ8R,xZ5b]
   by_cases h:hi < lo
   ·rw [decide_eq_true h,decide_eq_false (by omega)];rfl
   ·rw [decide_eq_false h,decide_eq_true (by omega)];rfl
  have e4:∀ N x,xZA N false x 3 kids lo hi v t te=some (if x=true then 4 else if ((!(v==[]) || !(t==[]) || ltB 0 (te.length:Int)) || (lo != 0 || hi != 0)&&(3:Int) != 3)=true then 2 else 0):=fun N x=>by
   cases x
   ·show xZ20 N false false 3 kids lo hi v t te=_
    rw [e_j4 (leaf:=false) (k:=3) rfl];rfl
   ·rfl
  show W (fun N=>xZ1B N false false 3 kids lo hi v t te) _
  simp only [xZ1B,cond_false,show ((3:Int)==3)=true from rfl,cond_true,e4,e1,ndG,lkG,isLs,ofG,moG,lfG,show ((3:Int)==1 || (3:Int)==2)=false from rfl,show ((3:Int)==4 || (3:Int)==5)=false from rfl,Bool.false_eq_true,if_false,if_true]
  generalize (if ((!(v==[]) || !(t==[]) || ltB 0 (te.length:Int)) || (lo != 0 || hi != 0)&&(3:Int) != 3)=true then (2:Int) else 0)=z
  cases hk:kids != 1
  rotate_left
  ·exact W.ret.2 rfl
  cases a1:ltB lo 0
  rotate_left
  ·exact W.ret.2 rfl
  cases a2:ltB 8 lo
  rotate_left
  ·exact W.ret.2 rfl
  cases a3:ltB hi 0
  rotate_left
  ·exact W.ret.2 rfl
  cases a4:ltB 8 hi
  rotate_left
  ·exact W.ret.2 rfl
  cases a5:ltB 0 hi
  ·have:(hi==0)=true:=by have:=xZL.1 a3;have:=xZL.1 a5;simp;omega
   have h0:hi=0:=by simpa using this
   subst h0
   cases a6:lo==1<;>exact W.ret.2 (by simp)
  ·have:(hi==0)=false:=by have:=xZv.1 a5;simp;omega
   rw [this]
   cases a6:lo==1<;>cases a7:leB lo hi<;>cases a8:hi==1<;>exact W.ret.2 (by simp)
 ·exact leaf 4 (.inl rfl)
 ·exact leaf 5 (.inr rfl)
def EG (l:List xZ1) (g:List xZ1×Int) (r:Int×Int):Prop:=r.2=g.2∧(r.2=0→∃ j:Nat,r.1=(j:Int)∧j≤l.length∧l.drop j=g.1)
theorem xZpA {l:List xZ1} (hl:l.length≤1000000) (ho:∀ n∈l,okN n.Test):∀ (n a:Nat) (w d:Int),0≤d→d≤16→17 - d≤n→a≤l.length→W (fun N=>(xZ4J N) l a w d) (EG l (TG n (l.drop a) w d))
 | 0,a,w,d,h1,h2,h3,h4=>by omega
 | n+1,a,w,d,h1,h2,h3,h4=>by
   refine W.shift ?_
   show W (fun N=>xZdr N (xZ4J N) l a w d) _
   simp only [xZdr]
   by_cases ha:a < l.length
   rotate_left
   ·simp only [show leB (l.length:Int) a=true from xZ16.2 (by omega),cond_true,W.ret]
    rw [List.drop_eq_nil_of_le (by omega)]
    exact ⟨rfl,fun h=>by cases h⟩
   have e1:l.drop a=l[a]::l.drop (a+1):=List.drop_eq_getElem_cons ha
   have e2:ix l (a:Int)=some l[a]:=by rw [ix_nat'];simp [ha]
   have hm:l[a]∈l:=List.getElem_mem ha
   rw [e1]
   generalize l[a]=e at *
   simp only [show leB (l.length:Int) a=false from xZn0.2 (by omega),cond_false,TG]
   by_cases hd:16≤d
   ·simp only [show leB 16 d=true from xZ16.2 hd,cond_true,if_pos hd,W.ret]
    exact ⟨rfl,fun h=>by cases h⟩
   simp only [show leB 16 d=false by rw [xZ5b];simpa using hd,cond_false,if_neg hd,e2,Option.bind_some]
   obtain ⟨k0,k1⟩:=xZts e
   have kids:stG e w=true→W (fun N=>(xZ3J N e).bind fun need=>bif (need != 0) then some ((a:Int),need) else gd (i64b ((a:Int)+1)) (lp2 (xZ3g N (xZ4J N) l d e.Kind e.Kids e.Lo e.Hi e.Var e.Type_ e.Test) N ((a:Int)+1) 0))
    (EG l (if stG e w=false then ([],11) else if lkG e=true then ([],4) else if moG e=true then ([],2) else kidsG (fun r=>TG n r e.Kind (d+1)) (kdG e).toNat (l.drop (a+1)))):=fun hs=>by
    have hk:1≤e.Kind∧e.Kind≤5:=by
     simp only [stG,Bool.and_eq_true,Bool.not_eq_true',xZL] at hs
     exact ⟨hs.1,hs.2.1⟩
    rw [hs,if_neg (by decide)]
    refine W.call (xZsx hk.1 hk.2 (ho e hm)) ?_
    rintro _ rfl
    unfold ndG
    cases hlk:lkG e
    rotate_left
    ·simp only [if_true,show ((4:Int) != 0)=true from rfl,cond_true,W.ret]
     exact ⟨rfl,fun h=>by cases h⟩
    simp only [Bool.false_eq_true,if_false]
    cases hmo:moG e
    rotate_left
    ·simp only [if_true,show ((2:Int) != 0)=true from rfl,cond_true,W.ret]
     exact ⟨rfl,fun h=>by cases h⟩
    simp only [Bool.false_eq_true,if_false,show ((0:Int) != 0)=false from rfl,cond_false,W.gd,xZo]
    refine ⟨by omega,W.lp2 (P:=fun v x=>∃ j:Nat,v=(j:Int)∧j≤l.length∧0≤x∧x≤kdG e∧kidsG (fun r=>TG n r e.Kind (d+1)) (kdG e - x).toNat (l.drop j)=kidsG (fun r=>TG n r e.Kind (d+1)) (kdG e).toNat (l.drop (a+1))) (m:=fun _ x=>(kdG e - x).toNat) ⟨a+1,by omega,ha,by omega,by omega,by simp⟩ ?_⟩
    rintro F v x ⟨j,rfl,j1,x0,x1,x2⟩ hn
    simp only [xZ3g,xZvm,Option.bind_some]
    by_cases hx:x < kdG e
    ·obtain ⟨m,hm⟩:∃ m,(kdG e - x).toNat=m+1:=⟨(kdG e - x).toNat - 1,by omega⟩
     simp only [show ltB x (kdG e)=true from xZv.2 hx,cond_true,W.gd,xZo]
     refine ⟨by omega,W.bind (W.lift (xZpA hl ho n j e.Kind (d+1) (by omega) (by omega) (by omega) j1)) ?_⟩
     rintro r ⟨r1,r2⟩
     rw [hm,kidsG] at x2
     by_cases hc:(TG n (l.drop j) e.Kind (d+1)).2=0
     ·rw [if_pos hc] at x2
      have hx1:0≤x+1∧x+1≤kdG e∧(kdG e - (x+1)).toNat < (kdG e - x).toNat∧(-9223372036854775808≤x+1∧x+1≤9223372036854775807):=by clear r2;exact ⟨by omega,by omega,by omega,by omega,by omega⟩
      have hm1:(kdG e - (x+1)).toNat=m:=by clear r2;omega
      obtain ⟨j',q1,q2,q3⟩:=r2 (r1.trans hc)
      simp only [r1,show ((TG n (l.drop j) e.Kind (d+1)).2 != 0)=false by simpa using hc,cond_false,W.gd,xZo]
      refine ⟨hx1.2.2.2,hn r.1 (x+1) ⟨j',q1,q2,hx1.1,hx1.2.1,?_⟩ hx1.2.2.1⟩
      rw [hm1,q3]
      exact x2
     ·rw [if_neg hc] at x2
      simp only [r1,show ((TG n (l.drop j) e.Kind (d+1)).2 != 0)=true by simpa using hc,cond_true,W.ret]
      rw [← x2]
      exact ⟨rfl,fun h=>absurd h hc⟩
    ·obtain rfl:x=kdG e:=by omega
     have:ltB (kdG e) (kdG e)=false:=by rw [xZ8R];simp
     simp only [this,cond_false,W.ret]
     rw [Int.sub_self] at x2
     rw [← x2]
     exact ⟨rfl,fun _=>⟨j,rfl,j1,rfl⟩⟩
   have no:stG e w=false→W (fun N:Nat=>some ((a:Int),(11:Int))) (EG l (if stG e w=false then ([],11) else if lkG e=true then ([],4) else if moG e=true then ([],2) else kidsG (fun r=>TG n r e.Kind (d+1)) (kdG e).toNat (l.drop (a+1)))):=fun hs=>by
    rw [if_pos hs]
    exact W.ret.2 ⟨rfl,fun h=>by cases h⟩
   cases g1:ltB e.Kind 1
   rotate_left
   ·simp only [cond_true];exact no (by simp [stG,g1])
   cases g2:ltB 5 e.Kind
   rotate_left
   ·simp only [cond_true,cond_false];exact no (by simp [stG,g2])
   have hk:1≤e.Kind∧e.Kind≤5:=⟨xZL.1 g1,xZL.1 g2⟩
   simp only [cond_false]
   by_cases g3:e.Kind=w
   ·simp only [show (e.Kind==w)=true by simpa using g3,cond_true]
    by_cases g4:w≤2
    ·simp only [show leB w 2=true from xZ16.2 g4,cond_true]
     exact no (by
      have:isLs e=true:=by simp [isLs];omega
      simp [stG,this,g3])
    ·simp only [show leB w 2=false by rw [xZ5b];simpa using g4,cond_false]
     have hls:isLs e=false:=by simp [isLs];omega
     by_cases g5:e.Kind=5
     ·simp only [show (e.Kind==5)=true by simpa using g5,cond_true,show (w==3)=false by simp;omega,cond_false]
      exact kids (by simp [stG,g1,g2,hls];omega)
     ·simp only [show (e.Kind==5)=false by simpa using g5,cond_false]
      exact kids (by simp [stG,g1,g2,hls,g5])
   ·simp only [show (e.Kind==w)=false by simpa using g3,cond_false]
    by_cases g5:e.Kind=5
    ·have hls:isLs e=false:=by simp [isLs];omega
     simp only [show (e.Kind==5)=true by simpa using g5,cond_true]
     by_cases g6:w=3
     ·simp only [show (w==3)=true by simpa using g6,cond_true]
      exact no (by simp [stG,hls,g5,g6])
     ·simp only [show (w==3)=false by simpa using g6,cond_false]
      exact kids (by simp [stG,g1,g2,hls,g6])
    ·simp only [show (e.Kind==5)=false by simpa using g5,cond_false]
     exact kids (by
      cases hls:isLs e<;>simp [stG,g1,g2,hls,g5,g3])
theorem xZoY (p:xZ5) (hl:p.Body.length≤1000000) (ho:∀ n∈p.Body,okN n.Test):W (fun N=>xZ80 N p) (·=chkG p):=by
 simp only [xZ80,e_rwd,Option.bind_some]
 unfold chkG
 by_cases h0:40 < p.Body.length
 ·simp only [show ltB 40 (p.Body.length:Int)=true from xZv.2 (by omega),cond_true,if_pos h0,W.ret]
 have g0:ltB 40 (p.Body.length:Int)=false:=by rw [xZ8R];exact decide_eq_false (by omega)
 simp only [g0,cond_false,if_neg h0,xZcM]
 refine W.call (f:=fun N=>(xZ4J N) p.Body 0 0 0) (P:=EG p.Body (TG 17 (p.Body.drop 0) 0 0)) (xZpA hl ho 17 0 0 0 (by omega) (by omega) (by omega) (by omega)) ?_
 rintro r ⟨r1,r2⟩
 rw [List.drop_zero] at r1 r2
 generalize TG 17 p.Body 0 0=q at *
 by_cases h1:q.2=0
 rotate_left
 ·simp only [r1,show (q.2 != 0)=true by simpa using h1,cond_true,if_pos h1,W.ret]
 obtain ⟨j,j1,j2,j3⟩:=r2 (r1.trans h1)
 simp only [r1,show (q.2 != 0)=false by simpa using h1,cond_false,if_neg (show ¬ q.2≠0 from fun h=>h h1)]
 have hj:q.1.length=p.Body.length - j:=by rw [← j3,List.length_drop]
 by_cases h2:0 < q.1.length
 ·simp only [show ltB r.1 (p.Body.length:Int)=true from xZv.2 (by omega),cond_true,if_pos h2,W.ret]
 have g2:ltB r.1 (p.Body.length:Int)=false:=by rw [xZ8R];exact decide_eq_false (by omega)
 simp only [g2,cond_false,if_neg h2]
 by_cases h3:p.Within < 1
 ·simp only [show ltB p.Within 1=true from xZv.2 h3,cond_true,if_pos h3,W.ret]
 have g3:ltB p.Within 1=false:=by rw [xZ8R];exact decide_eq_false h3
 simp only [g3,cond_false,if_neg h3]
 by_cases h4:1073741824 < p.Within
 ·simp only [show ltB 1073741824 p.Within=true from xZv.2 h4,cond_true,if_pos h4,W.ret]
 have g4:ltB 1073741824 p.Within=false:=by rw [xZ8R];exact decide_eq_false h4
 simp only [g4,cond_false,if_neg h4]
 by_cases h5:p.By=[]
 ·simp only [h5,show (!(([]:List UInt8)==[]))=false from rfl,cond_false,if_neg (show ¬ (([]:List UInt8)≠[]∧_) from fun h=>h.1 rfl)]
  by_cases h6:wdS p.Mode=[]
  ·simp [h6,W.ret]
  ·simp [h6,W.ret,show (wdS p.Mode==[])=false by simpa using h6]
 ·simp only [show (!(p.By==[]))=true by simpa using h5,cond_true]
  refine W.call (xZ5y _) ?_
  rintro _ rfl
  cases h6:nm p.By
  ·simp [h5,W.ret]
  ·simp only [Bool.not_true,cond_false,h5,Bool.true_eq_false,and_false,if_false]
   by_cases h7:wdS p.Mode=[]
   ·simp [h7,W.ret]
   ·simp [h7,W.ret,show (wdS p.Mode==[])=false by simpa using h7]
section
section
variable {y:List xZ0} {e:Int}
theorem xZre {q:Nat} {f:xZ3}:W (fun N=>xZao N ⟨y,q,e,f⟩) (·=modS y q):=by
 simp only [xZao]
 refine W.lp1 (P:=fun v0=>1≤v0∧v0≤4∧∀ a:Int,1≤a→a < v0→isT' y q 2 (wdS a)=false) (m:=fun v0=>(4 - v0).toNat) ⟨by omega,by omega,fun a h1 h2=>by omega⟩ ?_
 rintro F v0 ⟨h1,h2,hb⟩ hn
 simp only [xZac]
 by_cases h3:v0≤3
 ·simp only [show leB v0 3=true from xZ16.2 h3,cond_true,e_rwd,Option.bind_some,xZqF (y:=y) (i:=q) (e:=e) (f:=⟨f.E,f.At⟩) (show (2:Int)≠0 by decide)]
  by_cases hs:isT' y q 2 (wdS v0)=true
  ·simp only [hs,cond_true,W.ret]
   exact (xZrh h1 h3 hb hs).symm
  ·have hs':isT' y q 2 (wdS v0)=false:=by simpa using hs
   simp only [hs',cond_false]
   have hw:IntKind.u8.wrap (v0+1)=v0+1:=by
    rcases (show v0=1∨v0=2∨v0=3 by omega) with rfl | rfl | rfl<;>rfl
   rw [hw]
   refine hn _ ⟨by omega,by omega,fun a a1 a2=>?_⟩ (by omega)
   by_cases ha:a=v0
   ·subst ha;exact hs'
   ·exact hb a a1 (by omega)
 ·obtain rfl:v0=4:=by omega
  simp only [show leB (4:Int) 3=false from rfl,cond_false,W.ret]
  exact (xZrF hb).symm
end
section
variable {y:List xZ0} {e:Int}
def finP:(Int×Int)⊕xZ5→xZ5×xZ3
 | .inl (c,a)=>(z13,⟨c,a⟩)
 | .inr p=>if chkG p=0 then (p,⟨0,0⟩) else (z13,⟨chkG p,0⟩)
theorem xZtE {l:List xZ0} {n:List xZ1} {w:Int} {b:List UInt8} {j:Nat} {c a:Int} (hj:j≤200000) (hc:c≠0):W (fun N=>xZ1y N l n w b y j e c a) (·=(z13,⟨c,a⟩)):=by
 have c0:(c==0)=false:=by simpa using hc
 have c1:(c != 0)=true:=by simpa using hc
 simp only [xZ1y]
 refine W.call (xZre (y:=y) (e:=e) (f:=⟨c,a⟩)) ?_
 rintro _ rfl
 simp only [c0,cond_false,xZ33,xZ3a,xZ8a (show j≤1000000 by omega),xZ1S,xZ3d,xZ2p,c1,cond_true,xZci,W.ret]
 rfl
theorem xZvq {n:List xZ1} {w:Int} {b:List UInt8} {j:Nat} (hj:j≤200000) (hn:n.length≤1000000) (ho:∀ m∈n,okN m.Test):W (fun N=>xZ1y N y n w b y j e 0 0) (·=finP (cntP y e n w b j)):=by
 have b0:((0:Int)==0)=true:=rfl
 have c0:((0:Int) != 0)=false:=rfl
 simp only [xZ1y]
 refine W.call (xZre (y:=y) (e:=e) (f:=⟨0,0⟩)) ?_
 rintro _ rfl
 simp only [b0,cond_true]
 unfold cntP
 by_cases h0:modS y j=0
 ·simp only [show (modS y j==0)=true by simpa using h0,xZ33,cond_true,xZnb,flS0,Option.bind_some,xZ3a,xZ8a (show j≤1000000 by omega),xZ1S,show ((4:Int)==0)=false from rfl,cond_false,xZ3d,xZ2p,show ((4:Int) != 0)=true from rfl,xZci,W.ret,if_pos h0]
  rfl
 ·simp only [show (modS y j==0)=false by simpa using h0,xZ33,cond_false,xZ3a,xZ8a (show j≤1000000 by omega),xZ1S,b0,cond_true,if_neg h0,xZ3d]
  by_cases hl:j+1 < y.length
  ·simp only [show ltB ((j:Int)+1) (y.length:Int)=true from xZv.2 (by omega),cond_true,if_pos hl]
   have e1:∀ N,xZ1i N ⟨y,(j:Int)+1,e,⟨0,0⟩⟩ 4=some ⟨y,((j+1:Nat):Int),e,⟨4,plc y e (j+1)⟩⟩:=fun N=>xZnb (y:=y) (i:=j+1) (e:=e) (f:=⟨0,0⟩) 4
   simp only [e1,Option.bind_some,xZ2p,show ((4:Int) != 0)=true from rfl,cond_true,xZci,W.ret]
   rfl
  ·simp only [show ltB ((j:Int)+1) (y.length:Int)=false from xZL.2 (by omega),cond_false,if_neg hl,xZ2p,c0]
   refine W.call (xZoY ⟨n,w,b,modS y j⟩ hn ho) ?_
   rintro _ rfl
   unfold finP
   by_cases hc:chkG ⟨n,w,b,modS y j⟩=0
   ·simp only [hc,c0,cond_false,W.ret,if_true]
   ·simp only [show (chkG ⟨n,w,b,modS y j⟩ != 0)=true by simpa using hc,cond_true,W.ret,if_neg hc];rfl
end
theorem xZmN (s:List UInt8) (hs:s.length≤700):W (fun N=>xZ5S N s) (fun r=>r=(match GP s with
 | .inl (c,a)=>(z13,⟨c,a⟩)
 | .inr p=>(p,⟨0,0⟩))∧∀ x,GP s=.inl x→x.1≠0):=by
 simp only [xZ5S]
 refine W.call (xZt8 s hs) ?_
 rintro _ rfl
 unfold GP
 cases hq:scan s with
 | inr x=>
   obtain ⟨c,a⟩:=x
   have hc:c≠0:=xZsI hq
   simp only [scanF,show (c != 0)=true by simpa using hc,cond_true,xZci,W.ret]
   exact ⟨rfl,fun x h=>by cases h;exact hc⟩
 | inl y=>
   obtain ⟨hy,ht⟩:=xZly hq
   have b0:((0:Int)==0)=true:=rfl
   have c0:((0:Int) != 0)=false:=rfl
   have z4:(4:Int)≠0:=by decide
   have b4:((4:Int)==0)=false:=rfl
   simp only [scanF,c0,cond_false]
   have ok:=SB_ok (e:=(s.length:Int)) (y:=y) (by omega) 17 0 0 (by omega) (by omega) (by omega) (Nat.zero_le _)
   have hte:=SB_t (e:=(s.length:Int)) (y:=y) (by omega) ht 17 0 0
   refine W.mp (P:=fun r=>r=finP (patS y s.length)∧∀ x,patS y s.length=.inl x→x.1≠0) ?_ ?_
   rotate_left
   ·rintro r ⟨rfl,hx⟩
    cases hp:patS y s.length with
    | inl x=>exact ⟨rfl,fun z h=>by cases h;exact hx _ hp⟩
    | inr p=>
      simp only [finP]
      by_cases hc:chkG p=0
      ·simp only [if_pos hc];exact ⟨trivial,fun x h=>by cases h⟩
      ·simp only [if_neg hc];exact ⟨trivial,fun x h=>by cases h;exact hc⟩
   refine W.call (show W (fun N=>xZd2 N ⟨y,0,(s.length:Int),⟨0,0⟩⟩ 0) _ from xZru (e:=(s.length:Int)) (y:=y) (by omega) ht 17 0 0 (by omega) (by omega) (by omega) (Nat.zero_le _)) fun r hr=>?_
   unfold patS
   cases h:SB y s.length 17 0 0 with
   | inl x=>
     obtain ⟨c,a⟩:=x
     rw [h] at hr
     obtain ⟨r1,⟨j,r2,r3⟩,_⟩:=hr
     have f0:¬ (c=0):=r1
     simp only [r3,show (c==0)=false by simpa using r1,cond_false,xZ3L,xZp4 (y:=y) (i:=j) (e:=(s.length:Int)) (f:=⟨c,a⟩) (show j≤1000000 by omega),if_neg f0,flSf r1,Option.bind_some,xZ2h]
     exact W.mp (xZtE (by omega) r1) fun r hr=>⟨hr,fun x h=>by cases h;exact r1⟩
   | inr x=>
     obtain ⟨l,j⟩:=x
     rw [h] at hr ok hte
     have hj:j≤y.length:=ok.2.1
     have hll:l.length≤1000000:=by obtain ⟨a1,a2,n,r,rfl,a4,a5,a6⟩:=ok;omega
     have hto:∀ m∈l,okN m.Test:=fun m hm=>(hte m hm).1
     obtain rfl:r=(l,⟨y,(j:Int),(s.length:Int),⟨0,0⟩⟩):=hr
     have bad:∀ {j:Nat} {w:Int} {b:List UInt8} {a:Int},j≤200000→W (fun N=>xZ1y N y l w b y j (s.length:Int) 4 a) fun r=>r=finP (.inl (4,a))∧∀ x:Int×Int,(.inl (4,a):(Int×Int)⊕xZ5)=.inl x→x.1≠0:=fun h=>W.mp (xZtE h z4) fun r hr=>⟨hr,fun x h=>by cases h;exact z4⟩
     have good:∀ {j:Nat} {w:Int} {b:List UInt8},j≤200000→W (fun N=>xZ1y N y l w b y j (s.length:Int) 0 0) fun r=>r=finP (cntP y s.length l w b j)∧∀ x,cntP y s.length l w b j=.inl x→x.1≠0:=fun h=>W.mp (xZvq h hll hto) fun r hr=>⟨hr,fun x h=>by
      unfold cntP at h
      split at h
      ·cases h;exact z4
      ·split at h
       ·cases h;exact z4
       ·cases h⟩
     simp only [b0,cond_true,xZcp (y:=y) (i:=j) (e:=(s.length:Int)) (f:=⟨0,0⟩) (show (2:Int)≠0 by decide) [119,105,116,104,105,110] (show j≤1000000 by omega),flS0,Option.bind_some,xZ3L]
     by_cases h1:isT' y j 2 [119,105,116,104,105,110]=true
     rotate_left
     ·simp only [if_neg h1,xZp4 (y:=y) (i:=j) (e:=(s.length:Int)) (f:=⟨4,plc y s.length j⟩) (show j≤1000000 by omega),if_neg z4,flSf z4,Option.bind_some,b4,cond_false,xZ2h]
      exact bad (by omega)
     simp only [if_pos h1,xZp4 (y:=y) (i:=j+1) (e:=(s.length:Int)) (f:=⟨0,0⟩) (show j+1≤1000000 by omega),if_true,flS0,Option.bind_some]
     cases h2:numS y (j+1) with
     | none=>
       simp only [b4,cond_false,xZ2h]
       exact bad (by omega)
     | some w=>
       simp only [b0,cond_true,show j+1+1=j+2 from rfl,xZqF (y:=y) (i:=j+2) (e:=(s.length:Int)) (f:=⟨0,0⟩) (show (2:Int)≠0 by decide),Option.bind_some,xZ2h]
       by_cases h3:isT' y (j+2) 2 [98,121]=true
       ·simp only [h3,cond_true,if_true,xZcp (y:=y) (i:=j+2) (e:=(s.length:Int)) (f:=⟨0,0⟩) (show (2:Int)≠0 by decide) [98,121] (show j+2≤1000000 by omega),Option.bind_some,show j+2+1=j+3 from rfl,xZpE (y:=y) (i:=j+3) (e:=(s.length:Int)) (f:=⟨0,0⟩) (show j+3≤1000000 by omega),true_and,flS0]
        by_cases h4:(tk y (j+3)).Kind=1
        ·simp only [if_pos h4,show j+3+1=j+4 from rfl]
         exact good (by omega)
        ·simp only [if_neg h4]
         exact bad (by omega)
       ·simp only [show isT' y (j+2) 2 [98,121]=false by simpa using h3,cond_false,Bool.false_eq_true,if_false]
        exact good (by omega)
end
section
open Go Classical
theorem w_eqs {ι:Type} [Lim ι] {β:Type} {a b:List β} (hab:a.length=b.length) (hl:a.length≤1000000000) {f:ι→(Int→Option Bool)→Int→Option Bool} {N:ι→Nat} [Tends N]
 (step:∀ (F:ι×Nat→Int→Option Bool) (i:Int) (e g:β),ix a i=some e→ix b i=some g→ltB i (a.length:Int)=true→i64b (i+1)=true→(e≠g→W (fun p:ι×Nat=>f p.1 (F p) i) (·=false))∧(e=g→∀ r,W (fun p=>F p (i+1)) (·=r)→W (fun p:ι×Nat=>f p.1 (F p) i) (·=r)))
 (done:∀ (F:ι×Nat→Int→Option Bool),ltB (a.length:Int) (a.length:Int)=false→W (fun p:ι×Nat=>f p.1 (F p) (a.length:Int)) (·=true)):
 W (fun i=>lp1 (f i) (N i) 0) (·=decide (a=b)):=by
 refine wr1 (l:=a) (fun pre rest=>decide (rest=b.drop pre.length)) [] a rfl rfl (by omega) ?_ ?_
 ·intro F pre e rest hl' h1 h2 h3 hn
  have hlen:=congrArg List.length hl'
  simp only [List.length_append,List.length_cons] at hlen
  have hlt:pre.length < b.length:=by omega
  have hd:b.drop pre.length=b[pre.length]::b.drop (pre.length+1):=List.drop_eq_getElem_cons hlt
  have hg:ix b (pre.length:Int)=some b[pre.length]:=by rw [ix_nat'];exact List.getElem?_eq_getElem hlt
  rw [List.length_append,List.length_singleton] at hn
  obtain ⟨k1,k2⟩:=step F _ e _ h2 hg h1 h3
  by_cases he:e=b[pre.length]
  ·have hn':=k2 he _ hn
   rw [hd,← he]
   refine W.mp hn' fun r hr=>?_
   rw [hr]
   by_cases h:rest=b.drop (pre.length+1)
   ·rw [decide_eq_true h,decide_eq_true (by rw [h])]
   ·rw [decide_eq_false h,decide_eq_false fun h2=>h (List.cons.inj h2).2]
  ·refine W.mp (k1 he) fun r hr=>?_
   rw [hr,hd,decide_eq_false fun h=>he (List.cons.inj h).1]
 ·intro F h1
  refine W.mp (done F h1) fun r hr=>?_
  rw [hr,List.drop_eq_nil_of_le (by omega),decide_eq_true rfl]
theorem xZvY {β:Type} {a b:List β}:((a.length:Int) != (b.length:Int))=!decide (a.length=b.length):=by
 by_cases h:a.length=b.length
 ·simp [h]
 ·simp [h];omega
theorem xZtT {e g:xZ2}:((e.Kind==g.Kind)&&((e.Op==g.Op)&&((e.Var==g.Var)&&((e.Name==g.Name)&&((e.Val.Kind==g.Val.Kind)&&((e.Val.N==g.Val.N)&&((e.Val.Bits==g.Val.Bits)&&(e.Val.Text==g.Val.Text))))))))=decide (e=g):=by
 obtain ⟨k,o,v,n,w⟩:=e
 obtain ⟨k',o',v',n',w'⟩:=g
 cases w;cases w'
 rw [Bool.eq_iff_iff]
 simp [Bool.and_eq_true]
end
section
open Go Classical
theorem xZtb:W (fun N=>xZ3D N) fun r=>r=true:=⟨true,⟨300,fun N hN=>by
 simp only [xZ3D,Nat.ble_eq_true_of_le hN,cond_true]⟩,rfl⟩
theorem paw14 {ι:Type} [Lim ι] (N:ι→Nat) [Tends N]:W (fun i=>(xZ3D (N i)).bind fun a=>some a) (·=true):=wid.2 (xZtb.of N)
theorem xZv5 (a b:List xZ2) (hl:a.length≤1000000000):W (fun N=>xZay N a b) (·=decide (a=b)):=by
 simp only [xZay,xZvY,W.cond,W.ret]
 refine ⟨fun h=>?_,fun h=>?_⟩
 ·have h:¬ a.length=b.length:=by simpa using h
  rw [decide_eq_false (fun he=>h (by rw [he]))]
 ·refine w_eqs (by simpa using h) hl (fun F i e g h1 h2 h3 h4=>?_) (fun F h=>?_)
  ·simp only [xZ64,h1,h2,h3,h4,Option.bind_some,cond_true,xZ1S,xZtT]
   refine ⟨fun he=>?_,fun he r hr=>?_⟩
   ·simp only [decide_eq_false he,Bool.not_false,cond_true];exact W.ret.2 rfl
   ·simp only [decide_eq_true he,Bool.not_true,cond_false];exact hr
  ·simp only [xZ64,h,cond_false];exact W.ret.2 rfl
theorem xZv2 (l:List xZ2) (hl:l.length≤10000):W (fun N=>xZa8 N l) (·=l):=by
 simp only [xZa8]
 refine wf2a (l:=l) (fun pre ys=>ys=pre) [] rfl rfl (by omega) rfl ?_ ?_
 ·rintro F pre e rest ys hl' h1 h2 h3 rfl hn
  simp only [xZ6a,h1,h2,h3,Option.bind_some,cond_true,W.gd,true_and]
  refine ⟨Nat.ble_eq_true_of_le (by rw [hl'] at hl;simp at hl;omega),hn _ rfl⟩
 ·rintro F ys h1 rfl
  simp only [xZ6a,h1,cond_false,W.ret]
theorem xZmG (p:xZ5) (hl:p.Body.length≤2000) (ht:∀ n∈p.Body,n.Test.length≤700):W (fun N=>xZ78 N p) (·=p):=by
 simp only [xZ78]
 refine wf2a (l:=p.Body) (fun pre ys=>ys=pre) [] rfl rfl (by omega) rfl ?_ ?_
 ·rintro F pre e rest ys hl' h1 h2 h3 rfl hn
  simp only [xZ6h,h1,h2,Option.bind_some,cond_true]
  refine W.call (xZv2 e.Test (by have:=ht e (by rw [hl'];simp);omega)) ?_
  rintro _ rfl
  simp only [h3,W.gd,true_and]
  exact ⟨Nat.ble_eq_true_of_le (by rw [hl'] at hl;simp at hl;omega),hn _ rfl⟩
 ·rintro F ys h1 rfl
  simp only [xZ6h,h1,cond_false,W.ret]
theorem xZmT (p:xZ5) (hl:p.Body.length≤2000) (ht:∀ n∈p.Body,n.Test.length≤700):W (fun N=>xZ7b N p p) (·=true):=by
 have hi:∀ a:Int,(a != a)=false:=fun a=>by simp
 have hs:∀ a:List UInt8,(a==a)=true:=fun a=>by simp
 simp only [xZ7b,hi,hs,Bool.not_true,cond_false]
 refine wf1 (l:=p.Body) (fun _=>True) [] rfl rfl (by omega) trivial ?_ ?_
 ·intro F pre e rest hl' h1 h2 h3 _ hn
  simp only [xZ6d,h1,h2,h3,Option.bind_some,cond_true,hi,hs,Bool.not_true,cond_false]
  refine W.call (xZv5 e.Test e.Test (by have:=ht e (by rw [hl'];simp);omega)) ?_
  rintro _ rfl
  simp only [decide_true,Bool.not_true,cond_false,xZ1S]
  exact hn trivial
 ·intro F h1 _
  simp only [xZ6d,h1,cond_false,W.ret]
theorem xZeB (s:List UInt8) (hs:okS s):W (fun N=>xZ31 N s) (·=true):=by
 simp only [xZ31,W.cond,xZv,xZL]
 refine ⟨fun _=>paw14 _,fun h=>?_⟩
 have h700:s.length≤700:=by omega
 refine W.call (xZq0 s h700) ?_
 rintro _ rfl
 cases hq:GP s with
 | inl x=>
   obtain ⟨c,a⟩:=x
   simp only [Sum.elim_inr]
   refine W.call (xZmN s h700) ?_
   rintro _ ⟨rfl,hx⟩
   have hc:c≠0:=hx _ hq
   rw [hq]
   refine W.call (xZmG z13 (by simp [z13]) (fun n hn=>by cases hn)) ?_
   rintro _ rfl
   refine W.call (xZmT z13 (by simp [z13]) (fun n hn=>by cases hn)) ?_
   rintro _ rfl
   simp only [cond_true,xZ9X,xZaC,xZcH,xZ5e,Option.bind_some,BEq.rfl,Bool.and_self,show (c==0)=false by simpa using hc]
   exact paw14 _
 | inr p=>
   have hp:p.Body.length≤2000∧∀ n∈p.Body,tG n:=by
    unfold GP at hq
    cases hsc:scan s with
    | inr x=>rw [hsc] at hq;cases hq
    | inl y=>
      rw [hsc] at hq
      obtain ⟨hy,ht⟩:=xZly hsc
      simp only at hq
      cases hpt:patS y s.length with
      | inl x=>rw [hpt] at hq;cases hq
      | inr p'=>
        rw [hpt] at hq
        simp only at hq
        split at hq
        ·cases hq;exact xZwq (by omega) ht hpt
        ·cases hq
   simp only [Sum.elim_inl]
   refine W.call (xZmN s h700) ?_
   rintro r ⟨hr,hx⟩
   rw [hq] at hr
   subst hr
   refine W.call (xZmG p hp.1 (fun n hn=>(hp.2 n hn).2)) ?_
   intro q h2;rw [h2];clear h2 q
   refine W.call (xZmT p hp.1 (fun n hn=>(hp.2 n hn).2)) ?_
   rintro _ rfl
   simp only [cond_true,xZam,xZ9N,xZcI,xZaG,Option.bind_some,BEq.rfl,Bool.and_self]
   exact paw14 _
end
end Go.Proofs.YtahklhniofiofaaGreatDoor.P
