/- What the law is handed, told as what its plain text takes. No premise beyond what each theorem says. -/
import Derived.Test.YtahklhniofiofaaGreatDoorEG2
import Derived.Test.YtahklhniofiofaaGreatDoorEA2
import Derived.Test.YtahklhniofiofaaGreatDoorEA3
import Derived.Test.YtahklhniofiofaaGreatDoorEG1
set_option linter.all false
set_option linter.unusedSimpArgs false
set_option linter.unusedVariables false
namespace Go.Proofs.YtahklhniofiofaaGreatDoor.E
open Go
section
open Go.Proofs.Tryz
set_option maxRecDepth 1000000
theorem xZ9I {H:Type} (d:DataW H) (cs:List AV) (h:DAv prog 9 d cs):∃ x:List UInt8,cs=[.v (.string (bs x))]∧okS x:=by
 obtain ⟨x,h,h1⟩:=xZkB (by kernel_rfl) h
 exact ⟨x,h,h1⟩
theorem xZ9M {H:Type} (d:DataW H) (cs:List AV) (h:DAv prog 5 d cs):∃ x:Int,cs=[.v (.int .u8 x)]∧(inK .u8) x:=by
 obtain ⟨x,h,h1,h2⟩:=xZr0 (k:=.u8) (by kernel_rfl) h
 exact ⟨x,h,h1,h2⟩
theorem xZb2 {H:Type} (ds:List (DataW H)) (xs:List AV) (h:DAvV prog [9,5] ds xs):
 ∃ (s:List UInt8) (n:Int),xs=[.v (.string (bs s)),.v (.int .u8 n)]∧okS s∧(inK .u8) n:=by
 obtain ⟨_,_,_,_,rfl,rfl,h0,h⟩:=xZi0 h
 obtain ⟨_,_,_,_,rfl,rfl,h1,h⟩:=xZi0 h
 obtain ⟨rfl,rfl⟩:=xZnm h
 obtain ⟨x0,rfl,k0⟩:=xZ9I _ _ h0
 obtain ⟨x1,rfl,k1⟩:=xZ9M _ _ h1
 exact ⟨x0,x1,by rw [xZlB (by kernel_rfl),xZlB (by kernel_rfl)],k0,k1⟩
end
theorem wall {α:Type} {f:Nat→Option α} {a:α} (h:∀ N,f N=some a):W f (·=a):=⟨a,⟨0,fun N _=>h N⟩,rfl⟩
theorem wid {ι:Type} [Lim ι] {α:Type} {f:ι→Option α} {Q:α→Prop}:W (fun i=>(f i).bind fun a=>some a) Q ↔ W f Q:=by
 have:(fun i=>(f i).bind fun a=>some a)=f:=by funext i;cases f i<;>rfl
 rw [this]
theorem ncmp (a:Int):compare a a=.eq:=by simp [compare,compareOfLessAndEq]
theorem bcmp (a:Bool):compare a.toNat a.toNat=.eq:=by simp [compare,compareOfLessAndEq]
theorem xZpo (n:Nat):fcmpB .neq .f64 n n=decide (9218868437227405312 < n % 9223372036854775808):=by
 have h:FloatKind.f64.format=Ieee.double:=rfl
 simp only [fcmpB,h,Ieee.Format.order,Ieee.Format.read]
 have e1:Ieee.double.signWeight=9223372036854775808:=by decide
 have e2:Ieee.double.infRung=9218868437227405312:=by decide
 have e3:Ieee.double.binade=4503599627370496:=by decide
 rw [e1,e2,e3]
 by_cases h1:n % 9223372036854775808 < 4503599627370496
 ·rw [if_pos h1,decide_eq_false (by omega)];simp only [Ieee.Datum.order,ncmp];rfl
 ·by_cases h2:n % 9223372036854775808 < 9218868437227405312
  ·rw [if_neg h1,if_pos h2,decide_eq_false (by omega)];simp only [Ieee.Datum.order,ncmp];rfl
  ·by_cases h3:n % 9223372036854775808=9218868437227405312
   ·rw [if_neg h1,if_neg h2,if_pos h3,decide_eq_false (by omega)];simp only [Ieee.Datum.order,bcmp];rfl
   ·rw [if_neg h1,if_neg h2,if_neg h3,decide_eq_true (by omega)];rfl
def cln (u:Int):Int:=if 9218868437227405312 < u.toNat % 9223372036854775808 then 9221120237041090560 else u
theorem xZam (u:Int) (N:Nat):xZ5b N u=some (cln u):=by
 simp only [xZ5b,xZe0,Option.bind_some,xZpo,cln,decide_eq_true_eq,Bool.cond_eq_ite]
 split<;>rfl
def vchk (v:xZ4):Int:=if v.Kind=1 then (if v.N < -4611686018427387904∨4611686018427387904 < v.N then 8 else if v.Bits=0∧v.Text=[] then 0 else 2) else if v.Kind=2 then (if v.N < 0∨1 < v.N then 8 else if v.Bits=0∧v.Text=[] then 0 else 2) else if v.Kind=3 then (if cln v.Bits≠v.Bits then 4 else if v.N=0∧v.Text=[] then 0 else 2) else if v.Kind=4 then (if 24 < v.Text.length then 5 else if v.N=0∧v.Bits=0 then 0 else 2) else 11
theorem xZbL (v:xZ4) (N:Nat):xZ5A N v=some (vchk v):=by
 have hc:=xZam v.Bits N
 simp only [xZ5A,xZa8,vchk,Bool.cond_eq_ite]
 by_cases k1:v.Kind=1
 ·simp [k1,xZ4v,xZ18];repeat' split
  all_goals first | rfl | (exfalso;omega) | simp_all [eq_comm]
 ·by_cases k2:v.Kind=2
  ·simp [k2,xZ3T];repeat' split
   all_goals first | rfl | (exfalso;omega) | simp_all [eq_comm]
  ·by_cases k3:v.Kind=3
   ·simp [k3,xZ4s,hc];repeat' split
    all_goals first | rfl | (exfalso;omega) | simp_all [eq_comm]
   ·by_cases k4:v.Kind=4
    ·simp [k4,xZ4S,xZ18];repeat' split
     all_goals first | rfl | (exfalso;omega) | simp_all [eq_comm]
    ·simp [k1,k2,k3,k4]
def nResl:List (List UInt8):=[[119,105,116,104,105,110],[98,121],[97,110,100],[111,114],[110,111,116],[97,110,121],[110,101,120,116],[115,116,114,105,99,116],[116,114,117,101],[102,97,108,115,101]]
def nResv (s:List UInt8):Bool:=nResl.any (s==·)
theorem xZfP (s:List UInt8):W (fun N=>xZ2g N s) (·=nResv s):=by
 refine wall fun N=>?_
 have e2:∀ (b r:Bool),(bif b then some true else some r)=some (b || r):=by intro b r;cases b<;>rfl
 unfold xZ2g
 have e3:∀ (b r r':Bool),(bif b then some (b || r') else some r)=some (b || r):=by intro b r r';cases b<;>rfl
 have e4:∀ (b r:Bool),(bif b then some b else some r)=some (b || r):=by intro b r;cases b<;>rfl
 simp only [nResv,nResl,List.any_cons,List.any_nil,e2,e3,e4,Bool.or_false]
def nLtr (c:UInt8):Bool:=leB 97 (c.toNat:Int)&&leB (c.toNat:Int) 122
def nTl (c:UInt8):Bool:=nLtr c || (leB 48 (c.toNat:Int)&&leB (c.toNat:Int) 57) || ((c.toNat:Int)==95)
def nm:List UInt8→Bool
 | []=>false
 | c::t=>!(ltB 12 ((c::t).length:Int))&&(nLtr c&&(!nResv (c::t)&&t.all nTl))
theorem xZa3 (c:UInt8) (N:Nat):xZ4k N (c.toNat:Int)=some (nLtr c):=by
 simp only [xZ4k,nLtr];cases leB 97 (c.toNat:Int)<;>rfl
theorem xZeQ (c:UInt8) (N:Nat):xZ75 N (c.toNat:Int)=some (nTl c):=by
 simp only [xZ75,xZa3,Option.bind_some,nTl]
 cases nLtr c<;>cases leB 48 (c.toNat:Int)<;>cases leB (c.toNat:Int) 57<;>rfl
theorem xZ4F (s:List UInt8):W (fun N=>xZ2T N s) (·=nm s):=by
 cases s with
 | nil=>exact wall fun _=>rfl
 | cons c t=>
   simp only [xZ2T,show ((c::t)==([]:List UInt8))=false from rfl,cond_false,W.cond,W.ret,show ix (c::t) 0=some c from rfl,Option.bind_some,xZa3]
   refine ⟨fun h=>by simp only [nm,h,Bool.not_true,Bool.false_and],fun h=>⟨fun h'=>?_,fun h'=>?_⟩⟩
   ·have h':nLtr c=false:=by simpa using h'
    simp only [nm,h',Bool.false_and,Bool.and_false]
   have h':nLtr c=true:=by simpa using h'
   simp only [nm,h,h',Bool.not_false,Bool.true_and]
   refine W.call (xZfP _) ?_
   rintro _ rfl
   simp only [W.cond,W.ret]
   refine ⟨fun h2=>by simp only [h2,Bool.not_true,Bool.false_and],fun h2=>?_⟩
   simp only [h2,Bool.not_false,Bool.true_and]
   have hb:=xZ28.1 h
   refine wr1 (l:=c::t) (fun _ rest=>rest.all nTl) [c] t rfl rfl (by omega) ?_ ?_
   ·intro F pre e rest hl h1 h2 h3 hn
    simp only [xZ5h,h1,h2,h3,Option.bind_some,cond_true,xZeQ,W.cond,W.ret,xZ1w,List.all_cons]
    refine ⟨fun h=>?_,fun h=>?_⟩
    ·have h:nTl e=false:=by simpa using h
     simp only [h,Bool.false_and]
    ·have h:nTl e=true:=by simpa using h
     simp only [h,Bool.true_and];exact hn
   ·intro F h1
    simp only [xZ5h,h1,cond_false,W.ret,List.all_nil]
section
def zT:xZ0:=⟨0,0,[],⟨0,0,0,[]⟩⟩
def tk (y:List xZ0) (i:Nat):xZ0:=y[i]?.getD zT
def plc (y:List xZ0) (e:Int) (i:Nat):Int:=match y[i]? with
 | some t=>t.At
 | none=>e
def isT' (y:List xZ0) (i:Nat) (k:Int) (s:List UInt8):Bool:=((tk y i).Kind==k)&&((tk y i).Text==s)
section
variable {N:Nat} {y:List xZ0} {i:Nat} {e:Int}
theorem ix_at (h:i < y.length):ix y (i:Int)=some (tk y i)∧y[i]?=some (tk y i):=by
 have:y[i]?=some y[i]:=List.getElem?_eq_getElem h
 rw [ix_nat',tk,this];exact ⟨rfl,rfl⟩
theorem xZhA (h:¬ i < y.length):tk y i=zT:=by
 rw [tk,List.getElem?_eq_none (by omega)];rfl
theorem xZgH:ltB (i:Int) (y.length:Int)=decide (i < y.length):=by
 rw [xZ8k];congr 1;exact propext (by omega)
theorem xZdw:xZo N y i e=some (tk y i,y,(i:Int),e):=by
 simp only [xZo,xZgH]
 by_cases h:i < y.length
 ·simp [h,(ix_at h).1]
 ·simp [h,xZhA h,zT]
theorem xZiv:xZj N y i e=some (plc y e i,y,(i:Int),e):=by
 simp only [xZj,xZgH]
 by_cases h:i < y.length
 ·simp only [h,decide_true,cond_true,(ix_at h).1,Option.bind_some,plc,(ix_at h).2]
 ·simp [h,plc,List.getElem?_eq_none (Nat.le_of_not_lt h)]
theorem xZf1 (c:Int):xZl N c y i e=some (c,plc y e i,y,(i:Int),e):=by
 simp only [xZl,xZiv,Option.bind_some]
theorem xZdr {n:Nat} (h:n≤1000000):i64b ((n:Int)+1)=true:=xZT.2 (by omega)
theorem xZdc (k:Int) (s:List UInt8) (hi:i≤1000000):xZg N k s y i e=some (if isT' y i k s=true then (true,y,((i+1:Nat):Int),e) else (false,y,(i:Int),e)):=by
 simp only [xZg,xZdw,Option.bind_some,xZdr hi,xZ1w,isT']
 by_cases h1:(tk y i).Kind=k
 ·by_cases h2:(tk y i).Text=s
  ·simp [h1,h2]
  ·simp [h1,show ((tk y i).Text==s)=false by simpa using h2]
 ·simp [show ((tk y i).Kind==k)=false by simpa using h1,show ((tk y i).Kind != k)=true by simpa using h1]
theorem xZgG (k:Int) (hi:i≤1000000):xZG N k y i e=some (if (tk y i).Kind=k then .inr (tk y i,y,((i+1:Nat):Int),e) else .inl (4,plc y e i,y,(i:Int),e)):=by
 simp only [xZG,xZdw,xZf1,Option.bind_some,xZdr hi,xZ1w]
 by_cases h1:(tk y i).Kind=k
 ·simp [h1]
 ·simp [h1,show ((tk y i).Kind != k)=true by simpa using h1]
theorem xZ1m {k:Int} (hk:k≠0) (h:(tk y i).Kind=k):i < y.length:=by
 by_cases hi:i < y.length
 ·exact hi
 ·rw [xZhA hi] at h;exact absurd h.symm hk
theorem xZ1j {k:Int} {s:List UInt8} (h:isT' y i k s=true):(tk y i).Kind=k∧(tk y i).Text=s:=by
 simpa [isT'] using h
def U (y:List xZ0) (i:Nat):Nat⊕(xZ2×Nat):=if isT' y i 4 [45]=true then (if (tk y (i+1)).Val.Kind=1∧(tk y (i+1)).Kind=3 then .inr (⟨9,0,[],[],⟨(tk y (i+1)).Val.Kind,IntKind.i64.wrap (0 - (tk y (i+1)).Val.N),(tk y (i+1)).Val.Bits,(tk y (i+1)).Val.Text⟩⟩,i+2) else .inl (i+1)) else if (tk y i).Kind=3 then .inr (⟨9,0,[],[],(tk y i).Val⟩,i+1) else if (tk y i).Kind=1 then (if isT' y (i+1) 4 [46]=true then (if (tk y (i+2)).Kind=1 then .inr (⟨8,0,(tk y i).Text,(tk y (i+2)).Text,⟨0,0,0,[]⟩⟩,i+3) else .inl (i+2)) else .inr (⟨7,0,[],(tk y i).Text,⟨0,0,0,[]⟩⟩,i+1)) else .inl i
theorem U_ok:match U y i with
 | .inl j=>i≤j∧(i≤y.length→j≤y.length)
 | .inr (_,j)=>i < j∧j≤y.length:=by
 unfold U
 by_cases h1:isT' y i 4 [45]=true
 ·have:=xZ1m (by decide) (xZ1j h1).1
  rw [if_pos h1]
  by_cases h2:(tk y (i+1)).Val.Kind=1∧(tk y (i+1)).Kind=3
  ·have:=xZ1m (by decide) h2.2
   rw [if_pos h2];simp only;omega
  ·rw [if_neg h2];simp only;omega
 rw [if_neg h1]
 by_cases h2:(tk y i).Kind=3
 ·have:=xZ1m (by decide) h2
  rw [if_pos h2];simp only;omega
 rw [if_neg h2]
 by_cases h3:(tk y i).Kind=1
 ·have:=xZ1m (by decide) h3
  rw [if_pos h3]
  by_cases h4:isT' y (i+1) 4 [46]=true
  ·have:=xZ1m (by decide) (xZ1j h4).1
   rw [if_pos h4]
   by_cases h5:(tk y (i+2)).Kind=1
   ·have:=xZ1m (by decide) h5
    rw [if_pos h5];simp only;omega
   ·rw [if_neg h5];simp only;omega
  ·rw [if_neg h4];simp only;omega
 ·rw [if_neg h3];simp only;omega
abbrev PR:=(Int×Int×List xZ0×Int×Int)⊕(List xZ2×List xZ0×Int×Int)
def enP (y:List xZ0) (e:Int):(Int×Nat)⊕(List xZ2×Nat)→PR
 | .inl (c,j)=>.inl (c,plc y e j,y,(j:Int),e)
 | .inr (l,j)=>.inr (l,y,(j:Int),e)
def UR (y:List xZ0) (i:Nat):(Int×Nat)⊕(List xZ2×Nat):=match U y i with
 | .inl j=>.inl (4,j)
 | .inr (n,j)=>.inr ([n],j)
theorem xZpn (hi:i≤900000):xZs N y i e=some (enP y e (UR y i)):=by
 have c2:((i+1:Nat):Int)=(i:Int)+1:=by omega
 simp only [xZs,xZdc (N:=N) (y:=y) (e:=e) 4 [45] (show i≤1000000 by omega),Option.bind_some,UR,U]
 by_cases h1:isT' y i 4 [45]=true
 ·simp only [if_pos h1,cond_true,xZdw,Option.bind_some]
  by_cases h2:(tk y (i+1)).Val.Kind=1
  ·simp only [h2,bne_self_eq_false,cond_false,xZgG (N:=N) (y:=y) (e:=e) 3 (show i+1≤1000000 by omega),Option.bind_some,true_and]
   by_cases h3:(tk y (i+1)).Kind=3
   ·simp only [if_pos h3,Sum.elim_inr,enP,h2]
   ·simp only [if_neg h3,Sum.elim_inl,enP]
  ·simp only [show ((tk y (i+1)).Val.Kind != 1)=true by simpa using h2,cond_true,xZf1,Option.bind_some,h2,false_and,if_false,enP]
 ·simp only [if_neg h1,cond_false,xZdw,Option.bind_some]
  by_cases h2:(tk y i).Kind=3
  ·simp only [h2,beq_self_eq_true,cond_true,xZdr (show i≤1000000 by omega),xZ1w,if_true,enP,c2]
  ·simp only [show ((tk y i).Kind==3)=false by simpa using h2,cond_false,h2,if_false,xZgG (N:=N) (y:=y) (e:=e) 1 (show i≤1000000 by omega),Option.bind_some]
   by_cases h3:(tk y i).Kind=1
   ·simp only [if_pos h3,Sum.elim_inr,xZdc (N:=N) (y:=y) (e:=e) 4 [46] (show i+1≤1000000 by omega),Option.bind_some]
    by_cases h4:isT' y (i+1) 4 [46]=true
    ·simp only [if_pos h4,cond_true,xZgG (N:=N) (y:=y) (e:=e) 1 (show i+2≤1000000 by omega),Option.bind_some]
     by_cases h5:(tk y (i+2)).Kind=1
     ·simp only [if_pos h5,Sum.elim_inr,enP]
     ·simp only [if_neg h5,Sum.elim_inl,enP]
    ·simp only [if_neg h4,cond_false,enP]
   ·simp only [if_neg h3,Sum.elim_inl,enP]
end
end
section
section
variable {N:Nat} {y:List xZ0} {i:Nat} {e:Int} {F:xZ3s}
end
end
theorem W.shift {α:Type} {f:Nat→Option α} {Q:α→Prop} (h:W (fun N=>f (N+1)) Q):W f Q:=by
 obtain ⟨a,⟨n,hn⟩,hq⟩:=h
 refine ⟨a,⟨n+1,fun N hN=>?_⟩,hq⟩
 obtain ⟨M,rfl⟩:∃ M,N=M+1:=⟨N - 1,by omega⟩
 exact hn M (by omega)
theorem xZmx (ks:List (List xZ2)) (hk:ks.length≤10) (hf:ks.flatten.length≤100000):W (fun N=>xZ2d N ks) (·=.inr ks.flatten):=by
 simp only [xZ2d]
 have pre_le:∀ {pre rest:List (List xZ2)},ks=pre++rest→pre.flatten.length≤100000:=fun h=>by
  have:=congrArg (fun l=>l.flatten.length) h
  simp only [List.flatten_append,List.length_append] at this
  omega
 refine wf2z (l:=ks) (fun pre s=>s=(pre.flatten.length:Int)) [] rfl rfl (by omega) rfl ?_ ?_
 ·rintro F pre k rest s hl h1 h2 h3 rfl hn
  have hp:=pre_le (pre:=pre++[k]) (rest:=rest) (by simpa using hl)
  have hpl:pre.length≤10:=by
   have:=congrArg List.length hl
   simp only [List.length_append,List.length_cons] at this
   omega
  simp only [List.flatten_append,List.length_append,List.flatten_cons,List.flatten_nil,List.append_nil] at hp
  simp only [xZ1O,h1,cond_true,h2,Option.bind_some,W.gd,W.cond,xZT,xZ18,xZ28,W.ret]
  refine ⟨by omega,fun h=>by omega,fun _=>⟨by omega,hn _ (by simp)⟩⟩
 ·rintro F s h1 rfl
  have hp:=pre_le (pre:=ks) (rest:=[]) (by simp)
  simp only [xZ1O,h1,cond_false,xZ1a]
  rw [show leB 0 (ks.flatten.length:Int)=true from xZ1e.2 (by omega),show leB (80 * (ks.flatten.length:Int)) 140737488355328=true from xZ1e.2 (by omega)]
  simp only [xZ1w,Option.bind_some]
  refine wf2a (l:=ks) (fun pre ys=>ys=pre.flatten) [] rfl rfl (by omega) rfl ?_ ?_
  ·rintro F2 pre k rest ys hl g1 g2 g3 rfl hn
   have hp:=pre_le (pre:=pre++[k]) (rest:=rest) (by simpa using hl)
   simp only [List.flatten_append,List.length_append,List.flatten_cons,List.flatten_nil,List.append_nil] at hp
   simp only [xZ1M,g1,cond_true,g2,Option.bind_some,W.gd,g3,Nat.ble_eq]
   exact ⟨by omega,trivial,hn _ (by simp)⟩
  ·rintro F2 ys g1 rfl
   simp only [xZ1M,g1,cond_false,W.ret]
theorem xZgE (n:xZ2) (ks:List (List xZ2)) (hk:ks.length≤10) (hf:ks.flatten.length≤100000):W (fun N=>xZ15 N n ks) (·=n::ks.flatten):=by
 simp only [xZ15]
 refine W.call (xZmx ks hk hf) ?_
 rintro _ rfl
 simp only [Sum.elim_inr,W.gd,W.ret,Nat.ble_eq]
 exact ⟨by omega,trivial⟩
abbrev RR:=(Int×Nat)⊕(List xZ2×Nat)
def okR (y:List xZ0) (i:Nat):RR→Prop
 | .inl (c,j)=>c≠0∧i≤j∧j≤y.length
 | .inr (l,j)=>i < j∧j≤y.length∧l.length≤j - i
def bn (k:Int):xZ2:=⟨k,0,[],[],⟨0,0,0,[]⟩⟩
def lpG (f:Nat→RR) (sep:Nat→Option Int):Nat→List xZ2→Nat→RR
 | 0,l,j=>.inr (l,j)
 | n+1,l,j=>match sep j with
   | some k=>match f (j+1) with
     | .inl x=>.inl x
     | .inr (r,j')=>lpG f sep n (bn k::(l++r)) j'
   | none=>.inr (l,j)
def sepS (y:List xZ0) (j:Nat):Option Int:=if isT' y j 4 [43]=true then some 5 else if isT' y j 4 [45]=true then some 6 else none
def SU (y:List xZ0) (i:Nat):RR:=match UR y i with
 | .inl x=>.inl x
 | .inr (l,j)=>lpG (UR y) (sepS y) (y.length - j) l j
theorem UR_ok {y:List xZ0} {i:Nat} (hi:i≤y.length):okR y i (UR y i):=by
 have:=U_ok (y:=y) (i:=i)
 unfold UR
 cases h:U y i with
 | inl j=>rw [h] at this;exact ⟨by decide,this.1,this.2 hi⟩
 | inr p=>rw [h] at this;exact ⟨this.1,this.2,by simp;omega⟩
theorem xZoM {y:List xZ0} {i:Nat} {e:Int} (hi:i≤900000):W (fun N=>xZs N y i e) (·=enP y e (UR y i)):=wall fun N=>xZpn hi
theorem xZcs {f:Nat→RR} {sep:Nat→Option Int} {n:Nat} {l:List xZ2} {j:Nat} {k:Int} {r:List xZ2} {j':Nat} (hs:sep j=some k) (hf:f (j+1)=.inr (r,j')):lpG f sep (n+1) l j=lpG f sep n (bn k::(l++r)) j':=by
 simp only [lpG,hs,hf]
theorem xZgw {f:Nat→RR} {sep:Nat→Option Int} {n:Nat} {l:List xZ2} {j:Nat} {k:Int} {x:Int×Nat} (hs:sep j=some k) (hf:f (j+1)=.inl x):lpG f sep (n+1) l j=.inl x:=by
 simp only [lpG,hs,hf]
theorem xZ9F {f:Nat→RR} {sep:Nat→Option Int} {n:Nat} {l:List xZ2} {j:Nat} (hs:sep j=none):lpG f sep n l j=.inr (l,j):=by
 cases n<;>simp only [lpG,hs]
theorem xZma {y:List xZ0} {f:Nat→RR} {sep:Nat→Option Int} {i:Nat} (hf:∀ j,j≤y.length→okR y j (f j)) (hs:∀ j k,sep j=some k→j < y.length):∀ (n:Nat) (l:List xZ2) (j:Nat),i < j→j≤y.length→l.length≤j - i→okR y i (lpG f sep n l j)
 | 0,l,j,h1,h2,h3=>⟨h1,h2,h3⟩
 | n+1,l,j,h1,h2,h3=>by
   cases h:sep j with
   | none=>rw [xZ9F h];exact ⟨h1,h2,h3⟩
   | some k=>
     have hj:=hs j k h
     have:=hf (j+1) hj
     cases g:f (j+1) with
     | inl x=>
       rw [g] at this
       rw [xZgw h g]
       exact ⟨this.1,by have:=this.2.1;omega,this.2.2⟩
     | inr p=>
       obtain ⟨r,j'⟩:=p
       rw [g] at this
       rw [xZcs h g]
       obtain ⟨g1,g2,g3⟩:=this
       exact xZma hf hs n _ j' (by omega) g2 (by simp only [List.length_cons,List.length_append];omega)
theorem xZkS {y:List xZ0} {j:Nat} {k:Int} (h:sepS y j=some k):j < y.length:=by
 unfold sepS at h
 split at h
 ·rename_i h1;exact xZ1m (by decide) (xZ1j h1).1
 ·split at h
  ·rename_i h1;exact xZ1m (by decide) (xZ1j h1).1
  ·cases h
theorem SU_ok {y:List xZ0} {i:Nat} (hi:i≤y.length):okR y i (SU y i):=by
 have:=UR_ok hi
 unfold SU
 cases h:UR y i with
 | inl x=>rw [h] at this;exact this
 | inr p=>
   obtain ⟨l,j⟩:=p
   rw [h] at this
   exact xZma (fun j hj=>UR_ok hj) (fun j k hk=>xZkS hk) _ l j this.1 this.2.1 this.2.2
theorem w_sum {y:List xZ0} {i:Nat} {e:Int} (hi:i≤y.length) (hy:y.length≤700):W (fun N=>xZ1g N y i e) (·=enP y e (SU y i)):=by
 simp only [xZ1g]
 have h0:=UR_ok hi
 refine W.call (xZoM (show i≤900000 by omega)) ?_
 rintro _ rfl
 unfold SU
 cases h:UR y i with
 | inl x=>simp only [enP,Sum.elim_inl,W.ret]
 | inr p=>
   obtain ⟨l0,j0⟩:=p
   rw [h] at h0
   simp only [enP,Sum.elim_inr]
   refine W.lp4 (fun l y4 y5 y6=>∃ j n:Nat,y4=y∧y5=(j:Int)∧y6=e∧i < j∧j≤y.length∧l.length≤j - i∧y.length - j≤n∧lpG (UR y) (sepS y) n l j=lpG (UR y) (sepS y) (y.length - j0) l0 j0) (fun _ _ y5 _=>y.length - y5.toNat) ⟨j0,_,rfl,rfl,rfl,h0.1,h0.2.1,h0.2.2,Nat.le_refl _,rfl⟩ ?_
   rintro F l y4 y5 y6 ⟨j,n,rfl,rfl,rfl,g1,g2,g3,g4,g5⟩ hn
   simp only [xZ2s,xZdc (y:=y4) (i:=j) (e:=y6) 4 [43] (show j≤1000000 by omega),Option.bind_some]
   have round:∀ k:Int,sepS y4 j=some k→∀ (g:(ι:Type)→[Lim ι]→True),W (fun p:Nat×Nat=>(xZs p.1 y4 ((j+1:Nat):Int) y6).bind fun x=>Sum.elim (fun u=>some (Sum.inl (u.1,u.2.1,u.2.2.1,u.2.2.2.1,u.2.2.2.2))) (fun u=>(xZ15 p.1 (bn k) [l,u.1]).bind fun ab=>F p ab u.2.1 u.2.2.1 u.2.2.2) x) (·=enP y4 y6 (lpG (UR y4) (sepS y4) (y4.length - j0) l0 j0)):=fun k hs _=>by
    have hj:=xZkS hs
    obtain ⟨n,rfl⟩:∃ m,n=m+1:=⟨n - 1,by omega⟩
    have hu:=UR_ok (y:=y4) (i:=j+1) hj
    refine W.call (xZoM (show j+1≤900000 by omega)) ?_
    rintro _ rfl
    cases q:UR y4 (j+1) with
    | inl x=>
      rw [xZgw hs q] at g5
      simp only [enP,Sum.elim_inl,W.ret]
      rw [← g5]
    | inr p=>
      obtain ⟨r,j'⟩:=p
      rw [xZcs hs q] at g5
      rw [q] at hu
      obtain ⟨u1,u2,u3⟩:=hu
      simp only [enP,Sum.elim_inr]
      refine W.call (xZgE (bn k) [l,r] (by simp) (by simp;omega)) ?_
      rintro _ rfl
      exact hn _ _ _ _ ⟨j',n,rfl,rfl,rfl,by omega,u2,by simp;omega,by omega,by simpa using g5⟩ (by omega)
   by_cases h1:isT' y4 j 4 [43]=true
   ·simp only [if_pos h1,cond_true]
    exact round 5 (by simp [sepS,h1]) fun _=>trivial
   ·simp only [if_neg h1,cond_false,xZdc (y:=y4) (i:=j) (e:=y6) 4 [45] (show j≤1000000 by omega),Option.bind_some]
    by_cases h2:isT' y4 j 4 [45]=true
    ·simp only [if_pos h2,cond_true]
     exact round 6 (by simp [sepS,h1,h2]) fun _=>trivial
    ·simp only [if_neg h2,cond_false,W.ret]
     rw [xZ9F (by simp [sepS,h1,h2])] at g5
     rw [← g5]
def opV (s:List UInt8):Int:=if s=[61] then 1 else if s=[33,61] then 2 else if s=[60] then 3 else if s=[60,61] then 4 else if s=[62] then 5 else if s=[62,61] then 6 else 0
def sgV (v:Int):List UInt8:=if v=1 then [61] else if v=2 then [33,61] else if v=3 then [60] else if v=4 then [60,61] else if v=5 then [62] else [62,61]
theorem opV_b (s:List UInt8):0≤opV s∧opV s≤6:=by
 unfold opV
 repeat' split
 all_goals omega
theorem sg_ok (s:List UInt8) (v:Int) (h1:1≤v) (h2:v≤6):(∀ N,xZ2m N v=some (sgV v))∧(∀ N,xZfB N v=some (sgV v))∧((sgV v==s)=true ↔ opV s=v)∧IntKind.u8.wrap (v+1)=v+1∧leB v 6=true:=by
 have h6:v=1∨v=2∨v=3∨v=4∨v=5∨v=6:=by omega
 rcases h6 with rfl | rfl | rfl | rfl | rfl | rfl
 all_goals
  refine ⟨fun N=>rfl,fun N=>rfl,?_,rfl,rfl⟩
  rw [beq_iff_eq]
  constructor
  ·intro h
   rw [← h]
   rfl
  ·intro h
   unfold opV at h
   repeat' split at h
   all_goals first | omega | (rename_i e;rw [e];rfl) | (rename_i e _;rw [e];rfl)
theorem w_op (s:List UInt8):W (fun N=>xZ8R N s) (·=opV s):=by
 simp only [xZ8R]
 have hb:=opV_b s
 refine W.lp1 (fun v:Int=>1≤v∧v≤7∧(opV s=0∨v≤opV s)) (fun v=>(8 - v).toNat) ⟨by omega,by omega,by omega⟩ ?_
 rintro F v ⟨h1,h2,h3⟩ hn
 by_cases h7:v=7
 ·subst h7
  simp only [xZ5V,show leB 7 6=false from rfl,cond_false,W.ret];omega
 obtain ⟨g1,g2,g3,g4,g5⟩:=sg_ok s v h1 (by omega)
 simp only [xZ5V,g5,cond_true,g1,Option.bind_some,W.cond,W.ret,g4]
 refine ⟨fun h=>(g3.1 h).symm,fun h=>hn _ ⟨by omega,by omega,?_⟩ (by omega)⟩
 have:opV s≠v:=fun e=>by rw [g3.2 e] at h;cases h
 omega
def bad (n:xZ2):Bool:=bif n.Kind==4 then !(leB 1 n.Op&&leB n.Op 6) else bif n.Kind==7 then !nm n.Name else bif n.Kind==8 then (!nm n.Name) || (!nm n.Var) else bif n.Kind==9 then vchk n.Val != 0 else false
def nds (n:xZ2):Int:=bif bad n then 4 else bif moreB n then 2 else 0
theorem xZm5 (v:Int) (N:Nat):∃ s,xZ2m N v=some s∧(s==[])=!(leB 1 v&&leB v 6):=by
 by_cases h:1≤v∧v≤6
 ·have h6:v=1∨v=2∨v=3∨v=4∨v=5∨v=6:=by omega
  rcases h6 with rfl | rfl | rfl | rfl | rfl | rfl<;>exact ⟨_,rfl,rfl⟩
 ·refine ⟨[],?_,?_⟩
  ·have e:∀ k:Int,1≤k∧k≤6→(v==k)=false:=fun k hk=>by
    rw [beq_eq_false_iff_ne];intro he;subst he;exact h hk
   simp only [xZ2m,e 1 (by omega),e 2 (by omega),e 3 (by omega),e 4 (by omega),e 5 (by omega),e 6 (by omega),cond_false]
  ·rw [xZ9s,xZ9s]
   have:¬ (1≤v∧v≤6):=h
   by_cases h1:1≤v
   ·have:¬ v≤6:=fun h2=>h ⟨h1,h2⟩
    simp [h1,this]
   ·simp [h1]
theorem xZoK (n:xZ2):W (fun N=>xZ4n N n) (·=bad n):=by
 obtain ⟨k,op,va,na,v⟩:=n
 simp only [xZ4n,bad]
 by_cases h4:k=4
 ·subst h4
  have e:∀ N,((xZ2m N op).bind fun sign=>some (sign==[]))=some (!(leB 1 op&&leB op 6)):=fun N=>by
   obtain ⟨s,hs,h⟩:=xZm5 op N
   rw [hs,Option.bind_some,h]
  simp only [show ((4:Int)==4)=true from rfl,cond_true,e,W.ret]
 simp only [show (k==4)=false by simpa using h4,cond_false]
 by_cases h7:k=7
 ·subst h7
  simp only [show ((7:Int)==7)=true from rfl,cond_true]
  refine W.call (xZ4F na) ?_
  rintro _ rfl
  simp only [W.ret]
 simp only [show (k==7)=false by simpa using h7,cond_false]
 by_cases h8:k=8
 ·subst h8
  simp only [show ((8:Int)==8)=true from rfl,cond_true]
  refine W.call (xZ4F na) ?_
  rintro _ rfl
  cases hn:nm na with
  | false=>simp [W.ret]
  | true=>
    simp only [Bool.not_true,cond_false]
    refine W.call (xZ4F va) ?_
    rintro _ rfl
    simp [W.ret]
 simp only [show (k==8)=false by simpa using h8,cond_false]
 by_cases h9:k=9
 ·subst h9
  simp only [show ((9:Int)==9)=true from rfl,cond_true,xZbL,Option.bind_some,W.ret]
 simp only [show (k==9)=false by simpa using h9,cond_false,W.ret]
def kdN (k:Int):Int:=if k=1∨k=2∨k=4∨k=5∨k=6 then 2 else if k=3 then 1 else 0
def kdW (k:Int) (x:Int):Int:=if k≤3 then 0 else if k=4 then 1 else if x=0 then 1 else 2
def stB (k w:Int):Bool:=bif w==0 then leB 1 k&&leB k 4 else bif w==1 then leB 5 k&&leB k 9 else leB 7 k&&leB k 9
abbrev TF:=Int→Int→Nat→Int×Nat
def kids (p:TF) (k d:Int) (i:Nat):Int×Nat:=if kdN k=0 then (0,i) else if (p (kdW k 0) (d+1) i).1≠0∨kdN k=1 then p (kdW k 0) (d+1) i else p (kdW k 1) (d+1) (p (kdW k 0) (d+1) i).2
def trS (l:List xZ2) (p:TF):TF:=fun w d i=>
 match l[i]? with
 | none=>(3,i)
 | some n=>if 16≤d then (15,i) else if stB n.Kind w=false then (11,i) else if nds n≠0 then (nds n,i) else kids p n.Kind d (i+1)
def TR (l:List xZ2):Nat→TF
 | 0=>fun _ _ i=>(3,i)
 | n+1=>trS l (TR l n)
theorem xZqH (k:Int) (N:Nat):xZ9W N k=some (kdN k):=by
 simp only [xZ9W,kdN]
 by_cases h1:k=1
 ·subst h1;rfl
 by_cases h2:k=2
 ·subst h2;rfl
 by_cases h4:k=4
 ·subst h4;rfl
 by_cases h5:k=5
 ·subst h5;rfl
 by_cases h6:k=6
 ·subst h6;rfl
 simp only [show (k==1)=false by simpa using h1,show (k==2)=false by simpa using h2,show (k==4)=false by simpa using h4,show (k==5)=false by simpa using h5,show (k==6)=false by simpa using h6,cond_false,h1,h2,h4,h5,h6,false_or,if_false]
 by_cases h3:k=3
 ·subst h3;rfl
 ·simp [h3,show (k==3)=false by simpa using h3]
theorem e_kid (n:xZ2) (x:Int) (N:Nat):xZ5e N n x=some (kdW n.Kind x):=by
 simp only [xZ5e,kdW,xZ9s]
 by_cases h3:n.Kind≤3
 ·simp [h3]
 ·by_cases h4:n.Kind=4
  ·simp [h4]
  ·by_cases hx:x=0
   ·simp [h3,h4,hx,show (n.Kind==4)=false by simpa using h4]
   ·simp [h3,h4,hx,show (x==0)=false by simpa using hx,show (n.Kind==4)=false by simpa using h4]
theorem xZmB (n:xZ2) (w:Int) (N:Nat):xZ3Q N n w=some (stB n.Kind w):=by
 simp only [xZ3Q,stB]
 cases w==0<;>cases w==1<;>cases leB 1 n.Kind<;>cases leB 5 n.Kind<;>cases leB 7 n.Kind<;>simp
theorem kdN_b (k:Int):0≤kdN k∧kdN k≤2:=by
 unfold kdN
 repeat' split
 all_goals omega
theorem xZnW {l:List xZ2} {i:Nat}:(leB (l.length:Int) (i:Int)=(l[i]?).isNone)∧∀ n,l[i]?=some n→ix l (i:Int)=some n:=by
 refine ⟨?_,fun n h=>by rw [ix_nat',h]⟩
 rw [xZ9s,Bool.eq_iff_iff,decide_eq_true_iff,Option.isNone_iff_eq_none,List.getElem?_eq_none_iff]
 omega
theorem xZqq {l:List xZ2} {p:TF} {n:xZ2} {d:Int} {i:Nat} (hl:l.length≤30) (hd0:0≤d) (hd:d < 16) (hp:∀ (w:Int) (j:Nat),W (fun N=>(xZ14 N) w (d+1) l j) (·=((p w (d+1) j).1,l,((p w (d+1) j).2:Int)))):
 W (fun N=>lp3 (xZ25 N (xZ14 N) d (kdN n.Kind) n.Kind n.Op n.Var n.Name n.Val.Kind n.Val.N n.Val.Bits n.Val.Text) N 0 l (i:Int)) (·=((kids p n.Kind d i).1,l,((kids p n.Kind d i).2:Int))):=by
 have hb:=kdN_b n.Kind
 refine W.lp3 (N:=fun N=>N) (fun x y j=>y=l∧((x=0∧j=(i:Int))∨(x=1∧kdN n.Kind≠0∧(p (kdW n.Kind 0) (d+1) i).1=0∧j=((p (kdW n.Kind 0) (d+1) i).2:Int))∨
  (x=2∧kdN n.Kind=2∧(p (kdW n.Kind 0) (d+1) i).1=0∧(p (kdW n.Kind 1) (d+1) (p (kdW n.Kind 0) (d+1) i).2).1=0∧j=((p (kdW n.Kind 1) (d+1) (p (kdW n.Kind 0) (d+1) i).2).2:Int)))) (fun x _ _=>(3 - x).toNat) ⟨rfl,.inl ⟨rfl,rfl⟩⟩ ?_
 rintro F x y j ⟨rfl,h⟩ hn
 simp only [xZ25,e_kid,Option.bind_some,W.cond,W.gd,xZ18,xZ28,xZT,W.ret]
 rcases h with ⟨rfl,rfl⟩ | ⟨rfl,h1,h2,rfl⟩ | ⟨rfl,h1,h2,h3,rfl⟩
 ·refine ⟨fun hx=>⟨by omega,?_⟩,fun hx=>?_⟩
  ·refine W.bind (hp _ i).lift ?_
   rintro _ rfl
   simp only [W.cond,W.gd,W.ret,xZT]
   refine ⟨fun h0=>?_,fun h0=>⟨by omega,hn _ _ _ ⟨rfl,.inr (.inl ⟨rfl,by omega,by simpa using h0,rfl⟩)⟩ (by omega)⟩⟩
   have h0:(p (kdW n.Kind 0) (d+1) i).1≠0:=by simpa using h0
   rw [kids,if_neg (by omega),if_pos (.inl h0)]
  ·rw [kids,if_pos (by omega)]
 ·refine ⟨fun hx=>⟨by omega,?_⟩,fun hx=>?_⟩
  ·refine W.bind (hp _ _).lift ?_
   rintro _ rfl
   simp only [W.cond,W.gd,W.ret,xZT]
   refine ⟨fun h0=>?_,fun h0=>⟨by omega,hn _ _ _ ⟨rfl,.inr (.inr ⟨rfl,by omega,h2,by simpa using h0,rfl⟩)⟩ (by omega)⟩⟩
   rw [kids,if_neg (by omega),if_neg (by intro h;rcases h with h | h<;>omega)]
  ·rw [kids,if_neg h1,if_pos (.inr (by omega))]
   rw [h2]
 ·refine ⟨fun hx=>by omega,fun hx=>?_⟩
  rw [kids,if_neg (by omega),if_neg (by intro h;rcases h with h | h<;>omega),h3]
def okN (l:List xZ2):Prop:=∀ n∈l,0≤n.Val.Bits∧n.Val.Bits≤18446744073709551615
theorem xZr8 (n:xZ2):nds n=if bad n=true then 4 else if moreB n=true then 2 else 0:=by
 unfold nds
 cases bad n<;>cases moreB n<;>rfl
theorem xZp8 {l:List xZ2} (hl:l.length≤30):∀ (n:Nat) (w d:Int) (i:Nat),0≤d→d≤16→16 - d+1≤n→W (fun N=>(xZ14 N) w d l i) (·=((TR l n w d i).1,l,((TR l n w d i).2:Int)))
 | 0,w,d,i,h0,h1,h2=>by omega
 | n+1,w,d,i,h0,h1,h2=>by
   refine W.shift ?_
   show W (fun N=>xZ3j N (xZ14 N) w d l i) _
   simp only [xZ3j,xZnW.1]
   show W _ (·=((trS l (TR l n) w d i).1,l,((trS l (TR l n) w d i).2:Int)))
   unfold trS
   cases hg:l[i]? with
   | none=>simp only [Option.isNone_none,cond_true,W.ret]
   | some nd=>
     have hi:i < 30:=by have:=(List.getElem?_eq_some_iff.1 hg).1;omega
     simp only [Option.isNone_some,cond_false,xZnW.2 nd hg,Option.bind_some,xZ9s,xZmB]
     by_cases hd:16≤d
     ·simp only [decide_eq_true hd,cond_true,if_pos hd,W.ret]
     simp only [decide_eq_false hd,cond_false,if_neg hd]
     cases hs:stB nd.Kind w with
     | false=>simp only [Bool.not_false,cond_true,W.ret,if_true]
     | true=>
       simp only [Bool.not_true,cond_false,Bool.true_eq_false,if_false,xZ8U,xZ93,xZ68]
       refine W.bind (P:=(·=if bad nd=true then (4:Int) else 0)) ?_ ?_
       ·refine W.call (xZoK nd) ?_
        rintro _ rfl
        cases bad nd<;>simp [W.ret]
       rintro _ rfl
       rw [xZr8]
       cases hb:bad nd with
       | true=>simp [W.ret]
       | false=>
         cases hm:moreB nd with
         | true=>simp [W.ret,hm]
         | false=>
           simp only [Bool.false_eq_true,if_false,show ((0:Int) != 0)=false from rfl,cond_false,Option.bind_some,W.gd,xZT,xZqH,ne_eq,not_true_eq_false]
           refine ⟨by omega,?_⟩
           have:=xZqq (l:=l) (p:=TR l n) (n:=nd) (d:=d) (i:=i+1) hl h0 (by omega) fun w j=>xZp8 hl n w (d+1) j (by omega) (by omega) (by omega)
           simpa using this
def chk (l:List xZ2):Int:=if 30 < l.length then 5 else if l.length=0 then 0 else if (TR l 17 0 0 0).1≠0 then (TR l 17 0 0 0).1 else if (TR l 17 0 0 0).2 < l.length then 5 else 0
theorem xZi3 (l:List xZ2):W (fun N=>xZ3k N l) (·=chk l):=by
 simp only [xZ3k,chk,W.cond,xZ18,xZ28,W.ret]
 refine ⟨fun h=>by rw [if_pos (by omega)],fun h=>?_⟩
 rw [if_neg (by omega)]
 refine ⟨fun h2=>by rw [if_pos (by simpa using h2)],fun h2=>?_⟩
 have h2:¬ l.length=0:=by simpa using h2
 rw [if_neg h2]
 refine W.call (xZp8 (l:=l) (by omega) 17 0 0 0 (by omega) (by omega) (by omega)) ?_
 rintro _ rfl
 simp only [W.cond,W.ret,xZ18,xZ28]
 refine ⟨fun h3=>by rw [if_pos (by simpa using h3)],fun h3=>?_⟩
 rw [if_neg (by simpa using h3)]
 exact ⟨fun h4=>by rw [if_pos (by omega)],fun h4=>by rw [if_neg (by omega)]⟩
abbrev SPT:=(Int→Nat→RR)×(Int→Nat→RR)×(Int→Nat→RR)
def sepK (y:List xZ0) (s:List UInt8) (k:Int) (j:Nat):Option Int:=if isT' y j 2 s=true then some k else none
def rowS (y:List xZ0) (f:Nat→RR) (sep:Nat→Option Int) (i:Nat):RR:=match f i with
 | .inl x=>.inl x
 | .inr (l,j)=>lpG f sep (y.length - j) l j
def nt:List UInt8:=[110,111,116]
def partS (y:List xZ0) (p:SPT) (d:Int) (i:Nat):RR:=
 if isT' y i 2 nt=true∨isT' y i 4 [40]=true then
  (if 16≤d then .inl (15,i)
   else if isT' y i 2 nt=true then (match p.2.2 (d+1) (i+1) with
    | .inl x=>.inl x
    | .inr (l,j)=>.inr (bn 3::l,j))
   else match p.1 (d+1) (i+1) with
    | .inl x=>.inl x
    | .inr (l,j)=>if isT' y j 4 [41]=true then .inr (l,j+1) else .inl (4,j))
 else match SU y i with
  | .inl x=>.inl x
  | .inr (l,j)=>if (tk y j).Kind=4∧opV (tk y j).Text≠0 then (match SU y (j+1) with
     | .inl x=>.inl x
     | .inr (r,j')=>.inr (⟨4,opV (tk y j).Text,[],[],⟨0,0,0,[]⟩⟩::(l++r),j')) else .inl (4,j)
def SPP (y:List xZ0):Nat→SPT
 | 0=>(fun _ i=>.inl (4,i),fun _ i=>.inl (4,i),fun _ i=>.inl (4,i))
 | n+1=>(fun d=>rowS y ((SPP y n).2.1 d) (sepK y [111,114] 2),fun d=>rowS y ((SPP y n).2.2 d) (sepK y [97,110,100] 1),fun d=>partS y (SPP y n) d)
theorem xZoW {y:List xZ0} {s:List UInt8} {k0:Int} {j:Nat} {k:Int} (h:sepK y s k0 j=some k):j < y.length∧k=k0∧isT' y j 2 s=true:=by
 unfold sepK at h
 split at h
 ·rename_i h1;cases h;exact ⟨xZ1m (by decide) (xZ1j h1).1,rfl,h1⟩
 ·cases h
theorem xZlF {y:List xZ0} {f:Nat→RR} {s:List UInt8} {k:Int} {i:Nat} (hf:∀ j,j≤y.length→okR y j (f j)) (hi:i≤y.length):okR y i (rowS y f (sepK y s k) i):=by
 have:=hf i hi
 unfold rowS
 cases h:f i with
 | inl x=>rw [h] at this;exact this
 | inr p=>
   obtain ⟨l,j⟩:=p
   rw [h] at this
   exact xZma hf (fun j k hk=>(xZoW hk).1) _ l j this.1 this.2.1 this.2.2
theorem xZqS {y:List xZ0} {e:Int} {i:Nat} (hy:y.length≤700) {f:Nat→RR} {s:List UInt8} {k:Int} (hf:∀ j,j≤y.length→okR y j (f j)) {l0:List xZ2} {j0:Nat} (h0:i < j0∧j0≤y.length∧l0.length≤j0 - i)
 {F0:Nat→(List xZ2→List xZ0→Int→Int→Option PR)→List xZ2→List xZ0→Int→Int→Option PR}
 (hr:∀ (F:Nat×Nat→List xZ2→List xZ0→Int→Int→Option PR) (l:List xZ2) (j:Nat) (Q:PR→Prop),j≤y.length→l.length≤1000→(isT' y j 2 s=false→Q (enP y e (.inr (l,j))))→
   (isT' y j 2 s=true→j < y.length→match f (j+1) with
     | .inl x=>Q (enP y e (.inl x))
     | .inr (r,j')=>r.length≤1000→W (fun p=>F p (bn k::(l++r)) y (j':Int) e) Q)→W (fun p:Nat×Nat=>F0 p.1 (F p) l y (j:Int) e) Q):
 W (fun N=>lp4 (F0 N) N l0 y (j0:Int) e) (·=enP y e (lpG f (sepK y s k) (y.length - j0) l0 j0)):=by
 refine W.lp4 (N:=fun N=>N) (fun l y4 y5 y6=>∃ j n:Nat,y4=y∧y5=(j:Int)∧y6=e∧i < j∧j≤y.length∧l.length≤j - i∧y.length - j≤n∧lpG f (sepK y s k) n l j=lpG f (sepK y s k) (y.length - j0) l0 j0) (fun _ _ y5 _=>y.length - y5.toNat) ⟨j0,_,rfl,rfl,rfl,h0.1,h0.2.1,h0.2.2,Nat.le_refl _,rfl⟩ ?_
 rintro F l y4 y5 y6 ⟨j,n,rfl,rfl,rfl,g1,g2,g3,g4,g5⟩ hn
 refine hr F l j _ g2 (by omega) (fun h=>?_) fun h hj=>?_
 ·rw [xZ9F (by simp [sepK,h])] at g5
  rw [← g5]
 ·have hs:sepK y4 s k j=some k:=by simp [sepK,h]
  obtain ⟨n,rfl⟩:∃ m,n=m+1:=⟨n - 1,by omega⟩
  have hu:=hf (j+1) hj
  cases q:f (j+1) with
  | inl x=>
    rw [xZgw hs q] at g5
    rw [← g5]
  | inr p=>
    obtain ⟨r,j'⟩:=p
    rw [xZcs hs q] at g5
    rw [q] at hu
    obtain ⟨u1,u2,u3⟩:=hu
    exact fun _=>hn _ _ _ _ ⟨j',n,rfl,rfl,rfl,by omega,u2,by simp;omega,by omega,g5⟩ (by omega)
theorem xZjT {N:Nat} {y:List xZ0} {i:Nat} {e:Int} (d:Int):xZ1s N d y i e=some (if (isT' y i 2 nt=true∨isT' y i 4 [40]=true)∧16≤d then .inl (15,plc y e i,y,(i:Int),e) else .inr (y,(i:Int),e)):=by
 have eb:∀ (x y:Int),x≠y→(x==y)=false:=fun x y h=>by simpa using h
 have es:∀ (x y:List UInt8),x≠y→(x==y)=false:=fun x y h=>by simpa using h
 simp only [xZ1s,xZdw,xZf1,Option.bind_some,xZ9s,isT',nt]
 by_cases hd:16≤d
 ·by_cases h1:(tk y i).Kind=2
  ·by_cases h2:(tk y i).Text=[110,111,116]
   ·simp [h1,h2,hd]
   ·simp [h1,es _ _ h2,h2,hd,eb 2 4 (by decide)]
  ·by_cases h3:(tk y i).Kind=4
   ·by_cases h4:(tk y i).Text=[40]
    ·simp [h3,h4,hd,eb 4 2 (by decide)]
    ·simp [h3,es _ _ h4,h4,hd,eb 4 2 (by decide)]
   ·simp [eb _ _ h1,eb _ _ h3,h1,h3]
 ·by_cases h1:(tk y i).Kind=2
  ·by_cases h2:(tk y i).Text=[110,111,116]
   ·simp [h1,h2,hd]
   ·simp [h1,es _ _ h2,h2,hd,eb 2 4 (by decide)]
  ·by_cases h3:(tk y i).Kind=4
   ·by_cases h4:(tk y i).Text=[40]
    ·simp [h3,h4,hd,eb 4 2 (by decide)]
    ·simp [h3,es _ _ h4,h4,hd,eb 4 2 (by decide)]
   ·simp [eb _ _ h1,eb _ _ h3,h1,h3,hd]
theorem p_row {y:List xZ0} {e:Int} (hy:y.length≤700) {f:Nat→RR} {s:List UInt8} {k:Int} {g:Nat→List xZ0→Int→Int→Option PR} (hg:∀ i:Nat,i≤y.length→okR y i (f i)∧W (fun N=>g N y i e) (·=enP y e (f i)))
 {F0:Nat→(List xZ2→List xZ0→Int→Int→Option PR)→List xZ2→List xZ0→Int→Int→Option PR}
 (hF:∀ N nx l y' i' e',F0 N nx l y' i' e'=((xZg N 2 s y' i' e').bind fun eat=>bif eat.1 then (g N eat.2.1 eat.2.2.1 eat.2.2.2).bind fun x=>Sum.elim (fun a=>some (Sum.inl (a.1,a.2.1,a.2.2.1,a.2.2.2.1,a.2.2.2.2))) (fun a=>(xZ15 N (bn k) [l,a.1]).bind fun ab=>nx ab a.2.1 a.2.2.1 a.2.2.2) x else some (Sum.inr (l,eat.2.1,eat.2.2.1,eat.2.2.2)))) {i:Nat} (hi:i≤y.length):
 W (fun N=>(g N y i e).bind fun x=>Sum.elim (fun a=>some (Sum.inl (a.1,a.2.1,a.2.2.1,a.2.2.2.1,a.2.2.2.2))) (fun a=>lp4 (F0 N) N a.1 a.2.1 a.2.2.1 a.2.2.2) x) (·=enP y e (rowS y f (sepK y s k) i)):=by
 obtain ⟨h0,hw⟩:=hg i hi
 refine W.bind hw ?_
 rintro _ rfl
 unfold rowS
 cases h:f i with
 | inl x=>simp only [enP,Sum.elim_inl,W.ret]
 | inr p=>
   obtain ⟨l0,j0⟩:=p
   rw [h] at h0
   simp only [enP,Sum.elim_inr]
   refine xZqS hy (fun j hj=>(hg j hj).1) h0 ?_
   intro F l j Q hj hl hend hgo
   rw [show (fun p:Nat×Nat=>F0 p.1 (F p) l y (j:Int) e)=_ from funext fun p=>hF p.1 (F p) l y j e]
   simp only [xZdc (y:=y) (i:=j) (e:=e) 2 s (show j≤1000000 by omega),Option.bind_some]
   by_cases h1:isT' y j 2 s=true
   ·have hj2:=xZ1m (by decide) (xZ1j h1).1
    simp only [if_pos h1,cond_true]
    have hq:=hgo h1 hj2
    refine W.bind (hg (j+1) hj2).2.lift ?_
    rintro _ rfl
    have hok:=(hg (j+1) hj2).1
    cases q:f (j+1) with
    | inl x=>rw [q] at hq;simp only [enP,Sum.elim_inl,W.ret];exact hq
    | inr p=>
      obtain ⟨r,j'⟩:=p
      rw [q] at hq hok
      have hr:r.length≤1000:=by have:=hok.2.2;have:=hok.2.1;omega
      simp only [enP,Sum.elim_inr]
      refine W.call (xZgE (bn k) [l,r] (by simp) (by simp;omega)) ?_
      rintro _ rfl
      simpa using hq hr
   ·simp only [if_neg h1,cond_false,W.ret]
    exact hend (by simpa using h1)
theorem xZm3 {y:List xZ0} {p:SPT} {d:Int} {i:Nat} (hn:d < 16→∀ j,j≤y.length→okR y j (p.2.2 (d+1) j)) (ho:d < 16→∀ j,j≤y.length→okR y j (p.1 (d+1) j)) (hi:i≤y.length):okR y i (partS y p d i):=by
 unfold partS
 by_cases hk:isT' y i 2 nt=true∨isT' y i 4 [40]=true
 ·have hl:i < y.length:=by
   rcases hk with h | h
   ·exact xZ1m (by decide) (xZ1j h).1
   ·exact xZ1m (by decide) (xZ1j h).1
  rw [if_pos hk]
  by_cases hd:16≤d
  ·rw [if_pos hd];exact ⟨by decide,Nat.le_refl _,hi⟩
  rw [if_neg hd]
  by_cases h1:isT' y i 2 nt=true
  ·rw [if_pos h1]
   have:=hn (by omega) (i+1) hl
   cases h:p.2.2 (d+1) (i+1) with
   | inl x=>rw [h] at this;exact ⟨this.1,by have:=this.2.1;omega,this.2.2⟩
   | inr q=>rw [h] at this;obtain ⟨a,b,c⟩:=this;exact ⟨by omega,b,by simp only [List.length_cons];omega⟩
  ·rw [if_neg h1]
   have:=ho (by omega) (i+1) hl
   cases h:p.1 (d+1) (i+1) with
   | inl x=>rw [h] at this;exact ⟨this.1,by have:=this.2.1;omega,this.2.2⟩
   | inr q=>
     obtain ⟨l,j⟩:=q
     rw [h] at this;obtain ⟨a,b,c⟩:=this
     by_cases h2:isT' y j 4 [41]=true
     ·have:=xZ1m (by decide) (xZ1j h2).1
      simp only [if_pos h2];exact ⟨by omega,by omega,by omega⟩
     ·simp only [if_neg h2];exact ⟨by decide,by omega,b⟩
 ·rw [if_neg hk]
  have:=SU_ok hi
  cases h:SU y i with
  | inl x=>rw [h] at this;exact this
  | inr q=>
    obtain ⟨l,j⟩:=q
    rw [h] at this;obtain ⟨a,b,c⟩:=this
    by_cases h2:(tk y j).Kind=4∧opV (tk y j).Text≠0
    ·have hj:=xZ1m (by decide) h2.1
     simp only [if_pos h2]
     have:=SU_ok (y:=y) (i:=j+1) hj
     cases g:SU y (j+1) with
     | inl x=>rw [g] at this;exact ⟨this.1,by have:=this.2.1;omega,this.2.2⟩
     | inr q=>rw [g] at this;obtain ⟨a2,b2,c2⟩:=this;exact ⟨by omega,b2,by simp only [List.length_cons,List.length_append];omega⟩
    ·simp only [if_neg h2];exact ⟨by decide,by omega,b⟩
theorem xZqo {y:List xZ0} {e:Int} {p:SPT} {d:Int} {i:Nat} (hy:y.length≤700) (hd0:0≤d) (hd16:d≤16)
 (hn:d < 16→∀ j:Nat,j≤y.length→okR y j (p.2.2 (d+1) j)∧W (fun N=>(xZb N).2.2 (d+1) y j e) (·=enP y e (p.2.2 (d+1) j)))
 (ho:d < 16→∀ j:Nat,j≤y.length→okR y j (p.1 (d+1) j)∧W (fun N=>(xZb N).1 (d+1) y j e) (·=enP y e (p.1 (d+1) j))) (hi:i≤y.length):
 W (fun N=>xZ2E N (xZb N) d y i e) (·=enP y e (partS y p d i)):=by
 have hent:([110,111,116]:List UInt8)=nt:=rfl
 simp only [xZ2E,xZjT,Option.bind_some,hent]
 unfold partS
 by_cases hk:isT' y i 2 nt=true∨isT' y i 4 [40]=true
 ·have hl:i < y.length:=by
   rcases hk with h | h
   ·exact xZ1m (by decide) (xZ1j h).1
   ·exact xZ1m (by decide) (xZ1j h).1
  rw [if_pos hk]
  by_cases hd:16≤d
  ·rw [if_pos hd]
   simp only [if_pos (And.intro hk hd),Sum.elim_inl,W.ret,enP]
  rw [if_neg hd]
  simp only [if_neg (show ¬ ((isT' y i 2 nt=true∨isT' y i 4 [40]=true)∧16≤d) from fun h=>hd h.2),Sum.elim_inr,xZdc (y:=y) (i:=i) (e:=e) 2 nt (show i≤1000000 by omega),Option.bind_some]
  by_cases h1:isT' y i 2 nt=true
  ·simp only [if_pos h1,cond_true,W.gd,xZT]
   refine ⟨by omega,?_⟩
   obtain ⟨ok,hw⟩:=hn (by omega) (i+1) hl
   refine W.bind hw ?_
   rintro _ rfl
   cases h:p.2.2 (d+1) (i+1) with
   | inl x=>simp only [enP,Sum.elim_inl,W.ret]
   | inr q=>
     rw [h] at ok
     simp only [enP,Sum.elim_inr]
     refine W.call (xZgE (bn 3) [q.1] (by simp) (by have:=ok.2.2;have:=ok.2.1;simp;omega)) ?_
     rintro _ rfl
     simp [W.ret]
  ·have h2:isT' y i 4 [40]=true:=hk.resolve_left h1
   simp only [if_neg h1,cond_false,xZdc (y:=y) (i:=i) (e:=e) 4 [40] (show i≤1000000 by omega),Option.bind_some,if_pos h2,cond_true,W.gd,xZT]
   refine ⟨by omega,?_⟩
   obtain ⟨ok,hw⟩:=ho (by omega) (i+1) hl
   refine W.bind hw ?_
   rintro _ rfl
   cases h:p.1 (d+1) (i+1) with
   | inl x=>simp only [enP,Sum.elim_inl,W.ret]
   | inr q=>
     obtain ⟨l,j⟩:=q
     rw [h] at ok
     have hj:=ok.2.1
     simp only [enP,Sum.elim_inr,xZdc (y:=y) (i:=j) (e:=e) 4 [41] (show j≤1000000 by omega),Option.bind_some]
     by_cases h3:isT' y j 4 [41]=true
     ·simp only [if_pos h3,Bool.not_true,cond_false,W.ret,enP]
     ·simp only [if_neg h3,Bool.not_false,cond_true,xZf1,Option.bind_some,W.ret,enP]
 ·have h1:¬ isT' y i 2 nt=true:=fun h=>hk (.inl h)
  have h2:¬ isT' y i 4 [40]=true:=fun h=>hk (.inr h)
  rw [if_neg hk]
  simp only [if_neg (show ¬ ((isT' y i 2 nt=true∨isT' y i 4 [40]=true)∧16≤d) from fun h=>hk h.1),Sum.elim_inr,xZdc (y:=y) (i:=i) (e:=e) 2 nt (show i≤1000000 by omega),Option.bind_some,if_neg h1,cond_false,xZdc (y:=y) (i:=i) (e:=e) 4 [40] (show i≤1000000 by omega),if_neg h2]
  refine W.call (w_sum hi hy) ?_
  rintro _ rfl
  have ok:=SU_ok (y:=y) hi
  cases h:SU y i with
  | inl x=>simp only [enP,Sum.elim_inl,W.ret]
  | inr q=>
    obtain ⟨l,j⟩:=q
    rw [h] at ok
    obtain ⟨a,b,c⟩:=ok
    simp only [enP,Sum.elim_inr,xZdw,Option.bind_some]
    refine W.call (w_op _) ?_
    rintro _ rfl
    by_cases h3:opV (tk y j).Text=0
    ·simp only [h3,beq_self_eq_true,cond_true,xZf1,Option.bind_some,W.ret,ne_eq,not_true_eq_false,and_false,if_false,enP]
    ·simp only [show (opV (tk y j).Text==0)=false by simpa using h3,cond_false,xZgG (y:=y) (i:=j) (e:=e) 4 (show j≤1000000 by omega),Option.bind_some]
     by_cases h4:(tk y j).Kind=4
     ·have hj:=xZ1m (by decide) h4
      simp only [if_pos h4,Sum.elim_inr,if_pos (And.intro h4 h3)]
      refine W.call (w_sum (i:=j+1) hj hy) ?_
      rintro _ rfl
      have ok2:=SU_ok (y:=y) (i:=j+1) hj
      cases g:SU y (j+1) with
      | inl x=>simp only [enP,Sum.elim_inl,W.ret]
      | inr q=>
        rw [g] at ok2
        obtain ⟨a2,b2,c2⟩:=ok2
        simp only [enP,Sum.elim_inr]
        refine W.call (xZgE _ [l,q.1] (by simp) (by simp;omega)) ?_
        rintro _ rfl
        simp [W.ret]
     ·simp only [if_neg h4,Sum.elim_inl,W.ret,if_neg (show ¬ ((tk y j).Kind=4∧opV (tk y j).Text≠0) from fun h=>h4 h.1),enP]
theorem p_all {y:List xZ0} {e:Int} (hy:y.length≤700):∀ (n:Nat),
 (∀ (d:Int) (i:Nat),0≤d→d≤16→i≤y.length→3 * (16 - d)+3≤n→okR y i ((SPP y n).1 d i)∧W (fun N=>(xZb N).1 d y i e) (·=enP y e ((SPP y n).1 d i)))∧
 (∀ (d:Int) (i:Nat),0≤d→d≤16→i≤y.length→3 * (16 - d)+2≤n→okR y i ((SPP y n).2.1 d i)∧W (fun N=>(xZb N).2.1 d y i e) (·=enP y e ((SPP y n).2.1 d i)))∧
 (∀ (d:Int) (i:Nat),0≤d→d≤16→i≤y.length→3 * (16 - d)+1≤n→okR y i ((SPP y n).2.2 d i)∧W (fun N=>(xZb N).2.2 d y i e) (·=enP y e ((SPP y n).2.2 d i)))
 | 0=>⟨fun d i h1 h2 _ h4=>by omega,fun d i h1 h2 _ h4=>by omega,fun d i h1 h2 _ h4=>by omega⟩
 | n+1=>by
   obtain ⟨io,ia,ip⟩:=p_all hy n
   refine ⟨fun d i h1 h2 h3 h4=>?_,fun d i h1 h2 h3 h4=>?_,fun d i h1 h2 h3 h4=>?_⟩
   ·have hg:=fun (j:Nat) (hj:j≤y.length)=>ia d j h1 h2 hj (by omega)
    refine ⟨xZlF (fun j hj=>(hg j hj).1) h3,W.shift ?_⟩
    exact p_row hy (g:=fun N y' i' e'=>(xZb N).2.1 d y' i' e') (F0:=fun N=>xZ2L N (xZb N) d) hg (fun N nx l y' i' e'=>rfl) h3
   ·have hg:=fun (j:Nat) (hj:j≤y.length)=>ip d j h1 h2 hj (by omega)
    refine ⟨xZlF (fun j hj=>(hg j hj).1) h3,W.shift ?_⟩
    exact p_row hy (g:=fun N y' i' e'=>(xZb N).2.2 d y' i' e') (F0:=fun N=>xZ2w N (xZb N) d) hg (fun N nx l y' i' e'=>rfl) h3
   ·refine ⟨xZm3 (fun hd j hj=>(ip (d+1) j (by omega) (by omega) hj (by omega)).1) (fun hd j hj=>(io (d+1) j (by omega) (by omega) hj (by omega)).1) h3,W.shift ?_⟩
    exact xZqo hy h1 h2 (fun hd j hj=>ip (d+1) j (by omega) (by omega) hj (by omega)) (fun hd j hj=>io (d+1) j (by omega) (by omega) hj (by omega)) h3
def okT (y:List xZ0):Prop:=∀ t∈y,0≤t.Val.Bits∧t.Val.Bits≤18446744073709551615
def oL:RR→Prop
 | .inl _=>True
 | .inr (l,_)=>okN l
theorem tk_ok {y:List xZ0} (h:okT y) (i:Nat):0≤(tk y i).Val.Bits∧(tk y i).Val.Bits≤18446744073709551615:=by
 by_cases hi:i < y.length
 ·exact h _ (List.mem_of_getElem? (ix_at hi).2)
 ·rw [xZhA hi];exact ⟨by decide,by decide⟩
theorem xZeU {n:xZ2} (h:0≤n.Val.Bits∧n.Val.Bits≤18446744073709551615):okN [n]:=fun m hm=>by
 simp only [List.mem_singleton] at hm;rw [hm];exact h
theorem xZi6 {a b:List xZ2} (h:okN a) (g:okN b):okN (a++b):=fun m hm=>by
 rcases List.mem_append.1 hm with h1 | h1
 ·exact h m h1
 ·exact g m h1
theorem xZfM {n:xZ2} {b:List xZ2} (h:0≤n.Val.Bits∧n.Val.Bits≤18446744073709551615) (g:okN b):okN (n::b):=xZi6 (xZeU h) g
theorem z_ok:0≤(⟨0,0,0,[]⟩:xZ4).Bits∧(⟨0,0,0,[]⟩:xZ4).Bits≤18446744073709551615:=⟨by decide,by decide⟩
theorem UR_l {y:List xZ0} (h:okT y) (i:Nat):oL (UR y i):=by
 unfold UR U
 by_cases h1:isT' y i 4 [45]=true
 ·rw [if_pos h1]
  by_cases h2:(tk y (i+1)).Val.Kind=1∧(tk y (i+1)).Kind=3
  ·rw [if_pos h2];exact xZeU (tk_ok h (i+1))
  ·rw [if_neg h2];trivial
 rw [if_neg h1]
 by_cases h2:(tk y i).Kind=3
 ·rw [if_pos h2];exact xZeU (tk_ok h i)
 rw [if_neg h2]
 by_cases h3:(tk y i).Kind=1
 ·rw [if_pos h3]
  by_cases h4:isT' y (i+1) 4 [46]=true
  ·rw [if_pos h4]
   by_cases h5:(tk y (i+2)).Kind=1
   ·rw [if_pos h5];exact xZeU z_ok
   ·rw [if_neg h5];trivial
  ·rw [if_neg h4];exact xZeU z_ok
 ·rw [if_neg h3];trivial
theorem lpG_l {f:Nat→RR} {sep:Nat→Option Int} (hf:∀ j,oL (f j)):∀ (n:Nat) (l:List xZ2) (j:Nat),okN l→oL (lpG f sep n l j)
 | 0,l,j,h=>h
 | n+1,l,j,h=>by
   cases hs:sep j with
   | none=>rw [xZ9F hs];exact h
   | some k=>
     have:=hf (j+1)
     cases g:f (j+1) with
     | inl x=>rw [xZgw hs g];trivial
     | inr p=>
       rw [g] at this
       rw [xZcs (r:=p.1) (j':=p.2) hs g]
       exact lpG_l hf n _ _ (xZfM z_ok (xZi6 h this))
theorem xZnY {y:List xZ0} {f:Nat→RR} {sep:Nat→Option Int} (hf:∀ j,oL (f j)) (i:Nat):oL (rowS y f sep i):=by
 have:=hf i
 unfold rowS
 cases h:f i with
 | inl x=>trivial
 | inr p=>rw [h] at this;exact lpG_l hf _ _ _ this
theorem SU_l {y:List xZ0} (h:okT y) (i:Nat):oL (SU y i):=by
 have:=UR_l h i
 unfold SU
 cases g:UR y i with
 | inl x=>trivial
 | inr p=>rw [g] at this;exact lpG_l (UR_l h) _ _ _ this
theorem SPP_l {y:List xZ0} (h:okT y):∀ n:Nat,(∀ d i,oL ((SPP y n).1 d i))∧(∀ d i,oL ((SPP y n).2.1 d i))∧(∀ d i,oL ((SPP y n).2.2 d i))
 | 0=>⟨fun _ _=>trivial,fun _ _=>trivial,fun _ _=>trivial⟩
 | n+1=>by
   obtain ⟨io,ia,ip⟩:=SPP_l h n
   refine ⟨fun d i=>xZnY (ia d) i,fun d i=>xZnY (ip d) i,fun d i=>?_⟩
   show oL (partS y (SPP y n) d i)
   unfold partS
   by_cases hk:isT' y i 2 nt=true∨isT' y i 4 [40]=true
   ·rw [if_pos hk]
    by_cases hd:16≤d
    ·rw [if_pos hd];trivial
    rw [if_neg hd]
    by_cases h1:isT' y i 2 nt=true
    ·rw [if_pos h1]
     have:=ip (d+1) (i+1)
     cases g:(SPP y n).2.2 (d+1) (i+1) with
     | inl x=>trivial
     | inr q=>rw [g] at this;exact xZfM z_ok this
    ·rw [if_neg h1]
     have:=io (d+1) (i+1)
     cases g:(SPP y n).1 (d+1) (i+1) with
     | inl x=>trivial
     | inr q=>
       rw [g] at this
       by_cases h2:isT' y q.2 4 [41]=true
       ·simp only [if_pos h2];exact this
       ·simp only [if_neg h2];trivial
   ·rw [if_neg hk]
    have:=SU_l h i
    cases g:SU y i with
    | inl x=>trivial
    | inr q=>
      rw [g] at this
      by_cases h2:(tk y q.2).Kind=4∧opV (tk y q.2).Text≠0
      ·simp only [if_pos h2]
       have h3:=SU_l h (q.2+1)
       cases g2:SU y (q.2+1) with
       | inl x=>trivial
       | inr r=>rw [g2] at h3;exact xZfM z_ok (xZi6 this h3)
      ·simp only [if_neg h2];trivial
def PAR (y:List xZ0) (b:Nat) (e:Int):(Int×Int)⊕(List xZ2×Nat):=match (SPP y 51).1 0 b with
 | .inl (c,j)=>.inl (c,plc y e j)
 | .inr (l,j)=>if chk l=0 then .inr (l,j) else .inl (chk l,plc y e b)
theorem xZpg {y:List xZ0} {b:Nat} {e:Int} (hy:y.length≤700) (hb:b≤y.length):W (fun N=>xZ3e N y b e) (·=match PAR y b e with
 | .inl (c,a)=>.inr ([],0,c,a)
 | .inr (l,j)=>.inl (l,(j:Int))):=by
 have hpl:∀ N,xZj N y b e=some (plc y e b,y,(b:Int),e):=fun N=>xZiv (i:=b)
 simp only [xZ3e,show ltB (b:Int) 0=false from xZ28.2 (by omega),cond_false,show ltB (y.length:Int) b=false from xZ28.2 (by omega),hpl,Option.bind_some]
 obtain ⟨ok,hw⟩:=(p_all (e:=e) hy 51).1 0 b (by omega) (by omega) (by omega) (by omega)
 refine W.bind (show W (fun N=>xZS N 0 y b e) _ from hw) ?_
 rintro _ rfl
 unfold PAR
 cases h:(SPP y 51).1 0 b with
 | inl x=>
   rw [h] at ok
   have hc:x.1≠0:=ok.1
   simp only [enP,Sum.elim_inl,show (x.1 != 0)=true by simpa using hc,xZ1w,W.ret]
 | inr p=>
   simp only [enP,Sum.elim_inr]
   refine W.call (xZi3 p.1) ?_
   rintro _ rfl
   by_cases hz:chk p.1=0
   ·simp only [hz,show ((0:Int) != 0)=false from rfl,cond_false,W.ret,if_true]
   ·simp only [show (chk p.1 != 0)=true by simpa using hz,cond_true,W.ret,if_neg hz]
def zv:xZ4:=⟨0,0,0,[]⟩
def isS (c:UInt8):Bool:=leB 97 (c.toNat:Int)&&leB (c.toNat:Int) 122
def isD (c:UInt8):Bool:=leB 48 (c.toNat:Int)&&leB (c.toNat:Int) 57
def isT (c:UInt8):Bool:=isS c || isD c || ((c.toNat:Int)==95)
def isG (c:UInt8):Bool:=leB 0 (Lib.indexByte [40,41,91,93,123,125,59,124,33,58,44,46,43,42,63,45,61,60,62] c)
def isC (c:UInt8):Bool:=leB 0 (Lib.indexByte [33,60,62] c)
def known (c:UInt8):Bool:=isS c || isD c || ((c.toNat:Int)==35) || ((c.toNat:Int)==39) || isG c
def blank (c:UInt8):Bool:=((c.toNat:Int)==32) || ((c.toNat:Int)==9) || ((c.toNat:Int)==10)
def hx (c:UInt8):Option Nat:=if isD c then some (c.toNat - 48) else if leB 97 (c.toNat:Int)&&leB (c.toNat:Int) 102 then some (c.toNat - 87) else none
abbrev R1:=(Int×List UInt8×xZ4×Nat)⊕(Int×Nat)
def resl:List (List UInt8):=[[119,105,116,104,105,110],[98,121],[97,110,100],[111,114],[110,111,116],[97,110,121],[110,101,120,116],[115,116,114,105,99,116],[116,114,117,101],[102,97,108,115,101]]
def resv (s:List UInt8):Bool:=resl.any (s==·)
def wordR (w:List UInt8):R1:=if w=[116,114,117,101] then .inl (3,[],⟨2,1,0,[]⟩,w.length) else if w=[102,97,108,115,101] then .inl (3,[],⟨2,0,0,[]⟩,w.length) else if resv w then .inl (2,w,zv,w.length) else if 12 < w.length then .inr (5,0) else .inl (1,w,zv,w.length)
def numv:Nat→List UInt8→Option Nat
 | v,[]=>some v
 | v,c::t=>if (4611686018427387904 - (c.toNat - 48)) / 10 < v then none else numv (10 * v+(c.toNat - 48)) t
def numR (w:List UInt8):R1:=
 if 1 < w.length∧w.head?=some 48 then .inr (4,0)
 else match numv 0 w with
  | none=>.inr (8,0)
  | some v=>.inl (3,[],⟨1,(v:Int),0,[]⟩,w.length)
def hexv:Nat→List UInt8→Option Nat
 | u,[]=>some u
 | u,c::t=>match hx c with
   | none=>none
   | some d=>hexv (16 * u+d) t
def dblR (t:List UInt8):R1:=
 if t.length < 16 then .inr (4,0) else match hexv 0 (t.take 16) with
  | none=>.inr (4,0)
  | some u=>if cln (u:Int)=(u:Int) then .inl (3,[],⟨3,0,(u:Int),[]⟩,17) else .inr (4,0)
def quoR:List UInt8→Nat→List UInt8→R1
 | [],_,_=>.inr (3,0)
 | c::t,off,b=>
   if c.toNat < 32∨126 < c.toNat then .inr (10,off)
   else if c=92 then match t with
    | x::y::t=>match hx x,hx y with
      | some h,some l=>quoR t (off+3) (b++[UInt8.ofNat (16 * h+l)])
      | _,_=>.inr (4,off)
    | _=>.inr (4,off)
   else if c=39 then match t with
    | x::t=>if x=39 then quoR t (off+2) (b++[39]) else if 24 < b.length then .inr (5,0) else .inl (3,[],⟨4,0,0,b⟩,off+1)
    | []=>if 24 < b.length then .inr (5,0) else .inl (3,[],⟨4,0,0,b⟩,off+1)
   else quoR t (off+1) (b++[c])
theorem xZ7Q (off:Nat) (b:List UInt8):quoR [] off b=.inr (3,0):=by rw [quoR.eq_def]
theorem xZ2k (c:UInt8) (t:List UInt8) (off:Nat) (b:List UInt8):quoR (c::t) off b=
 if c.toNat < 32∨126 < c.toNat then .inr (10,off)
 else if c=92 then match t with
  | x::y::t=>match hx x,hx y with
    | some h,some l=>quoR t (off+3) (b++[UInt8.ofNat (16 * h+l)])
    | _,_=>.inr (4,off)
  | _=>.inr (4,off)
 else if c=39 then match t with
  | x::t=>if x=39 then quoR t (off+2) (b++[39]) else if 24 < b.length then .inr (5,0) else .inl (3,[],⟨4,0,0,b⟩,off+1)
  | []=>if 24 < b.length then .inr (5,0) else .inl (3,[],⟨4,0,0,b⟩,off+1)
 else quoR t (off+1) (b++[c]):=by rw [quoR.eq_def]
def signR (c:UInt8) (t:List UInt8):R1:=if isC c∧t.head?=some 61 then .inl (4,[c,61],zv,2) else .inl (4,[c],zv,1)
def oneR:List UInt8→R1
 | []=>.inr (10,0)
 | c::t=>if isS c then wordR ((c::t).takeWhile isT)
   else if isD c then numR ((c::t).takeWhile isD)
   else if (c.toNat:Int)==35 then dblR t
   else if (c.toNat:Int)==39 then quoR t 1 []
   else if isG c then signR c t
   else .inr (10,0)
def scanR (r:List UInt8) (p:Nat) (out:List xZ0):List xZ0⊕(Int×Int):=
 match r with
 | []=>.inl out
 | c::t=>if blank c then scanR t (p+1) out
   else if known c&&decide (out.length=200) then .inr (7,(p:Int))
   else match oneR (c::t) with
    | .inr (e,o)=>.inr (e,((p+o:Nat):Int))
    | .inl (k,x,v,m)=>scanR (t.drop (m - 1)) (p+m) (out++[⟨k,(p:Int),x,v⟩])
termination_by r.length
def scan (s:List UInt8):List xZ0⊕(Int×Int):=if 600 < s.length then .inr (5,0) else scanR s 0 []
/-! ### Small facts -/
theorem xZlC (c:UInt8) (N:Nat):xZ3t N (c.toNat:Int)=some (isS c):=by
 simp only [xZ3t,isS];cases leB 97 (c.toNat:Int)<;>rfl
theorem xZhP (c:UInt8) (N:Nat):xZ3a N (c.toNat:Int)=some (isD c):=by
 simp only [xZ3a,isD];cases leB 48 (c.toNat:Int)<;>rfl
theorem xZr2 (c:UInt8) (N:Nat):xZb0 N (c.toNat:Int)=some (isT c):=by
 simp only [xZb0,xZlC,xZhP,Option.bind_some,isT]
 cases isS c<;>cases isD c<;>rfl
theorem xZge {P:UInt8→Prop} (h:∀ n:Fin 256,P (UInt8.ofNat n.val)) (c:UInt8):P c:=by
 have:=h ⟨c.toNat,c.toNat_lt⟩
 simpa using this
theorem ofN (c:UInt8):UInt8.ofNat (Int.toNat (c.toNat:Int))=c:=by simp
theorem hx_ix:∀ c:UInt8,Lib.indexByte [48,49,50,51,52,53,54,55,56,57,97,98,99,100,101,102] c=match hx c with
 | none=>-1
 | some d=>(d:Int):=xZge (by decide +kernel)
theorem hx_lt {c:UInt8} {d:Nat} (h:hx c=some d):d < 16:=by
 unfold hx at h
 split at h
 ·rename_i hd
  simp only [isD,Bool.and_eq_true,xZ1e] at hd
  cases h;omega
 ·split at h
  ·rename_i hd
   simp only [Bool.and_eq_true,xZ1e] at hd
   cases h;omega
  ·cases h
theorem xZnX (c:UInt8) (N:Nat):xZ58 N (c.toNat:Int)=some (match hx c with | none=>-1 | some d=>(d:Int)):=by
 simp only [xZ58,xZ1y,xZ2y,Option.bind_some,ofN,hx_ix]
theorem xZlw (l:List UInt8) (c:UInt8) (N:Nat):xZ1y N l (c.toNat:Int)=some (Lib.indexByte l c):=by
 simp only [xZ1y,xZ2y,Option.bind_some,ofN]
theorem xZjo (s:List UInt8) (N:Nat):xZ2g N s=some (resv s):=by
 have e2:∀ (b r:Bool),(bif b then some true else some r)=some (b || r):=by intro b r;cases b<;>rfl
 have e3:∀ (b r r':Bool),(bif b then some (b || r') else some r)=some (b || r):=by intro b r r';cases b<;>rfl
 have e4:∀ (b r:Bool),(bif b then some b else some r)=some (b || r):=by intro b r;cases b<;>rfl
 unfold xZ2g
 simp only [resv,resl,List.any_cons,List.any_nil,e2,e3,e4,Bool.or_false]
theorem tw_le {α:Type} (p:α→Bool):∀ r:List α,(r.takeWhile p).length≤r.length
 | []=>Nat.le_refl _
 | x::r=>by
   have:=tw_le p r
   simp only [List.takeWhile_cons]
   split<;>simp;omega
theorem tw_at {α:Type} {p:α→Bool}:∀ {r:List α} {k:Nat} {e:α},k≤(r.takeWhile p).length→r[k]?=some e→p e=decide (k < (r.takeWhile p).length)
 | [],_,_,_,h=>by simp at h
 | x::r,0,e,_,h=>by
   simp only [List.getElem?_cons_zero,Option.some.injEq] at h
   subst h
   simp only [List.takeWhile_cons]
   cases p x<;>simp
 | x::r,k+1,e,hk,h=>by
   simp only [List.getElem?_cons_succ] at h
   simp only [List.takeWhile_cons] at hk ⊢
   cases hx:p x with
   | false=>simp [hx] at hk
   | true=>
     simp only [hx,if_true,List.length_cons,Nat.add_le_add_iff_right,Nat.add_lt_add_iff_right] at hk ⊢
     exact tw_at hk h
theorem xZkW {α:Type} (p:α→Bool):∀ r:List α,r.take (r.takeWhile p).length=r.takeWhile p
 | []=>rfl
 | x::r=>by
   simp only [List.takeWhile_cons]
   split
   ·simp [xZkW p r]
   ·rfl
theorem xZ7Y {y:List UInt8} {a k:Nat} {e:UInt8} (h:(y.drop a)[k]?=some e):ix y ((a:Int)+(k:Int))=some e:=by
 rw [show (a:Int)+(k:Int)=((a+k:Nat):Int) by omega,ix_nat',← h,List.getElem?_drop]
theorem xZ8B {y:List UInt8} {a k:Nat} (h:a+k < y.length):∃ e,(y.drop a)[k]?=some e:=by
 rw [List.getElem?_drop];exact ⟨y[a+k],List.getElem?_eq_getElem h⟩
theorem xZp9 (y:List UInt8) (a:Nat) (xs:List xZ0) (ha:a≤y.length) (hy:y.length≤700):
 W (fun N=>xZ2b N y a xs) (·=((((y.drop a).takeWhile isT).length:Int),y,(a:Int),xs)):=by
 have hl:=tw_le isT (y.drop a)
 rw [List.length_drop] at hl
 simp only [xZ2b]
 refine W.lp1 (fun v:Int=>∃ k:Nat,v=k∧k≤((y.drop a).takeWhile isT).length) (fun v:Int=>((y.drop a).takeWhile isT).length - v.toNat) ⟨0,rfl,Nat.zero_le _⟩ ?_
 rintro F v ⟨k,rfl,hk⟩ hn
 simp only [xZ2C,W.gd,W.cond,xZT,xZ18,xZ28,W.ret]
 refine ⟨by omega,fun h=>⟨by omega,?_⟩,fun h=>by rw [show k=((y.drop a).takeWhile isT).length by omega]⟩
 obtain ⟨e,he⟩:=xZ8B (y:=y) (a:=a) (k:=k) (by omega)
 have hp:=tw_at hk he
 simp only [xZ7Y he,Option.bind_some,xZr2,hp,W.cond,W.gd,decide_eq_true_eq,decide_eq_false_iff_not,W.ret,xZT]
 refine ⟨fun h2=>⟨by omega,hn _ ⟨k+1,by omega,h2⟩ (by omega)⟩,fun h2=>by rw [show k=((y.drop a).takeWhile isT).length by omega]⟩
theorem xZpI (y:List UInt8) (a:Nat) (xs:List xZ0) (ha:a≤y.length) (hy:y.length≤700):
 W (fun N=>xZ2e N y a xs) (·=((((y.drop a).takeWhile isD).length:Int),y,(a:Int),xs)):=by
 have hl:=tw_le isD (y.drop a)
 rw [List.length_drop] at hl
 simp only [xZ2e]
 refine W.lp1 (fun v:Int=>∃ k:Nat,v=k∧k≤((y.drop a).takeWhile isD).length) (fun v:Int=>((y.drop a).takeWhile isD).length - v.toNat) ⟨0,rfl,Nat.zero_le _⟩ ?_
 rintro F v ⟨k,rfl,hk⟩ hn
 simp only [xZ2I,W.gd,W.cond,xZT,xZ18,xZ28,W.ret]
 refine ⟨by omega,fun h=>⟨by omega,?_⟩,fun h=>by rw [show k=((y.drop a).takeWhile isD).length by omega]⟩
 obtain ⟨e,he⟩:=xZ8B (y:=y) (a:=a) (k:=k) (by omega)
 have hp:=tw_at hk he
 simp only [xZ7Y he,Option.bind_some,xZhP,hp,W.cond,W.gd,decide_eq_true_eq,decide_eq_false_iff_not,W.ret,xZT]
 refine ⟨fun h2=>⟨by omega,hn _ ⟨k+1,by omega,h2⟩ (by omega)⟩,fun h2=>by rw [show k=((y.drop a).takeWhile isD).length by omega]⟩
abbrev St3:=List UInt8×Int×List xZ0
abbrev Ft:=Int×Int×List UInt8×Int×List xZ0
def finA:St3⊕Ft⊕St3→St3⊕(Int×Int)
 | .inl x=>.inl x
 | .inr (.inl f)=>.inr (f.1,f.2.1)
 | .inr (.inr x)=>.inl x
def finW:St3⊕St3⊕Ft→St3⊕(Int×Int)
 | .inl x=>.inl x
 | .inr (.inl x)=>.inl x
 | .inr (.inr f)=>.inr (f.1,f.2.1)
def stepR (y:List UInt8) (a:Nat) (xs:List xZ0):R1→St3⊕(Int×Int)
 | .inl (k,x,v,m)=>.inl (y,((a+m:Nat):Int),xs++[⟨k,(a:Int),x,v⟩])
 | .inr (e,o)=>.inr (e,((a+o:Nat):Int))
theorem w_put (n:Nat) (k:Int) (x:List UInt8) (v:xZ4) (y:List UInt8) (a:Nat) (xs:List xZ0) (h1:a≤700) (h2:n≤700) (h3:xs.length≤700):
 W (fun N=>xZc N (n:Int) k x v y a xs) (·=(y,((a+n:Nat):Int),xs++[⟨k,(a:Int),x,v⟩])):=by
 simp only [xZc,W.gd,W.ret,xZT]
 refine ⟨Nat.ble_eq_true_of_le (by omega),by omega,?_⟩
 rw [show ((a+n:Nat):Int)=(a:Int)+(n:Int) by omega]
theorem xZdf (e:Int) (he:(e==0)=false) (y:List UInt8) (a:Int) (xs:List xZ0) (N:Nat):xZ8 N e y a xs=some (.inr (e,a,y,a,xs)):=by
 simp only [xZ8,xZR,he,cond_false,Option.bind_some,Sum.elim_inr]
theorem xZpQ (y:List UInt8) (a:Nat) (xs:List xZ0) (ha:a≤y.length) (hy:y.length≤700) (hx:xs.length≤700):
 W (fun N=>xZO N y a xs) fun r=>finW r=stepR y a xs (wordR ((y.drop a).takeWhile isT)):=by
 have hl:=tw_le isT (y.drop a)
 rw [List.length_drop] at hl
 simp only [xZO]
 refine W.call (xZp9 y a xs ha hy) ?_
 rintro _ rfl
 have hw:List.drop (Int.toNat (a:Int)) (List.take (Int.toNat ((a:Int)+(((y.drop a).takeWhile isT).length:Nat))) y)=(y.drop a).takeWhile isT:=by
  rw [show Int.toNat ((a:Int)+(((y.drop a).takeWhile isT).length:Nat))=a+((y.drop a).takeWhile isT).length by omega,Int.toNat_natCast,List.drop_take,Nat.add_sub_cancel_left]
  exact xZkW _ _
 simp only [W.gd,W.cond,W.ret,xZT,xZ1e,hw]
 generalize (y.drop a).takeWhile isT=w at *
 have put:∀ {ι:Type} [Lim ι] (N:ι→Nat) [Tends N] (k:Int) (x:List UInt8) (v:xZ4),wordR w=.inl (k,x,v,w.length)→W (fun i=>(xZc (N i) (w.length:Nat) k x v y a xs).bind fun p=>some (.inl (p.1,p.2.1,p.2.2):St3⊕St3⊕Ft)) fun r=>finW r=stepR y a xs (wordR w):=fun N _ k x v he=>by
  refine W.call (w_put _ _ _ _ _ _ _ (by omega) (by omega) hx) ?_
  rintro _ rfl
  rw [he];exact W.ret.2 rfl
 refine ⟨by omega,by omega,by omega,by omega,fun h=>?_,fun h=>⟨fun h2=>?_,fun h2=>?_⟩⟩
 ·have h:=eq_of_beq h
  subst h
  exact put _ 3 [] ⟨2,1,0,[]⟩ rfl
 ·have h2:=eq_of_beq h2
  subst h2
  exact put _ 3 [] ⟨2,0,0,[]⟩ rfl
 ·have h:¬ w=[116,114,117,101]:=by simpa using h
  have h2:¬ w=[102,97,108,115,101]:=by simpa using h2
  simp only [xZjo,Option.bind_some,W.cond]
  refine ⟨fun h3=>put _ 2 w zv (by rw [wordR,if_neg h,if_neg h2,if_pos h3]),fun h3=>⟨fun h4=>?_,fun h4=>put _ 1 w zv ?_⟩⟩
  ·have h4:=xZ18.1 h4
   simp only [xZdf 5 rfl,Option.bind_some,Sum.elim_inr,W.ret]
   rw [wordR,if_neg h,if_neg h2,if_neg (by simp [h3]),if_pos (by omega)];rfl
  ·have h4:=xZ28.1 h4
   rw [wordR,if_neg h,if_neg h2,if_neg (by simp [h3]),if_neg (by omega)]
theorem xZoV {α:Type} {p:α→Bool}:∀ {r:List α} {k:Nat},k < (r.takeWhile p).length→(r.takeWhile p)[k]?=r[k]?
 | [],k,h=>by simp at h
 | x::r,k,h=>by
   cases hx:p x with
   | false=>simp [List.takeWhile_cons,hx] at h
   | true=>
     simp only [List.takeWhile_cons,hx,if_true,List.length_cons] at h ⊢
     cases k with
     | zero=>rfl
     | succ k=>
       simp only [List.getElem?_cons_succ]
       exact xZoV (by omega)
theorem xZbH {α:Type} {l:List α} {k:Nat} {e:α} (h:l[k]?=some e):l.drop k=e::l.drop (k+1):=by
 obtain ⟨h1,h2⟩:=List.getElem?_eq_some_iff.1 h
 rw [List.drop_eq_getElem_cons h1,h2]
theorem xZlP {c:UInt8}:isD c=true ↔ 48≤c.toNat∧c.toNat≤57:=by
 simp only [isD,Bool.and_eq_true,xZ1e];omega
theorem xZml (y:List UInt8) (a:Nat) (xs:List xZ0) (ha:a < y.length) (hy:y.length≤700) (hx:xs.length≤700):
 W (fun N=>xZD N y a xs) fun r=>finA r=stepR y a xs (numR ((y.drop a).takeWhile isD)):=by
 have hl:=tw_le isD (y.drop a)
 rw [List.length_drop] at hl
 simp only [xZD]
 refine W.call (xZpI y a xs (Nat.le_of_lt ha) hy) ?_
 rintro _ rfl
 have hD:∀ k,k < ((y.drop a).takeWhile isD).length→∃ e,((y.drop a).takeWhile isD)[k]?=some e∧(y.drop a)[k]?=some e∧isD e=true:=fun k hk=>by
  obtain ⟨e,he⟩:=xZ8B (y:=y) (a:=a) (k:=k) (by omega)
  exact ⟨e,(xZoV hk).trans he,he,by rw [tw_at (Nat.le_of_lt hk) he];exact decide_eq_true hk⟩
 generalize (y.drop a).takeWhile isD=w at *
 have loop:¬ (1 < w.length∧w.head?=some 48)→∀ {ι:Type} [Lim ι] (N:ι→Nat) [Tends N],W (fun i=>lp2 (xZ1b (N i) (w.length:Int) (w.length:Int) y (a:Int) xs) (N i) 0 0) fun r=>finA r=stepR y a xs (numR w):=fun h0 {ι} _ N _=>by
  have key:∀ v,numv 0 w=v→numR w=match v with
   | none=>.inr (8,0)
   | some v=>.inl (3,[],⟨1,(v:Int),0,[]⟩,w.length):=fun v hv=>by rw [numR,if_neg h0,hv]<;>cases v<;>rfl
  refine W.lp2 (fun v x=>∃ V k:Nat,v=(V:Int)∧x=(k:Int)∧k≤w.length∧V≤4611686018427387904∧numv 0 w=numv V (w.drop k)) (fun _ x=>w.length - x.toNat) ⟨0,0,rfl,rfl,Nat.zero_le _,by omega,rfl⟩ ?_
  rintro F v x ⟨V,k,rfl,rfl,hk,hV,hv⟩ hn
  simp only [xZ1b,W.cond,W.gd,xZ18,xZ28,xZT]
  refine ⟨fun hlt=>⟨by omega,?_⟩,fun hge=>?_⟩
  ·obtain ⟨e,he1,he2,he3⟩:=hD k (by omega)
   have h48:=xZlP.1 he3
   have e1:IntKind.i64.wrap (IntKind.u8.wrap ((e.toNat:Int) - 48))=((e.toNat - 48:Nat):Int):=by rw [IntKind.wrap_u8,IntKind.wrap_i64];omega
   have e2:IntKind.i64.wrap (Int.tdiv (4611686018427387904 - ((e.toNat - 48:Nat):Int)) 10)=(((4611686018427387904 - (e.toNat - 48)) / 10:Nat):Int):=by
    rw [show (4611686018427387904:Int) - ((e.toNat - 48:Nat):Int)=((4611686018427387904 - (e.toNat - 48):Nat):Int) by omega]
    rw [show Int.tdiv ((4611686018427387904 - (e.toNat - 48):Nat):Int) 10=(((4611686018427387904 - (e.toNat - 48)) / 10:Nat):Int) from rfl,IntKind.wrap_i64]
    omega
   rw [xZbH he1,numv] at hv
   simp only [xZ7Y he2,Option.bind_some,e1,e2,W.gd,W.cond,xZT,xZ18,xZ28]
   have hd:e.toNat - 48≤9:=by omega
   generalize e.toNat - 48=d at *
   refine ⟨by omega,fun h=>?_,fun h=>?_⟩
   ·rw [if_pos (by omega)] at hv
    simp only [xZdf 8 rfl,Option.bind_some,Sum.elim_inr,W.ret,key _ hv]
    rfl
   ·rw [if_neg (by omega)] at hv
    refine ⟨by omega,by omega,by omega,hn _ _ ⟨10 * V+d,k+1,by omega,by omega,by omega,by omega,hv⟩ (by omega)⟩
  ·have hk:k=w.length:=by omega
   rw [hk,List.drop_length,numv] at hv
   have e3:max (-4611686018427387904) (min (V:Int) 4611686018427387904)=(V:Int):=by omega
   simp only [xZ5p,Option.bind_some,e3]
   refine W.call (w_put w.length 3 [] _ y a xs (by omega) (by omega) hx) ?_
   rintro _ rfl
   rw [key _ hv]
   exact W.ret.2 rfl
 simp only [W.cond,xZ18,xZ28]
 refine ⟨fun h=>?_,fun h=>loop (by omega) _⟩
 obtain ⟨e,he1,he2,he3⟩:=hD 0 (by omega)
 have hh:w.head?=some e:=by rw [← he1];cases w<;>rfl
 have he2:=xZ7Y he2
 rw [show (a:Int)+((0:Nat):Int)=(a:Int) by omega] at he2
 simp only [he2,Option.bind_some,W.cond]
 refine ⟨fun h2=>?_,fun h2=>loop ?_ _⟩
 ·simp only [xZdf 4 rfl,Option.bind_some,Sum.elim_inr,W.ret]
  have h48:e=48:=by
   have:=eq_of_beq h2
   exact UInt8.toNat_inj.1 (by simp only [UInt8.reduceToNat];omega)
  rw [numR,if_pos ⟨by omega,by rw [hh,h48]⟩];rfl
 ·rintro ⟨_,h3⟩
  rw [hh] at h3
  cases h3
  exact absurd h2 (by decide)
theorem bwO4 {U d:Nat} (h:U * 16 < 18446744073709551616) (hd:d < 16):bwO .u64 (IntKind.u64.wrap ((U:Int) * 2 ^ 4)) (IntKind.u64.wrap (d:Int))=((16 * U+d:Nat):Int):=by
 have e1:IntKind.u64.wrap ((U:Int) * 2 ^ 4)=((2 ^ 4 * U:Nat):Int):=by rw [IntKind.wrap_u64];omega
 have e2:IntKind.u64.wrap (d:Int)=(d:Int):=by rw [IntKind.wrap_u64];omega
 rw [e1,e2]
 unfold bwO
 rw [BitVec.toNat_or,BitVec.toNat_ofInt,BitVec.toNat_ofInt]
 rw [show IntKind.u64.bits=64 from rfl]
 rw [show (((2 ^ 4 * U:Nat):Int) % ((2 ^ 64:Nat):Int)).toNat=2 ^ 4 * U by omega,show ((d:Int) % ((2 ^ 64:Nat):Int)).toNat=d by omega]
 rw [← Nat.two_pow_add_eq_or_of_lt (by omega:d < 2 ^ 4),IntKind.wrap_u64]
 omega
theorem pow16:∀ k:Nat,k < 16→16 ^ k * 16≤18446744073709551616:=by
 intro k hk
 have:16 ^ k≤16 ^ 15:=Nat.pow_le_pow_right (by decide) (by omega)
 have h2:(16:Nat) ^ 15=1152921504606846976:=by decide
 omega
theorem xZlQ (y:List UInt8) (a:Nat) (xs:List xZ0) (ha:a < y.length) (hy:y.length≤700) (hx':xs.length≤700):
 W (fun N=>xZC N y a xs) fun r=>finA r=stepR y a xs (dblR (y.drop (a+1))):=by
 simp only [xZC,W.gd,W.cond,xZT,xZ1e,xZhF]
 refine ⟨by omega,fun h=>?_,fun h=>?_⟩
 ·simp only [xZdf 4 rfl,Option.bind_some,Sum.elim_inr,W.ret]
  rw [dblR,if_pos (by rw [List.length_drop];omega)];rfl
 ·have h0:¬ (y.drop (a+1)).length < 16:=by rw [List.length_drop];omega
  have key:∀ v,hexv 0 ((y.drop (a+1)).take 16)=v→dblR (y.drop (a+1))=match v with
   | none=>.inr (4,0)
   | some u=>if cln (u:Int)=(u:Int) then .inl (3,[],⟨3,0,(u:Int),[]⟩,17) else .inr (4,0):=fun v hv=>by rw [dblR,if_neg h0,hv]<;>cases v<;>rfl
  refine W.lp2 (fun v x=>∃ U k:Nat,v=(U:Int)∧x=(k:Int)∧k≤16∧U < 16 ^ k∧hexv 0 ((y.drop (a+1)).take 16)=hexv U (((y.drop (a+1)).take 16).drop k)) (fun _ x=>16 - x.toNat) ⟨0,0,rfl,rfl,Nat.zero_le _,by decide,rfl⟩ ?_
  rintro F v x ⟨U,k,rfl,rfl,hk,hU,hv⟩ hn
  simp only [xZ2G,W.cond,W.gd,xZ18,xZ28,xZT]
  refine ⟨fun hlt=>⟨by omega,by omega,?_⟩,fun hge=>?_⟩
  ·obtain ⟨e,he⟩:=xZ8B (y:=y) (a:=a+1) (k:=k) (by omega)
   have he2:((y.drop (a+1)).take 16)[k]?=some e:=by rw [List.getElem?_take,if_pos (by omega)];exact he
   have he3:=xZ7Y he
   rw [show ((a+1:Nat):Int)+(k:Int)=(a:Int)+1+(k:Int) by omega] at he3
   rw [xZbH he2,hexv] at hv
   simp only [he3,Option.bind_some,xZnX]
   cases hh:hx e with
   | none=>
     rw [hh] at hv
     simp only [show ltB (-1) 0=true from rfl,cond_true,xZdf 4 rfl,Option.bind_some,Sum.elim_inr,W.ret,key _ hv]
     rfl
   | some d=>
     rw [hh] at hv
     have hd:=hx_lt hh
     have hp:=pow16 k (by omega)
     simp only [show ltB (d:Int) 0=false from xZ28.2 (by omega),cond_false,W.gd,xZT]
     refine ⟨by omega,hn _ _ ⟨16 * U+d,k+1,bwO4 (by omega) hd,by omega,by omega,?_,hv⟩ (by omega)⟩
     rw [Nat.pow_succ];omega
  ·have hk:k=16:=by omega
   have hnil:((y.drop (a+1)).take 16).drop 16=[]:=List.drop_eq_nil_of_le (by rw [List.length_take];omega)
   rw [hk,hnil,hexv] at hv
   simp only [xZam,Option.bind_some,W.cond]
   refine ⟨fun hne=>?_,fun hne=>?_⟩
   ·simp only [xZdf 4 rfl,Option.bind_some,Sum.elim_inr,W.ret,key _ hv]
    rw [if_neg (by simpa using hne)];rfl
   ·have hne:cln (U:Int)=(U:Int):=by simpa using hne
    simp only [xZ8D,xZam,Option.bind_some,hne]
    refine W.call (w_put 17 3 [] _ y a xs (by omega) (by omega) hx') ?_
    rintro _ rfl
    simp only [key _ hv,hne,if_true]
    exact W.ret.2 rfl
theorem xZpA:∀ h l:Fin 16,IntKind.u8.wrap (bwO .i64 (IntKind.i64.wrap ((h.val:Int) * 2 ^ 4)) (bwA .i64 (l.val:Int) 15))=((16 * h.val+l.val:Nat):Int):=by decide +kernel
theorem xZkx (y:List UInt8) (i:Nat) (a:Int) (xs:List xZ0) (hi:i≤y.length) (hy:y.length≤700):
 W (fun N=>xZ22 N i y a xs) fun r=>r.2.2=(y,a,xs)∧match y.drop i with
  | p::q::_=>(match hx p,hx q with
    | some h,some l=>r.2.1=true∧r.1=((16 * h+l:Nat):Int)
    | _,_=>r.2.1=false)
  | _=>r.2.1=false:=by
 simp only [xZ22,W.gd,W.cond,xZT,xZ18,xZ28,W.ret]
 refine ⟨by omega,fun h=>⟨trivial,?_⟩,fun h=>?_⟩
 ·have hl:(y.drop i).length < 2:=by rw [List.length_drop];omega
  split
  ·rename_i p q r he;rw [he] at hl;simp only [List.length_cons] at hl;omega
  ·trivial
 ·obtain ⟨p,hp⟩:=xZ8B (y:=y) (a:=i) (k:=0) (by omega)
  obtain ⟨q,hq⟩:=xZ8B (y:=y) (a:=i) (k:=1) (by omega)
  have e1:=xZbH hp
  have e2:=xZbH hq
  rw [List.drop_zero] at e1
  rw [e1,e2]
  have hp:=xZ7Y hp
  have hq:=xZ7Y hq
  rw [show (i:Int)+((0:Nat):Int)=(i:Int) by omega] at hp
  rw [show (i:Int)+((1:Nat):Int)=(i:Int)+1 by omega] at hq
  simp only [hp,hq,Option.bind_some,xZnX,W.gd,W.cond,W.ret,xZT,true_and]
  refine ⟨by omega,?_⟩
  cases h1:hx p with
  | none=>exact ⟨fun h=>absurd h (by decide),fun _=>trivial⟩
  | some h=>
    cases h2:hx q with
    | none=>exact ⟨fun _=>rfl,fun _=>trivial⟩
    | some l=>
      have:=xZpA ⟨h,hx_lt h1⟩ ⟨l,hx_lt h2⟩
      dsimp only at this ⊢
      exact ⟨fun _=>⟨xZ1e.2 (Int.natCast_nonneg _),this⟩,fun h=>absurd (xZhF.1 h) (Int.not_lt.2 (Int.natCast_nonneg _))⟩
theorem xZg1 (b:List Int) (x:Int):byS (b++[x])=byS b++[UInt8.ofNat x.toNat]:=by simp [byS]
theorem xZfd (b:List Int):(byS b).length=b.length:=by simp [byS]
theorem u8eq {c:UInt8} {n:Nat} (hn:n < 256):((c.toNat:Int)==(n:Int))=decide (c=UInt8.ofNat n):=by
 by_cases h:c=UInt8.ofNat n
 ·subst h
  rw [decide_eq_true rfl,beq_iff_eq]
  simp [Nat.mod_eq_of_lt hn]
 ·rw [decide_eq_false h,beq_eq_false_iff_ne]
  intro h2
  refine h (UInt8.toNat_inj.1 ?_)
  simp [Nat.mod_eq_of_lt hn]
  omega
theorem xZmz (y:List UInt8) (a:Nat) (xs:List xZ0) (ha:a < y.length) (hy:y.length≤700) (hx':xs.length≤700):
 W (fun N=>xZB N y a xs) fun r=>finA r=stepR y a xs (quoR (y.drop (a+1)) 1 []):=by
 simp only [xZB,W.gd,xZT]
 refine ⟨by omega,?_⟩
 refine W.lp5 (fun i y3 y4 ys b=>∃ j:Nat,i=((a+j:Nat):Int)∧1≤j∧a+j≤y.length∧y3=y∧y4=(a:Int)∧ys=xs∧b.length≤j∧quoR (y.drop (a+1)) 1 []=quoR (y.drop (a+j)) j (byS b)) (fun i _ _ _ _=>y.length - i.toNat) ⟨1,by omega,Nat.le_refl _,by omega,rfl,rfl,rfl,by simp,rfl⟩ ?_
 rintro F i y3 y4 ys b ⟨j,rfl,hj,hl,rfl,rfl,rfl,hb,hq⟩ hn
 have done:∀ (n:Nat),n=j+1→a+n≤y3.length→24 ≥ b.length→quoR (y3.drop (a+1)) 1 []=.inl (3,[],⟨4,0,0,byS b⟩,j+1)→
  ∀ {ι:Type} [Lim ι] (N:ι→Nat) [Tends N],W (fun i=>(xZ4V (N i) (byS b)).bind fun o=>(xZc (N i) (((a+j:Nat):Int)+1 - (a:Int)) 3 [] o y3 a ys).bind fun p=>some (.inr (.inr (p.1,p.2.1,p.2.2)):St3⊕Ft⊕St3)) fun r=>finA r=stepR y3 a ys (quoR (y3.drop (a+1)) 1 []):=fun n hn h1 h2 h3 {ι} _ N _=>by
  have e1:xZ4V=fun N s=>bif (ltB 24 (List.length s:Int)) then gd (leB 24 (List.length s:Int)) (some (xZ4.mk 4 0 0 (List.take 24 s))) else some (xZ4.mk 4 0 0 s):=rfl
  have e2:ltB 24 ((byS b).length:Int)=false:=xZ28.2 (by rw [xZfd];omega)
  simp only [e1,e2,cond_false,Option.bind_some]
  rw [show ((a+j:Nat):Int)+1 - (a:Int)=((j+1:Nat):Int) by omega]
  refine W.call (w_put (j+1) 3 [] _ y3 a ys (by omega) (by omega) hx') ?_
  rintro _ rfl
  rw [h3]
  exact W.ret.2 rfl
 simp only [xZ2B,W.cond,W.gd,xZ18,xZ28,xZT]
 refine ⟨fun hlt=>?_,fun hge=>?_⟩
 rotate_left
 ·have hnil:y3.drop (a+j)=[]:=List.drop_eq_nil_of_le (by omega)
  rw [hnil,xZ7Q] at hq
  simp only [xZdf 3 rfl,Option.bind_some,Sum.elim_inr,W.ret]
  rw [hq];rfl
 obtain ⟨c,hc⟩:=xZ8B (y:=y3) (a:=a+j) (k:=0) (by omega)
 have hd:=xZbH hc
 rw [List.drop_zero,List.drop_drop] at hd
 have hc:=xZ7Y hc
 rw [show ((a+j:Nat):Int)+((0:Nat):Int)=((a+j:Nat):Int) by omega] at hc
 rw [hd] at hq
 have ebig:∀ e:Int,(e==0)=false→∀ p:Int,xZR=fun N e p=>bif e==0 then some (.inl ()) else some (.inr (e,p)):=fun _ _ _=>rfl
 simp only [hc,Option.bind_some,W.cond,xZ18,xZ28]
 refine ⟨fun h1=>?_,fun h1=>⟨fun h2=>?_,fun h2=>⟨fun h3=>?_,fun h3=>⟨fun h4=>?_,fun h4=>?_⟩⟩⟩⟩
 ·simp only [xZR,show ((10:Int)==0)=false from rfl,cond_false,Option.bind_some,Sum.elim_inr,W.ret]
  rw [xZ2k,if_pos (.inl (by omega))] at hq
  rw [hq];rfl
 ·simp only [xZR,show ((10:Int)==0)=false from rfl,cond_false,Option.bind_some,Sum.elim_inr,W.ret]
  rw [xZ2k,if_pos (.inr (by omega))] at hq
  rw [hq];rfl
 ·
  have hc92:c=92:=by have:=u8eq (c:=c) (n:=92) (by omega);rw [show ((92:Nat):Int)=92 from rfl,h3] at this;simpa using this.symm
  rw [xZ2k,if_neg (by omega),if_pos hc92] at hq
  rw [show ((a+j:Nat):Int)+1=((a+j+1:Nat):Int) by omega]
  simp only [W.gd,xZT]
  refine ⟨by omega,?_⟩
  refine W.call (xZkx y3 (a+j+1) a ys (by omega) hy) ?_
  rintro ⟨v,is,r3⟩ ⟨hr1,hr2⟩
  dsimp only at hr1 hr2
  subst hr1
  simp only [W.cond,W.gd,xZT,xZR,show ((4:Int)==0)=false from rfl,cond_false,Option.bind_some,Sum.elim_inr,W.ret]
  have bad:is=false→quoR (y3.drop (a+1)) 1 []=.inr (4,j)→W (fun _:_=>some (Sum.inr (Sum.inl (4,((a+j:Nat):Int),y3,(a:Int),ys)):St3⊕Ft⊕St3)) (ι:=Nat) fun r=>finA r=stepR y3 a ys (quoR (y3.drop (a+1)) 1 []):=fun _ h=>by rw [h];exact W.ret.2 rfl
  rcases hdd:y3.drop (a+j+1) with _ | ⟨p,_ | ⟨q,t⟩⟩
  ·rw [hdd] at hr2 hq
   dsimp only at hr2 hq
   subst hr2
   refine ⟨fun _=>by rw [hq];rfl,fun h=>by cases h⟩
  ·rw [hdd] at hr2 hq
   dsimp only at hr2 hq
   subst hr2
   refine ⟨fun _=>by rw [hq];rfl,fun h=>by cases h⟩
  ·rw [hdd] at hr2 hq
   dsimp only at hr2 hq
   have hlen:(y3.drop (a+j+1)).length=t.length+2:=by rw [hdd];rfl
   rw [List.length_drop] at hlen
   have ht:t=y3.drop (a+(j+3)):=by
    have:(y3.drop (a+j+1)).drop 2=t:=by rw [hdd];rfl
    rw [← this,List.drop_drop]
    congr 1
   cases hp:hx p with
   | none=>
     rw [hp] at hr2 hq
     dsimp only at hr2 hq
     subst hr2
     refine ⟨fun _=>by rw [hq];rfl,fun h=>by cases h⟩
   | some h=>
     cases hq2:hx q with
     | none=>
       rw [hp,hq2] at hr2 hq
       dsimp only at hr2 hq
       subst hr2
       refine ⟨fun _=>by rw [hq];rfl,fun h=>by cases h⟩
     | some l=>
       rw [hp,hq2] at hr2 hq
       dsimp only at hr2 hq
       obtain ⟨rfl,rfl⟩:=hr2
       refine ⟨fun h=>(by cases h),fun _=>⟨Nat.ble_eq_true_of_le (by omega),by omega,?_⟩⟩
       refine hn _ _ _ _ _ ⟨j+3,by omega,by omega,by omega,rfl,rfl,rfl,by simp;omega,?_⟩ (by omega)
       rw [xZg1,Int.toNat_natCast,← ht]
       exact hq
 ·
  have h3:¬ c=92:=by have:=u8eq (c:=c) (n:=92) (by omega);rw [show ((92:Nat):Int)=92 from rfl,h3] at this;simpa using this.symm
  have h4:¬ c=39:=by
   intro h;subst h;exact absurd h4 (by decide)
  rw [xZ2k,if_neg (by omega),if_neg h3,if_neg h4] at hq
  simp only [W.gd,xZT]
  refine ⟨Nat.ble_eq_true_of_le (by omega),by omega,?_⟩
  rw [show ((a+j:Nat):Int)+1=((a+(j+1):Nat):Int) by omega]
  refine hn _ _ _ _ _ ⟨j+1,rfl,by omega,by omega,rfl,rfl,rfl,by simp;omega,?_⟩ (by omega)
  rw [xZg1,ofN]
  exact hq
 ·have h3:¬ c=92:=by have:=u8eq (c:=c) (n:=92) (by omega);rw [show ((92:Nat):Int)=92 from rfl,h3] at this;simpa using this.symm
  have h39:c=39:=by
   have h5:((c.toNat:Int)==39)=true:=by cases hh:((c.toNat:Int)==39)<;>simp_all
   have:=u8eq (c:=c) (n:=39) (by omega);rw [show ((39:Nat):Int)=39 from rfl,h5] at this;simpa using this.symm
  subst h39
  rw [xZ2k,if_neg (by decide),if_neg h3,if_pos rfl] at hq
  have hfin:(¬ 24 < b.length→quoR (y3.drop (a+1)) 1 []=.inl (3,[],⟨4,0,0,byS b⟩,j+1))→(24 < b.length→quoR (y3.drop (a+1)) 1 []=.inr (5,0))→∀ {ι:Type} [Lim ι] (N:ι→Nat) [Tends N],
   (24 < (b.length:Int)→W (fun i=>(xZ8 (N i) 5 y3 a ys).bind fun x=>Sum.elim (fun fail=>some (Sum.inl (fail.1,fail.2.1,fail.2.2))) (fun fail2=>some (Sum.inr (Sum.inl (fail2.1,fail2.2.1,fail2.2.2.1,fail2.2.2.2.1,fail2.2.2.2.2)))) x) (α:=St3⊕Ft⊕St3) fun r=>finA r=stepR y3 a ys (quoR (y3.drop (a+1)) 1 [])):=fun _ h2 {ι} _ N _ h=>by
   simp only [xZdf 5 rfl,Option.bind_some,Sum.elim_inr,W.ret]
   rw [h2 (by omega)];rfl
  simp only [W.gd,W.cond,xZT,xZ18,xZ28]
  refine ⟨by omega,fun h5=>⟨by omega,?_⟩,fun h5=>?_⟩
  ·obtain ⟨x,hx⟩:=xZ8B (y:=y3) (a:=a+j+1) (k:=0) (by omega)
   have hdx:=xZbH hx
   rw [List.drop_zero,List.drop_drop] at hdx
   have hx:=xZ7Y hx
   rw [show ((a+j+1:Nat):Int)+((0:Nat):Int)=((a+j:Nat):Int)+1 by omega] at hx
   rw [hdx] at hq
   dsimp only at hq
   simp only [hx,Option.bind_some,W.cond,W.gd,xZT,xZ18,xZ28]
   refine ⟨fun h6=>?_,fun h6=>?_⟩
   ·have hx39:x=39:=by have:=u8eq (c:=x) (n:=39) (by omega);rw [show ((39:Nat):Int)=39 from rfl,h6] at this;simpa using this.symm
    rw [if_pos hx39] at hq
    refine ⟨Nat.ble_eq_true_of_le (by omega),by omega,?_⟩
    refine hn _ _ _ _ _ ⟨j+2,by omega,by omega,by omega,rfl,rfl,rfl,by simp;omega,?_⟩ (by omega)
    rw [xZg1]
    exact hq
   ·have hx39:¬ x=39:=by have:=u8eq (c:=x) (n:=39) (by omega);rw [show ((39:Nat):Int)=39 from rfl,h6] at this;simpa using this.symm
    rw [if_neg hx39] at hq
    refine ⟨fun h7=>hfin (fun h=>absurd (by omega) h) (fun h=>by rw [hq,if_pos (by rw [xZfd];exact h)]) _ h7,fun h7=>⟨by omega,by omega,?_⟩⟩
    exact done _ rfl (by omega) (by omega) (by rw [hq,if_neg (by rw [xZfd];omega)]) _
  ·have hnil:y3.drop (a+j+1)=[]:=List.drop_eq_nil_of_le (by omega)
   rw [hnil] at hq
   dsimp only at hq
   refine ⟨fun h7=>hfin (fun h=>absurd (by omega) h) (fun h=>by rw [hq,if_pos (by rw [xZfd];exact h)]) _ h7,fun h7=>⟨by omega,by omega,?_⟩⟩
   exact done _ rfl (by omega) (by omega) (by rw [hq,if_neg (by rw [xZfd];omega)]) _
theorem xZjv {y:List UInt8} {a m:Nat}:List.drop (Int.toNat (a:Int)) (List.take (Int.toNat ((a:Int)+(m:Int))) y)=(y.drop a).take m:=by
 rw [show Int.toNat ((a:Int)+(m:Int))=a+m by omega,Int.toNat_natCast,List.drop_take,Nat.add_sub_cancel_left]
def sigR (c:UInt8) (t:List UInt8):List UInt8:=if isC c∧t.head?=some 61 then [c,61] else [c]
theorem xZcB (c:UInt8) (t:List UInt8):signR c t=.inl (4,sigR c t,zv,(sigR c t).length):=by
 unfold signR sigR;split<;>rfl
theorem xZqd (y:List UInt8) (a:Nat) (xs:List xZ0) (c:UInt8) (t:List UInt8) (hd:y.drop a=c::t) (hy:y.length≤700) (hx':xs.length≤700):
 W (fun N=>xZP N y a xs) (·=(y,((a+(sigR c t).length:Nat):Int),xs++[⟨4,(a:Int),sigR c t,zv⟩])):=by
 have hl:(y.drop a).length=t.length+1:=by rw [hd];rfl
 rw [List.length_drop] at hl
 have hc:ix y (a:Int)=some c:=by
  have:=xZ7Y (y:=y) (a:=a) (k:=0) (e:=c) (by rw [hd];rfl)
  rwa [show (a:Int)+((0:Nat):Int)=(a:Int) by omega] at this
 have t1:=xZjv (y:=y) (a:=a) (m:=1)
 have t2:=xZjv (y:=y) (a:=a) (m:=2)
 rw [hd] at t1 t2
 rw [show ((1:Nat):Int)=1 from rfl] at t1
 rw [show ((2:Nat):Int)=2 from rfl] at t2
 have put:∀ (x:List UInt8) (n:Nat),x=sigR c t→n=(sigR c t).length→n≤2→∀ {ι:Type} [Lim ι] (N:ι→Nat) [Tends N],W (fun i=>(xZc (N i) (n:Int) 4 x (xZ4.mk 0 0 0 []) y a xs).bind fun p=>some ((p.1,p.2.1,p.2.2):St3)) (·=(y,((a+(sigR c t).length:Nat):Int),xs++[⟨4,(a:Int),sigR c t,zv⟩])):=fun x n h1 h2 h3 {ι} _ N _=>by
  refine W.call (w_put n 4 x _ y a xs (by omega) (by omega) hx') ?_
  rintro _ rfl
  subst h1
  rw [h2]
  exact W.ret.2 rfl
 simp only [xZP,hc,Option.bind_some,xZlw,W.cond,W.gd,xZT,xZ1e,xZ18,xZ28]
 rw [show (leB 0 (Lib.indexByte [33,60,62] c))=isC c from rfl] at *
 have one:(t.head?=some 61→isC c=false)→sigR c t=[c]:=fun h=>by
  rw [sigR,if_neg];rintro ⟨h1,h2⟩;rw [h h2] at h1;cases h1
 refine ⟨fun h=>⟨by omega,fun h2=>⟨by omega,?_⟩,fun h2=>⟨by omega,by omega,by omega,by omega,?_⟩⟩,fun h=>⟨by omega,by omega,by omega,by omega,?_⟩⟩
 ·cases t with
  | nil=>simp at hl;omega
  | cons d t=>
    have hd1:=xZ7Y (y:=y) (a:=a) (k:=1) (e:=d) (by rw [hd];rfl)
    rw [show (a:Int)+((1:Nat):Int)=(a:Int)+1 by omega] at hd1
    simp only [hd1,Option.bind_some,W.cond,W.gd,xZT,xZ1e]
    refine ⟨fun h3=>⟨by omega,by omega,by omega,by omega,?_⟩,fun h3=>⟨by omega,by omega,by omega,by omega,?_⟩⟩
    ·have h61:d=61:=by have:=u8eq (c:=d) (n:=61) (by omega);rw [show ((61:Nat):Int)=61 from rfl,h3] at this;simpa using this.symm
     subst h61
     have hs:sigR c (61::t)=[c,61]:=by rw [sigR,if_pos ⟨xZ1e.2 h,rfl⟩]
     rw [t2]
     exact put _ 2 (by rw [hs];rfl) (by rw [hs];rfl) (by omega) _
    ·have h61:¬ d=61:=by have:=u8eq (c:=d) (n:=61) (by omega);rw [show ((61:Nat):Int)=61 from rfl,h3] at this;simpa using this.symm
     have hs:=one (fun h=>by cases h;exact absurd rfl h61)
     rw [t1]
     exact put _ 1 (by rw [hs];rfl) (by rw [hs];rfl) (by omega) _
 ·have hs:=one (fun h=>by cases t with | nil=>cases h | cons d t=>simp at hl;omega)
  rw [t1]
  exact put _ 1 (by rw [hs];rfl) (by rw [hs];rfl) (by omega) _
 ·have h:isC c=false:=by
   cases hh:isC c with
   | false=>rfl
   | true=>exact absurd (xZ1e.1 (show leB 0 (Lib.indexByte [33,60,62] c)=true from hh)) (by have:=xZhF.1 h;omega)
  have hs:=one (fun _=>h)
  rw [t1]
  exact put _ 1 (by rw [hs];rfl) (by rw [hs];rfl) (by omega) _
theorem xZng (y:List UInt8) (a:Nat) (xs:List xZ0) (c:UInt8) (t:List UInt8) (hd:y.drop a=c::t) (hy:y.length≤700) (hx':xs.length≤200):
 W (fun N=>xZ2i N y a xs) fun r=>finA r=if known c&&decide (xs.length=200) then .inr (7,(a:Int)) else stepR y a xs (oneR (c::t)):=by
 have hl:(y.drop a).length=t.length+1:=by rw [hd];rfl
 rw [List.length_drop] at hl
 have ha:a < y.length:=by omega
 have hd1:y.drop (a+1)=t:=by
  have:(y.drop a).drop 1=t:=by rw [hd];rfl
  rw [← this,List.drop_drop]
 have hc:ix y (a:Int)=some c:=by
  have:=xZ7Y (y:=y) (a:=a) (k:=0) (e:=c) (by rw [hd];rfl)
  rwa [show (a:Int)+((0:Nat):Int)=(a:Int) by omega] at this
 have e200:((xs.length:Int)==200)=decide (xs.length=200):=by
  by_cases h:xs.length=200
  ·rw [decide_eq_true h,beq_iff_eq];omega
  ·rw [decide_eq_false h,beq_eq_false_iff_ne];omega
 have full:∀ {Q:St3⊕Ft⊕St3→Prop},Q (.inr (.inl (7,(a:Int),y,(a:Int),xs)))→∀ {ι:Type} [Lim ι] (N:ι→Nat) [Tends N],W (fun i=>(xZ8 (N i) 7 y a xs).bind fun x=>Sum.elim (fun fail=>some (Sum.inl (fail.1,fail.2.1,fail.2.2))) (fun fail2=>some (Sum.inr (Sum.inl (fail2.1,fail2.2.1,fail2.2.2.1,fail2.2.2.2.1,fail2.2.2.2.2)))) x) Q:=fun {Q} h {ι} _ N _=>by
  simp only [xZdf 7 rfl,Option.bind_some,Sum.elim_inr]
  exact W.ret.2 h
 simp only [xZ2i,hc,Option.bind_some,xZlC,xZhP,xZlw,e200]
 simp only [show ∀ c,(leB 0 (Lib.indexByte [40,41,91,93,123,125,59,124,33,58,44,46,43,42,63,45,61,60,62] c))=isG c from fun _=>rfl]
 have kn:∀ {b:Bool},known c=b→known c=b:=id
 by_cases hS:isS c=true
 ·have hk:known c=true:=by simp [known,hS]
  simp only [hS,hk,cond_true,Bool.true_and,oneR,if_true]
  refine W.cond.2 ⟨fun h=>full (by simp only [h,if_true];rfl) _,fun h=>?_⟩
  simp only [h,Bool.false_eq_true,if_false]
  refine W.call (xZpQ y a xs (by omega) hy (by omega)) ?_
  rw [hd]
  rintro (r | r | r) hr<;>simp only [Sum.elim_inl,Sum.elim_inr,W.ret]<;>exact hr
 have hS:=eq_false_of_ne_true hS
 by_cases hD:isD c=true
 ·have hk:known c=true:=by simp [known,hD]
  simp only [hS,hD,hk,cond_true,cond_false,Bool.true_and,oneR,if_true,Bool.false_eq_true,if_false]
  refine W.cond.2 ⟨fun h=>full (by simp only [h,if_true];rfl) _,fun h=>?_⟩
  simp only [h,Bool.false_eq_true,if_false]
  refine W.call (xZml y a xs (by omega) hy (by omega)) ?_
  rw [hd]
  rintro (r | r | r) hr<;>simp only [Sum.elim_inl,Sum.elim_inr,W.ret]<;>exact hr
 have hD:=eq_false_of_ne_true hD
 by_cases h35:((c.toNat:Int)==35)=true
 ·have hk:known c=true:=by simp [known,h35]
  simp only [hS,hD,h35,hk,cond_true,cond_false,Bool.true_and,oneR,if_true,Bool.false_eq_true,if_false]
  refine W.cond.2 ⟨fun h=>full (by simp only [h,if_true];rfl) _,fun h=>?_⟩
  simp only [h,Bool.false_eq_true,if_false]
  refine W.call (xZlQ y a xs (by omega) hy (by omega)) ?_
  rw [hd1]
  rintro (r | r | r) hr<;>simp only [Sum.elim_inl,Sum.elim_inr,W.ret]<;>exact hr
 have h35:=eq_false_of_ne_true h35
 by_cases h39:((c.toNat:Int)==39)=true
 ·have hk:known c=true:=by simp [known,h39]
  simp only [hS,hD,h35,h39,hk,cond_true,cond_false,Bool.true_and,oneR,if_true,Bool.false_eq_true,if_false]
  refine W.cond.2 ⟨fun h=>full (by simp only [h,if_true];rfl) _,fun h=>?_⟩
  simp only [h,Bool.false_eq_true,if_false]
  refine W.call (xZmz y a xs (by omega) hy (by omega)) ?_
  rw [hd1]
  rintro (r | r | r) hr<;>simp only [Sum.elim_inl,Sum.elim_inr,W.ret]<;>exact hr
 have h39:=eq_false_of_ne_true h39
 by_cases hG:isG c=true
 ·have hk:known c=true:=by simp [known,hG]
  simp only [hS,hD,h35,h39,hG,hk,cond_true,cond_false,Bool.true_and,oneR,if_true,Bool.false_eq_true,if_false,Bool.not_true]
  refine W.cond.2 ⟨fun h=>full (by simp only [h,if_true];rfl) _,fun h=>?_⟩
  simp only [h,Bool.false_eq_true,if_false]
  refine W.call (xZqd y a xs c t hd hy (by omega)) ?_
  rintro _ rfl
  rw [xZcB]
  exact W.ret.2 rfl
 have hG:=eq_false_of_ne_true hG
 have hk:known c=false:=by simp [known,hS,hD,h35,h39,hG]
 simp only [hS,hD,h35,h39,hG,hk,cond_true,cond_false,Bool.false_and,oneR,Bool.false_eq_true,if_false,Bool.not_false,xZdf 10 rfl,Option.bind_some,Sum.elim_inr,W.ret]
 rfl
theorem xZ5g (p:Nat) (out:List xZ0):scanR [] p out=.inl out:=by rw [scanR.eq_def]
theorem xZ2Q (c:UInt8) (t:List UInt8) (p:Nat) (out:List xZ0):scanR (c::t) p out=
 if blank c then scanR t (p+1) out
 else if known c&&decide (out.length=200) then .inr (7,(p:Int))
 else match oneR (c::t) with
  | .inr (e,o)=>.inr (e,((p+o:Nat):Int))
  | .inl (k,x,v,m)=>scanR (t.drop (m - 1)) (p+m) (out++[⟨k,(p:Int),x,v⟩]):=by
 rw [scanR.eq_def]<;>rfl
def scanE:List xZ0⊕(Int×Int)→List xZ0⊕(List xZ0×Int×Int)
 | .inl l=>.inl l
 | .inr (e,a)=>.inr ([],e,a)
theorem xZdH:∀ (n:Nat) (t:List UInt8),t.length≤n→∀ {off:Nat} {b:List UInt8} {k:Int} {x:List UInt8} {v:xZ4} {m:Nat},1≤off→quoR t off b=.inl (k,x,v,m)→off < m∧m≤off+t.length
 | n,[],_,off,b,k,x,v,m,_,h=>by rw [xZ7Q] at h;cases h
 | 0,c::t,hn,_,_,_,_,_,_,_,_=>by simp at hn
 | n+1,c::t,hn,off,b,k,x,v,m,ho,h=>by
   simp only [List.length_cons,Nat.add_le_add_iff_right] at hn
   rw [xZ2k] at h
   split at h
   ·cases h
   ·split at h
    ·split at h
     ·rename_i p q t'
      split at h
      ·have:=xZdH n _ (by simp at hn;omega) (by omega) h
       simp only [List.length_cons];omega
      ·cases h
     ·cases h
    ·split at h
     ·split at h
      ·rename_i p t'
       split at h
       ·have:=xZdH n _ (by simp at hn;omega) (by omega) h
        simp only [List.length_cons];omega
       ·split at h
        ·cases h
        ·cases h;simp only [List.length_cons];omega
      ·split at h
       ·cases h
       ·cases h;simp only [List.length_cons,List.length_nil];omega
     ·have:=xZdH n _ hn (by omega) h
      simp only [List.length_cons];omega
theorem xZkG {c:UInt8} {t:List UInt8} {k:Int} {x:List UInt8} {v:xZ4} {m:Nat} (h:oneR (c::t)=.inl (k,x,v,m)):1≤m∧m≤t.length+1:=by
 simp only [oneR] at h
 split at h
 ·rename_i hs
  have h1:1≤((c::t).takeWhile isT).length:=by rw [List.takeWhile_cons,if_pos (by simp [isT,hs])];simp
  have h2:=tw_le isT (c::t)
  simp only [List.length_cons] at h2
  unfold wordR at h
  repeat' split at h
  all_goals first | (cases h;omega) | cases h
 ·split at h
  ·rename_i hs
   have h1:1≤((c::t).takeWhile isD).length:=by rw [List.takeWhile_cons,if_pos hs];simp
   have h2:=tw_le isD (c::t)
   simp only [List.length_cons] at h2
   unfold numR at h
   repeat' split at h
   all_goals first | (cases h;omega) | cases h
  ·split at h
   ·unfold dblR at h
    split at h
    ·cases h
    ·split at h
     ·cases h
     ·split at h
      ·cases h;omega
      ·cases h
   ·split at h
    ·have:=xZdH _ t (Nat.le_refl _) (by omega) h
     omega
    ·split at h
     ·rename_i hg
      rw [xZcB] at h
      cases h
      unfold sigR
      split
      ·rename_i hh
       cases t with
       | nil=>cases hh.2
       | cons=>simp
      ·simp
     ·cases h
theorem xZow (s:List UInt8) (hs:s.length≤700):W (fun N=>xZ9B N s) (·=scanE (scan s)):=by
 simp only [xZ9B,W.cond,xZ18,xZ28,scan]
 refine ⟨fun h=>?_,fun h=>?_⟩
 ·simp only [xZR,show ((5:Int)==0)=false from rfl,cond_false,Option.bind_some,Sum.elim_inr,W.ret]
  rw [if_pos (by omega)];rfl
 ·rw [if_neg (by omega)]
  refine W.lp3 (fun y p ys=>∃ a:Nat,p=(a:Int)∧y=s∧a≤s.length∧ys.length≤200∧scanR s 0 []=scanR (s.drop a) a ys) (fun _ p _=>s.length - p.toNat) ⟨0,rfl,rfl,Nat.zero_le _,by simp,rfl⟩ ?_
  rintro F y p ys ⟨a,rfl,rfl,ha,hl,hq⟩ hn
  simp only [xZat,W.cond,xZ18,xZ28]
  refine ⟨fun h1=>?_,fun h1=>?_⟩
  ·obtain ⟨c,hc⟩:=xZ8B (y:=y) (a:=a) (k:=0) (by omega)
   have hd:=xZbH hc
   rw [List.drop_zero,List.drop_drop] at hd
   have hc:=xZ7Y hc
   rw [show (a:Int)+((0:Nat):Int)=(a:Int) by omega] at hc
   rw [hd,xZ2Q] at hq
   have skip:blank c=true→W (fun p:Nat×Nat=>F p y ((a:Int)+1) ys) fun r=>r=scanE (scanR y 0 []):=fun hb=>by
    rw [show (a:Int)+1=((a+1:Nat):Int) by omega]
    rw [if_pos hb] at hq
    exact hn _ _ _ ⟨a+1,rfl,rfl,by omega,hl,hq⟩ (by omega)
   simp only [hc,Option.bind_some,W.cond,W.gd,xZT]
   refine ⟨fun h=>⟨by omega,skip (by simp [blank,h])⟩,fun h2=>⟨fun h=>⟨by omega,skip (by simp [blank,h])⟩,fun h3=>⟨fun h=>⟨by omega,skip (by simp [blank,h])⟩,fun h4=>?_⟩⟩⟩
   rw [if_neg (by simp only [blank,h2,h3,h4];decide)] at hq
   refine W.call (xZng y a ys c _ hd (by omega) hl) ?_
   intro r hr
   by_cases hfull:(known c&&decide (ys.length=200))=true
   ·rw [if_pos hfull] at hr hq
    rcases r with r | ⟨e1,p1,r⟩ | r
    ·cases hr
    ·simp only [Sum.elim_inl,Sum.elim_inr,W.ret]
     simp only [finA] at hr
     cases hr
     rw [hq];rfl
    ·cases hr
   ·rw [if_neg hfull] at hr hq
    cases ho:oneR (c::y.drop (a+1)) with
    | inr f=>
      obtain ⟨e,o⟩:=f
      rw [ho] at hr hq
      rcases r with r | ⟨e1,p1,r⟩ | r
      ·cases hr
      ·simp only [Sum.elim_inl,Sum.elim_inr,W.ret]
       simp only [finA,stepR] at hr
       cases hr
       rw [hq];rfl
      ·cases hr
    | inl f=>
      obtain ⟨k,x,v,m⟩:=f
      rw [ho] at hr hq
      dsimp only at hq
      have hm:=xZkG ho
      rw [List.length_drop] at hm
      have hlen:ys.length < 200:=by
       have hk:known c=true:=by
        cases hk:known c with
        | true=>rfl
        | false=>
          simp only [known,Bool.or_eq_false_iff] at hk
          simp only [oneR,hk.1.1.1.1,hk.1.1.1.2,hk.1.1.2,hk.1.2,hk.2,Bool.false_eq_true,if_false] at ho
          cases ho
       rw [hk] at hfull
       simp only [Bool.true_and,decide_eq_true_eq] at hfull
       omega
      rw [List.drop_drop,show a+1+(m - 1)=a+m by omega] at hq
      have next:W (fun p:Nat×Nat=>F p y ((a+m:Nat):Int) (ys++[⟨k,(a:Int),x,v⟩])) fun r=>r=scanE (scanR y 0 []):=hn _ _ _ ⟨a+m,rfl,rfl,by omega,by simp;omega,hq⟩ (by omega)
      rcases r with r | r | r
      ·simp only [finA,stepR] at hr
       cases hr
       simp only [Sum.elim_inl];exact next
      ·cases hr
      ·simp only [finA,stepR] at hr
       cases hr
       simp only [Sum.elim_inr];exact next
  ·have hnil:y.drop a=[]:=List.drop_eq_nil_of_le (by omega)
   rw [hnil,xZ5g] at hq
   rw [hq];exact W.ret.2 rfl
def z3:xZ0:=⟨0,0,[],zv⟩
def r3 (a:Nat):R1→xZ0×Int×Int
 | .inl (k,x,v,m)=>(⟨k,(a:Int),x,v⟩,(m:Int),0)
 | .inr (e,o)=>(z3,0,e)
def r4 (a:Nat):R1→xZ0×Int×xZ3s
 | .inl (k,x,v,m)=>(⟨k,(a:Int),x,v⟩,(m:Int),⟨0,0⟩)
 | .inr (e,o)=>(z3,0,⟨e,((a+o:Nat):Int)⟩)
def okB (v:xZ4):Prop:=0≤v.Bits∧v.Bits≤18446744073709551615
theorem xZia:∀ (l:List UInt8) (V u:Nat),hexv V l=some u→u < (V+1) * 16 ^ l.length
 | [],V,u,hq=>by rw [hexv] at hq;cases hq;simp
 | c::l,V,u,hq=>by
   rw [hexv] at hq
   split at hq
   ·cases hq
   ·rename_i d hd
    have h1:=xZia l _ u hq
    have h2:=hx_lt hd
    rw [List.length_cons,Nat.pow_succ]
    have h3:(16 * V+d+1) * 16 ^ l.length≤((V+1) * 16) * 16 ^ l.length:=Nat.mul_le_mul_right _ (by omega)
    rw [Nat.mul_assoc] at h3
    rw [Nat.mul_comm (16 ^ l.length) 16]
    omega
theorem xZjU:∀ (n:Nat) (t:List UInt8),t.length≤n→∀ {off:Nat} {b:List UInt8} {k:Int} {x:List UInt8} {v:xZ4} {m:Nat},quoR t off b=.inl (k,x,v,m)→v.Bits=0
 | n,[],_,off,b,k,x,v,m,h=>by rw [xZ7Q] at h;cases h
 | 0,c::t,hn,_,_,_,_,_,_,_=>by simp at hn
 | n+1,c::t,hn,off,b,k,x,v,m,h=>by
   simp only [List.length_cons,Nat.add_le_add_iff_right] at hn
   rw [xZ2k] at h
   split at h
   ·cases h
   ·split at h
    ·split at h
     ·split at h
      ·exact xZjU n _ (by simp at hn;omega) h
      ·cases h
     ·cases h
    ·split at h
     ·split at h
      ·split at h
       ·exact xZjU n _ (by simp at hn;omega) h
       ·split at h
        ·cases h
        ·cases h;rfl
      ·split at h
       ·cases h
       ·cases h;rfl
     ·exact xZjU n _ hn h
theorem ok0 {v:xZ4} (h:v.Bits=0):okB v:=by unfold okB;omega
theorem one_b {r:List UInt8} {k:Int} {x:List UInt8} {v:xZ4} {m:Nat} (h:oneR r=.inl (k,x,v,m)):okB v:=by
 cases r with
 | nil=>cases h
 | cons c t=>
   simp only [oneR] at h
   split at h
   ·unfold wordR at h
    repeat' split at h
    all_goals first | (cases h;exact ok0 rfl) | cases h
   ·split at h
    ·unfold numR at h
     repeat' split at h
     all_goals first | (cases h;exact ok0 rfl) | cases h
    ·split at h
     ·unfold dblR at h
      split at h
      ·cases h
      ·split at h
       ·cases h
       ·rename_i h16 u hu
        have hlt:=xZia _ _ _ hu
        rw [List.length_take,show min 16 t.length=16 by omega] at hlt
        have hlt:u < 18446744073709551616:=by simpa using hlt
        split at h
        ·cases h;exact ⟨by show (0:Int)≤(u:Int);omega,by show (u:Int)≤_;omega⟩
        ·cases h
     ·split at h
      ·exact ok0 (xZjU _ t (Nat.le_refl _) h)
      ·split at h
       ·rw [xZcB] at h;cases h;exact ok0 rfl
       ·cases h
theorem xZcb {P:xZ0→Prop} (hP:∀ {r k x v m} (p:Int),oneR r=.inl (k,x,v,m)→P ⟨k,p,x,v⟩):∀ (n:Nat) (r:List UInt8),r.length≤n→∀ {p:Nat} {out l:List xZ0},(∀ t∈out,P t)→scanR r p out=.inl l→∀ t∈l,P t
 | n,[],_,p,out,l,ho,h=>by rw [xZ5g] at h;cases h;exact ho
 | 0,c::t,hn,_,_,_,_,_=>by simp at hn
 | n+1,c::t,hn,p,out,l,hl,h=>by
   simp only [List.length_cons,Nat.add_le_add_iff_right] at hn
   rw [xZ2Q] at h
   split at h
   ·exact xZcb hP n t hn hl h
   ·split at h
    ·cases h
    ·split at h
     ·cases h
     ·rename_i k x v m ho
      refine xZcb hP n _ (by rw [List.length_drop];omega) (fun t ht=>?_) h
      rcases List.mem_append.1 ht with ht | ht
      ·exact hl t ht
      ·rw [List.mem_singleton.1 ht];exact hP _ ho
theorem xZit:∀ (n:Nat) (r:List UInt8),r.length≤n→∀ {p:Nat} {out l:List xZ0},out.length≤200→scanR r p out=.inl l→l.length≤200
 | n,[],_,p,out,l,h,hq=>by rw [xZ5g] at hq;cases hq;exact h
 | 0,c::t,hn,_,_,_,_,_=>by simp at hn
 | n+1,c::t,hn,p,out,l,h,hq=>by
   simp only [List.length_cons,Nat.add_le_add_iff_right] at hn
   rw [xZ2Q] at hq
   split at hq
   ·exact xZit n t hn h hq
   ·split at hq
    ·cases hq
    ·rename_i hf
     split at hq
     ·cases hq
     ·rename_i k x v m ho
      have hk:known c=true:=by
       cases hk:known c with
       | true=>rfl
       | false=>
         simp only [known,Bool.or_eq_false_iff] at hk
         simp only [oneR,hk.1.1.1.1,hk.1.1.1.2,hk.1.1.2,hk.1.2,hk.2,Bool.false_eq_true,if_false] at ho
         cases ho
      rw [hk] at hf
      simp only [Bool.true_and,decide_eq_true_eq] at hf
      exact xZit n _ (by rw [List.length_drop];omega) (by simp;omega) hq
theorem xZiD {s:List UInt8} {y:List xZ0} (h:scan s=.inl y):y.length≤200∧okT y:=by
 unfold scan at h
 split at h
 ·cases h
 ·exact ⟨xZit _ s (Nat.le_refl _) (by simp) h,xZcb (P:=fun t=>okB t.Val) (fun _ h=>one_b h) _ s (Nat.le_refl _) (by simp) h⟩
theorem xZjx {y:List xZ0} {b:Nat} {e:Int} (hy:y.length≤700) (hb:b≤y.length) {l:List xZ2} {j:Nat} (h:PAR y b e=.inr (l,j)):l.length≤j - b∧b < j∧j≤y.length∧chk l=0:=by
 have ok:=((p_all (e:=e) hy 51).1 0 b (by omega) (by omega) (by omega) (by omega)).1
 unfold PAR at h
 cases g:(SPP y 51).1 0 b with
 | inl x=>rw [g] at h;cases h
 | inr p=>
   rw [g] at ok h
   simp only at h
   by_cases hz:chk p.1=0
   ·rw [if_pos hz] at h
    cases h
    exact ⟨ok.2.2,ok.1,ok.2.1,hz⟩
   ·rw [if_neg hz] at h;cases h
section
abbrev ErG:=Int×Int×List xZ0×Int×Int
section
variable {N:Nat} {y:List xZ0} {i:Nat} {e:Int}
theorem xZej {k:Int} (hk:k≠0) (s:List UInt8):xZq N k s y i e=some (isT' y i k s,y,(i:Int),e):=by
 simp only [xZq,xZgH]
 by_cases h:i < y.length
 ·simp only [h,decide_true,cond_true,(ix_at h).1,Option.bind_some,isT']
  cases (tk y i).Kind==k<;>simp
 ·have:isT' y i k s=false:=by
   rw [isT',xZhA h]
   have:(zT.Kind==k)=false:=by simpa [zT] using fun e:(0:Int)=k=>hk e.symm
   rw [this];rfl
  simp [h,this]
theorem xZ85 {k:Int} (hk:k≠0) (s:List UInt8) (hi:i≤1000000):xZa N k s y i e=some (if isT' y i k s=true then (true,y,((i+1:Nat):Int),e) else (false,y,(i:Int),e)):=by
 simp only [xZa,xZej hk,Option.bind_some,xZdr hi,xZ1w]
 cases isT' y i k s<;>simp
theorem xZax {c:Int} (hc:c≠0):xZd N c y i e=some (.inr (c,plc y e i,y,(i:Int),e)):=by
 have h0:(c==0)=false:=by simpa using hc
 simp only [xZd,xZgH]
 by_cases h:i < y.length
 ·simp only [h,decide_true,cond_true,(ix_at h).1,Option.bind_some,xZR,h0,cond_false,Sum.elim_inr,xZ2r,plc,(ix_at h).2]
 ·simp only [h,decide_false,cond_false,Option.bind_some,xZR,h0,Sum.elim_inr,xZ2r,plc,List.getElem?_eq_none (Nat.le_of_not_lt h)]
theorem xZlr:leB (y.length:Int) (i:Int)=!decide (i < y.length):=by
 rw [xZ9s,← decide_not];congr 1;exact propext (by omega)
theorem back1 (h:i < y.length):ix y ((i:Int)+1 - 1)=some (tk y i):=by
 rw [show (i:Int)+1 - 1=(i:Int) by omega];exact (ix_at h).1
theorem xZio (hi:i≤1000000):i64b ((i:Int)+1 - 1)=true:=xZT.2 (by omega)
theorem xZdR (hi:i≤1000000):xZZ N y i e=some (if (tk y i).Kind=1 then .inl ((tk y i).Text,y,((i+1:Nat):Int),e) else .inr (4,plc y e i,y,(i:Int),e)):=by
 simp only [xZZ,xZlr,xZax (show (4:Int)≠0 by decide),Option.bind_some,Sum.elim_inr]
 by_cases h:i < y.length
 ·simp only [h,decide_true,Bool.not_true,cond_false,(ix_at h).1,Option.bind_some,xZdr hi,xZio hi,xZ1w,back1 h]
  by_cases h1:(tk y i).Kind=1
  ·simp [h1]
  ·simp [h1,show ((tk y i).Kind != 1)=true by simpa using h1]
 ·simp [h,xZhA h,zT]
theorem xZoe (hi:i≤1000000):xZy N y i e=some (if (tk y i).Kind=3∧(tk y i).Val.Kind=1 then .inl ((tk y i).Val.N,y,((i+1:Nat):Int),e) else .inr (4,plc y e i,y,(i:Int),e)):=by
 simp only [xZy,xZlr,xZax (show (4:Int)≠0 by decide),Option.bind_some,Sum.elim_inr]
 by_cases h:i < y.length
 ·simp only [h,decide_true,Bool.not_true,cond_false,(ix_at h).1,Option.bind_some,xZdr hi,xZio hi,xZ1w,back1 h]
  by_cases h1:(tk y i).Kind=3
  ·by_cases h2:(tk y i).Val.Kind=1
   ·simp [h1,h2]
   ·simp [h1,h2,show ((tk y i).Val.Kind != 1)=true by simpa using h2]
  ·simp [h1,show ((tk y i).Kind != 3)=true by simpa using h1]
 ·simp [h,xZhA h,zT]
theorem xZ9z {k:Int} (hk:k≠0) (s:List UInt8) (hi:i≤1000000):xZi N k s y i e=some (if isT' y i k s=true then .inl (y,((i+1:Nat):Int),e) else .inr (4,plc y e i,y,(i:Int),e)):=by
 simp only [xZi,xZ85 hk s hi,Option.bind_some,xZax (show (4:Int)≠0 by decide)]
 cases isT' y i k s<;>simp [xZax (show (4:Int)≠0 by decide)]
end
abbrev RG:=(Int×Int)⊕(List xZ1×Nat)
abbrev RGp:=(List xZ1×List xZ0×Int×Int)⊕ErG
def EN (y:List xZ0) (e:Int):RG→RGp→Prop
 | .inl (c,a),r=>∃ j:Int,r=.inr (c,a,y,j,e)
 | .inr (l,i),r=>r=.inl (l,y,(i:Int),e)
def atomS (y:List xZ0) (e:Int) (k:Int) (i:Nat):RG:=
 if (tk y i).Kind=1 then
  (if isT' y (i+1) 4 [58]=true then
    (if (tk y (i+2)).Kind=1 then
      (if isT' y (i+3) 4 [91]=true then (match PAR y (i+4) e with
        | .inl x=>.inl x
        | .inr (l,j)=>if isT' y j 4 [93]=true then .inr ([⟨k,0,0,0,(tk y i).Text,(tk y (i+2)).Text,l⟩],j+1) else .inl (4,plc y e j))
      else .inr ([⟨k,0,0,0,(tk y i).Text,(tk y (i+2)).Text,[]⟩],i+3))
    else .inl (4,plc y e (i+2)))
  else .inl (4,plc y e (i+1)))
 else .inl (4,plc y e i)
theorem xZol {y:List xZ0} {e k:Int} {i:Nat} (hy:y.length≤700) (hi:i≤y.length):W (fun N=>xZ1k N k y i e) (EN y e (atomS y e k i)):=by
 have hp:∀ {j c:Nat},((j+c:Nat):Int)+1=((j+(c+1):Nat):Int):=fun {j c}=>by omega
 simp only [xZ1k,xZdR (show i≤1000000 by omega),Option.bind_some]
 unfold atomS
 by_cases h1:(tk y i).Kind=1
 ·have l1:=xZ1m (by decide) h1
  simp only [if_pos h1,Sum.elim_inl,xZ9z (show (4:Int)≠0 by decide) [58] (show i+1≤1000000 by omega),Option.bind_some]
  by_cases h2:isT' y (i+1) 4 [58]=true
  ·have l2:=xZ1m (by decide) (xZ1j h2).1
   simp only [if_pos h2,Sum.elim_inl,xZdR (show i+1+1≤1000000 by omega),Option.bind_some]
   by_cases h3:(tk y (i+2)).Kind=1
   ·have l3:=xZ1m (by decide) h3
    simp only [show i+1+1=i+2 from rfl,if_pos h3,Sum.elim_inl,xZ85 (show (4:Int)≠0 by decide) [91] (show i+2+1≤1000000 by omega),Option.bind_some]
    by_cases h4:isT' y (i+3) 4 [91]=true
    ·have l4:=xZ1m (by decide) (xZ1j h4).1
     simp only [show i+2+1=i+3 from rfl,if_pos h4,cond_true,show i+3+1=i+4 from rfl]
     refine W.call (xZpg (b:=i+4) (e:=e) hy (by omega)) ?_
     rintro _ rfl
     cases hq:PAR y (i+4) e with
     | inl x=>
       obtain ⟨c,a⟩:=x
       simp only [Sum.elim_inr,xZ2r,Option.bind_some,W.ret]
       exact ⟨_,rfl⟩
     | inr p=>
       obtain ⟨l,j⟩:=p
       have hl:=xZjx hy (by omega) hq
       simp only [Sum.elim_inl,xZ3N,Option.bind_some,xZ9z (show (4:Int)≠0 by decide) [93] (show j≤1000000 by omega)]
       by_cases h5:isT' y j 4 [93]=true
       ·simp only [if_pos h5,Sum.elim_inl,W.ret];rfl
       ·simp only [if_neg h5,Sum.elim_inr,W.ret];exact ⟨_,rfl⟩
    ·simp only [show i+2+1=i+3 from rfl,if_neg h4,cond_false,W.ret];rfl
   ·simp only [show i+1+1=i+2 from rfl,if_neg h3,Sum.elim_inr,W.ret];exact ⟨_,rfl⟩
  ·simp only [if_neg h2,Sum.elim_inr,W.ret];exact ⟨_,rfl⟩
 ·simp only [if_neg h1,Sum.elim_inr,W.ret];exact ⟨_,rfl⟩
def numS (y:List xZ0) (i:Nat):Option Int:=if (tk y i).Kind=3∧(tk y i).Val.Kind=1 then some (tk y i).Val.N else none
def cntS (y:List xZ0) (e:Int) (i:Nat):(Int×Int)⊕(Int×Int×Nat):=match numS y i with
 | none=>.inl (4,plc y e i)
 | some a=>if isT' y (i+1) 4 [44]=true then
    (if isT' y (i+2) 4 [125]=true then .inr (a,0,i+3) else match numS y (i+2) with
      | none=>.inl (4,plc y e (i+2))
      | some b=>if isT' y (i+3) 4 [125]=true then .inr (a,b,i+4) else .inl (4,plc y e (i+3)))
   else if isT' y (i+1) 4 [125]=true then .inr (a,a,i+2) else .inl (4,plc y e (i+1))
def oftS (y:List xZ0) (e:Int) (i:Nat):(Int×Int)⊕(Option (Int×Int)×Nat):=
 if isT' y i 4 [43]=true then .inr (some (1,0),i+1)
 else if isT' y i 4 [42]=true then .inr (some (0,0),i+1)
 else if isT' y i 4 [63]=true then .inr (some (0,1),i+1)
 else if isT' y i 4 [123]=true then (match cntS y e (i+1) with
  | .inl x=>.inl x
  | .inr (a,b,j)=>.inr (some (a,b),j))
 else .inr (none,i)
def repN (a b:Int):xZ1:=⟨3,1,a,b,[],[],[]⟩
def oftR (part:List xZ1):(Int×Int)⊕(Option (Int×Int)×Nat)→RG
 | .inl x=>.inl x
 | .inr (none,j)=>.inr (part,j)
 | .inr (some (a,b),j)=>.inr (repN a b::part,j)
theorem xZk9 {N:Nat} {y:List xZ0} {i:Nat} {e:Int} (hi:i≤1000000):xZy N y i e=some (match numS y i with | some a=>.inl (a,y,((i+1:Nat):Int),e) | none=>.inr (4,plc y e i,y,(i:Int),e)):=by
 rw [xZoe hi,numS]
 by_cases h:(tk y i).Kind=3∧(tk y i).Val.Kind=1
 ·rw [if_pos h,if_pos h]
 ·rw [if_neg h,if_neg h]
theorem xZkj {y:List xZ0} {e:Int} {i:Nat} (hi:i≤900000):W (fun N=>xZ1u N y i e) (fun r=>match cntS y e i with
 | .inl (c,a)=>∃ j:Int,r=.inr (c,a,y,j,e)
 | .inr (a,b,j)=>r=.inl (a,b,y,(j:Int),e)):=by
 simp only [xZ1u,xZk9 (show i≤1000000 by omega),Option.bind_some]
 unfold cntS
 cases h1:numS y i with
 | none=>simp only [Sum.elim_inr,W.ret];exact ⟨_,rfl⟩
 | some a=>
   simp only [Sum.elim_inl,xZ85 (show (4:Int)≠0 by decide) [44] (show i+1≤1000000 by omega),Option.bind_some]
   by_cases h2:isT' y (i+1) 4 [44]=true
   ·simp only [if_pos h2,cond_true,show i+1+1=i+2 from rfl,xZej (show (4:Int)≠0 by decide),Option.bind_some]
    by_cases h3:isT' y (i+2) 4 [125]=true
    ·simp only [h3,if_true,Bool.not_true,cond_false,xZ9z (show (4:Int)≠0 by decide) [125] (show i+2≤1000000 by omega),Option.bind_some,Sum.elim_inl,W.ret]
    ·have h3':isT' y (i+2) 4 [125]=false:=by simpa using h3
     simp only [h3',Bool.false_eq_true,if_false,Bool.not_false,cond_true,xZk9 (show i+2≤1000000 by omega),Option.bind_some]
     cases h4:numS y (i+2) with
     | none=>simp only [Sum.elim_inr,W.ret];exact ⟨_,rfl⟩
     | some b=>
       simp only [Sum.elim_inl,show i+2+1=i+3 from rfl,xZ9z (show (4:Int)≠0 by decide) [125] (show i+3≤1000000 by omega),Option.bind_some]
       by_cases h5:isT' y (i+3) 4 [125]=true
       ·simp only [if_pos h5,Sum.elim_inl,W.ret]
       ·simp only [if_neg h5,Sum.elim_inr,W.ret];exact ⟨_,rfl⟩
   ·simp only [if_neg h2,cond_false,xZ9z (show (4:Int)≠0 by decide) [125] (show i+1≤1000000 by omega),Option.bind_some]
    by_cases h5:isT' y (i+1) 4 [125]=true
    ·simp only [if_pos h5,Sum.elim_inl,W.ret]
    ·simp only [if_neg h5,Sum.elim_inr,W.ret];exact ⟨_,rfl⟩
theorem xZlO {y:List xZ0} {e:Int} {i:Nat} {part:List xZ1} (hi:i≤800000) (hp:part.length≤100000):W (fun N=>xZU N part y i e) (EN y e (oftR part (oftS y e i))):=by
 have g:Nat.ble ((1+part.length) * 88) 140737488355328=true:=Nat.ble_eq_true_of_le (by omega)
 simp only [xZU,xZ85 (show (4:Int)≠0 by decide) _ (show i≤1000000 by omega),Option.bind_some,g,xZ1w]
 unfold oftS
 by_cases h1:isT' y i 4 [43]=true
 ·simp only [if_pos h1,cond_true,W.ret];rfl
 simp only [if_neg h1,cond_false,xZ85 (show (4:Int)≠0 by decide) _ (show i≤1000000 by omega),Option.bind_some]
 by_cases h2:isT' y i 4 [42]=true
 ·simp only [if_pos h2,cond_true,W.ret];rfl
 simp only [if_neg h2,cond_false,xZ85 (show (4:Int)≠0 by decide) _ (show i≤1000000 by omega),Option.bind_some]
 by_cases h3:isT' y i 4 [63]=true
 ·simp only [if_pos h3,cond_true,W.ret];rfl
 simp only [if_neg h3,cond_false,xZ85 (show (4:Int)≠0 by decide) _ (show i≤1000000 by omega),Option.bind_some]
 by_cases h4:isT' y i 4 [123]=true
 ·simp only [if_pos h4,cond_true]
  refine W.call (xZkj (y:=y) (e:=e) (i:=i+1) (by omega)) fun r hr=>?_
  cases hc:cntS y e (i+1) with
  | inl x=>
    obtain ⟨c,a⟩:=x
    rw [hc] at hr
    obtain ⟨j,rfl⟩:=hr
    simp only [Sum.elim_inr,W.ret];exact ⟨_,rfl⟩
  | inr x=>
    obtain ⟨a,b,j⟩:=x
    rw [hc] at hr
    subst hr
    simp only [Sum.elim_inl,g,xZ1w,W.ret];rfl
 ·simp only [if_neg h4,cond_false,W.ret];rfl
end
section
def addG (k:Int) (s:Int×List xZ1):List xZ1→Int×List xZ1
 | []=>s
 | n::r=>if n.Kind=k then (s.1+n.Kids,s.2++r) else (s.1+1,s.2++n::r)
def hdN (k:Int) (s:Int×List xZ1):List xZ1:=⟨k,s.1,0,0,[],[],[]⟩::s.2
theorem l1_eq {N:Nat} {k:Int} {s:Int×List xZ1} {n:xZ1} {r:List xZ1} (h1:0≤s.1∧s.1≤1000000) (h2:0≤n.Kids∧n.Kids≤1000000) (h3:s.2.length≤1000000) (h4:r.length≤1000000):
 xZh N (n::r) k (hdN k s)=some (k,hdN k (addG k s (n::r))):=by
 have e0:∀ (a:xZ1) (l:List xZ1),ix (a::l) 0=some a:=fun _ _=>rfl
 simp only [xZh,hdN,e0,Option.bind_some,addG]
 by_cases hk:n.Kind=k
 ·have g1:i64b (s.1+n.Kids)=true:=xZT.2 (by omega)
  have g2:leB 1 ((n::r).length:Int)=true:=xZ1e.2 (by simp only [List.length_cons];omega)
  have g3:Nat.ble ((List.length (List.set (({ Kind:=k,Kids:=s.1,Lo:=0,Hi:=0,Var:=[],Type_:=[],Test:=[] }:xZ1)::s.2) 0 (xZ1.mk k (s.1+n.Kids) 0 0 [] [] []))+List.length (List.drop 1 (n::r))) * 88) 140737488355328=true:=Nat.ble_eq_true_of_le (by simp only [List.length_set,List.length_cons,List.drop_succ_cons,List.drop_zero];omega)
  simp only [show (n.Kind==k)=true by simpa using hk,cond_true,if_pos hk,g1,g2,g3,xZ1w]
  rfl
 ·have g1:i64b (s.1+1)=true:=xZT.2 (by omega)
  have g3:Nat.ble ((List.length (List.set (({ Kind:=k,Kids:=s.1,Lo:=0,Hi:=0,Var:=[],Type_:=[],Test:=[] }:xZ1)::s.2) 0 (xZ1.mk k (s.1+1) 0 0 [] [] []))+List.length (n::r)) * 88) 140737488355328=true:=Nat.ble_eq_true_of_le (by simp only [List.length_set,List.length_cons];omega)
  simp only [show (n.Kind==k)=false by simpa using hk,cond_false,if_neg hk,g1,g3,xZ1w]
  rfl
section
variable (y:List xZ0) (e:Int)
def lpS (k:Int) (sep:List UInt8) (f:Nat→RG):Nat→(Int×List xZ1)→Nat→RG
 | 0,s,j=>.inr (hdN k s,j)
 | n+1,s,j=>if isT' y j 4 sep=true then (match f (j+1) with
    | .inl x=>.inl x
    | .inr (l,j')=>lpS k sep f n (addG k s l) j') else .inr (hdN k s,j)
def lsS (k:Int) (sep:List UInt8) (f:Nat→RG) (i:Nat):RG:=match f i with
 | .inl x=>.inl x
 | .inr (l,j)=>if isT' y j 4 sep=true then lpS y k sep f (y.length - j) (addG k (0,[]) l) j else .inr (l,j)
def itS (b:Int→Nat→RG) (d:Int) (i:Nat):RG:=
 if isT' y i 4 [33]=true then atomS y e 5 (i+1)
 else if isT' y i 4 [40]=true then
  (if 16≤d then .inl (15,plc y e i) else match b (d+1) (i+1) with
    | .inl x=>.inl x
    | .inr (l,j)=>if isT' y j 4 [41]=true then oftR l (oftS y e (j+1)) else .inl (4,plc y e j))
 else match atomS y e 4 i with
  | .inl x=>.inl x
  | .inr (l,j)=>oftR l (oftS y e j)
def SB:Nat→Int→Nat→RG
 | 0=>fun _ i=>.inl (4,plc y e i)
 | n+1=>fun d i=>lsS y 2 [124] (lsS y 1 [59] (itS y e (SB n) d)) i
end
def okG (y:List xZ0) (c i:Nat):RG→Prop
 | .inl _=>True
 | .inr (l,j)=>i < j∧j≤y.length∧∃ n r,l=n::r∧l.length+c≤2 * (j - i)+1∧0≤n.Kids∧n.Kids+(c:Int)≤2 * ((j:Int) - i)+1
section
variable {y:List xZ0} {e:Int}
theorem xZgl {k:Int} {i:Nat} (hy:y.length≤700):okG y 2 i (atomS y e k i):=by
 unfold atomS
 by_cases h1:(tk y i).Kind=1
 ·rw [if_pos h1]
  by_cases h2:isT' y (i+1) 4 [58]=true
  ·rw [if_pos h2]
   by_cases h3:(tk y (i+2)).Kind=1
   ·have l3:=xZ1m (by decide) h3
    rw [if_pos h3]
    by_cases h4:isT' y (i+3) 4 [91]=true
    ·have l4:=xZ1m (by decide) (xZ1j h4).1
     rw [if_pos h4]
     cases hq:PAR y (i+4) e with
     | inl x=>trivial
     | inr p=>
       obtain ⟨l,j⟩:=p
       have hl:=xZjx hy (by omega) hq
       by_cases h5:isT' y j 4 [93]=true
       ·have l5:=xZ1m (by decide) (xZ1j h5).1
        simp only [if_pos h5]
        exact ⟨by omega,by omega,_,_,rfl,by simp only [List.length_singleton];omega,Int.le_refl _,by simp only;omega⟩
       ·simp only [if_neg h5];trivial
    ·rw [if_neg h4]
     exact ⟨by omega,by omega,_,_,rfl,by simp only [List.length_singleton];omega,Int.le_refl _,by simp only;omega⟩
   ·rw [if_neg h3];trivial
  ·rw [if_neg h2];trivial
 ·rw [if_neg h1];trivial
theorem xZnT {i:Nat} {o:Option (Int×Int)} {j:Nat} (h:oftS y e i=.inr (o,j)):(o=none∧j=i)∨(o≠none∧i < j∧j≤y.length):=by
 unfold oftS at h
 by_cases h1:isT' y i 4 [43]=true
 ·have:=xZ1m (by decide) (xZ1j h1).1
  rw [if_pos h1] at h;cases h;exact .inr ⟨by simp,by omega,by omega⟩
 rw [if_neg h1] at h
 by_cases h2:isT' y i 4 [42]=true
 ·have:=xZ1m (by decide) (xZ1j h2).1
  rw [if_pos h2] at h;cases h;exact .inr ⟨by simp,by omega,by omega⟩
 rw [if_neg h2] at h
 by_cases h3:isT' y i 4 [63]=true
 ·have:=xZ1m (by decide) (xZ1j h3).1
  rw [if_pos h3] at h;cases h;exact .inr ⟨by simp,by omega,by omega⟩
 rw [if_neg h3] at h
 by_cases h4:isT' y i 4 [123]=true
 ·rw [if_pos h4] at h
  unfold cntS at h
  cases hn:numS y (i+1) with
  | none=>rw [hn] at h;cases h
  | some a=>
    rw [hn] at h
    simp only at h
    by_cases g1:isT' y (i+1+1) 4 [44]=true
    ·rw [if_pos g1] at h
     by_cases g2:isT' y (i+1+2) 4 [125]=true
     ·have:=xZ1m (by decide) (xZ1j g2).1
      rw [if_pos g2] at h;cases h;exact .inr ⟨by simp,by omega,by omega⟩
     ·rw [if_neg g2] at h
      cases hm:numS y (i+1+2) with
      | none=>rw [hm] at h;cases h
      | some b=>
        rw [hm] at h
        simp only at h
        by_cases g3:isT' y (i+1+3) 4 [125]=true
        ·have:=xZ1m (by decide) (xZ1j g3).1
         rw [if_pos g3] at h;cases h;exact .inr ⟨by simp,by omega,by omega⟩
        ·rw [if_neg g3] at h;cases h
    ·rw [if_neg g1] at h
     by_cases g3:isT' y (i+1+1) 4 [125]=true
     ·have:=xZ1m (by decide) (xZ1j g3).1
      rw [if_pos g3] at h;cases h;exact .inr ⟨by simp,by omega,by omega⟩
     ·rw [if_neg g3] at h;cases h
 ·rw [if_neg h4] at h;cases h;exact .inl ⟨rfl,rfl⟩
theorem xZkR {c i j k:Nat} {l:List xZ1} (hj:i < j) (hjl:j≤y.length) (hk:j≤k) (hkl:k≤y.length) (hl:∃ n r,l=n::r∧l.length+c≤2 * (j - i)+1∧0≤n.Kids∧n.Kids+(c:Int)≤2 * ((j:Int) - i)+1) (hc:c+2≤2+2 * (k - j)+c) (h2:2≤c+2 * (k - j)):okG y 2 i (oftR l (oftS y e k)):=by
 obtain ⟨n,r,rfl,q1,q2,q3⟩:=hl
 cases h:oftS y e k with
 | inl x=>trivial
 | inr p=>
   obtain ⟨o,m⟩:=p
   rcases xZnT h with ⟨rfl,rfl⟩ | ⟨ho,h3,h4⟩
   ·exact ⟨by omega,by omega,n,r,rfl,by omega,q2,by omega⟩
   ·cases o with
    | none=>exact absurd rfl ho
    | some ab=>exact ⟨by omega,by omega,_,_,rfl,by simp only [List.length_cons] at q1 ⊢;omega,by show (0:Int)≤1;omega,by show (1:Int)+_≤_;omega⟩
theorem xZoh {b:Int→Nat→RG} {d:Int} {i:Nat} (hy:y.length≤700) (hb:¬ 16≤d→i < y.length→okG y 0 (i+1) (b (d+1) (i+1))):okG y 2 i (itS y e b d i):=by
 unfold itS
 by_cases h1:isT' y i 4 [33]=true
 ·rw [if_pos h1]
  have:=xZgl (e:=e) (k:=5) (i:=i+1) hy
  cases h:atomS y e 5 (i+1) with
  | inl x=>trivial
  | inr p=>rw [h] at this;obtain ⟨a1,a2,n,r,a3,a4,a5,a6⟩:=this;exact ⟨by omega,a2,n,r,a3,by omega,a5,by omega⟩
 rw [if_neg h1]
 by_cases h2:isT' y i 4 [40]=true
 ·have hl:=xZ1m (by decide) (xZ1j h2).1
  rw [if_pos h2]
  by_cases hd:16≤d
  ·rw [if_pos hd];trivial
  rw [if_neg hd]
  have:=hb hd hl
  cases h:b (d+1) (i+1) with
  | inl x=>trivial
  | inr p=>
    obtain ⟨l,j⟩:=p
    rw [h] at this
    obtain ⟨a1,a2,n,r,a3,a4,a5,a6⟩:=this
    by_cases h3:isT' y j 4 [41]=true
    ·have hj:=xZ1m (by decide) (xZ1j h3).1
     simp only [if_pos h3]
     have:=xZkR (y:=y) (e:=e) (c:=0) (i:=i+1) (j:=j) (k:=j+1) (l:=l) a1 a2 (by omega) (by omega) ⟨n,r,a3,a4,a5,a6⟩ (by omega) (by omega)
     cases hq:oftR l (oftS y e (j+1)) with
     | inl x=>trivial
     | inr p=>rw [hq] at this;obtain ⟨a1,a2,n,r,a3,a4,a5,a6⟩:=this;exact ⟨by omega,a2,n,r,a3,by omega,a5,by omega⟩
    ·simp only [if_neg h3];trivial
 ·rw [if_neg h2]
  have:=xZgl (e:=e) (k:=4) (i:=i) hy
  cases h:atomS y e 4 i with
  | inl x=>trivial
  | inr p=>
    obtain ⟨l,j⟩:=p
    rw [h] at this
    obtain ⟨a1,a2,a3⟩:=this
    exact xZkR a1 a2 (Nat.le_refl _) a2 a3 (by omega) (by omega)
def okL1 (c i j:Nat) (s:Int×List xZ1):Prop:=s.2.length+1+c≤2 * (j - i)+1∧0≤s.1∧s.1+(c:Int)≤2 * ((j:Int) - i)+1
theorem xZkU {c i j m:Nat} {k:Int} {s:Int×List xZ1} {n:xZ1} {r:List xZ1} (hs:okL1 c i j s) (hij:i < j) (hj:j+1 < m) (h1:(n::r).length+(c+1)≤2 * (m - (j+1))+1) (h2:0≤n.Kids) (h3:n.Kids+((c+1:Nat):Int)≤2 * ((m:Int) - ((j+1:Nat):Int))+1):okL1 c i m (addG k s (n::r)):=by
 obtain ⟨a1,a2,a3⟩:=hs
 simp only [List.length_cons] at h1
 by_cases hk:n.Kind=k
 ·simp only [addG,if_pos hk,okL1,List.length_append];exact ⟨by omega,by omega,by omega⟩
 ·simp only [addG,if_neg hk,okL1,List.length_append,List.length_cons];exact ⟨by omega,by omega,by omega⟩
theorem xZjk {c i j:Nat} {k:Int} {n:xZ1} {r:List xZ1} (hc:c≤1) (hij:i < j) (h1:(n::r).length+(c+1)≤2 * (j - i)+1) (h2:0≤n.Kids) (h3:n.Kids+((c+1:Nat):Int)≤2 * ((j:Int) - (i:Int))+1):okL1 c i j (addG k (0,[]) (n::r)):=by
 simp only [List.length_cons] at h1
 by_cases hk:n.Kind=k
 ·simp only [addG,if_pos hk,okL1,List.nil_append];exact ⟨by omega,by omega,by omega⟩
 ·simp only [addG,if_neg hk,okL1,List.nil_append,List.length_cons];exact ⟨by omega,by omega,by omega⟩
theorem xZnN {k:Int} {sep:List UInt8} {f:Nat→RG} {c i:Nat} (hf:∀ j,j≤y.length→okG y (c+1) j (f j)):∀ (n:Nat) (s:Int×List xZ1) (j:Nat),i < j→j≤y.length→okL1 c i j s→okG y c i (lpS y k sep f n s j)
 | 0,s,j,h1,h2,h3=>⟨h1,h2,_,_,rfl,by simp only [hdN,List.length_cons];exact h3.1,h3.2⟩
 | n+1,s,j,h1,h2,h3=>by
   unfold lpS
   by_cases hs:isT' y j 4 sep=true
   ·have hj:=xZ1m (by decide) (xZ1j hs).1
    rw [if_pos hs]
    have:=hf (j+1) (by omega)
    cases h:f (j+1) with
    | inl x=>trivial
    | inr p=>
      obtain ⟨l,m⟩:=p
      rw [h] at this
      obtain ⟨a1,a2,n',r,rfl,a4,a5,a6⟩:=this
      exact xZnN hf n _ m (by omega) a2 (xZkU h3 h1 (by omega) a4 a5 a6)
   ·rw [if_neg hs]
    exact ⟨h1,h2,_,_,rfl,by simp only [hdN,List.length_cons];exact h3.1,h3.2⟩
theorem xZmu {k:Int} {sep:List UInt8} {f:Nat→RG} {c i:Nat} (hc:c≤1) (hf:∀ j,j≤y.length→okG y (c+1) j (f j)) (hi:i≤y.length):okG y c i (lsS y k sep f i):=by
 have:=hf i hi
 unfold lsS
 cases h:f i with
 | inl x=>trivial
 | inr p=>
   obtain ⟨l,j⟩:=p
   rw [h] at this
   obtain ⟨a1,a2,n,r,rfl,a4,a5,a6⟩:=this
   by_cases hs:isT' y j 4 sep=true
   ·simp only [if_pos hs]
    exact xZnN hf _ _ j a1 a2 (xZjk hc a1 a4 a5 a6)
   ·simp only [if_neg hs]
    exact ⟨a1,a2,n,r,rfl,by omega,a5,by omega⟩
theorem SB_ok (hy:y.length≤700):∀ (n:Nat) (d:Int) (i:Nat),0≤d→d≤16→17 - d≤n→i≤y.length→okG y 0 i (SB y e n d i)
 | 0,d,i,h1,h2,h3,h4=>by omega
 | n+1,d,i,h1,h2,h3,h4=>
   xZmu (by omega) (fun j hj=>xZmu (Nat.le_refl _) (fun m hm=>xZoh hy fun hd hl=>SB_ok hy n (d+1) (m+1) (by omega) (by omega) (by omega) hl) hj) h4
end
end
theorem xZj6 {y:List xZ0} {k:Int} {sep:List UInt8} {f:Nat→RG} {s:Int×List xZ1} {j:Nat} (h:¬ isT' y j 4 sep=true):∀ n,lpS y k sep f n s j=.inr (hdN k s,j)
 | 0=>rfl
 | n+1=>by rw [lpS,if_neg h]
theorem xZnu {y:List xZ0} {e:Int} (hy:y.length≤700) {k:Int} {sep:List UInt8} {f:Nat→RG} {g:Nat→List xZ0→Int→Int→Option RGp}
 {F0:Nat→(List xZ0→Int→Int→Int→List xZ1→Option RGp)→List xZ0→Int→Int→Int→List xZ1→Option RGp} {c:Nat} (hc:c≤1)
 (hg:∀ j:Nat,j≤y.length→okG y (c+1) j (f j)∧W (fun N=>g N y j e) (EN y e (f j)))
 (hF:∀ N nx y4 y5 y6 y7 ys,F0 N nx y4 y5 y6 y7 ys=(xZa N 4 sep y4 y5 y6).bind fun eat=>bif eat.1 then (g N eat.2.1 eat.2.2.1 eat.2.2.2).bind fun x=>Sum.elim (fun b=>(xZh N b.1 y7 ys).bind fun l2=>nx b.2.1 b.2.2.1 b.2.2.2 l2.1 l2.2) (fun b=>some (Sum.inr (b.1,b.2.1,b.2.2.1,b.2.2.2.1,b.2.2.2.2))) x else some (Sum.inl (ys,eat.2.1,eat.2.2.1,eat.2.2.2)))
 {i:Nat} (hi:i≤y.length):
 W (fun N=>(g N y i e).bind fun x=>Sum.elim (fun item=>(xZq N 4 sep item.2.1 item.2.2.1 item.2.2.2).bind fun peek=>bif (!peek.1) then some (Sum.inl (item.1,peek.2.1,peek.2.2.1,peek.2.2.2)) else (xZh N item.1 k [(xZ1.mk k 0 0 0 [] [] [])]).bind fun l=>lp5 (F0 N) N peek.2.1 peek.2.2.1 peek.2.2.2 l.1 l.2) (fun b=>some (Sum.inr (b.1,b.2.1,b.2.2.1,b.2.2.2.1,b.2.2.2.2))) x) (EN y e (lsS y k sep f i)):=by
 obtain ⟨ok,hw⟩:=hg i hi
 refine W.bind hw fun r hr=>?_
 unfold lsS
 cases h:f i with
 | inl x=>
   obtain ⟨a,b⟩:=x
   rw [h] at hr
   obtain ⟨j,rfl⟩:=hr
   simp only [Sum.elim_inr,W.ret]
   exact ⟨_,rfl⟩
 | inr p=>
   obtain ⟨l,j⟩:=p
   rw [h] at hr ok
   obtain ⟨a1,a2,n,r',rfl,a4,a5,a6⟩:=ok
   have hr:r=.inl (n::r',y,(j:Int),e):=hr
   subst hr
   simp only [Sum.elim_inl,xZej (show (4:Int)≠0 by decide),Option.bind_some]
   by_cases hs:isT' y j 4 sep=true
   ·have hj:=xZ1m (by decide) (xZ1j hs).1
    have l1:∀ N,xZh N (n::r') k [(xZ1.mk k 0 0 0 [] [] [])]=some (k,hdN k (addG k (0,[]) (n::r'))):=fun N=>l1_eq (s:=(0,[])) (by simp) (by omega) (by simp) (by simp only [List.length_cons] at a4;omega)
    simp only [hs,Bool.not_true,cond_false,if_true,l1,Option.bind_some]
    have hok:=xZjk (k:=k) hc a1 a4 a5 a6
    refine W.lp5 (P:=fun v0 v1 v2 v3 v4=>v0=y∧v2=e∧v3=k∧∃ (m j':Nat) (s:Int×List xZ1),v1=(j':Int)∧v4=hdN k s∧i < j'∧j'≤y.length∧y.length - j'≤m∧okL1 c i j' s∧lpS y k sep f m s j'=lpS y k sep f (y.length - j) (addG k (0,[]) (n::r')) j) (m:=fun _ v1 _ _ _=>y.length - v1.toNat)
     ⟨rfl,rfl,rfl,_,j,_,rfl,rfl,a1,a2,Nat.le_refl _,hok,rfl⟩ ?_
    rintro F v0 v1 v2 v3 v4 ⟨rfl,rfl,rfl,m,j',s,rfl,rfl,b1,b2,b3,b4,b5⟩ hn
    simp only [hF,xZ85 (show (4:Int)≠0 by decide) _ (show j'≤1000000 by omega),Option.bind_some]
    rw [← b5]
    by_cases ht:isT' v0 j' 4 sep=true
    ·have hj':=xZ1m (by decide) (xZ1j ht).1
     simp only [if_pos ht,cond_true]
     obtain ⟨m,rfl⟩:∃ q,m=q+1:=⟨m - 1,by omega⟩
     obtain ⟨ok2,hw2⟩:=hg (j'+1) (by omega)
     refine W.bind (W.lift hw2) fun r2 hr2=>?_
     rw [lpS,if_pos ht]
     cases h2:f (j'+1) with
     | inl x=>
       obtain ⟨a,b⟩:=x
       rw [h2] at hr2
       obtain ⟨q,rfl⟩:=hr2
       simp only [Sum.elim_inr,W.ret]
       exact ⟨_,rfl⟩
     | inr p=>
       obtain ⟨l2,j2⟩:=p
       rw [h2] at hr2 ok2
       obtain ⟨d1,d2,n2,r2',rfl,d4,d5,d6⟩:=ok2
       have hr2:r2=.inl (n2::r2',v0,(j2:Int),v2):=hr2
       subst hr2
       obtain ⟨o1,o2,o3⟩:=b4
       have l2:∀ N,xZh N (n2::r2') v3 (hdN v3 s)=some (v3,hdN v3 (addG v3 s (n2::r2'))):=fun N=>l1_eq (by omega) (by omega) (by omega) (by simp only [List.length_cons] at d4;omega)
       simp only [Sum.elim_inl,l2,Option.bind_some]
       have e1:lpS v0 v3 sep f m (addG v3 s (n2::r2')) j2=lpS v0 v3 sep f (v0.length - j) (addG v3 (0,[]) (n::r')) j:=by
        rw [← b5]
        show _=lpS v0 v3 sep f (m+1) s j'
        rw [lpS,if_pos ht,h2]
       show W _ (EN v0 v2 (lpS v0 v3 sep f m (addG v3 s (n2::r2')) j2))
       rw [e1]
       exact hn _ _ _ _ _ ⟨rfl,rfl,rfl,m,j2,_,rfl,rfl,by omega,d2,by omega,xZkU (k:=v3) ⟨o1,o2,o3⟩ b1 (by omega) d4 d5 d6,e1⟩ (by simp only [Int.toNat_natCast];omega)
    ·have ht':isT' v0 j' 4 sep=false:=by simpa using ht
     simp only [ht',Bool.false_eq_true,if_false,cond_false,W.ret,xZj6 ht]
     rfl
   ·have hs':isT' y j 4 sep=false:=by simpa using hs
    simp only [hs',Bool.not_false,cond_true,W.ret,Bool.false_eq_true,if_false]
    rfl
theorem xZri {y:List xZ0} {e:Int} (hy:y.length≤700) {b:Int→Nat→RG} {d:Int} {i:Nat} (h0:0≤d) (h16:d≤16) (hi:i≤y.length)
 (hb:d < 16→∀ j:Nat,j≤y.length→okG y 0 j (b (d+1) j)∧W (fun N=>(xZ7 N).1 (d+1) y j e) (EN y e (b (d+1) j))):
 W (fun N=>xZ35 N (xZ7 N) d y i e) (EN y e (itS y e b d i)):=by
 simp only [xZ35,xZ85 (y:=y) (i:=i) (e:=e) (show (4:Int)≠0 by decide) _ (show i≤1000000 by omega),Option.bind_some]
 unfold itS
 by_cases h1:isT' y i 4 [33]=true
 ·have l1:=xZ1m (by decide) (xZ1j h1).1
  simp only [if_pos h1,cond_true]
  refine W.call (xZol (k:=5) (i:=i+1) hy l1) fun r hr=>?_
  cases h:atomS y e 5 (i+1) with
  | inl x=>obtain ⟨a,b⟩:=x;rw [h] at hr;obtain ⟨j,rfl⟩:=hr;simp only [Sum.elim_inr,W.ret];exact ⟨_,rfl⟩
  | inr x=>obtain ⟨l,j⟩:=x;rw [h] at hr;have hr:r=.inl (l,y,(j:Int),e):=hr;subst hr;simp only [Sum.elim_inl,W.ret];rfl
 have h1':isT' y i 4 [33]=false:=by simpa using h1
 simp only [h1',Bool.false_eq_true,if_false,cond_false,xZej (y:=y) (i:=i) (e:=e) (show (4:Int)≠0 by decide),Option.bind_some]
 by_cases h2:isT' y i 4 [40]=true
 ·have l2:=xZ1m (by decide) (xZ1j h2).1
  simp only [h2,Bool.not_true,cond_false,if_true]
  by_cases hd:16≤d
  ·simp only [show leB 16 d=true from xZ1e.2 hd,cond_true,if_pos hd,xZax (y:=y) (i:=i) (e:=e) (show (15:Int)≠0 by decide),Option.bind_some,Sum.elim_inr,W.ret]
   exact ⟨_,rfl⟩
  ·have hd':leB 16 d=false:=by rw [xZ9s];simpa using hd
   simp only [hd',cond_false,if_neg hd,W.gd,xZT]
   refine ⟨by omega,by omega,?_⟩
   obtain ⟨ok,hw⟩:=hb (by omega) (i+1) l2
   have hw:W (fun N=>(xZ7 N).1 (d+1) y ((i:Int)+1) e) (EN y e (b (d+1) (i+1))):=by
    have e1:((i+1:Nat):Int)=(i:Int)+1:=by omega
    rwa [e1] at hw
   refine W.bind hw fun r hr=>?_
   cases h:b (d+1) (i+1) with
   | inl x=>obtain ⟨a,b⟩:=x;rw [h] at hr;obtain ⟨j,rfl⟩:=hr;simp only [Sum.elim_inr,W.ret];exact ⟨_,rfl⟩
   | inr x=>
     obtain ⟨l,j⟩:=x
     rw [h] at hr ok
     obtain ⟨a1,a2,n,r',rfl,a4,a5,a6⟩:=ok
     have hr:r=.inl (n::r',y,(j:Int),e):=hr
     subst hr
     simp only [Sum.elim_inl,xZ9z (y:=y) (i:=j) (e:=e) (show (4:Int)≠0 by decide) _ (show j≤1000000 by omega),Option.bind_some]
     by_cases h3:isT' y j 4 [41]=true
     ·simp only [if_pos h3,Sum.elim_inl]
      refine W.call (xZlO (y:=y) (e:=e) (i:=j+1) (part:=n::r') (by omega) (by omega)) fun r2 hr2=>?_
      cases hq:oftR (n::r') (oftS y e (j+1)) with
      | inl x=>obtain ⟨a,b⟩:=x;rw [hq] at hr2;obtain ⟨q,rfl⟩:=hr2;simp only [Sum.elim_inr,W.ret];exact ⟨_,rfl⟩
      | inr x=>obtain ⟨l,q⟩:=x;rw [hq] at hr2;have hr2:r2=.inl (l,y,(q:Int),e):=hr2;subst hr2;simp only [Sum.elim_inl,W.ret];rfl
     ·simp only [if_neg h3,Sum.elim_inr,W.ret];exact ⟨_,rfl⟩
 ·have h2':isT' y i 4 [40]=false:=by simpa using h2
  simp only [h2',Bool.not_false,cond_true,Bool.false_eq_true,if_false]
  have ok:=xZgl (e:=e) (k:=4) (i:=i) hy
  refine W.call (xZol (k:=4) (i:=i) hy hi) fun r hr=>?_
  cases h:atomS y e 4 i with
  | inl x=>obtain ⟨a,b⟩:=x;rw [h] at hr;obtain ⟨j,rfl⟩:=hr;simp only [Sum.elim_inr,W.ret];exact ⟨_,rfl⟩
  | inr x=>
    obtain ⟨l,j⟩:=x
    rw [h] at hr ok
    obtain ⟨a1,a2,n,r',rfl,a4,a5,a6⟩:=ok
    have hr:r=.inl (n::r',y,(j:Int),e):=hr
    subst hr
    simp only [Sum.elim_inl]
    refine W.call (xZlO (y:=y) (e:=e) (i:=j) (part:=n::r') (by omega) (by omega)) fun r2 hr2=>?_
    cases hq:oftR (n::r') (oftS y e j) with
    | inl x=>obtain ⟨a,b⟩:=x;rw [hq] at hr2;obtain ⟨q,rfl⟩:=hr2;simp only [Sum.elim_inr,W.ret];exact ⟨_,rfl⟩
    | inr x=>obtain ⟨l,q⟩:=x;rw [hq] at hr2;have hr2:r2=.inl (l,y,(q:Int),e):=hr2;subst hr2;simp only [Sum.elim_inl,W.ret];rfl
theorem xZnS {f:Nat→Option RGp} {Q:RGp→Prop} (h:W f Q):W (fun N=>(f N).bind fun x=>Sum.elim (fun list=>some (Sum.inl (list.1,list.2.1,list.2.2.1,list.2.2.2))) (fun list2=>some (Sum.inr (list2.1,list2.2.1,list2.2.2.1,list2.2.2.2.1,list2.2.2.2.2))) x) Q:=
 W.bind h fun r hr=>by
  cases r<;>simp only [Sum.elim_inl,Sum.elim_inr,W.ret]<;>exact hr
theorem g_all {y:List xZ0} {e:Int} (hy:y.length≤700):∀ (n:Nat) (d:Int) (i:Nat),0≤d→d≤16→17 - d≤n→i≤y.length→
 W (fun N=>(xZ7 N).1 d y i e) (EN y e (SB y e n d i))
 | 0,d,i,h1,h2,h3,h4=>by omega
 | n+1,d,i,h1,h2,h3,h4=>by
   have hit:=fun (j:Nat) (hj:j≤y.length)=>And.intro (xZoh (y:=y) (e:=e) (b:=SB y e n) (d:=d) (i:=j) hy fun hd hl=>SB_ok hy n (d+1) (j+1) (by omega) (by omega) (by omega) hl)
    (W.shift (f:=fun N=>(xZ7 N).2.2.2.2 d y j e) (xZri hy (b:=SB y e n) h1 h2 hj fun hd m hm=>⟨SB_ok hy n (d+1) m (by omega) (by omega) (by omega) hm,g_all hy n (d+1) m (by omega) (by omega) (by omega) hm⟩))
   have hl1:=fun (j:Nat) (hj:j≤y.length)=>W.shift (f:=fun N=>(xZ7 N).2.2.2.1 1 [59] d y j e) (xZnu hy (k:=1) (sep:=[59]) (g:=fun N y' i' e'=>(xZ7 N).2.2.2.2 d y' i' e') (F0:=fun N=>xZ2q N (xZ7 N) [59] d) (Nat.le_refl _) hit (fun N nx y4 y5 y6 y7 ys=>rfl) hj)
   have hbr:=fun (j:Nat) (hj:j≤y.length)=>And.intro (xZmu (k:=1) (sep:=[59]) (c:=1) (Nat.le_refl _) (fun m hm=>(hit m hm).1) hj) (W.shift (f:=fun N=>(xZ7 N).2.2.1 d y j e) (xZnS (hl1 j hj)))
   have hl2:=W.shift (f:=fun N=>(xZ7 N).2.1 2 [124] d y i e) (xZnu hy (k:=2) (sep:=[124]) (g:=fun N y' i' e'=>(xZ7 N).2.2.1 d y' i' e') (F0:=fun N=>xZ2o N (xZ7 N) [124] d) (c:=0) (Nat.zero_le _) hbr (fun N nx y4 y5 y6 y7 ys=>rfl) h4)
   exact W.shift (f:=fun N=>(xZ7 N).1 d y i e) (xZnS hl2)
theorem xZje {α:Type} {p:α→Bool} {d:α} {b:List α} (hd:p d=false):∀ l:List α,(l++d::b).takeWhile p=l.takeWhile p
 | []=>by simp [List.takeWhile_cons,hd]
 | x::l=>by
   simp only [List.cons_append,List.takeWhile_cons]
   rw [xZje hd l]
theorem hexv_none' {l:List UInt8} {k:Nat} {e:UInt8} (h:l[k]?=some e) (he:hx e=none):∀ U,hexv U l=none:=by
 induction l generalizing k with
 | nil=>simp at h
 | cons c t ih=>
   intro U
   rw [hexv]
   cases hc:hx c with
   | none=>rfl
   | some d=>
     cases k with
     | zero=>simp only [List.getElem?_cons_zero,Option.some.injEq] at h;subst h;rw [he] at hc;cases hc
     | succ k=>exact ih (by simpa using h) _
structure Dl (d:UInt8):Prop where
 T:isT d=false
 D:isD d=false
 H:hx d=none
 e61:d≠61
 e39:d≠39
theorem dl32:Dl 32:=⟨by decide,by decide,by decide,by decide,by decide⟩
theorem xZl6 {d:UInt8} (hd:Dl d) (t b:List UInt8):dblR (t++d::b)=dblR t:=by
 by_cases h:t.length < 16
 ·have h1:dblR t=.inr (4,0):=by rw [dblR,if_pos h]
  rw [h1,dblR]
  split
  ·rfl
  ·have:hexv 0 ((t++d::b).take 16)=none:=hexv_none' (k:=t.length) (e:=d) (by rw [List.getElem?_take,if_pos h];simp) hd.H 0
   rw [this]
 ·have e:(t++d::b).take 16=t.take 16:=by rw [List.take_append_of_le_length (by omega)]
  rw [dblR,dblR,if_neg h,if_neg (by simp;omega),e]
theorem xZiu {d:UInt8} (hd:Dl d) (c:UInt8) (t b:List UInt8):signR c (t++d::b)=signR c t:=by
 cases t with
 | nil=>
   have:¬ d=61:=hd.e61
   simp [signR,this]
 | cons x t=>rfl
theorem xZgx {d:UInt8} (hd:Dl d) (b:List UInt8):∀ (n:Nat) (t:List UInt8),t.length≤n→∀ (off:Nat) (acc:List UInt8),
 (∀ x,quoR t off acc=.inl x→quoR (t++d::b) off acc=.inl x)∧
 (∀ e o,quoR t off acc=.inr (e,o)→e≠3→quoR (t++d::b) off acc=.inr (e,o))∧
 (∀ o,quoR t off acc=.inr (3,o)→d.toNat < 32→quoR (t++d::b) off acc=.inr (10,off+t.length))
 | n,[],_,off,acc=>by
   refine ⟨fun x h=>?_,fun e o h he=>?_,fun o h h32=>?_⟩
   ·rw [xZ7Q] at h;cases h
   ·rw [xZ7Q] at h;cases h;exact absurd rfl he
   ·rw [List.nil_append,xZ2k,if_pos (.inl h32)];rfl
 | 0,c::t,hn,_,_=>by simp at hn
 | n+1,c::t,hn,off,acc=>by
   simp only [List.length_cons,Nat.add_le_add_iff_right] at hn
   rw [List.cons_append,xZ2k,xZ2k]
   by_cases h1:c.toNat < 32∨126 < c.toNat
   ·rw [if_pos h1,if_pos h1]
    exact ⟨fun x h=>(by cases h),fun e o h _=>h,fun o h=>by cases h⟩
   rw [if_neg h1,if_neg h1]
   by_cases h2:c=92
   ·rw [if_pos h2,if_pos h2]
    match t,hn with
    | [],_=>
      cases b with
      | nil=>exact ⟨fun x h=>(by cases h),fun e o h _=>h,fun o h=>by cases h⟩
      | cons y b=>
        simp only [List.nil_append,hd.H]
        exact ⟨fun x h=>(by cases h),fun e o h _=>h,fun o h=>by cases h⟩
    | [x],_=>
      simp only [List.cons_append,List.nil_append,hd.H]
      cases hx x<;>exact ⟨fun x h=>(by cases h),fun e o h _=>h,fun o h=>by cases h⟩
    | x::y::t,hn=>
      simp only [List.cons_append]
      cases hx x with
      | none=>exact ⟨fun x h=>(by cases h),fun e o h _=>h,fun o h=>by cases h⟩
      | some h=>
        cases hx y with
        | none=>exact ⟨fun x h=>(by cases h),fun e o h _=>h,fun o h=>by cases h⟩
        | some l=>
          obtain ⟨q1,q2,q3⟩:=xZgx hd b n t (by simp at hn;omega) (off+3) (acc++[UInt8.ofNat (16 * h+l)])
          dsimp only
          refine ⟨q1,q2,fun o h h32=>?_⟩
          rw [q3 o h h32]
          simp only [List.length_cons];congr 2;omega
   rw [if_neg h2,if_neg h2]
   by_cases h3:c=39
   ·rw [if_pos h3,if_pos h3]
    cases t with
    | nil=>
      simp only [List.nil_append]
      rw [if_neg hd.e39]
      split
      ·exact ⟨fun x h=>(by cases h),fun e o h _=>h,fun o h=>by cases h⟩
      ·exact ⟨fun x h=>h,fun e o h _=>(by cases h),fun o h=>by cases h⟩
    | cons x t=>
      simp only [List.cons_append]
      by_cases h4:x=39
      ·rw [if_pos h4,if_pos h4]
       obtain ⟨q1,q2,q3⟩:=xZgx hd b n t (by simp at hn;omega) (off+2) (acc++[39])
       refine ⟨q1,q2,fun o h h32=>?_⟩
       rw [q3 o h h32]
       simp only [List.length_cons];congr 2;omega
      ·rw [if_neg h4,if_neg h4]
       split
       ·exact ⟨fun x h=>(by cases h),fun e o h _=>h,fun o h=>by cases h⟩
       ·exact ⟨fun x h=>h,fun e o h _=>(by cases h),fun o h=>by cases h⟩
   rw [if_neg h3,if_neg h3]
   obtain ⟨q1,q2,q3⟩:=xZgx hd b n t hn (off+1) (acc++[c])
   refine ⟨q1,q2,fun o h h32=>?_⟩
   rw [q3 o h h32]
   simp only [List.length_cons];congr 2;omega
theorem xZrc {w:List UInt8} {e:Int} {o:Nat} (h:numR w=.inr (e,o)):e≠3:=by
 unfold numR at h
 repeat' split at h
 all_goals first | (cases h;decide) | cases h
theorem xZph {w:List UInt8} {e:Int} {o:Nat} (h:wordR w=.inr (e,o)):e≠3:=by
 unfold wordR at h
 repeat' split at h
 all_goals first | (cases h;decide) | cases h
theorem xZqv {w:List UInt8} {e:Int} {o:Nat} (h:dblR w=.inr (e,o)):e≠3:=by
 unfold dblR at h
 repeat' split at h
 all_goals first | (cases h;decide) | cases h
theorem xZnI {d:UInt8} (hd:Dl d) (b:List UInt8) (c:UInt8) (t:List UInt8):
 (∀ x,oneR (c::t)=.inl x→oneR (c::t++d::b)=.inl x)∧
 (∀ e o,oneR (c::t)=.inr (e,o)→e≠3→oneR (c::t++d::b)=.inr (e,o))∧
 (∀ o,oneR (c::t)=.inr (3,o)→d.toNat < 32→oneR (c::t++d::b)=.inr (10,t.length+1)):=by
 have e1:(c::(t++d::b)).takeWhile isT=(c::t).takeWhile isT:=xZje hd.T (c::t)
 have e2:(c::(t++d::b)).takeWhile isD=(c::t).takeWhile isD:=xZje hd.D (c::t)
 simp only [List.cons_append,oneR,e1,e2,xZl6 hd,xZiu hd]
 by_cases hS:isS c=true
 ·simp only [hS,if_true]
  exact ⟨fun x h=>h,fun e o h _=>h,fun o h=>absurd rfl (xZph h)⟩
 simp only [hS,Bool.false_eq_true,if_false]
 by_cases hD:isD c=true
 ·simp only [hD,if_true]
  exact ⟨fun x h=>h,fun e o h _=>h,fun o h=>absurd rfl (xZrc h)⟩
 simp only [hD,Bool.false_eq_true,if_false]
 by_cases h35:((c.toNat:Int)==35)=true
 ·simp only [h35,if_true]
  exact ⟨fun x h=>h,fun e o h _=>h,fun o h=>absurd rfl (xZqv h)⟩
 simp only [h35,Bool.false_eq_true,if_false]
 by_cases h39:((c.toNat:Int)==39)=true
 ·simp only [h39,if_true]
  obtain ⟨q1,q2,q3⟩:=xZgx hd b _ t (Nat.le_refl _) 1 []
  exact ⟨q1,q2,fun o h h32=>by rw [q3 o h h32,Nat.add_comm]⟩
 simp only [h39,Bool.false_eq_true,if_false]
 by_cases hG:isG c=true
 ·simp only [hG,if_true,xZcB]
  exact ⟨fun x h=>h,fun e o h _=>h,fun o h=>by cases h⟩
 simp only [hG,Bool.false_eq_true,if_false]
 exact ⟨fun x h=>(by cases h),fun e o h _=>h,fun o h=>by cases h⟩
theorem xZed {c:UInt8} {t:List UInt8} {k:Int} {x:List UInt8} {v:xZ4} {m:Nat} (ho:oneR (c::t)=.inl (k,x,v,m)):known c=true:=by
 cases hk:known c with
 | true=>rfl
 | false=>
   simp only [known,Bool.or_eq_false_iff] at hk
   simp only [oneR,hk.1.1.1.1,hk.1.1.1.2,hk.1.1.2,hk.1.2,hk.2,Bool.false_eq_true,if_false] at ho
   cases ho
theorem xZdn:∀ c:UInt8,blank c=true→known c=false:=xZge (by decide +kernel)
theorem xZjW:∀ (n:Nat) (t:List UInt8),t.length≤n→∀ {off:Nat} {b:List UInt8} {e:Int} {o:Nat},quoR t off b=.inr (e,o)→o≤off+t.length
 | n,[],_,off,b,e,o,h=>by rw [xZ7Q] at h;cases h;omega
 | 0,c::t,hn,_,_,_,_,_=>by simp at hn
 | n+1,c::t,hn,off,b,e,o,h=>by
   simp only [List.length_cons,Nat.add_le_add_iff_right] at hn
   rw [xZ2k] at h
   split at h
   ·cases h;omega
   ·split at h
    ·split at h
     ·split at h
      ·have:=xZjW n _ (by simp at hn;omega) h
       simp only [List.length_cons];omega
      ·cases h;omega
     ·cases h;omega
    ·split at h
     ·split at h
      ·split at h
       ·have:=xZjW n _ (by simp at hn;omega) h
        simp only [List.length_cons];omega
       ·split at h
        ·cases h;omega
        ·cases h
      ·split at h
       ·cases h;omega
       ·cases h
     ·have:=xZjW n _ hn h
      simp only [List.length_cons];omega
theorem xZpN {c:UInt8} {t:List UInt8} {e:Int} {o:Nat} (h:oneR (c::t)=.inr (e,o)):o≤t.length+1∧(e=3∨e≠3):=by
 refine ⟨?_,Classical.em _⟩
 simp only [oneR] at h
 split at h
 ·unfold wordR at h
  repeat' split at h
  all_goals first | (cases h;omega) | cases h
 ·split at h
  ·unfold numR at h
   repeat' split at h
   all_goals first | (cases h;omega) | cases h
  ·split at h
   ·unfold dblR at h
    repeat' split at h
    all_goals first | (cases h;omega) | cases h
   ·split at h
    ·have:=xZjW _ t (Nat.le_refl _) h
     omega
    ·split at h
     ·rw [xZcB] at h;cases h
     ·cases h;omega
theorem xZfH:∀ (n:Nat) (r:List UInt8),r.length≤n→∀ {p:Nat} {out:List xZ0} {e q:Int},scanR r p out=.inr (e,q)→(p:Int)≤q∧q≤((p+r.length:Nat):Int)
 | n,[],_,p,out,e,q,h=>by rw [xZ5g] at h;cases h
 | 0,c::t,hn,_,_,_,_,_=>by simp at hn
 | n+1,c::t,hn,p,out,e,q,h=>by
   simp only [List.length_cons,Nat.add_le_add_iff_right] at hn ⊢
   rw [xZ2Q] at h
   split at h
   ·have:=xZfH n t hn h
    omega
   ·split at h
    ·cases h;omega
    ·split at h
     ·rename_i ho
      have:=xZpN ho
      cases h;omega
     ·rename_i k x v m ho
      have hm:=xZkG ho
      have:=xZfH n _ (by rw [List.length_drop];omega) h
      rw [List.length_drop] at this
      omega
def Asc (hi:Nat):Nat→List xZ0→Prop
 | _,[]=>True
 | lo,t::l=>∃ a:Nat,t.At=(a:Int)∧lo≤a∧a < hi∧Asc hi (a+1) l
theorem Asc.le {hi:Nat}:∀ {l:List xZ0} {lo lo':Nat},lo'≤lo→Asc hi lo l→Asc hi lo' l
 | [],_,_,_,_=>trivial
 | t::l,lo,lo',h,⟨a,h1,h2,h3,h4⟩=>⟨a,h1,by omega,h3,h4⟩
theorem Asc.mem {hi:Nat}:∀ {l:List xZ0} {lo:Nat},Asc hi lo l→∀ t∈l,0≤t.At∧t.At < (hi:Int)
 | t::l,lo,⟨a,h1,h2,h3,h4⟩,x,hx=>by
   rcases List.mem_cons.1 hx with rfl | hx
   ·omega
   ·exact Asc.mem h4 x hx
theorem xZe7:∀ (n:Nat) (r:List UInt8),r.length≤n→∀ {p:Nat} {out l:List xZ0},out.length≤200→scanR r p out=.inl l→∃ l2,l=out++l2∧Asc (p+r.length) p l2∧l.length≤200
 | n,[],_,p,out,l,ho,h=>by rw [xZ5g] at h;cases h;exact ⟨[],by simp,trivial,ho⟩
 | 0,c::t,hn,_,_,_,_,_=>by simp at hn
 | n+1,c::t,hn,p,out,l,hl,h=>by
   simp only [List.length_cons,Nat.add_le_add_iff_right] at hn ⊢
   rw [xZ2Q] at h
   split at h
   ·obtain ⟨l2,h1,h2,h3⟩:=xZe7 n t hn hl h
    exact ⟨l2,h1,by rw [show p+(t.length+1)=p+1+t.length by omega];exact h2.le (by omega),h3⟩
   ·split at h
    ·cases h
    ·rename_i hf
     split at h
     ·cases h
     ·rename_i k x v m ho
      have hm:=xZkG ho
      rw [xZed ho] at hf
      simp only [Bool.true_and,decide_eq_true_eq] at hf
      obtain ⟨l2,h1,h2,h3⟩:=xZe7 n _ (by rw [List.length_drop];omega) (by simp;omega) h
      rw [List.length_drop] at h2
      refine ⟨⟨k,(p:Int),x,v⟩::l2,by rw [h1];simp,⟨p,rfl,Nat.le_refl _,by omega,?_⟩,h3⟩
      rw [show p+(t.length+1)=p+m+(t.length - (m - 1)) by omega]
      exact h2.le (by omega)
def sh (q:Nat) (t:xZ0):xZ0:=⟨t.Kind,t.At+(q:Int),t.Text,t.Val⟩
def shE (q:Nat) (x:List xZ0):List xZ0⊕(Int×Int)→List xZ0⊕(Int×Int)
 | .inl l=>.inl (x++l.map (sh q))
 | .inr (e,a)=>.inr (e,a+(q:Int))
theorem xZiI {d:Nat} (h:d < 16):hx (hexB d)=some d:=by
 have:∀ k:Fin 16,hx (hexB k.val)=some k.val:=by decide +kernel
 exact this ⟨d,h⟩
theorem xZlZ:∀ c:UInt8,isD c=true→isS c=false:=xZge (by decide +kernel)
theorem xZdF (m:Nat):(UInt8.ofNat (48+m % 10)).toNat=48+m % 10:=by simp;omega
theorem dig_D (m:Nat):isD (UInt8.ofNat (48+m % 10))=true:=xZlP.2 (by rw [xZdF];omega)
theorem dgF_D:∀ (f m:Nat),∀ c∈dgF f m,isD c=true
 | 0,m,c,h=>by simp [dgF] at h
 | f+1,m,c,h=>by
   simp only [dgF,List.mem_append,List.mem_singleton] at h
   rcases h with h | rfl
   ·split at h
    ·simp at h
    ·exact dgF_D f _ c h
   ·exact dig_D m
theorem xZkY:∀ (f m:Nat),(dgF f m).length≤f
 | 0,m=>by simp [dgF]
 | f+1,m=>by
   simp only [dgF,List.length_append,List.length_singleton]
   split
   ·simp
   ·have:=xZkY f (m / 10);omega
theorem xZj3:∀ (f m:Nat),1≤m→m < 10 ^ f→∃ c,(dgF f m).head?=some c∧c≠48
 | 0,m,h1,h2=>by simp at h2;omega
 | f+1,m,h1,h2=>by
   simp only [dgF]
   split
   ·refine ⟨UInt8.ofNat (48+m % 10),rfl,fun h=>?_⟩
    have:=xZdF m
    rw [h] at this
    simp at this;omega
   ·obtain ⟨c,h3,h4⟩:=xZj3 f (m / 10) (by omega) (by rw [Nat.pow_succ] at h2;omega)
    refine ⟨c,?_,h4⟩
    cases hd:dgF f (m / 10) with
    | nil=>rw [hd] at h3;cases h3
    | cons x l=>rw [hd] at h3;exact h3
theorem xZgU:∀ (l:List UInt8) (V:Nat) (c:UInt8),numv V (l++[c])=(numv V l).bind fun W=>if (4611686018427387904 - (c.toNat - 48)) / 10 < W then none else some (10 * W+(c.toNat - 48))
 | [],V,c=>by simp [numv]
 | x::l,V,c=>by
   simp only [List.cons_append,numv]
   split
   ·rfl
   ·exact xZgU l _ c
theorem xZkZ:∀ (f m:Nat),1≤f→m < 10 ^ f→m≤4611686018427387904→numv 0 (dgF f m)=some m
 | 0,m,h,_,_=>by omega
 | f+1,m,_,h2,h3=>by
   simp only [dgF]
   rw [xZgU,xZdF]
   split
   ·simp only [numv,Option.bind_some]
    rw [if_neg (by omega)];congr 1;omega
   ·have hf:1≤f:=by
     rcases Nat.eq_zero_or_pos f with h | h
     ·subst h;simp at h2;omega
     ·exact h
    rw [xZkZ f (m / 10) hf (by rw [Nat.pow_succ] at h2;omega) (by omega),Option.bind_some,if_neg (by omega)]
    congr 1;omega
theorem xZmr {α:Type} {p:α→Bool}:∀ {l:List α},(∀ c∈l,p c=true)→l.takeWhile p=l
 | [],_=>rfl
 | x::l,h=>by rw [List.takeWhile_cons,if_pos (h x (by simp)),xZmr fun c hc=>h c (by simp [hc])]
theorem big10:(4611686018427387904:Nat) < 10 ^ 20:=by decide
theorem xZqf (m:Nat) (hm:m≤4611686018427387904):oneR (dgF 20 m)=.inl (3,[],⟨1,(m:Int),0,[]⟩,(dgF 20 m).length):=by
 have hall:=dgF_D 20 m
 have hn:=xZkZ 20 m (by omega) (by have:=big10;omega) hm
 have hh:¬ (1 < (dgF 20 m).length∧(dgF 20 m).head?=some 48):=by
  rintro ⟨h1,h2⟩
  by_cases h0:m=0
  ·subst h0
   exact absurd h1 (by decide)
  ·obtain ⟨c,h3,h4⟩:=xZj3 20 m (by omega) (by have:=big10;omega)
   rw [h3] at h2;cases h2;exact h4 rfl
 cases hd:dgF 20 m with
 | nil=>rw [hd] at hn;simp only [dgF] at hd;simp at hd
 | cons c t=>
   rw [hd] at hall hn hh
   have hc:=hall c (by simp)
   simp only [oneR,xZlZ c hc,hc,Bool.false_eq_true,if_false,if_true]
   rw [xZmr hall,numR,if_neg hh,hn]
theorem hxS_len' (u:Nat):∀ k,(hxS k u).length=k
 | 0=>rfl
 | k+1=>by simp [hxS,hxS_len' u k]
theorem xZlx (u:Nat):∀ (k V:Nat),hexv V (hxS k u)=some (V * 16 ^ k+u % 16 ^ k)
 | 0,V=>by simp [hxS,hexv,Nat.mod_one]
 | k+1,V=>by
   rw [hxS,hexv,xZiI (Nat.mod_lt _ (by decide))]
   dsimp only
   rw [xZlx u k,Nat.pow_succ,Nat.mod_mul,Nat.add_mul,← Nat.mul_assoc,Nat.mul_comm (16 ^ k) (u / 16 ^ k % 16)]
   congr 1
   rw [Nat.mul_right_comm V,Nat.mul_comm 16 V,Nat.mul_right_comm V 16]
   omega
theorem xZnc (u:Nat) (hu:u < 18446744073709551616) (hc:cln (u:Int)=(u:Int)):oneR (bitS u)=.inl (3,[],⟨3,0,(u:Int),[]⟩,17):=by
 have e:oneR (bitS u)=dblR (hxS 16 u):=rfl
 have h16:=hxS_len' u 16
 have ht:(hxS 16 u).take 16=hxS 16 u:=List.take_of_length_le (by omega)
 have hv:=xZlx u 16 0
 rw [Nat.zero_mul,Nat.zero_add,Nat.mod_eq_of_lt (show u < 16 ^ 16 from hu)] at hv
 rw [e,dblR,if_neg (by omega),ht,hv]
 dsimp only
 rw [if_pos hc]
theorem xZlX (c:UInt8):UInt8.ofNat (16 * (c.toNat / 16)+c.toNat % 16)=c:=by
 rw [Nat.div_add_mod];simp
theorem xZkv:∀ (b:List UInt8) (off:Nat) (acc:List UInt8),acc.length+b.length≤24→quoR (b.flatMap txC++[39]) off acc=.inl (3,[],⟨4,0,0,acc++b⟩,off+(b.flatMap txC).length+1)
 | [],off,acc,h=>by
   rw [List.flatMap_nil,List.nil_append,xZ2k,if_neg (by decide),if_neg (by decide),if_pos rfl]
   dsimp only
   rw [if_neg (by simp at h;omega)]
   simp
 | c::b,off,acc,h=>by
   simp only [List.length_cons] at h
   rw [List.flatMap_cons,List.append_assoc]
   have hlt:∀ n:Nat,n < 256→(c < UInt8.ofNat n ↔ c.toNat < n):=fun n hn=>by rw [UInt8.lt_iff_toNat_lt];simp [Nat.mod_eq_of_lt hn]
   have hgt:(126 < c ↔ 126 < c.toNat):=by rw [UInt8.lt_iff_toNat_lt];rfl
   have h32:(c < 32 ↔ c.toNat < 32):=by rw [UInt8.lt_iff_toNat_lt];rfl
   by_cases h39:c=39
   ·subst h39
    have e:txC 39=[39,39]:=rfl
    rw [e]
    show quoR (39::39::(b.flatMap txC++[39])) off acc=_
    rw [xZ2k,if_neg (by decide),if_neg (by decide),if_pos rfl]
    dsimp only
    rw [if_pos rfl,xZkv b (off+2) (acc++[39]) (by simp;omega)]
    simp only [List.append_assoc,List.singleton_append,List.length_append,List.length_cons,List.length_nil]
    congr 4;omega
   ·by_cases hq:c < 32∨126 < c∨c=92
    ·have e:txC c=[92,hexB (c.toNat / 16),hexB (c.toNat % 16)]:=by rw [txC,if_neg h39,if_pos hq]
     have h256:c.toNat < 256:=c.toNat_lt
     rw [e]
     show quoR (92::hexB (c.toNat / 16)::hexB (c.toNat % 16)::(b.flatMap txC++[39])) off acc=_
     rw [xZ2k,if_neg (by decide),if_pos rfl]
     dsimp only
     rw [xZiI (by omega),xZiI (Nat.mod_lt _ (by decide))]
     dsimp only
     rw [xZlX,xZkv b (off+3) (acc++[c]) (by simp;omega)]
     simp only [List.append_assoc,List.singleton_append,List.length_append,List.length_cons,List.length_nil]
     congr 4;omega
    ·have e:txC c=[c]:=by rw [txC,if_neg h39,if_neg hq]
     simp only [not_or] at hq
     rw [e]
     show quoR (c::(b.flatMap txC++[39])) off acc=_
     rw [xZ2k,if_neg (by rw [h32,hgt] at hq;omega),if_neg hq.2.2,if_neg h39,xZkv b (off+1) (acc++[c]) (by simp;omega)]
     simp only [List.append_assoc,List.singleton_append,List.length_append,List.length_cons,List.length_nil]
     congr 4;omega
theorem xZlS (b:List UInt8) (h:b.length≤24):oneR (txS b)=.inl (3,[],⟨4,0,0,b⟩,(txS b).length):=by
 have e:oneR (txS b)=quoR (b.flatMap txC++[39]) 1 []:=rfl
 rw [e,xZkv b 1 [] (by simpa using h)]
 simp only [List.nil_append,txS,List.length_append,List.length_cons,List.length_nil]<;>(congr 4;omega)
def litS (v:xZ4):List UInt8:=if vchk v≠0 then [] else if v.Kind=1 then whS v.N else if v.Kind=2 then (if v.N=0 then [102,97,108,115,101] else [116,114,117,101]) else if v.Kind=3 then bitS v.Bits.toNat else txS v.Text
theorem xZeI {v:xZ4} (h:vchk v=0):(∃ n:Int,v=⟨1,n,0,[]⟩∧-4611686018427387904≤n∧n≤4611686018427387904)∨v=⟨2,0,0,[]⟩∨v=⟨2,1,0,[]⟩∨(∃ u:Int,v=⟨3,0,u,[]⟩∧cln u=u)∨∃ b:List UInt8,v=⟨4,0,0,b⟩∧b.length≤24:=by
 obtain ⟨k,n,u,b⟩:=v
 unfold vchk at h
 dsimp only at h
 split at h
 ·rename_i hk
  split at h
  ·cases h
  ·split at h
   ·rename_i h1 h2
    obtain ⟨rfl,rfl⟩:=h2
    subst hk
    exact .inl ⟨n,rfl,by omega,by omega⟩
   ·cases h
 ·split at h
  ·rename_i hk
   split at h
   ·cases h
   ·split at h
    ·rename_i h1 h2
     obtain ⟨rfl,rfl⟩:=h2
     subst hk
     rcases (show n=0∨n=1 by omega) with rfl | rfl
     ·exact .inr (.inl rfl)
     ·exact .inr (.inr (.inl rfl))
    ·cases h
  ·split at h
   ·rename_i hk
    split at h
    ·cases h
    ·split at h
     ·rename_i h1 h2
      obtain ⟨rfl,rfl⟩:=h2
      subst hk
      exact .inr (.inr (.inr (.inl ⟨u,rfl,by simpa using h1⟩)))
     ·cases h
   ·split at h
    ·rename_i hk
     split at h
     ·cases h
     ·split at h
      ·rename_i h1 h2
       obtain ⟨rfl,rfl⟩:=h2
       subst hk
       exact .inr (.inr (.inr (.inr ⟨b,rfl,by omega⟩)))
      ·cases h
    ·cases h
theorem xZlh {v:xZ4} (h:vchk v=0) (h0:0≤v.Bits) (h1:v.Bits < 18446744073709551616) (hn:¬ (v.Kind=1∧v.N < 0)):oneR (litS v)=.inl (3,[],v,(litS v).length):=by
 have e:∀ (a b:List UInt8),(if vchk v≠0 then a else b)=b:=fun a b=>if_neg (by simp [h])
 have hl:litS v=if v.Kind=1 then whS v.N else if v.Kind=2 then (if v.N=0 then [102,97,108,115,101] else [116,114,117,101]) else if v.Kind=3 then bitS v.Bits.toNat else txS v.Text:=e _ _
 rw [hl]
 rcases xZeI h with ⟨n,rfl,q1,q2⟩ | rfl | rfl | ⟨u,rfl,q1⟩ | ⟨b,rfl,q1⟩
 ·simp only [true_and,Int.not_lt] at hn
  obtain ⟨m,rfl⟩:=Int.eq_ofNat_of_zero_le hn
  have e2:whS (m:Int)=dgF 20 m:=by rw [whS,if_neg (by omega)];rfl
  simp only [if_true,e2]
  exact xZqf m (by omega)
 ·rfl
 ·rfl
 ·dsimp only at h0 h1
  obtain ⟨m,rfl⟩:=Int.eq_ofNat_of_zero_le h0
  exact xZnc m (by omega) q1
 ·exact xZlS b q1
theorem xZm2 (v:xZ4):(litS v).length≤100:=by
 unfold litS
 split
 ·simp
 ·rename_i h
  have h:vchk v=0:=by simpa using h
  have hd:∀ n:Int,(whS n).length≤21:=fun n=>by
   have:=xZkY 20 n.natAbs
   simp only [whS,List.length_append]
   split<;>simp<;>omega
  have ht:∀ b:List UInt8,(b.flatMap txC).length≤3 * b.length:=fun b=>by
   induction b with
   | nil=>simp
   | cons c b ih=>
     have:(txC c).length≤3:=by
      unfold txC
      split
      ·simp
      ·split<;>simp
     simp only [List.flatMap_cons,List.length_append,List.length_cons];omega
  rcases xZeI h with ⟨n,rfl,q1,q2⟩ | rfl | rfl | ⟨u,rfl,q1⟩ | ⟨b,rfl,q1⟩
  ·have:=hd n;simp;omega
  ·decide
  ·decide
  ·have:=hxS_len' u.toNat 16
   show (bitS u.toNat).length≤100
   simp [bitS];omega
  ·have:=ht b
   show (txS b).length≤100
   simp only [txS,List.length_append,List.length_cons,List.length_nil];omega
theorem xZgV (v:xZ4) (h0:0≤v.Bits) (h1:v.Bits < 18446744073709551616):W (fun N=>xZ4B N v) (·=litS v):=by
 simp only [xZ4B,xZbL,Option.bind_some,W.cond,W.ret]
 refine ⟨fun h=>by rw [litS,if_pos (by simpa using h)],fun h=>?_⟩
 have h:vchk v=0:=by simpa using h
 have e:∀ (a b:List UInt8),(if vchk v≠0 then a else b)=b:=fun a b=>if_neg (by simp [h])
 have hl:litS v=if v.Kind=1 then whS v.N else if v.Kind=2 then (if v.N=0 then [102,97,108,115,101] else [116,114,117,101]) else if v.Kind=3 then bitS v.Bits.toNat else txS v.Text:=e _ _
 rw [hl]
 rcases xZeI h with ⟨n,rfl,q1,q2⟩ | rfl | rfl | ⟨u,rfl,q1⟩ | ⟨b,rfl,q1⟩
 ·simp only [xZ8d,show leB (-4611686018427387904) n=true from xZ1e.2 q1,show leB n 4611686018427387904=true from xZ1e.2 q2,Bool.and_self,xZ1w,Option.bind_some]
  exact ⟨fun _=>W.ret.2 rfl,fun h=>absurd h (by decide)⟩
 ·exact ⟨fun h=>absurd h (by decide),fun _=>⟨fun _=>⟨fun _=>rfl,fun h=>absurd h (by decide)⟩,fun h=>absurd h (by decide)⟩⟩
 ·exact ⟨fun h=>absurd h (by decide),fun _=>⟨fun _=>⟨fun h=>absurd h (by decide),fun _=>rfl⟩,fun h=>absurd h (by decide)⟩⟩
 ·dsimp only at h0 h1
  simp only [xZ9G,show leB 0 u=true from xZ1e.2 h0,show ltB u 18446744073709551616=true from xZ18.2 h1,Bool.and_self,xZ1w,Option.bind_some]
  exact ⟨fun h=>absurd h (by decide),fun _=>⟨fun h=>absurd h (by decide),fun _=>⟨fun _=>W.ret.2 rfl,fun h=>absurd h (by decide)⟩⟩⟩
 ·simp only [xZ9K,show Nat.ble b.length 10000000000=true from Nat.ble_eq_true_of_le (by omega),xZ1w,Option.bind_some]
  exact ⟨fun h=>absurd h (by decide),fun _=>⟨fun h=>absurd h (by decide),fun _=>⟨fun h=>absurd h (by decide),fun _=>W.ret.2 rfl⟩⟩⟩
inductive TU where
 | own (n:List UInt8)
 | of (v n:List UInt8)
 | lit (v:xZ4)
inductive TS where
 | u (a:TU)
 | op (k:Bool) (s:TS) (a:TU)
inductive TT where
 | or (a b:TT)
 | and (a b:TT)
 | not (a:TT)
 | test (o:Int) (a b:TS)
def TU.nd:TU→xZ2
 | .own n=>⟨7,0,[],n,zv⟩
 | .of v n=>⟨8,0,v,n,zv⟩
 | .lit v=>⟨9,0,[],[],v⟩
def TS.fl:TS→List xZ2
 | .u a=>[a.nd]
 | .op k s a=>bn (if k then 6 else 5)::(s.fl++[a.nd])
def TT.fl:TT→List xZ2
 | .or a b=>bn 2::(a.fl++b.fl)
 | .and a b=>bn 1::(a.fl++b.fl)
 | .not a=>bn 3::a.fl
 | .test o a b=>⟨4,o,[],[],zv⟩::(a.fl++b.fl)
def TU.ok:TU→Prop
 | .own n=>nm n=true
 | .of v n=>nm v=true∧nm n=true
 | .lit v=>vchk v=0∧0≤v.Bits∧v.Bits < 18446744073709551616
def TS.ok:TS→Prop
 | .u a=>a.ok
 | .op _ s a=>s.ok∧a.ok
def TT.ok:TT→Prop
 | .or a b=>a.ok∧b.ok
 | .and a b=>a.ok∧b.ok
 | .not a=>a.ok
 | .test o a b=>1≤o∧o≤6∧a.ok∧b.ok
def TT.ht:TT→Nat
 | .or a b=>1+max a.ht b.ht
 | .and a b=>1+max a.ht b.ht
 | .not a=>1+a.ht
 | .test _ _ _=>1
theorem xZe1 {v:xZ4} (h:moreZ v=true):v=zv:=by
 obtain ⟨a,b,c,d⟩:=v
 simp only [moreZ,Bool.and_eq_true,beq_iff_eq] at h
 obtain ⟨rfl,rfl,rfl,rfl⟩:=h;rfl
theorem nds_0 {n:xZ2} (h:nds n=0):bad n=false∧moreB n=false:=by
 unfold nds at h
 cases h1:bad n<;>cases h2:moreB n<;>rw [h1,h2] at h<;>first | exact ⟨rfl,rfl⟩ | cases h
theorem xZj5 {n:xZ2} (h:nds n=0) (h4:n.Kind≠4) (h7:n.Kind≠7) (h8:n.Kind≠8) (h9:n.Kind≠9):n=bn n.Kind:=by
 obtain ⟨k,o,v,nn,w⟩:=n
 have:=(nds_0 h).2
 simp only [moreB,show (k==4)=false by simpa using h4,show (k==7)=false by simpa using h7,show (k==8)=false by simpa using h8,show (k==9)=false by simpa using h9,cond_false,Bool.not_eq_false',Bool.and_eq_true,beq_iff_eq] at this
 obtain ⟨rfl,rfl,rfl,hz⟩:=this
 rw [xZe1 hz];rfl
theorem xZp5 {n:xZ2} (h:nds n=0) (h4:n.Kind=4):n=⟨4,n.Op,[],[],zv⟩∧1≤n.Op∧n.Op≤6:=by
 obtain ⟨k,o,v,nn,w⟩:=n
 obtain ⟨h1,h2⟩:=nds_0 h
 simp only at h4;subst h4
 simp only [moreB,bad,show ((4:Int)==4)=true from rfl,cond_true,Bool.not_eq_false',Bool.and_eq_true,beq_iff_eq,xZ1e] at h1 h2
 obtain ⟨rfl,rfl,hz⟩:=h2
 rw [xZe1 hz];exact ⟨rfl,h1⟩
theorem xZpJ {n:xZ2} (h:nds n=0) (hb:0≤n.Val.Bits∧n.Val.Bits≤18446744073709551615) (hk:n.Kind=7∨n.Kind=8∨n.Kind=9):∃ a:TU,a.ok∧n=a.nd:=by
 obtain ⟨k,o,v,nn,w⟩:=n
 obtain ⟨h1,h2⟩:=nds_0 h
 simp only at hk hb
 rcases hk with rfl | rfl | rfl
 ·simp only [moreB,bad,show ((7:Int)==4)=false from rfl,show ((7:Int)==7)=true from rfl,cond_true,cond_false,Bool.not_eq_false',Bool.and_eq_true,beq_iff_eq] at h1 h2
  obtain ⟨rfl,rfl,hz⟩:=h2
  rw [xZe1 hz]
  exact ⟨.own nn,h1,rfl⟩
 ·simp only [moreB,bad,show ((8:Int)==4)=false from rfl,show ((8:Int)==7)=false from rfl,show ((8:Int)==8)=true from rfl,cond_true,cond_false,Bool.not_eq_false',Bool.and_eq_true,Bool.or_eq_false_iff,beq_iff_eq] at h1 h2
  obtain ⟨rfl,hz⟩:=h2
  rw [xZe1 hz]
  exact ⟨.of v nn,⟨h1.2,h1.1⟩,rfl⟩
 ·simp only [moreB,bad,show ((9:Int)==4)=false from rfl,show ((9:Int)==7)=false from rfl,show ((9:Int)==8)=false from rfl,show ((9:Int)==9)=true from rfl,cond_true,cond_false,Bool.not_eq_false',Bool.and_eq_true,beq_iff_eq,bne_eq_false_iff_eq] at h1 h2
  obtain ⟨rfl,rfl,rfl⟩:=h2
  exact ⟨.lit w,⟨h1,hb.1,by omega⟩,rfl⟩
theorem xZoP {l:List xZ2} {n:Nat} {w d:Int} {i j:Nat} (h:TR l (n+1) w d i=(0,j)):∃ nd,l[i]?=some nd∧d < 16∧stB nd.Kind w=true∧nds nd=0∧kids (TR l n) nd.Kind d (i+1)=(0,j):=by
 simp only [TR,trS] at h
 cases hl:l[i]? with
 | none=>rw [hl] at h;cases h
 | some nd=>
   rw [hl] at h;simp only at h
   by_cases h1:16≤d
   ·rw [if_pos h1] at h;cases h
   rw [if_neg h1] at h
   by_cases h2:stB nd.Kind w=false
   ·rw [if_pos h2] at h;cases h
   rw [if_neg h2] at h
   by_cases h3:nds nd≠0
   ·rw [if_pos h3] at h;exact absurd (Prod.mk.inj h).1 h3
   rw [if_neg h3] at h
   exact ⟨nd,rfl,by omega,by simpa using h2,by simpa using h3,h⟩
theorem kids2 {p:TF} {k d:Int} {i j:Nat} (hk:kdN k=2) (h:kids p k d i=(0,j)):∃ m,p (kdW k 0) (d+1) i=(0,m)∧p (kdW k 1) (d+1) m=(0,j):=by
 rw [kids,if_neg (by omega)] at h
 by_cases h0:(p (kdW k 0) (d+1) i).1≠0
 ·rw [if_pos (.inl h0)] at h;rw [h] at h0;exact absurd rfl h0
 ·rw [if_neg (by intro q;rcases q with q | q<;>omega)] at h
  exact ⟨_,Prod.ext (by simpa using h0) rfl,h⟩
theorem kids1 {p:TF} {k d:Int} {i j:Nat} (hk:kdN k=1) (h:kids p k d i=(0,j)):p (kdW k 0) (d+1) i=(0,j):=by
 rwa [kids,if_neg (by omega),if_pos (.inr hk)] at h
theorem kids0 {p:TF} {k d:Int} {i j:Nat} (hk:kdN k=0) (h:kids p k d i=(0,j)):j=i:=by
 rw [kids,if_pos hk] at h;cases h;rfl
theorem xZbJ {l:List xZ2} (ho:okN l):∀ (n:Nat) (w d:Int) (i j:Nat),TR l n w d i=(0,j)→
 (w=2→∃ a:TU,a.ok∧l.drop i=a.nd::l.drop j∧j=i+1)∧
 (w=1→∃ s:TS,s.ok∧l.drop i=s.fl++l.drop j∧j=i+s.fl.length)∧
 (w=0→∃ t:TT,t.ok∧l.drop i=t.fl++l.drop j∧j=i+t.fl.length∧d+t.ht≤16)
 | 0,w,d,i,j,h=>by simp only [TR] at h;cases h
 | n+1,w,d,i,j,h=>by
   obtain ⟨nd,hi,hd,hst,hn,hk⟩:=xZoP h
   have hdr:=xZbH hi
   have hb:=ho nd (List.mem_of_getElem? hi)
   have unit:(nd.Kind=7∨nd.Kind=8∨nd.Kind=9)→∃ a:TU,a.ok∧l.drop i=a.nd::l.drop j∧j=i+1:=fun h3=>by
    obtain ⟨a,h4,h5⟩:=xZpJ hn hb h3
    obtain rfl:=kids0 (by rcases h3 with h3 | h3 | h3<;>rw [h3]<;>rfl) hk
    exact ⟨a,h4,by rw [hdr,h5],rfl⟩
   refine ⟨?_,?_,?_⟩
   ·rintro rfl
    simp only [stB,show ((2:Int)==0)=false from rfl,show ((2:Int)==1)=false from rfl,cond_false,Bool.and_eq_true,xZ1e] at hst
    exact unit (by omega)
   ·rintro rfl
    simp only [stB,show ((1:Int)==0)=false from rfl,show ((1:Int)==1)=true from rfl,cond_true,cond_false,Bool.and_eq_true,xZ1e] at hst
    by_cases h7:7≤nd.Kind
    ·obtain ⟨a,h4,h5,h6⟩:=unit (by omega)
     exact ⟨.u a,h4,h5,h6⟩
    ·have key:∀ b:Bool,nd.Kind=(if b then 6 else 5)→∃ s:TS,s.ok∧l.drop i=s.fl++l.drop j∧j=i+s.fl.length:=fun b hbk=>by
      have h56:nd.Kind=5∨nd.Kind=6:=by cases b<;>simp at hbk<;>omega
      obtain ⟨m,k1,k2⟩:=kids2 (by rcases h56 with h | h<;>rw [h]<;>rfl) hk
      have e0:kdW nd.Kind 0=1:=by rcases h56 with h | h<;>rw [h]<;>rfl
      have e1:kdW nd.Kind 1=2:=by rcases h56 with h | h<;>rw [h]<;>rfl
      rw [e0] at k1;rw [e1] at k2
      obtain ⟨s,s1,s2,s3⟩:=(xZbJ ho n 1 (d+1) (i+1) m k1).2.1 rfl
      obtain ⟨a,a1,a2,a3⟩:=(xZbJ ho n 2 (d+1) m j k2).1 rfl
      refine ⟨.op b s a,⟨s1,a1⟩,?_,?_⟩
      ·rw [hdr,s2,a2,xZj5 hn (by omega) (by omega) (by omega) (by omega),hbk]
       simp [TS.fl]
      ·simp only [TS.fl,List.length_cons,List.length_append,List.length_nil];omega
     by_cases h6:nd.Kind=6
     ·exact key true h6
     ·exact key false (by simp only [Bool.false_eq_true,if_false];omega)
   ·rintro rfl
    simp only [stB,show ((0:Int)==0)=true from rfl,cond_true,Bool.and_eq_true,xZ1e] at hst
    have two:(nd.Kind=1∨nd.Kind=2)→∃ a b:TT,a.ok∧b.ok∧l.drop i=bn nd.Kind::(a.fl++b.fl)++l.drop j∧j=i+(1+a.fl.length+b.fl.length)∧d+(1+max a.ht b.ht:Nat)≤16:=fun h12=>by
     obtain ⟨m,k1,k2⟩:=kids2 (by rcases h12 with h | h<;>rw [h]<;>rfl) hk
     have e0:kdW nd.Kind 0=0:=by rcases h12 with h | h<;>rw [h]<;>rfl
     have e1:kdW nd.Kind 1=0:=by rcases h12 with h | h<;>rw [h]<;>rfl
     rw [e0] at k1;rw [e1] at k2
     obtain ⟨a,a1,a2,a3,a4⟩:=(xZbJ ho n 0 (d+1) (i+1) m k1).2.2 rfl
     obtain ⟨b,b1,b2,b3,b4⟩:=(xZbJ ho n 0 (d+1) m j k2).2.2 rfl
     refine ⟨a,b,a1,b1,?_,by omega,by omega⟩
     rw [hdr,a2,b2]
     conv=>lhs;rw [xZj5 hn (by omega) (by omega) (by omega) (by omega)]
     simp
    by_cases h1:nd.Kind=1
    ·obtain ⟨a,b,q1,q2,q3,q4,q5⟩:=two (.inl h1)
     rw [h1] at q3
     exact ⟨.and a b,⟨q1,q2⟩,q3,by simp only [TT.fl,List.length_cons,List.length_append];omega,q5⟩
    by_cases h2:nd.Kind=2
    ·obtain ⟨a,b,q1,q2,q3,q4,q5⟩:=two (.inr h2)
     rw [h2] at q3
     exact ⟨.or a b,⟨q1,q2⟩,q3,by simp only [TT.fl,List.length_cons,List.length_append];omega,q5⟩
    by_cases h3:nd.Kind=3
    ·have k1:=kids1 (by rw [h3];rfl) hk
     rw [show kdW nd.Kind 0=0 by rw [h3];rfl] at k1
     obtain ⟨a,a1,a2,a3,a4⟩:=(xZbJ ho n 0 (d+1) (i+1) j k1).2.2 rfl
     refine ⟨.not a,a1,?_,by simp only [TT.fl,List.length_cons];omega,by simp only [TT.ht];omega⟩
     rw [hdr,a2,xZj5 hn (by omega) (by omega) (by omega) (by omega),h3];rfl
    ·have h4:nd.Kind=4:=by omega
     obtain ⟨m,k1,k2⟩:=kids2 (by rw [h4];rfl) hk
     rw [show kdW nd.Kind 0=1 by rw [h4];rfl] at k1
     rw [show kdW nd.Kind 1=1 by rw [h4];rfl] at k2
     obtain ⟨a,a1,a2,a3⟩:=(xZbJ ho n 1 (d+1) (i+1) m k1).2.1 rfl
     obtain ⟨b,b1,b2,b3⟩:=(xZbJ ho n 1 (d+1) m j k2).2.1 rfl
     obtain ⟨g1,g2,g3⟩:=xZp5 hn h4
     refine ⟨.test nd.Op a b,⟨g2,g3,a1,b1⟩,?_,by simp only [TT.fl,List.length_cons,List.length_append];omega,by simp only [TT.ht];omega⟩
     rw [hdr,a2,b2]
     conv=>lhs;rw [g1]
     simp [TT.fl]
theorem xZmE {l:List xZ2} (ho:okN l) (h:chk l=0) (hl:l≠[]):∃ t:TT,t.ok∧l=t.fl∧t.ht≤16∧l.length≤30:=by
 have h0:¬ l.length=0:=fun h=>hl (List.eq_nil_of_length_eq_zero h)
 unfold chk at h
 by_cases h1:30 < l.length
 ·rw [if_pos h1] at h;cases h
 rw [if_neg h1,if_neg h0] at h
 by_cases h2:(TR l 17 0 0 0).1≠0
 ·rw [if_pos h2] at h;exact absurd h h2
 rw [if_neg h2] at h
 by_cases h3:(TR l 17 0 0 0).2 < l.length
 ·rw [if_pos h3] at h;cases h
 obtain ⟨t,t1,t2,t3,t4⟩:=(xZbJ ho 17 0 0 0 (TR l 17 0 0 0).2 (Prod.ext (by simpa using h2) rfl)).2.2 rfl
 refine ⟨t,t1,?_,by omega,by omega⟩
 rw [List.drop_eq_nil_of_le (by omega:l.length≤(TR l 17 0 0 0).2),List.append_nil,List.drop_zero] at t2
 exact t2
abbrev Tk:=Int×List UInt8×xZ4
def ke (t:xZ0):Tk:=(t.Kind,t.Text,t.Val)
def sg (s:List UInt8):Tk:=(4,s,zv)
def kw (s:List UInt8):Tk:=(2,s,zv)
def M (y:List xZ0):Nat→List Tk→Prop
 | _,[]=>True
 | i,t::ts=>ke (tk y i)=t∧M y (i+1) ts
theorem M_app {y:List xZ0}:∀ {a b:List Tk} {i:Nat},M y i (a++b) ↔ M y i a∧M y (i+a.length) b
 | [],b,i=>by simp [M]
 | t::a,b,i=>by
   simp only [List.cons_append,M,M_app (a:=a),List.length_cons,and_assoc]
   rw [show i+1+a.length=i+(a.length+1) by omega]
theorem M_of {y:List xZ0}:∀ {ts:List Tk} {p r:List xZ0},y=p++r→(r.map ke).take ts.length=ts→M y p.length ts
 | [],p,r,_,_=>trivial
 | t::ts,p,[],h,h2=>by simp at h2
 | t::ts,p,x::r,h,h2=>by
   simp only [List.map_cons,List.length_cons,List.take_succ_cons,List.cons.injEq] at h2
   have h3:=M_of (y:=y) (ts:=ts) (p:=p++[x]) (r:=r) (by simp [h]) h2.2
   refine ⟨?_,by simpa using h3⟩
   rw [tk,h];simp [h2.1]
def TU.tk:TU→List Tk
 | .own n=>[(1,n,zv)]
 | .of v n=>[(1,v,zv),sg [46],(1,n,zv)]
 | .lit v=>if v.Kind=1∧v.N < 0 then [sg [45],(3,[],⟨1,-v.N,0,[]⟩)] else [(3,[],v)]
def TS.tk:TS→List Tk
 | .u a=>a.tk
 | .op k s a=>s.tk++sg (if k then [45] else [43])::a.tk
def TT.bd:TT→Nat
 | .or _ _=>1
 | .and _ _=>2
 | _=>3
def brk (c:Bool) (l:List Tk):List Tk:=if c then sg [40]::(l++[sg [41]]) else l
def TT.tk:TT→List Tk
 | .or a b=>brk (decide (a.bd < 1)) a.tk++kw [111,114]::brk (decide (b.bd < 2)) b.tk
 | .and a b=>brk (decide (a.bd < 2)) a.tk++kw [97,110,100]::brk (decide (b.bd < 3)) b.tk
 | .not a=>kw [110,111,116]::brk (decide (a.bd < 3)) a.tk
 | .test o a b=>a.tk++sg (sgV o)::b.tk
def Fo (y:List xZ0) (i:Nat):Prop:=isT' y i 4 [46]=false∧isT' y i 4 [43]=false∧isT' y i 4 [45]=false
theorem xZ12 {y:List xZ0} {i:Nat} {k k':Int} {s s':List UInt8} {v:xZ4} (h:ke (tk y i)=(k,s,v)):isT' y i k' s'=((k==k')&&(s==s')):=by
 simp only [ke,Prod.mk.injEq] at h
 rw [isT',h.1,h.2.1]
theorem ke_lt {y:List xZ0} {i:Nat} {k:Int} {s:List UInt8} {v:xZ4} (hk:k≠0) (h:ke (tk y i)=(k,s,v)):i < y.length:=by
 simp only [ke,Prod.mk.injEq] at h
 exact xZ1m hk h.1
theorem xZmf {v:xZ4} (h:vchk v=0) (hk:v.Kind=1) (hn:v.N < 0):(⟨1,IntKind.i64.wrap (0 - -v.N),0,[]⟩:xZ4)=v:=by
 rcases xZeI h with ⟨n,rfl,q1,q2⟩ | rfl | rfl | ⟨u,rfl,q1⟩ | ⟨b,rfl,q1⟩
 ·simp only at hn ⊢
  rw [IntKind.wrap_i64];congr 1;omega
 all_goals cases hk
theorem UR_tk {y:List xZ0}:∀ {a:TU} {i:Nat},a.ok→M y i a.tk→isT' y (i+a.tk.length) 4 [46]=false→UR y i=.inr ([a.nd],i+a.tk.length)
 | .own n,i,ho,hm,hf=>by
   have h:=hm.1
   have hk:(tk y i).Kind=1:=congrArg (·.1) h
   have ht:(tk y i).Text=n:=congrArg (·.2.1) h
   have e1:isT' y i 4 [45]=false:=by rw [xZ12 h];rfl
   have hf:isT' y (i+1) 4 [46]=false:=hf
   simp only [UR,U,e1,hk,hf,Bool.false_eq_true,if_false,if_true,show ¬ ((1:Int)=3) by decide,ht,TU.nd,TU.tk,List.length_singleton]
   rfl
 | .of v n,i,ho,⟨h1,h2,h3,_⟩,hf=>by
   have hk:(tk y i).Kind=1:=congrArg (·.1) h1
   have ht:(tk y i).Text=v:=congrArg (·.2.1) h1
   have hk3:(tk y (i+2)).Kind=1:=congrArg (·.1) h3
   have ht3:(tk y (i+2)).Text=n:=congrArg (·.2.1) h3
   have e1:isT' y i 4 [45]=false:=by rw [xZ12 h1];rfl
   have e2:isT' y (i+1) 4 [46]=true:=by rw [xZ12 h2];rfl
   simp only [UR,U,e1,hk,e2,hk3,Bool.false_eq_true,if_false,if_true,show ¬ ((1:Int)=3) by decide,ht,ht3,TU.nd,TU.tk,List.length_cons,List.length_nil]
   rfl
 | .lit v,i,ho,hm,hf=>by
   by_cases hn:v.Kind=1∧v.N < 0
   ·have et:(TU.lit v).tk=[sg [45],(3,[],⟨1,-v.N,0,[]⟩)]:=if_pos hn
    rw [et] at hm ⊢
    obtain ⟨h1,h2,_⟩:=hm
    have e1:isT' y i 4 [45]=true:=by rw [xZ12 h1];rfl
    have hk:(tk y (i+1)).Kind=3:=congrArg (·.1) h2
    have hv:(tk y (i+1)).Val=⟨1,-v.N,0,[]⟩:=congrArg (·.2.2) h2
    simp only [UR,U,e1,hk,hv,if_true,and_self,xZmf ho.1 hn.1 hn.2]
    rfl
   ·have et:(TU.lit v).tk=[(3,[],v)]:=if_neg hn
    rw [et] at hm ⊢
    have h:=hm.1
    have hk:(tk y i).Kind=3:=congrArg (·.1) h
    have hv:(tk y i).Val=v:=congrArg (·.2.2) h
    have e1:isT' y i 4 [45]=false:=by rw [xZ12 h];rfl
    simp only [UR,U,e1,hk,hv,Bool.false_eq_true,if_false,if_true]
    rfl
theorem SU_tk {y:List xZ0}:∀ {s:TS} {i:Nat},s.ok→M y i s.tk→isT' y (i+s.tk.length) 4 [46]=false→∃ m,y.length - (i+s.tk.length)≤m∧SU y i=lpG (UR y) (sepS y) m s.fl (i+s.tk.length)
 | .u a,i,ho,hm,hf=>by
   refine ⟨_,Nat.le_refl _,?_⟩
   have:UR y i=.inr ([a.nd],i+a.tk.length):=UR_tk ho hm hf
   simp only [SU,this];rfl
 | .op k s a,i,ho,hm,hf=>by
   simp only [TS.tk] at hm hf ⊢
   obtain ⟨m1,m2,m3⟩:=M_app.1 hm
   rw [List.length_append,List.length_cons] at hf ⊢
   have ed:ke (tk y (i+s.tk.length))=sg (if k then [45] else [43]):=m2
   have hlt:i+s.tk.length < y.length:=ke_lt (by decide) ed
   obtain ⟨m,hm1,hm2⟩:=SU_tk ho.1 m1 (by rw [xZ12 ed];cases k<;>rfl)
   have hs:sepS y (i+s.tk.length)=some (if k then 6 else 5):=by
    simp only [sepS,xZ12 ed];cases k<;>rfl
   have hu:=UR_tk ho.2 m3 (by rw [show i+s.tk.length+1+a.tk.length=i+(s.tk.length+(a.tk.length+1)) by omega];exact hf)
   obtain ⟨m',rfl⟩:∃ m',m=m'+1:=⟨m - 1,by omega⟩
   refine ⟨m',by omega,?_⟩
   rw [hm2,xZcs hs hu,show i+s.tk.length+1+a.tk.length=i+(s.tk.length+(a.tk.length+1)) by omega]
   rfl
theorem xZo9 {y:List xZ0} {s:TS} {i:Nat} (ho:s.ok) (hm:M y i s.tk) (hf:Fo y (i+s.tk.length)):SU y i=.inr (s.fl,i+s.tk.length):=by
 obtain ⟨m,_,h⟩:=SU_tk ho hm hf.1
 rw [h,xZ9F]
 simp only [sepS,hf.2.1,hf.2.2,Bool.false_eq_true,if_false]
theorem xZo8 {y:List xZ0} {i:Nat}:∀ {a:TU},M y i a.tk→isT' y i 2 nt=false∧isT' y i 4 [40]=false
 | .own n,h=>by rw [xZ12 h.1,xZ12 h.1];exact ⟨rfl,rfl⟩
 | .of v n,h=>by rw [xZ12 h.1,xZ12 h.1];exact ⟨rfl,rfl⟩
 | .lit v,h=>by
   simp only [TU.tk] at h
   split at h
   ·have:=h.1
    rw [xZ12 this,xZ12 this];exact ⟨rfl,rfl⟩
   ·have:=h.1
    rw [xZ12 this,xZ12 this];exact ⟨rfl,rfl⟩
theorem xZlg {y:List xZ0} {i:Nat}:∀ {s:TS},M y i s.tk→isT' y i 2 nt=false∧isT' y i 4 [40]=false
 | .u a,h=>xZo8 h
 | .op k s a,h=>xZlg (M_app.1 h).1
theorem xZq1 {o:Int} (h1:1≤o) (h2:o≤6):opV (sgV o)=o∧sgV o≠[46]∧sgV o≠[43]∧sgV o≠[45]:=by
 rcases (show o=1∨o=2∨o=3∨o=4∨o=5∨o=6 by omega) with rfl | rfl | rfl | rfl | rfl | rfl<;>decide
theorem Fo_kw {y:List xZ0} {i:Nat} {s:List UInt8} (h:ke (tk y i)=kw s):Fo y i:=by
 refine ⟨?_,?_,?_⟩<;>(rw [xZ12 h];rfl)
theorem Fo_sg {y:List xZ0} {i:Nat} {s:List UInt8} (h:ke (tk y i)=sg s) (h1:s≠[46]) (h2:s≠[43]) (h3:s≠[45]):Fo y i:=by
 refine ⟨?_,?_,?_⟩<;>(rw [xZ12 h];simpa using by assumption)
def an:List UInt8:=[97,110,100]
def rr:List UInt8:=[111,114]
theorem xZgS {y:List xZ0} {i:Nat} {s:List UInt8} {k:Int} (h:ke (tk y i)=kw s):sepK y s k i=some k:=by
 have:isT' y i 2 s=true:=by rw [xZ12 h];simp
 simp only [sepK,this,if_true]
theorem xZ9T {y:List xZ0} {i:Nat} {s:List UInt8} {k:Int} (h:isT' y i 2 s=false):sepK y s k i=none:=by
 simp only [sepK,h,Bool.false_eq_true,if_false]
theorem xZjm:∀ t:TT,1≤t.tk.length∧1≤t.ht
 | .or a b=>by simp only [TT.tk,TT.ht,List.length_append,List.length_cons];omega
 | .and a b=>by simp only [TT.tk,TT.ht,List.length_append,List.length_cons];omega
 | .not a=>by simp only [TT.tk,TT.ht,List.length_cons];omega
 | .test o a b=>by simp only [TT.tk,TT.ht,List.length_append,List.length_cons];omega
theorem bd3:∀ t:TT,1≤t.bd∧t.bd≤3
 | .or a b=>by simp [TT.bd]
 | .and a b=>by simp [TT.bd]
 | .not a=>by simp [TT.bd]
 | .test o a b=>by simp [TT.bd]
def PP3 (y:List xZ0) (t:TT):Prop:=(∀ (n d i:Nat),d+t.ht≤17→(t.bd=3→d+t.ht≤16)→3 * (16 - (d:Int))+3≤n→M y i t.tk→Fo y (i+t.tk.length)→isT' y (i+t.tk.length) 2 an=false→∃ m,y.length - (i+t.tk.length)≤m∧(SPP y n).1 d i=lpG ((SPP y (n - 1)).2.1 d) (sepK y rr 2) m t.fl (i+t.tk.length))∧(∀ (n d i:Nat),d+t.ht≤17→(t.bd≠2→d+t.ht≤16)→3 * (16 - (d:Int))+2≤n→M y i (brk (decide (t.bd < 2)) t.tk)→Fo y (i+(brk (decide (t.bd < 2)) t.tk).length)→∃ m,y.length - (i+(brk (decide (t.bd < 2)) t.tk).length)≤m∧(SPP y n).2.1 d i=lpG ((SPP y (n - 1)).2.2 d) (sepK y an 1) m t.fl (i+(brk (decide (t.bd < 2)) t.tk).length))∧(∀ (n d i:Nat),d+t.ht≤16→3 * (16 - (d:Int))+1≤n→M y i (brk (decide (t.bd < 3)) t.tk)→Fo y (i+(brk (decide (t.bd < 3)) t.tk).length)→(SPP y n).2.2 d i=.inr (t.fl,i+(brk (decide (t.bd < 3)) t.tk).length))
theorem spp_o {y:List xZ0} {n:Nat} {d:Int} {i:Nat}:(SPP y (n+1)).1 d i=rowS y ((SPP y n).2.1 d) (sepK y rr 2) i:=rfl
theorem spp_a {y:List xZ0} {n:Nat} {d:Int} {i:Nat}:(SPP y (n+1)).2.1 d i=rowS y ((SPP y n).2.2 d) (sepK y an 1) i:=rfl
theorem spp_p {y:List xZ0} {n:Nat} {d:Int} {i:Nat}:(SPP y (n+1)).2.2 d i=partS y (SPP y n) d i:=rfl
theorem xZjw {y:List xZ0} {f:Nat→RR} {sep:Nat→Option Int} {i j:Nat} {l:List xZ2} (h:f i=.inr (l,j)):rowS y f sep i=lpG f sep (y.length - j) l j:=by
 simp only [rowS,h]
theorem up_a {y:List xZ0} {n:Nat} {d:Int} {i j:Nat} {l:List xZ2} (hn:1≤n) (h:(SPP y (n - 1)).2.2 d i=.inr (l,j)):∃ m,y.length - j≤m∧(SPP y n).2.1 d i=lpG ((SPP y (n - 1)).2.2 d) (sepK y an 1) m l j:=by
 obtain ⟨n,rfl⟩:∃ k,n=k+1:=⟨n - 1,by omega⟩
 exact ⟨_,Nat.le_refl _,by rw [spp_a];exact xZjw h⟩
theorem up_o {y:List xZ0} {n:Nat} {d:Int} {i j:Nat} {l:List xZ2} (hn:1≤n) (h:(SPP y (n - 1)).2.1 d i=.inr (l,j)):∃ m,y.length - j≤m∧(SPP y n).1 d i=lpG ((SPP y (n - 1)).2.1 d) (sepK y rr 2) m l j:=by
 obtain ⟨n,rfl⟩:∃ k,n=k+1:=⟨n - 1,by omega⟩
 exact ⟨_,Nat.le_refl _,by rw [spp_o];exact xZjw h⟩
theorem brack {y:List xZ0} {n d i:Nat} {t:TT} (hO:∃ m,y.length - (i+1+t.tk.length)≤m∧(SPP y (n - 1)).1 (d+1:Nat) (i+1)=lpG ((SPP y (n - 1 - 1)).2.1 (d+1:Nat)) (sepK y rr 2) m t.fl (i+1+t.tk.length)) (hn:1≤n) (hd:d < 16)
 (hm:M y i (brk true t.tk)):(SPP y n).2.2 d i=.inr (t.fl,i+(brk true t.tk).length):=by
 have el:(brk true t.tk).length=t.tk.length+2:=by simp [brk]
 obtain ⟨h1,h2⟩:=hm
 obtain ⟨h2,h3⟩:=M_app.1 h2
 have h3:=h3.1
 obtain ⟨n,rfl⟩:∃ k,n=k+1:=⟨n - 1,by omega⟩
 obtain ⟨m,hm1,hm2⟩:=hO
 rw [xZ9F (xZ9T (by rw [xZ12 h3];rfl))] at hm2
 have e1:isT' y i 2 nt=false:=by rw [xZ12 h1];rfl
 have e2:isT' y i 4 [40]=true:=by rw [xZ12 h1];rfl
 have e3:isT' y (i+1+t.tk.length) 4 [41]=true:=by rw [xZ12 h3];rfl
 rw [spp_p,partS,if_pos (.inr e2),if_neg (by omega),if_neg (by rw [e1];decide)]
 rw [show ((d:Int)+1)=((d+1:Nat):Int) by omega]
 simp only [Nat.add_sub_cancel] at hm2
 rw [hm2]
 simp only [e3,if_true,el]
 rw [show i+1+t.tk.length+1=i+(t.tk.length+2) by omega]
theorem pp3 {y:List xZ0}:∀ t:TT,t.ok→PP3 y t
 | .test o a b,ho=>by
   have hp:∀ (n d i:Nat),3 * (16 - (d:Int))+1≤n→d≤16→M y i (TT.test o a b).tk→Fo y (i+(TT.test o a b).tk.length)→(SPP y n).2.2 d i=.inr ((TT.test o a b).fl,i+(TT.test o a b).tk.length):=fun n d i hn hd hm hf=>by
    obtain ⟨n,rfl⟩:∃ k,n=k+1:=⟨n - 1,by omega⟩
    simp only [TT.tk,List.length_append,List.length_cons] at hm hf ⊢
    obtain ⟨m1,m2,m3⟩:=M_app.1 hm
    obtain ⟨g1,g2,g3,g4⟩:=xZq1 ho.1 ho.2.1
    have hd1:=xZlg m1
    have ha:=xZo9 ho.2.2.1 m1 (Fo_sg m2 g2 g3 g4)
    have hb:=xZo9 ho.2.2.2 m3 (by rw [show i+a.tk.length+1+b.tk.length=i+(a.tk.length+(b.tk.length+1)) by omega];exact hf)
    have hk:(tk y (i+a.tk.length)).Kind=4:=congrArg (·.1) m2
    have ht:(tk y (i+a.tk.length)).Text=sgV o:=congrArg (·.2.1) m2
    have ho1:=ho.1
    rw [spp_p,partS,if_neg (by rw [hd1.1,hd1.2];simp),ha]
    simp only [hk,ht,g1,hb]
    rw [if_pos ⟨trivial,by omega⟩,show i+a.tk.length+1+b.tk.length=i+(a.tk.length+(b.tk.length+1)) by omega]
    rfl
   refine ⟨fun n d i h1 h2 h3 h4 h5 h6=>?_,fun n d i h1 h2 h3 h4 h5=>up_a (by have:=h2 (show (3:Nat)≠2 by decide);simp only [TT.ht] at this;omega) (hp (n - 1) d i (by have:=h2 (show (3:Nat)≠2 by decide);simp only [TT.ht] at this;omega) (by have:=h2 (show (3:Nat)≠2 by decide);simp only [TT.ht] at this;omega) h4 h5),fun n d i h1 h3 h4 h5=>hp n d i h3 (by simp only [TT.ht] at h1;omega) h4 h5⟩
   have hd:=h2 rfl
   simp only [TT.ht] at hd
   refine up_o (by omega) ?_
   obtain ⟨m,m1,m2⟩:=up_a (n:=n - 1) (by omega) (hp (n - 1 - 1) d i (by omega) (by omega) h4 h5)
   rw [m2,xZ9F (xZ9T h6)]
 | .not a,ho=>by
   have ih:=pp3 (y:=y) a ho
   have ha:=xZjm a
   have hp:∀ (n d i:Nat),3 * (16 - (d:Int))+1≤n→d+(TT.not a).ht≤16→M y i (TT.not a).tk→Fo y (i+(TT.not a).tk.length)→(SPP y n).2.2 d i=.inr ((TT.not a).fl,i+(TT.not a).tk.length):=fun n d i hn hd hm hf=>by
    obtain ⟨n,rfl⟩:∃ k,n=k+1:=⟨n - 1,by omega⟩
    simp only [TT.tk,TT.ht,List.length_cons] at hm hf hd ⊢
    obtain ⟨m1,m2⟩:=hm
    have e1:isT' y i 2 nt=true:=by rw [xZ12 m1];rfl
    have h:=ih.2.2 n (d+1) (i+1) (by omega) (by omega) m2 (by rw [show i+1+(brk (decide (a.bd < 3)) a.tk).length=i+((brk (decide (a.bd < 3)) a.tk).length+1) by omega];exact hf)
    rw [spp_p,partS,if_pos (.inl e1),if_neg (by omega),if_pos e1,show ((d:Int)+1)=((d+1:Nat):Int) by omega,h]
    rw [show i+1+(brk (decide (a.bd < 3)) a.tk).length=i+((brk (decide (a.bd < 3)) a.tk).length+1) by omega]
    rfl
   refine ⟨fun n d i h1 h2 h3 h4 h5 h6=>?_,fun n d i h1 h2 h3 h4 h5=>?_,fun n d i h1 h3 h4 h5=>hp n d i h3 h1 h4 h5⟩
   ·have hd:=h2 rfl
    refine up_o (by omega) ?_
    have hd':=hd
    simp only [TT.ht] at hd'
    obtain ⟨m,m1,m2⟩:=up_a (n:=n - 1) (by omega) (hp (n - 1 - 1) d i (by omega) hd h4 h5)
    rw [m2,xZ9F (xZ9T h6)]
   ·have hd:=h2 (show (3:Nat)≠2 by decide)
    have hd':=hd
    simp only [TT.ht] at hd'
    exact up_a (by omega) (hp (n - 1) d i (by omega) hd h4 h5)
 | .and a b,ho=>by
   have iha:=pp3 (y:=y) a ho.1
   have ihb:=pp3 (y:=y) b ho.2
   have pa:=xZjm a
   have pb:=xZjm b
   have hA:∀ (n d i:Nat),d+(TT.and a b).ht≤17→3 * (16 - (d:Int))+2≤n→M y i (TT.and a b).tk→Fo y (i+(TT.and a b).tk.length)→
    ∃ m,y.length - (i+(TT.and a b).tk.length)≤m∧(SPP y n).2.1 d i=lpG ((SPP y (n - 1)).2.2 d) (sepK y an 1) m (TT.and a b).fl (i+(TT.and a b).tk.length):=fun n d i h1 h3 hm hf=>by
    simp only [TT.tk,TT.ht,List.length_append,List.length_cons] at hm hf h1 ⊢
    obtain ⟨m1,m2,m3⟩:=M_app.1 hm
    obtain ⟨m,q1,q2⟩:=iha.2.1 n d i (by omega) (fun _=>by omega) h3 m1 (Fo_kw m2)
    have hb:=ihb.2.2 (n - 1) d (i+(brk (decide (a.bd < 2)) a.tk).length+1) (by omega) (by omega) m3 (by rw [show i+(brk (decide (a.bd < 2)) a.tk).length+1+(brk (decide (b.bd < 3)) b.tk).length=i+((brk (decide (a.bd < 2)) a.tk).length+((brk (decide (b.bd < 3)) b.tk).length+1)) by omega];exact hf)
    have hlt:=ke_lt (by decide) m2
    obtain ⟨m',rfl⟩:∃ m',m=m'+1:=⟨m - 1,by omega⟩
    refine ⟨m',by omega,?_⟩
    rw [q2,xZcs (xZgS (s:=an) m2) hb,show i+(brk (decide (a.bd < 2)) a.tk).length+1+(brk (decide (b.bd < 3)) b.tk).length=i+((brk (decide (a.bd < 2)) a.tk).length+((brk (decide (b.bd < 3)) b.tk).length+1)) by omega]
    rfl
   have hO:∀ (n d i:Nat),d+(TT.and a b).ht≤17→3 * (16 - (d:Int))+3≤n→M y i (TT.and a b).tk→Fo y (i+(TT.and a b).tk.length)→isT' y (i+(TT.and a b).tk.length) 2 an=false→
    ∃ m,y.length - (i+(TT.and a b).tk.length)≤m∧(SPP y n).1 d i=lpG ((SPP y (n - 1)).2.1 d) (sepK y rr 2) m (TT.and a b).fl (i+(TT.and a b).tk.length):=fun n d i h1 h3 h4 h5 h6=>by
    have h1':=h1
    simp only [TT.ht] at h1'
    refine up_o (by omega) ?_
    obtain ⟨m,m1,m2⟩:=hA (n - 1) d i h1 (by omega) h4 h5
    rw [m2,xZ9F (xZ9T h6)]
   refine ⟨fun n d i h1 h2 h3 h4 h5 h6=>hO n d i h1 h3 h4 h5 h6,fun n d i h1 h2 h3 h4 h5=>hA n d i h1 h3 h4 h5,fun n d i h1 h3 h4 h5=>?_⟩
   have h1':=h1
   simp only [TT.ht] at h1'
   have hm:M y i (brk true (TT.and a b).tk):=h4
   have hm':=hm
   obtain ⟨k1,k2⟩:=hm'
   obtain ⟨k2,k3⟩:=M_app.1 k2
   have k3:=k3.1
   exact brack (hO (n - 1) (d+1) (i+1) (by omega) (by omega) k2 (Fo_sg k3 (by decide) (by decide) (by decide)) (by rw [xZ12 k3];rfl)) (by omega) (by omega) hm
 | .or a b,ho=>by
   have iha:=pp3 (y:=y) a ho.1
   have ihb:=pp3 (y:=y) b ho.2
   have pa:=xZjm a
   have pb:=xZjm b
   have ba:=bd3 a
   have hbr:brk (decide (a.bd < 1)) a.tk=a.tk:=by rw [decide_eq_false (by omega)];rfl
   have hO:∀ (n d i:Nat),d+(TT.or a b).ht≤17→3 * (16 - (d:Int))+3≤n→M y i (TT.or a b).tk→Fo y (i+(TT.or a b).tk.length)→isT' y (i+(TT.or a b).tk.length) 2 an=false→
    ∃ m,y.length - (i+(TT.or a b).tk.length)≤m∧(SPP y n).1 d i=lpG ((SPP y (n - 1)).2.1 d) (sepK y rr 2) m (TT.or a b).fl (i+(TT.or a b).tk.length):=fun n d i h1 h3 hm hf hg=>by
    simp only [TT.tk,TT.ht,hbr,List.length_append,List.length_cons] at hm hf h1 hg ⊢
    obtain ⟨m1,m2,m3⟩:=M_app.1 hm
    obtain ⟨m,q1,q2⟩:=iha.1 n d i (by omega) (fun _=>by omega) h3 m1 (Fo_kw m2) (by rw [xZ12 m2];rfl)
    have e:i+a.tk.length+1+(brk (decide (b.bd < 2)) b.tk).length=i+(a.tk.length+((brk (decide (b.bd < 2)) b.tk).length+1)):=by omega
    obtain ⟨mb,r1,r2⟩:=ihb.2.1 (n - 1) d (i+a.tk.length+1) (by omega) (fun _=>by omega) (by omega) m3 (by rw [e];exact hf)
    rw [xZ9F (xZ9T (by rw [e];exact hg)),e] at r2
    have hlt:=ke_lt (by decide) m2
    obtain ⟨m',rfl⟩:∃ m',m=m'+1:=⟨m - 1,by omega⟩
    refine ⟨m',by omega,?_⟩
    rw [q2,xZcs (xZgS (s:=rr) m2) r2]
    rfl
   refine ⟨fun n d i h1 h2 h3 h4 h5 h6=>hO n d i h1 h3 h4 h5 h6,fun n d i h1 h2 h3 h4 h5=>?_,fun n d i h1 h3 h4 h5=>?_⟩
   ·have h1':=h2 (show (1:Nat)≠2 by decide)
    simp only [TT.ht] at h1'
    have hm:M y i (brk true (TT.or a b).tk):=h4
    have hm':=hm
    obtain ⟨k1,k2⟩:=hm'
    obtain ⟨k2,k3⟩:=M_app.1 k2
    have k3:=k3.1
    exact up_a (by omega) (brack (hO (n - 1 - 1) (d+1) (i+1) (by simp only [TT.ht];omega) (by omega) k2 (Fo_sg k3 (by decide) (by decide) (by decide)) (by rw [xZ12 k3];rfl)) (by omega) (by omega) hm)
   ·have h1':=h1
    simp only [TT.ht] at h1'
    have hm:M y i (brk true (TT.or a b).tk):=h4
    have hm':=hm
    obtain ⟨k1,k2⟩:=hm'
    obtain ⟨k2,k3⟩:=M_app.1 k2
    have k3:=k3.1
    exact brack (hO (n - 1) (d+1) (i+1) (by simp only [TT.ht];omega) (by omega) k2 (Fo_sg k3 (by decide) (by decide) (by decide)) (by rw [xZ12 k3];rfl)) (by omega) (by omega) hm
section
def twT (w x y:List UInt8):List UInt8:=(((x++[32])++w)++[32])++y
def brT (c:Bool) (x:List UInt8):List UInt8:=if c then 40::(x++[41]) else x
def TU.tx:TU→List UInt8
 | .own n=>n
 | .of v n=>(v++[46])++n
 | .lit v=>litS v
def TS.tx:TS→List UInt8
 | .u a=>a.tx
 | .op k s a=>twT (if k then [45] else [43]) s.tx a.tx
def TT.tx:TT→List UInt8
 | .or a b=>twT [111,114] (brT (decide (a.bd < 1)) a.tx) (brT (decide (b.bd < 2)) b.tx)
 | .and a b=>twT [97,110,100] (brT (decide (a.bd < 2)) a.tx) (brT (decide (b.bd < 3)) b.tx)
 | .not a=>110::111::116::32::brT (decide (a.bd < 3)) a.tx
 | .test o a b=>twT (sgV o) a.tx b.tx
theorem xZcU {n:List UInt8} (h:nm n=true):n.length≤12∧n≠[]:=by
 cases n with
 | nil=>cases h
 | cons c t=>
   simp only [nm,Bool.and_eq_true,Bool.not_eq_true'] at h
   have:=xZ28.1 h.1
   exact ⟨by omega,by simp⟩
theorem TU_tl {a:TU} (h:a.ok):a.tx.length≤100:=by
 cases a with
 | own n=>have:=xZcU h;simp only [TU.tx];omega
 | of v n=>have:=xZcU h.1;have:=xZcU h.2;simp only [TU.tx,List.length_append,List.length_singleton];omega
 | lit v=>exact xZm2 v
theorem xZgI (w x y:List UInt8):(twT w x y).length=x.length+w.length+y.length+2:=by simp [twT];omega
theorem xZa2 (c:Bool) (x:List UInt8):(brT c x).length≤x.length+2:=by cases c<;>simp [brT]
theorem TS_tl:∀ {s:TS},s.ok→s.tx.length≤120 * s.fl.length
 | .u a,h=>by have:=TU_tl (show a.ok from h);simp only [TS.tx,TS.fl,List.length_singleton];omega
 | .op k s a,h=>by
   have h1:=TS_tl h.1
   have h2:=TU_tl h.2
   simp only [TS.tx,TS.fl,xZgI,List.length_cons,List.length_append,List.length_singleton]
   have:(if k=true then ([45]:List UInt8) else [43]).length=1:=by cases k<;>rfl
   omega
theorem xZkP (o:Int):(sgV o).length≤2:=by
 unfold sgV
 repeat' split
 all_goals decide
theorem TT_tl:∀ {t:TT},t.ok→t.tx.length≤120 * t.fl.length
 | .or a b,h=>by
   have h1:=TT_tl h.1
   have h2:=TT_tl h.2
   have h3:=xZa2 (decide (a.bd < 1)) a.tx
   have h4:=xZa2 (decide (b.bd < 2)) b.tx
   simp only [TT.tx,TT.fl,xZgI,List.length_cons,List.length_append,List.length_nil];omega
 | .and a b,h=>by
   have h1:=TT_tl h.1
   have h2:=TT_tl h.2
   have h3:=xZa2 (decide (a.bd < 2)) a.tx
   have h4:=xZa2 (decide (b.bd < 3)) b.tx
   simp only [TT.tx,TT.fl,xZgI,List.length_cons,List.length_append,List.length_nil];omega
 | .not a,h=>by
   have h1:=TT_tl (t:=a) h
   have h3:=xZa2 (decide (a.bd < 3)) a.tx
   simp only [TT.tx,TT.fl,List.length_cons];omega
 | .test o a b,h=>by
   have h1:=TS_tl h.2.2.1
   have h2:=TS_tl h.2.2.2
   have h3:=xZkP o
   simp only [TT.tx,TT.fl,xZgI,List.length_cons,List.length_append];omega
def bdN (k:Int):Int:=if k=2 then 1 else if k=1 then 2 else 3
theorem xZoJ (k:Int) (N:Nat):xZ8w N k=some (bdN k):=by
 simp only [xZ8w,bdN,xZr3,beq_iff_eq]
 split
 ·rfl
 ·split<;>rfl
section
variable {l:List xZ2}
theorem xZaI {i j:Nat} {nd:xZ2} {tx:List UInt8} {least:Int} (hi:l[i]?=some nd) (h:W (fun N=>(xZ6 N).1 l (i:Int)) (·=(tx,l,(j:Int)))) (ht:tx.length≤1000000):
 W (fun N=>(xZ6 N).2.2 least l (i:Int)) (·=(brT (decide (bdN nd.Kind < least)) tx,l,(j:Int))):=by
 refine W.shift ?_
 show W (fun N=>xZ2Z N (xZ6 N) least l (i:Int)) _
 have hx:ix l (i:Int)=some nd:=by rw [ix_nat',hi]
 simp only [xZ2Z,hx,xZoJ,Option.bind_some,W.cond,xZ18,xZ28]
 refine ⟨fun hlt=>?_,fun hge=>?_⟩
 ·refine W.bind h ?_
  rintro _ rfl
  simp only [W.gd,W.ret]
  refine ⟨Nat.ble_eq_true_of_le (by omega),Nat.ble_eq_true_of_le (by omega),?_⟩
  rw [decide_eq_true hlt];rfl
 ·refine W.bind h ?_
  rintro _ rfl
  rw [W.ret,decide_eq_false (by omega)];rfl
theorem xZmT {i m j:Nat} {w ta tb:List UInt8} {left right:Int} (ha:W (fun N=>(xZ6 N).2.2 left l (i:Int)) (·=(ta,l,(m:Int)))) (hb:W (fun N=>(xZ6 N).2.2 right l (m:Int)) (·=(tb,l,(j:Int))))
 (h1:ta.length≤1000000) (h2:tb.length≤1000000) (h3:w.length≤100):
 W (fun N=>(xZ6 N).2.1 w left right l (i:Int)) (·=(twT w ta tb,l,(j:Int))):=by
 refine W.shift ?_
 show W (fun N=>xZ3x N (xZ6 N) w left right l (i:Int)) _
 simp only [xZ3x]
 refine W.bind ha ?_
 rintro _ rfl
 simp only [W.gd]
 refine ⟨Nat.ble_eq_true_of_le (by omega),Nat.ble_eq_true_of_le (by simp;omega),Nat.ble_eq_true_of_le (by simp;omega),?_⟩
 refine W.bind hb ?_
 rintro _ rfl
 simp only [W.gd,W.ret]
 exact ⟨Nat.ble_eq_true_of_le (by simp;omega),rfl⟩
theorem xZ95 {l:List xZ2} {i:Nat} {nd:xZ2} {r:List xZ2} (h:l.drop i=nd::r):l[i]?=some nd∧l.drop (i+1)=r:=by
 have h1:(l.drop i)[0]?=some nd:=by rw [h];rfl
 rw [List.getElem?_drop,Nat.add_zero] at h1
 refine ⟨h1,?_⟩
 have:(l.drop i).drop 1=r:=by rw [h];rfl
 rwa [List.drop_drop] at this
theorem xZkT {i:Nat} {r:List xZ2} (hl:l.length≤1000000):∀ {a:TU},a.ok→l.drop i=a.nd::r→W (fun N=>(xZ6 N).1 l (i:Int)) (·=(a.tx,l,((i+1:Nat):Int)))
 | .own n,ho,hd=>by
   obtain ⟨h1,h2⟩:=xZ95 hd
   have hlt:=(List.getElem?_eq_some_iff.1 h1).1
   have hx:ix l (i:Int)=some (TU.own n).nd:=by rw [ix_nat',h1]
   refine W.shift ?_
   show W (fun N=>xZ9 N (xZ6 N) l (i:Int)) _
   simp only [xZ9,hx,Option.bind_some,W.gd,TU.nd,xZT]
   exact ⟨by omega,W.ret.2 rfl⟩
 | .of v n,ho,hd=>by
   obtain ⟨h1,h2⟩:=xZ95 hd
   have hlt:=(List.getElem?_eq_some_iff.1 h1).1
   have hx:ix l (i:Int)=some (TU.of v n).nd:=by rw [ix_nat',h1]
   have l1:=xZcU ho.1
   have l2:=xZcU ho.2
   refine W.shift ?_
   show W (fun N=>xZ9 N (xZ6 N) l (i:Int)) _
   simp only [xZ9,hx,Option.bind_some,W.gd,TU.nd,xZT]
   refine ⟨by omega,?_⟩
   show W (fun N=>gd (Nat.ble (v.length+1) 9223372036854775807) (gd (Nat.ble ((v++[46]).length+n.length) 9223372036854775807) (some (((v++[46])++n),l,((i:Int)+1))))) _
   simp only [W.gd,W.ret]
   exact ⟨Nat.ble_eq_true_of_le (by omega),Nat.ble_eq_true_of_le (by simp;omega),rfl⟩
 | .lit v,ho,hd=>by
   obtain ⟨h1,h2⟩:=xZ95 hd
   have hlt:=(List.getElem?_eq_some_iff.1 h1).1
   have hx:ix l (i:Int)=some (TU.lit v).nd:=by rw [ix_nat',h1]
   refine W.shift ?_
   show W (fun N=>xZ9 N (xZ6 N) l (i:Int)) _
   simp only [xZ9,hx,Option.bind_some,W.gd,TU.nd,xZT]
   refine ⟨by omega,?_⟩
   show W (fun N=>(xZ4B N v).bind fun lite=>some (lite,l,((i:Int)+1))) _
   refine W.call (xZgV v ho.2.1 ho.2.2) ?_
   rintro _ rfl
   exact W.ret.2 rfl
theorem br0 {k:Int} {x:List UInt8}:brT (decide (bdN k < 0)) x=x:=by
 have:¬ bdN k < 0:=by unfold bdN;repeat' split
                      all_goals omega
 rw [decide_eq_false this];rfl
theorem xZhS:∀ s:TS,∃ nd r,s.fl=nd::r
 | .u a=>⟨_,_,rfl⟩
 | .op k s a=>⟨_,_,rfl⟩
theorem xZfy {i:Nat} {a b:List xZ2} (h:l.drop i=a++b):l.drop (i+a.length)=b:=by
 rw [← List.drop_drop,h,List.drop_left]
theorem xZmj (hl:l.length≤1000):∀ {s:TS} {i:Nat} {r:List xZ2},s.ok→l.drop i=s.fl++r→W (fun N=>(xZ6 N).1 l (i:Int)) (·=(s.tx,l,((i+s.fl.length:Nat):Int)))
 | .u a,i,r,ho,hd=>xZkT (by omega) (a:=a) ho hd
 | .op k s a,i,r,ho,hd=>by
   simp only [TS.fl,List.cons_append] at hd
   obtain ⟨h1,h2⟩:=xZ95 hd
   have hlt:=(List.getElem?_eq_some_iff.1 h1).1
   rw [List.append_assoc] at h2
   have hsub:s.fl.length≤1000:=by have:=congrArg List.length h2;simp only [List.length_drop,List.length_append] at this;omega
   have t1:=TS_tl ho.1
   have t2:=TU_tl ho.2
   have ps:=xZmj hl ho.1 h2
   have h3:=xZfy h2
   have pa:=xZkT (by omega) ho.2 h3
   obtain ⟨nd,r',hh⟩:=xZhS s
   rw [hh] at h2
   have hs:=(xZ95 h2).1
   have ha:=(xZ95 h3).1
   have ws:=xZaI (least:=0) hs ps (by omega)
   have wa:=xZaI (least:=0) ha pa (by omega)
   rw [br0] at ws wa
   have tw:=xZmT (w:=if k then [45] else [43]) ws wa (by omega) (by omega) (by cases k<;>simp)
   have hx:ix l (i:Int)=some (bn (if k then 6 else 5)):=by rw [ix_nat',h1]
   refine W.shift ?_
   show W (fun N=>xZ9 N (xZ6 N) l (i:Int)) _
   have e1:((i:Int)+1)=((i+1:Nat):Int):=by omega
   simp only [xZ9,hx,Option.bind_some,W.gd,xZT,e1]
   refine ⟨by omega,?_⟩
   have e2:i+(TS.op k s a).fl.length=i+1+s.fl.length+1:=by simp only [TS.fl,List.length_cons,List.length_append,List.length_nil];omega
   rw [e2]
   cases k
   ·exact W.bind tw fun _ h=>by subst h;exact W.ret.2 rfl
   ·exact W.bind tw fun _ h=>by subst h;exact W.ret.2 rfl
theorem xZiE:∀ t:TT,∃ nd r,t.fl=nd::r∧bdN nd.Kind=t.bd
 | .or a b=>⟨_,_,rfl,rfl⟩
 | .and a b=>⟨_,_,rfl,rfl⟩
 | .not a=>⟨_,_,rfl,rfl⟩
 | .test o a b=>⟨_,_,rfl,rfl⟩
theorem xZnH (hl:l.length≤1000):∀ {t:TT} {i:Nat} {r:List xZ2},t.ok→l.drop i=t.fl++r→W (fun N=>(xZ6 N).1 l (i:Int)) (·=(t.tx,l,((i+t.fl.length:Nat):Int))):=by
 have wi:∀ {t:TT} {i:Nat} {r:List xZ2} (least:Nat),t.ok→l.drop i=t.fl++r→W (fun N=>(xZ6 N).1 l (i:Int)) (·=(t.tx,l,((i+t.fl.length:Nat):Int)))→
  W (fun N=>(xZ6 N).2.2 (least:Int) l (i:Int)) (·=(brT (decide (t.bd < least)) t.tx,l,((i+t.fl.length:Nat):Int)))∧t.tx.length≤120000:=fun {t i r} least ho hd h=>by
  have hsub:t.fl.length≤1000:=by have:=congrArg List.length hd;simp only [List.length_drop,List.length_append] at this;omega
  have t1:=TT_tl ho
  obtain ⟨nd,r',h1,h2⟩:=xZiE t
  have hd':=hd
  rw [h1] at hd'
  have:=xZaI (least:=(least:Int)) (xZ95 hd').1 h (by omega)
  rw [h2] at this
  refine ⟨?_,by omega⟩
  rw [show (decide (t.bd < least))=decide ((t.bd:Int) < (least:Int)) by congr 1;exact propext (by omega)]
  exact this
 have two:∀ {a b:TT} {i:Nat} {r:List xZ2} {w:List UInt8} (left right:Nat) {k:Int},w.length≤100→a.ok→b.ok→l.drop i=bn k::(a.fl++b.fl)++r→
  (∀ {i:Nat} {r:List xZ2},l.drop i=a.fl++r→W (fun N=>(xZ6 N).1 l (i:Int)) (·=(a.tx,l,((i+a.fl.length:Nat):Int))))→(∀ {i:Nat} {r:List xZ2},l.drop i=b.fl++r→W (fun N=>(xZ6 N).1 l (i:Int)) (·=(b.tx,l,((i+b.fl.length:Nat):Int))))→
  ix l (i:Int)=some (bn k)∧i64b ((i:Int)+1)=true∧W (fun N=>(xZ6 N).2.1 w left right l ((i:Int)+1)) (·=(twT w (brT (decide (a.bd < left)) a.tx) (brT (decide (b.bd < right)) b.tx),l,((i+1+a.fl.length+b.fl.length:Nat):Int))):=fun {a b i r w} left right {k} hw ha hb hd pa pb=>by
  rw [List.cons_append] at hd
  obtain ⟨h1,h2⟩:=xZ95 hd
  have hlt:=(List.getElem?_eq_some_iff.1 h1).1
  rw [List.append_assoc] at h2
  obtain ⟨wa,la⟩:=wi left ha h2 (pa h2)
  have h3:=xZfy h2
  obtain ⟨wb,lb⟩:=wi right hb h3 (pb h3)
  have k1:=xZa2 (decide (a.bd < left)) a.tx
  have k2:=xZa2 (decide (b.bd < right)) b.tx
  refine ⟨by rw [ix_nat',h1],xZT.2 (by omega),?_⟩
  rw [show ((i:Int)+1)=((i+1:Nat):Int) by omega]
  exact xZmT wa wb (by omega) (by omega) hw
 intro t
 induction t with
 | or a b iha ihb=>
   intro i r ho hd
   obtain ⟨h1,h2,h3⟩:=two (w:=[111,114]) 1 2 (by simp) ho.1 ho.2 hd (iha ho.1) (ihb ho.2)
   refine W.shift ?_
   show W (fun N=>xZ9 N (xZ6 N) l (i:Int)) _
   simp only [xZ9,h1,h2,Option.bind_some,xZ1w]
   rw [show i+(TT.or a b).fl.length=i+1+a.fl.length+b.fl.length by simp only [TT.fl,List.length_cons,List.length_append];omega]
   exact W.bind h3 fun _ h=>by subst h;exact W.ret.2 rfl
 | and a b iha ihb=>
   intro i r ho hd
   obtain ⟨h1,h2,h3⟩:=two (w:=[97,110,100]) 2 3 (by simp) ho.1 ho.2 hd (iha ho.1) (ihb ho.2)
   refine W.shift ?_
   show W (fun N=>xZ9 N (xZ6 N) l (i:Int)) _
   simp only [xZ9,h1,h2,Option.bind_some,xZ1w]
   rw [show i+(TT.and a b).fl.length=i+1+a.fl.length+b.fl.length by simp only [TT.fl,List.length_cons,List.length_append];omega]
   exact W.bind h3 fun _ h=>by subst h;exact W.ret.2 rfl
 | not a iha=>
   intro i r ho hd
   simp only [TT.fl,List.cons_append] at hd
   obtain ⟨h1,h2⟩:=xZ95 hd
   have hlt:=(List.getElem?_eq_some_iff.1 h1).1
   obtain ⟨wa,la⟩:=wi 3 (show a.ok from ho) h2 (iha ho h2)
   have k1:=xZa2 (decide (a.bd < 3)) a.tx
   have hx:ix l (i:Int)=some (bn 3):=by rw [ix_nat',h1]
   refine W.shift ?_
   show W (fun N=>xZ9 N (xZ6 N) l (i:Int)) _
   simp only [xZ9,hx,Option.bind_some,W.gd,xZT,show ((i:Int)+1)=((i+1:Nat):Int) by omega]
   refine ⟨by omega,?_⟩
   rw [show i+(TT.not a).fl.length=i+1+a.fl.length by simp only [TT.fl,List.length_cons];omega]
   refine W.bind wa fun _ h=>?_
   subst h
   simp only [W.gd,W.ret]
   exact ⟨Nat.ble_eq_true_of_le (by omega),rfl⟩
 | test o a b=>
   intro i r ho hd
   simp only [TT.fl,List.cons_append] at hd
   obtain ⟨h1,h2⟩:=xZ95 hd
   have hlt:=(List.getElem?_eq_some_iff.1 h1).1
   rw [List.append_assoc] at h2
   have hsub:a.fl.length≤1000∧b.fl.length≤1000:=by have:=congrArg List.length h2;simp only [List.length_drop,List.length_append] at this;omega
   have t1:=TS_tl ho.2.2.1
   have t2:=TS_tl ho.2.2.2
   have h3:=xZfy h2
   have pa:=xZmj hl ho.2.2.1 h2
   have pb:=xZmj hl ho.2.2.2 h3
   obtain ⟨n1,r1,hh1⟩:=xZhS a
   obtain ⟨n2,r2,hh2⟩:=xZhS b
   have h2':=h2
   have h3':=h3
   rw [hh1] at h2'
   rw [hh2] at h3'
   have wa:=xZaI (least:=0) (xZ95 h2').1 pa (by omega)
   have wb:=xZaI (least:=0) (xZ95 h3').1 pb (by omega)
   rw [br0] at wa wb
   have hs:=xZkP o
   have tw:=xZmT (w:=sgV o) wa wb (by omega) (by omega) (by omega)
   have hx:ix l (i:Int)=some ⟨4,o,[],[],zv⟩:=by rw [ix_nat',h1]
   refine W.shift ?_
   show W (fun N=>xZ9 N (xZ6 N) l (i:Int)) _
   simp only [xZ9,hx,Option.bind_some,W.gd,xZT,show ((i:Int)+1)=((i+1:Nat):Int) by omega]
   refine ⟨by omega,?_⟩
   have hg:=(sg_ok [] o ho.1 ho.2.1).1
   show W (fun N=>(xZ2m N o).bind fun sign=>((xZ6 N).2.1 sign 0 0 l ((i+1:Nat):Int)).bind fun two3=>some (two3.1,two3.2.1,two3.2.2)) _
   simp only [hg,Option.bind_some]
   rw [show i+(TT.test o a b).fl.length=i+1+a.fl.length+b.fl.length by simp only [TT.fl,List.length_cons,List.length_append];omega]
   exact W.bind tw fun _ h=>by subst h;exact W.ret.2 rfl
end
theorem xZmv {t:TT} (ho:t.ok) (hc:chk t.fl=0) (hl:t.fl.length≤30):W (fun N=>xZ54 N t.fl) (·=t.tx):=by
 obtain ⟨nd,r,h1,h2⟩:=xZiE t
 have hne:((t.fl.length:Int)==0)=false:=by rw [h1];simp;omega
 simp only [xZ54,hne,cond_false]
 refine W.call (xZi3 t.fl) ?_
 rintro _ rfl
 simp only [hc,show ((0:Int) != 0)=false from rfl,cond_false]
 refine W.bind (show W (fun N=>xZ3h N t.fl 0) _ from xZnH (l:=t.fl) (i:=0) (r:=[]) (by omega) ho (by simp)) ?_
 rintro _ rfl
 exact W.ret.2 rfl
end
def Hd (b:List UInt8):Prop:=∃ d r,b=d::r∧Dl d
def Fd (b:List UInt8):Prop:=b=[]∨Hd b
def CutX (f:List UInt8→Prop) (w:List UInt8) (ts:List Tk):Prop:=∀ rest p (out:List xZ0),f rest→out.length≤200→(out.length+ts.length≤200→∃ ms,ms.map ke=ts∧scanR (w++rest) p out=scanR rest (p+w.length) (out++ms))∧(200 < out.length+ts.length→∃ a,scanR (w++rest) p out=.inr (7,a))
abbrev Cut:=CutX Fd
abbrev Cut':=CutX fun _=>True
theorem dl46:Dl 46:=⟨by decide,by decide,by decide,by decide,by decide⟩
theorem dl41:Dl 41:=⟨by decide,by decide,by decide,by decide,by decide⟩
theorem hd32 {b:List UInt8}:Hd (32::b):=⟨_,_,rfl,dl32⟩
theorem hd41 {b:List UInt8}:Hd (41::b):=⟨_,_,rfl,dl41⟩
theorem hd46 {b:List UInt8}:Hd (46::b):=⟨_,_,rfl,dl46⟩
theorem Cut'.sc {w:List UInt8} {ts:List Tk} (h:Cut' w ts):Cut w ts:=fun rest p out _ h2=>h rest p out trivial h2
theorem xZgj {f g:List UInt8→Prop} {a b:List UInt8} {s t:List Tk} (h1:CutX f a s) (h2:CutX g b t) (h:∀ rest,g rest→f (b++rest)):CutX g (a++b) (s++t):=fun rest p out h3 h4=>by
 rw [List.length_append]
 obtain ⟨x1,x2⟩:=h1 (b++rest) p out (h rest h3) h4
 by_cases hs:out.length+s.length≤200
 ·obtain ⟨m1,q1,q2⟩:=x1 hs
  have hl:m1.length=s.length:=by rw [← q1,List.length_map]
  obtain ⟨y1,y2⟩:=h2 rest (p+a.length) (out++m1) h3 (by rw [List.length_append];omega)
  rw [List.length_append] at y1 y2
  refine ⟨fun h5=>?_,fun h5=>?_⟩
  ·obtain ⟨m2,r1,r2⟩:=y1 (by omega)
   refine ⟨m1++m2,by rw [List.map_append,q1,r1],?_⟩
   rw [List.append_assoc,q2,r2,List.length_append,List.append_assoc,Nat.add_assoc]
  ·obtain ⟨z,hz⟩:=y2 (by omega)
   exact ⟨z,by rw [List.append_assoc,q2,hz]⟩
 ·refine ⟨fun h5=>by omega,fun _=>?_⟩
  obtain ⟨z,hz⟩:=x2 (by omega)
  exact ⟨z,by rw [List.append_assoc,hz]⟩
theorem sc1 {a b:List UInt8} {s t:List Tk} (h1:Cut a s) (hb:Hd b) (h2:Cut b t):Cut (a++b) (s++t):=
 xZgj h1 h2 fun rest _=>by obtain ⟨d,r,rfl,h⟩:=hb;exact .inr ⟨d,r++rest,rfl,h⟩
theorem sc2 {a b:List UInt8} {s t:List Tk} (h1:Cut' a s) (h2:Cut b t):Cut (a++b) (s++t):=xZgj h1 h2 fun _ _=>trivial
theorem xZ6o:Cut' [32] []:=fun rest p out _ h=>⟨fun _=>⟨[],rfl,by rw [List.append_nil];show scanR (32::rest) p out=_;rw [xZ2Q,if_pos (by decide)];rfl⟩,fun h2=>by simp only [List.length_nil] at h2;omega⟩
theorem xZjc {w rest:List UInt8} {k:Int} {x:List UInt8} {v:xZ4} {p:Nat} {out:List xZ0} (hw:w≠[]) (h:oneR w=.inl (k,x,v,w.length)) (h2:oneR (w++rest)=.inl (k,x,v,w.length)) (ho:out.length < 200):
 scanR (w++rest) p out=scanR rest (p+w.length) (out++[⟨k,(p:Int),x,v⟩]):=by
 cases w with
 | nil=>exact absurd rfl hw
 | cons c w=>
   have hk:=xZed h
   have hb:blank c=false:=by
    cases hb:blank c with
    | false=>rfl
    | true=>rw [xZdn c hb] at hk;cases hk
   rw [List.cons_append] at h2 ⊢
   rw [xZ2Q,hb,decide_eq_false (by omega:¬ out.length=200),Bool.and_false,h2]
   simp only [Bool.false_eq_true,if_false,List.length_cons,Nat.add_sub_cancel]
   rw [List.drop_left]
theorem xZjn {w rest:List UInt8} {k:Int} {x:List UInt8} {v:xZ4} {p:Nat} {out:List xZ0} (hw:w≠[]) (h:oneR w=.inl (k,x,v,w.length)) (ho:out.length=200):∃ a,scanR (w++rest) p out=.inr (7,a):=by
 cases w with
 | nil=>exact absurd rfl hw
 | cons c w=>
   have hk:=xZed h
   have hb:blank c=false:=by
    cases hb:blank c with
    | false=>rfl
    | true=>rw [xZdn c hb] at hk;cases hk
   refine ⟨p,?_⟩
   rw [List.cons_append,xZ2Q,hb,hk,decide_eq_true ho]
   rfl
theorem xZcZ {w:List UInt8} {k:Int} {x:List UInt8} {v:xZ4} (hw:w≠[]) (h:oneR w=.inl (k,x,v,w.length)):Cut w [(k,x,v)]:=fun rest p out hf ho=>by
 refine ⟨fun ho=>⟨[⟨k,(p:Int),x,v⟩],rfl,xZjc hw h ?_ (by simp at ho;omega)⟩,fun h2=>xZjn hw h (by simp at h2;omega)⟩
 rcases hf with rfl | ⟨d,r,rfl,hd⟩
 ·rw [List.append_nil];exact h
 ·cases w with
  | nil=>exact absurd rfl hw
  | cons c w=>exact (xZnI hd r c w).1 _ h
theorem xZ69 {c:UInt8} (h:∀ rest,oneR (c::rest)=.inl (4,[c],zv,1)):Cut' [c] [sg [c]]:=fun rest p out _ ho=>
 ⟨fun ho=>⟨[⟨4,(p:Int),[c],zv⟩],rfl,xZjc (by simp) (h []) (h rest) (by simp at ho;omega)⟩,fun h2=>xZjn (by simp) (h []) (by simp at h2;omega)⟩
theorem s40:Cut' [40] [sg [40]]:=xZ69 fun _=>rfl
theorem s41:Cut' [41] [sg [41]]:=xZ69 fun _=>rfl
theorem s45:Cut' [45] [sg [45]]:=xZ69 fun _=>rfl
theorem s43:Cut' [43] [sg [43]]:=xZ69 fun _=>rfl
theorem s46:Cut' [46] [sg [46]]:=xZ69 fun _=>rfl
theorem xZmw {n:List UInt8} (h:nm n=true):oneR n=.inl (1,n,zv,n.length):=by
 cases n with
 | nil=>cases h
 | cons c t=>
   simp only [nm,Bool.and_eq_true,Bool.not_eq_true',List.all_eq_true] at h
   obtain ⟨h1,h2,h3,h4⟩:=h
   have hS:isS c=true:=h2
   have hr:resv (c::t)=false:=h3
   have hall:∀ d∈c::t,isT d=true:=fun d hd=>by
    rcases List.mem_cons.1 hd with rfl | hd
    ·simp [isT,hS]
    ·exact h4 d hd
   have hl:=xZ28.1 h1
   have n1:¬ (c::t)=[116,114,117,101]:=fun e=>by rw [e] at hr;exact absurd hr (by decide)
   have n2:¬ (c::t)=[102,97,108,115,101]:=fun e=>by rw [e] at hr;exact absurd hr (by decide)
   simp only [oneR,hS,if_true]
   rw [xZmr hall,wordR,if_neg n1,if_neg n2,if_neg (by rw [hr];decide),if_neg (by omega)]
theorem xZdq {n:List UInt8} (h:nm n=true):Cut n [(1,n,zv)]:=xZcZ (xZcU h).2 (xZmw h)
theorem xZlM {v:xZ4} {k:Int} {x:List UInt8} {w:xZ4} {m:Nat} (h:oneR (litS v)=.inl (k,x,w,m)):litS v≠[]:=fun e=>by rw [e] at h;cases h
theorem xZim:∀ {a:TU},a.ok→Cut a.tx a.tk
 | .own n,h=>xZdq h
 | .of v n,h=>by
   show Cut ((v++[46])++n) ([(1,v,zv)]++([sg [46]]++[(1,n,zv)]))
   rw [List.append_assoc]
   exact sc1 (xZdq h.1) hd46 (sc2 s46 (xZdq h.2))
 | .lit v,h=>by
   show Cut (litS v) (if v.Kind=1∧v.N < 0 then [sg [45],(3,[],⟨1,-v.N,0,[]⟩)] else [(3,[],v)])
   by_cases hn:v.Kind=1∧v.N < 0
   ·rw [if_pos hn]
    have hw:litS v=[45]++litS ⟨1,-v.N,0,[]⟩∧vchk ⟨1,-v.N,0,[]⟩=0:=by
     rcases xZeI h.1 with ⟨n,rfl,q1,q2⟩ | rfl | rfl | ⟨u,rfl,q1⟩ | ⟨b,rfl,q1⟩
     ·simp only at hn
      have hv:vchk ⟨1,-n,0,[]⟩=0:=by
       simp only [vchk,if_true]
       rw [if_neg (by omega),if_pos ⟨trivial,trivial⟩]
      refine ⟨?_,hv⟩
      simp only [litS,h.1,hv,ne_eq,not_true,if_false,if_true]
      simp only [whS,if_pos hn.2,if_neg (show ¬ (-n < 0) by omega),Int.natAbs_neg,List.nil_append]
     ·exact absurd hn.1 (by decide)
     ·exact absurd hn.1 (by decide)
     ·exact absurd hn.1 (show ¬ (3:Int)=1 by decide)
     ·exact absurd hn.1 (show ¬ (4:Int)=1 by decide)
    rw [hw.1]
    have h1:=xZlh (v:=⟨1,-v.N,0,[]⟩) hw.2 (show (0:Int)≤0 by decide) (show (0:Int) < 18446744073709551616 by decide) (by simp only;omega)
    exact sc2 s45 (xZcZ (xZlM h1) h1)
   ·rw [if_neg hn]
    have h1:=xZlh h.1 h.2.1 h.2.2 hn
    exact xZcZ (xZlM h1) h1
theorem sc_tw {w x y:List UInt8} {tw:Tk} {tx ty:List Tk} (hx:Cut x tx) (hw:Cut w [tw]) (hy:Cut y ty):Cut (twT w x y) (tx++tw::ty):=by
 have e:twT w x y=x++([32]++(w++([32]++y))):=by simp [twT]
 have e2:tx++tw::ty=tx++([]++([tw]++([]++ty))):=by simp
 rw [e,e2]
 exact sc1 hx hd32 (sc2 xZ6o (sc1 hw hd32 (sc2 xZ6o hy)))
theorem sc_br {c:Bool} {x:List UInt8} {tx:List Tk} (hx:Cut x tx):Cut (brT c x) (brk c tx):=by
 cases c
 ·exact hx
 ·show Cut ([40]++(x++[41])) ([sg [40]]++(tx++[sg [41]]))
  exact sc2 s40 (sc1 hx hd41 s41.sc)
theorem xZlR:∀ {s:TS},s.ok→Cut s.tx s.tk
 | .u a,h=>xZim (a:=a) h
 | .op k s a,h=>by
   show Cut (twT (if k then [45] else [43]) s.tx a.tx) (s.tk++sg (if k then [45] else [43])::a.tk)
   refine sc_tw (xZlR h.1) ?_ (xZim h.2)
   cases k
   ·exact s43.sc
   ·exact s45.sc
theorem sc_op {o:Int} (h1:1≤o) (h2:o≤6):Cut (sgV o) [sg (sgV o)]:=by
 rcases (show o=1∨o=2∨o=3∨o=4∨o=5∨o=6 by omega) with rfl | rfl | rfl | rfl | rfl | rfl<;>exact xZcZ (by decide) rfl
theorem xZdi:∀ {t:TT},t.ok→Cut t.tx t.tk
 | .or a b,h=>sc_tw (tw:=kw [111,114]) (sc_br (xZdi h.1)) (xZcZ (by decide) rfl) (sc_br (xZdi h.2))
 | .and a b,h=>sc_tw (tw:=kw [97,110,100]) (sc_br (xZdi h.1)) (xZcZ (by decide) rfl) (sc_br (xZdi h.2))
 | .not a,h=>by
   show Cut ([110,111,116]++([32]++brT (decide (a.bd < 3)) a.tx)) ([kw [110,111,116]]++([]++brk (decide (a.bd < 3)) a.tk))
   exact sc1 (xZcZ (by decide) rfl) hd32 (sc2 xZ6o (sc_br (xZdi (t:=a) h)))
 | .test o a b,h=>sc_tw (xZlR h.2.2.1) (sc_op h.1 h.2.1) (xZlR h.2.2.2)
section
inductive GT where
 | leaf (neg:Bool) (v t:List UInt8) (o:Option TT)
 | rep (lo hi:Int) (a:GT)
 | lst (alt:Bool) (bs:List GT)
def kA (alt:Bool):Int:=if alt then 2 else 1
def kL (neg:Bool):Int:=if neg then 5 else 4
def oT:Option TT→List xZ2
 | none=>[]
 | some t=>t.fl
def oK:Option TT→Prop
 | none=>True
 | some t=>t.ok∧t.ht≤16∧t.fl.length≤30∧chk t.fl=0
theorem oT_of {l:List xZ2} (ho:okN l) (h:chk l=0):∃ o,oK o∧l=oT o:=by
 by_cases hl:l=[]
 ·exact ⟨none,trivial,hl⟩
 ·obtain ⟨t,h1,h2,h3,h4⟩:=xZmE ho h hl
  exact ⟨some t,⟨h1,h3,h2 ▸ h4,h2 ▸ h⟩,h2⟩
mutual
def GT.fl:GT→List xZ1
 | .leaf neg v t o=>[⟨kL neg,0,0,0,v,t,oT o⟩]
 | .rep lo hi a=>⟨3,1,lo,hi,[],[],[]⟩::GT.fl a
 | .lst alt bs=>⟨kA alt,(bs.length:Int),0,0,[],[],[]⟩::GT.fls bs
def GT.fls:List GT→List xZ1
 | []=>[]
 | a::r=>GT.fl a++GT.fls r
end
mutual
def GT.ok:GT→Int→Prop
 | .leaf neg v t o,w=>(neg=true→w≠3)∧nm v=true∧nm t=true∧oK o
 | .rep lo hi a,w=>(0≤lo∧lo≤8∧0≤hi∧hi≤8∧¬ (lo=1∧hi=1)∧(hi=0∨lo≤hi))∧GT.ok a 3
 | .lst alt bs,w=>kA alt≠w∧2≤bs.length∧bs.length≤40∧GT.oks bs (kA alt)
def GT.oks:List GT→Int→Prop
 | [],_=>True
 | a::r,w=>GT.ok a w∧GT.oks r w
end
mutual
def GT.dp:GT→Nat
 | .leaf ..=>1
 | .rep _ _ a=>GT.dp a+1
 | .lst _ bs=>GT.dps bs+1
def GT.dps:List GT→Nat
 | []=>0
 | a::r=>max (GT.dp a) (GT.dps r)
end
theorem xZf8:∀ (a b:List GT),GT.fls (a++b)=GT.fls a++GT.fls b
 | [],b=>rfl
 | x::a,b=>by simp only [List.cons_append,GT.fls,xZf8 a b,List.append_assoc]
section
variable (n:xZ1)
def isLs:Bool:=n.Kind==1 || n.Kind==2
theorem e_ls (N:Nat):xZ2M N n=some (isLs n):=by
 simp only [xZ2M,isLs];cases n.Kind==1<;>rfl
def stG (w:Int):Bool:=!(ltB n.Kind 1)&&(!(ltB 5 n.Kind)&&(if isLs n=true then n.Kind != w else (n.Kind != 5 || w != 3)))
theorem e_stG (w:Int) (N:Nat):xZ3B N n w=some (stG n w):=by
 simp only [xZ3B,e_ls,Option.bind_some,stG]
 cases ltB n.Kind 1<;>cases ltB 5 n.Kind<;>cases isLs n<;>simp
 cases h:(n.Kind != 5)<;>simp_all
def ofG:Bool:=!(ltB n.Lo 0)&&(!(ltB 8 n.Lo)&&(!(ltB n.Hi 0)&&(!(ltB 8 n.Hi)&&(!((n.Lo==1)&&(n.Hi==1))&&((n.Hi==0) || leB n.Lo n.Hi)))))
theorem e_ofG (N:Nat):xZ3S N n=some (ofG n):=by
 simp only [xZ3S,ofG]
 cases ltB n.Lo 0<;>cases ltB 8 n.Lo<;>cases ltB n.Hi 0<;>cases ltB 8 n.Hi<;>cases n.Lo==1<;>cases n.Hi==1<;>cases n.Hi==0<;>rfl
def lkG:Bool:=if isLs n=true then (ltB n.Kids 2 || ltB 40 n.Kids) else if n.Kind=3 then (n.Kids != 1 || !ofG n) else (!nm n.Var || (!nm n.Type_ || chk n.Test != 0))
theorem w_lkG:W (fun N=>xZ3U N n) (·=lkG n):=by
 simp only [xZ3U,e_ls,Option.bind_some,e_ofG,lkG]
 cases h:isLs n
 ·simp only [cond_false,Bool.false_eq_true,if_false]
  by_cases h3:n.Kind=3
  ·simp only [h3,beq_self_eq_true,cond_true,if_true]
   cases n.Kids != 1<;>simp [W.ret]
  ·simp only [show (n.Kind==3)=false by simpa using h3,cond_false,if_neg h3]
   refine W.call (xZ4F _) ?_
   rintro _ rfl
   cases nm n.Var
   ·simp [W.ret]
   ·simp only [Bool.not_true,cond_false,Bool.false_or]
    refine W.call (xZ4F _) ?_
    rintro _ rfl
    cases nm n.Type_
    ·simp [W.ret]
    ·simp only [Bool.not_true,cond_false,Bool.false_or]
     refine W.call (xZi3 _) ?_
     rintro _ rfl
     simp only [W.ret]
 ·simp only [cond_true,if_true]
  cases ltB n.Kids 2<;>simp [W.ret]
def lfG:Bool:=n.Kind==4 || n.Kind==5
theorem e_lf (N:Nat):xZ17 N n=some (lfG n):=by
 simp only [xZ17,lfG];cases n.Kind==4<;>rfl
def moG:Bool:=if lfG n=true then (n.Lo != 0 || n.Hi != 0 || n.Kids != 0) else ((!(n.Var==[]) || !(n.Type_==[]) || ltB 0 (n.Test.length:Int)) || (n.Lo != 0 || n.Hi != 0)&&n.Kind != 3)
theorem e_moG (N:Nat):xZ4o N n=some (moG n):=by
 simp only [xZ4o,e_lf,Option.bind_some,moG]
 cases n.Lo != 0<;>cases n.Hi != 0<;>cases n.Var==[]<;>cases n.Type_==[]<;>cases lfG n<;>cases ltB 0 (n.Test.length:Int)<;>rfl
def kdG:Int:=if isLs n=true then max 0 (min n.Kids 40) else if n.Kind=3 then 1 else 0
theorem e_kdG (N:Nat):xZ2N N n=some (kdG n):=by
 simp only [xZ2N,e_ls,Option.bind_some,kdG]
 cases isLs n
 ·by_cases h:n.Kind=3
  ·simp [h]
  ·simp [h,show (n.Kind==3)=false by simpa using h]
 ·simp
end
theorem xZpq {n:xZ1} {w:Int} (h1:stG n w=true) (h2:lkG n=false) (h3:moG n=false):
 (∃ neg v t l,n=⟨kL neg,0,0,0,v,t,l⟩∧(neg=true→w≠3)∧nm v=true∧nm t=true∧chk l=0∧kdG n=0)∨
 (∃ lo hi,n=⟨3,1,lo,hi,[],[],[]⟩∧(0≤lo∧lo≤8∧0≤hi∧hi≤8∧¬ (lo=1∧hi=1)∧(hi=0∨lo≤hi))∧kdG n=1)∨
 (∃ alt k,n=⟨kA alt,k,0,0,[],[],[]⟩∧kA alt≠w∧2≤k∧k≤40∧kdG n=k):=by
 obtain ⟨K,k,lo,hi,v,t,l⟩:=n
 simp only [stG,Bool.and_eq_true,Bool.not_eq_true',xZ8k,decide_eq_false_iff_not] at h1
 obtain ⟨a1,a2,a3⟩:=h1
 have hK:K=1∨K=2∨K=3∨K=4∨K=5:=by omega
 rcases hK with rfl | rfl | rfl | rfl | rfl
 ·refine .inr (.inr ⟨false,k,?_⟩)
  simp [isLs,lkG,moG,lfG,kA,kdG,xZ8k] at a3 h2 h3 ⊢
  obtain ⟨⟨⟨h5,h6⟩,h7⟩,h8,h9⟩:=h3
  exact ⟨⟨h8,h9,h5,h6,h7⟩,a3,h2.1,h2.2,by omega⟩
 ·refine .inr (.inr ⟨true,k,?_⟩)
  simp [isLs,lkG,moG,lfG,kA,kdG,xZ8k] at a3 h2 h3 ⊢
  obtain ⟨⟨⟨h5,h6⟩,h7⟩,h8,h9⟩:=h3
  exact ⟨⟨h8,h9,h5,h6,h7⟩,a3,h2.1,h2.2,by omega⟩
 ·refine .inr (.inl ⟨lo,hi,?_⟩)
  simp [isLs,lkG,moG,lfG,kA,kdG,xZ8k,xZ9s,ofG] at a3 h2 h3 ⊢
  obtain ⟨⟨h5,h6⟩,h7⟩:=h3
  obtain ⟨q0,q1,q2,q3,q4,q5,q6⟩:=h2
  exact ⟨⟨q0,h5,h6,h7⟩,q1,q2,q3,q4,q5,by omega⟩
 ·refine .inl ⟨false,v,t,l,?_⟩
  simp [isLs,lkG,moG,lfG,kL,kdG] at a3 h2 h3 ⊢
  exact ⟨⟨h3.2,h3.1.1,h3.1.2⟩,h2⟩
 ·refine .inl ⟨true,v,t,l,?_⟩
  simp [isLs,lkG,moG,lfG,kL,kdG] at a3 h2 h3 ⊢
  exact ⟨⟨h3.2,h3.1.1,h3.1.2⟩,a3,h2⟩
abbrev TGF:=List xZ1→Int→Int→List xZ1×Int
def kidsG (f:List xZ1→List xZ1×Int):Nat→List xZ1→List xZ1×Int
 | 0,r=>(r,0)
 | k+1,r=>if (f r).2=0 then kidsG f k (f r).1 else ([],(f r).2)
def TG:Nat→TGF
 | 0=>fun _ _ _=>([],15)
 | n+1=>fun l w d=>match l with
   | []=>([],3)
   | e::r=>if 16≤d then ([],15) else if stG e w=false then ([],11) else if lkG e=true then ([],4) else if moG e=true then ([],2) else kidsG (fun r=>TG n r e.Kind (d+1)) (kdG e).toNat r
theorem xZrg (e:xZ1):0≤kdG e∧kdG e≤40:=by
 unfold kdG
 split
 ·omega
 ·split<;>omega
theorem xZl2:∀ (n:Nat) (l:List xZ1) (w d:Int),0≤d→d≤16→17 - d≤n→W (fun N=>(xZ74 N) l w d) (·=TG n l w d)
 | 0,l,w,d,h1,h2,h3=>by omega
 | n+1,l,w,d,h1,h2,h3=>by
   refine W.shift ?_
   show W (fun N=>xZaa N (xZ74 N) l w d) _
   cases l with
   | nil=>exact wall fun _=>rfl
   | cons e r=>
     have e0:ix (e::r) 0=some e:=rfl
     have el:((List.length (e::r):Int)==0)=false:=by simp only [List.length_cons];simpa using (by omega:¬ ((r.length:Int)+1=0))
     have eg:leB 1 (List.length (e::r):Int)=true:=xZ1e.2 (by simp only [List.length_cons];omega)
     simp only [xZaa,el,cond_false,e0,Option.bind_some,e_stG,e_moG,e_kdG,eg,xZ1w,TG]
     by_cases hd:16≤d
     ·simp only [show leB 16 d=true from xZ1e.2 hd,cond_true,if_pos hd,W.ret]
     have hd':leB 16 d=false:=by rw [xZ9s];simpa using hd
     simp only [hd',cond_false,if_neg hd]
     cases hs:stG e w
     ·simp [W.ret]
     simp only [Bool.not_true,cond_false,Bool.true_eq_false,if_false]
     refine W.call (w_lkG e) ?_
     rintro _ rfl
     cases hk:lkG e
     rotate_left
     ·simp [W.ret]
     simp only [cond_false,Bool.false_eq_true,if_false]
     cases hm:moG e
     rotate_left
     ·simp [W.ret]
     simp only [cond_false,Bool.false_eq_true,if_false]
     obtain ⟨k0,k1⟩:=xZrg e
     refine W.lp2 (P:=fun rest x=>0≤x∧x≤kdG e∧kidsG (fun r=>TG n r e.Kind (d+1)) (kdG e - x).toNat rest=kidsG (fun r=>TG n r e.Kind (d+1)) (kdG e).toNat r) (m:=fun _ x=>(kdG e - x).toNat) ⟨by omega,by omega,by simp⟩ ?_
     rintro F rest x ⟨x0,x1,x2⟩ hn
     simp only [xZ8N]
     by_cases hx:x < kdG e
     ·obtain ⟨m,hm⟩:∃ m,(kdG e - x).toNat=m+1:=⟨(kdG e - x).toNat - 1,by omega⟩
      simp only [show ltB x (kdG e)=true from xZ18.2 hx,cond_true,W.gd,xZT]
      refine ⟨by omega,W.bind (W.lift (xZl2 n rest e.Kind (d+1) (by omega) (by omega) (by omega))) ?_⟩
      rintro _ rfl
      rw [hm,kidsG] at x2
      by_cases hc:(TG n rest e.Kind (d+1)).2=0
      ·rw [if_pos hc] at x2
       simp only [show ((TG n rest e.Kind (d+1)).2 != 0)=false by simpa using hc,cond_false,W.gd,xZT]
       refine ⟨by omega,hn _ _ ⟨by omega,by omega,?_⟩ (by omega)⟩
       rw [show (kdG e - (x+1)).toNat=m by omega]
       exact x2
      ·rw [if_neg hc] at x2
       simp only [show ((TG n rest e.Kind (d+1)).2 != 0)=true by simpa using hc,cond_true,W.ret]
       exact x2
     ·obtain rfl:x=kdG e:=by omega
      have:ltB (kdG e) (kdG e)=false:=by rw [xZ8k];simp
      simp only [this,cond_false,W.ret]
      rw [Int.sub_self] at x2
      exact x2
def wdS (m:Int):List UInt8:=if m=1 then [97,110,121] else if m=2 then [110,101,120,116] else if m=3 then [115,116,114,105,99,116] else []
theorem e_wd (m:Int) (N:Nat):xZ33 N m=some (wdS m):=by
 simp only [xZ33,wdS]
 by_cases h1:m=1
 ·subst h1;rfl
 by_cases h2:m=2
 ·subst h2;rfl
 by_cases h3:m=3
 ·subst h3;rfl
 simp [h1,h2,h3,show (m==1)=false by simpa using h1,show (m==2)=false by simpa using h2,show (m==3)=false by simpa using h3]
def chkG (p:xZ5):Int:=if 40 < p.Body.length then 5 else if (TG 17 p.Body 0 0).2≠0 then (TG 17 p.Body 0 0).2 else if 0 < (TG 17 p.Body 0 0).1.length then 5 else if p.Within < 1 then 8 else if 1073741824 < p.Within then 8 else if p.By≠[]∧nm p.By=false then 4 else if wdS p.Mode=[] then 11 else 0
theorem xZc6 (p:xZ5):W (fun N=>xZ4C N p) (·=chkG p):=by
 simp only [xZ4C,e_wd,Option.bind_some]
 unfold chkG
 by_cases h0:40 < p.Body.length
 ·simp only [show ltB 40 (p.Body.length:Int)=true from xZ18.2 (by omega),cond_true,if_pos h0,W.ret]
 have g0:ltB 40 (p.Body.length:Int)=false:=by rw [xZ8k];exact decide_eq_false (by omega)
 simp only [g0,cond_false,if_neg h0,xZad]
 refine W.call (xZl2 17 p.Body 0 0 (by omega) (by omega) (by omega)) ?_
 rintro _ rfl
 generalize TG 17 p.Body 0 0=q
 by_cases h1:q.2=0
 rotate_left
 ·simp only [show (q.2 != 0)=true by simpa using h1,cond_true,if_pos h1,W.ret]
 simp only [show (q.2 != 0)=false by simpa using h1,cond_false,if_neg (show ¬ q.2≠0 from fun h=>h h1)]
 by_cases h2:0 < q.1.length
 ·simp only [show ltB 0 (q.1.length:Int)=true from xZ18.2 (by omega),cond_true,if_pos h2,W.ret]
 have g2:ltB 0 (q.1.length:Int)=false:=by rw [xZ8k];exact decide_eq_false (by omega)
 simp only [g2,cond_false,if_neg h2]
 by_cases h3:p.Within < 1
 ·simp only [show ltB p.Within 1=true from xZ18.2 h3,cond_true,if_pos h3,W.ret]
 have g3:ltB p.Within 1=false:=by rw [xZ8k];exact decide_eq_false h3
 simp only [g3,cond_false,if_neg h3]
 by_cases h4:1073741824 < p.Within
 ·simp only [show ltB 1073741824 p.Within=true from xZ18.2 h4,cond_true,if_pos h4,W.ret]
 have g4:ltB 1073741824 p.Within=false:=by rw [xZ8k];exact decide_eq_false h4
 simp only [g4,cond_false,if_neg h4]
 by_cases h5:p.By=[]
 ·simp only [h5,show (!(([]:List UInt8)==[]))=false from rfl,cond_false,if_neg (show ¬ (([]:List UInt8)≠[]∧_) from fun h=>h.1 rfl)]
  by_cases h6:wdS p.Mode=[]
  ·simp [h6,W.ret]
  ·simp [h6,W.ret,show (wdS p.Mode==[])=false by simpa using h6]
 ·simp only [show (!(p.By==[]))=true by simpa using h5,cond_true]
  refine W.call (xZ4F _) ?_
  rintro _ rfl
  cases h6:nm p.By
  ·simp [h5,W.ret]
  ·simp only [Bool.not_true,cond_false]
   by_cases h7:wdS p.Mode=[]
   ·simp [h7,W.ret]
   ·simp [h7,W.ret,show (wdS p.Mode==[])=false by simpa using h7]
theorem xZeO {w:Int} {f:List xZ1→List xZ1×Int} {D:Nat} (hf:∀ l r,(∀ n∈l,okN n.Test)→f l=(r,0)→∃ t:GT,t.ok w∧t.dp≤D∧l=t.fl++r):∀ (k:Nat) (l r:List xZ1),(∀ n∈l,okN n.Test)→kidsG f k l=(r,0)→∃ bs:List GT,bs.length=k∧GT.oks bs w∧GT.dps bs≤D∧l=GT.fls bs++r
 | 0,l,r,_,h=>by cases h;exact ⟨[],rfl,trivial,Nat.zero_le _,rfl⟩
 | k+1,l,r,hb,h=>by
   rw [kidsG] at h
   split at h
   ·rename_i hc
    obtain ⟨t,q1,q2,q3⟩:=hf l (f l).1 hb (by rw [← hc])
    obtain ⟨bs,p1,p2,p3,p4⟩:=xZeO hf k _ _ (fun n hn=>hb n (by rw [q3];exact List.mem_append_right _ hn)) h
    exact ⟨t::bs,by simp [p1],⟨q1,p2⟩,by simp only [GT.dps];omega,by rw [GT.fls,List.append_assoc,← p4,← q3]⟩
   ·rename_i hc
    exact absurd (Prod.mk.inj h).2 hc
theorem xZiz:∀ (n:Nat) (l r:List xZ1) (w:Int) (d:Nat),(∀ n∈l,okN n.Test)→TG n l w d=(r,0)→∃ t:GT,t.ok w∧t.dp+d≤16∧l=t.fl++r
 | 0,l,r,w,d,_,h=>by cases h
 | n+1,[],r,w,d,_,h=>by cases h
 | n+1,e::l,r,w,d,hb,h=>by
   simp only [TG] at h
   split at h
   ·cases h
   rename_i hd
   split at h
   ·cases h
   rename_i hs
   split at h
   ·cases h
   rename_i hk
   split at h
   ·cases h
   rename_i hm
   have ih:∀ l r,(∀ n∈l,okN n.Test)→TG n l e.Kind ((d:Int)+1)=(r,0)→∃ t:GT,t.ok e.Kind∧t.dp≤15 - d∧l=t.fl++r:=fun l r hb hh=>by
    obtain ⟨t,q1,q2,q3⟩:=xZiz n l r e.Kind (d+1) hb (by rw [← hh];congr 1)
    exact ⟨t,q1,by omega,q3⟩
   obtain ⟨bs,p1,p2,p3,p4⟩:=xZeO ih _ _ _ (fun n hn=>hb n (List.mem_cons_of_mem _ hn)) h
   rcases xZpq (by simpa using hs) (by simpa using hk) (by simpa using hm) with ⟨neg,v,t,l',rfl,g1,g2,g3,g4,g5⟩ | ⟨lo,hi,rfl,g1,g2⟩ | ⟨alt,k,rfl,g1,g2,g3,g4⟩
   ·rw [g5] at p1
    obtain rfl:bs=[]:=List.length_eq_zero_iff.1 p1
    obtain ⟨o,k1,rfl⟩:=oT_of (hb _ (List.mem_cons_self ..)) g4
    exact ⟨.leaf neg v t o,⟨g1,g2,g3,k1⟩,by simp only [GT.dp];omega,by rw [p4];rfl⟩
   ·rw [g2] at p1
    obtain ⟨a,rfl⟩:∃ a,bs=[a]:=List.length_eq_one_iff.1 p1
    exact ⟨.rep lo hi a,⟨g1,p2.1⟩,by simp only [GT.dp,GT.dps] at p3 ⊢;omega,by rw [p4];simp [GT.fl,GT.fls]⟩
   ·rw [g4] at p1
    have hb:(bs.length:Int)=k:=by omega
    exact ⟨.lst alt bs,⟨g1,by omega,by omega,p2⟩,by simp only [GT.dp];omega,by rw [p4,← hb];rfl⟩
theorem xZjD {p:xZ5} (hb:∀ n∈p.Body,okN n.Test) (h:chkG p=0):p.Body.length≤40∧1≤p.Within∧p.Within≤1073741824∧(p.By=[]∨nm p.By=true)∧(p.Mode=1∨p.Mode=2∨p.Mode=3)∧∃ t:GT,t.ok 0∧t.dp≤16∧p.Body=t.fl:=by
 unfold chkG at h
 split at h
 ·cases h
 split at h
 ·rename_i q;exact absurd h q
 split at h
 ·cases h
 split at h
 ·cases h
 split at h
 ·cases h
 split at h
 ·cases h
 split at h
 ·cases h
 rename_i h1 h2 h3 h4 h5 h6 h7
 have hr:(TG 17 p.Body 0 0).1=[]:=List.length_eq_zero_iff.1 (by omega)
 obtain ⟨t,q1,q2,q3⟩:=xZiz 17 p.Body [] 0 0 hb (Prod.ext hr (by simpa using h2))
 refine ⟨by omega,by omega,by omega,?_,?_,t,q1,q2,by simpa using q3⟩
 ·by_cases hb:p.By=[]
  ·exact .inl hb
  ·exact .inr (by simpa [hb] using h6)
 ·unfold wdS at h7
  by_cases a1:p.Mode=1
  ·exact .inl a1
  by_cases a2:p.Mode=2
  ·exact .inr (.inl a2)
  by_cases a3:p.Mode=3
  ·exact .inr (.inr a3)
  simp [a1,a2,a3] at h7
end
end Go.Proofs.YtahklhniofiofaaGreatDoor.E
