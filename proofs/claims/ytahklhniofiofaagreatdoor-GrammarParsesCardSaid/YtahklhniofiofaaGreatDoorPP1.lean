/- What the law is handed, told as what its plain text takes. No premise beyond what each theorem says. -/
import Derived.Test.YtahklhniofiofaaGreatDoorPG2
import Derived.Test.YtahklhniofiofaaGreatDoorPA2
import Derived.Test.YtahklhniofiofaaGreatDoorPA3
import Derived.Test.YtahklhniofiofaaGreatDoorPG1
set_option linter.all false
set_option linter.unusedSimpArgs false
set_option linter.unusedVariables false
namespace Go.Proofs.YtahklhniofiofaaGreatDoor.P
open Go
section
open Go.Proofs.Tryz
set_option maxRecDepth 1000000
theorem xZai {H:Type} (d:DataW H) (cs:List AV) (h:DAv prog 9 d cs):∃ x:List UInt8,cs=[.v (.string (bs x))]∧okS x:=by
 obtain ⟨x,h,h1⟩:=xZpX (by kernel_rfl) h
 exact ⟨x,h,h1⟩
theorem xZct {H:Type} (ds:List (DataW H)) (xs:List AV) (h:DAvV prog [9] ds xs):
 ∃ (s:List UInt8),xs=[.v (.string (bs s))]∧okS s:=by
 obtain ⟨_,_,_,_,rfl,rfl,h0,h⟩:=xZsG h
 obtain ⟨rfl,rfl⟩:=xZuY h
 obtain ⟨x0,rfl,k0⟩:=xZai _ _ h0
 exact ⟨x0,by rw [xZux (by kernel_rfl)],k0⟩
end
theorem wall {α:Type} {f:Nat→Option α} {a:α} (h:∀ N,f N=some a):W f (·=a):=⟨a,⟨0,fun N _=>h N⟩,rfl⟩
theorem wid {ι:Type} [Lim ι] {α:Type} {f:ι→Option α} {Q:α→Prop}:W (fun i=>(f i).bind fun a=>some a) Q ↔ W f Q:=by
 have:(fun i=>(f i).bind fun a=>some a)=f:=by funext i;cases f i<;>rfl
 rw [this]
theorem ncmp (a:Int):compare a a=.eq:=by simp [compare,compareOfLessAndEq]
theorem bcmp (a:Bool):compare a.toNat a.toNat=.eq:=by simp [compare,compareOfLessAndEq]
theorem xZtD (n:Nat):fcmpB .neq .f64 n n=decide (9218868437227405312 < n % 9223372036854775808):=by
 have h:FloatKind.f64.format=Ieee.double:=rfl
 simp only [fcmpB,h,Ieee.Format.order,Ieee.Format.read]
 have e1:Ieee.double.signWeight=9223372036854775808:=by decide
 have e2:Ieee.double.infRung=9218868437227405312:=by decide
 have e3:Ieee.double.binade=4503599627370496:=by decide
 rw [e1,e2,e3]
 by_cases h1:n % 9223372036854775808 < 4503599627370496
 ·rw [if_pos h1,decide_eq_false (by omega)];simp only [Ieee.Datum.order,ncmp];rfl
 ·by_cases h2:n % 9223372036854775808 < 9218868437227405312
  ·rw [if_neg h1,if_pos h2,decide_eq_false (by omega)];simp only [Ieee.Datum.order,ncmp];rfl
  ·by_cases h3:n % 9223372036854775808=9218868437227405312
   ·rw [if_neg h1,if_neg h2,if_pos h3,decide_eq_false (by omega)];simp only [Ieee.Datum.order,bcmp];rfl
   ·rw [if_neg h1,if_neg h2,if_neg h3,decide_eq_true (by omega)];rfl
def cln (u:Int):Int:=if 9218868437227405312 < u.toNat % 9223372036854775808 then 9221120237041090560 else u
theorem xZdb (u:Int) (N:Nat):xZ5v N u=some (cln u):=by
 simp only [xZ5v,xZhX,Option.bind_some,xZtD,cln,decide_eq_true_eq,Bool.cond_eq_ite]
 split<;>rfl
def vchk (v:xZ4):Int:=if v.Kind=1 then (if v.N < -4611686018427387904∨4611686018427387904 < v.N then 8 else if v.Bits=0∧v.Text=[] then 0 else 2) else if v.Kind=2 then (if v.N < 0∨1 < v.N then 8 else if v.Bits=0∧v.Text=[] then 0 else 2) else if v.Kind=3 then (if cln v.Bits≠v.Bits then 4 else if v.N=0∧v.Text=[] then 0 else 2) else if v.Kind=4 then (if 24 < v.Text.length then 5 else if v.N=0∧v.Bits=0 then 0 else 2) else 11
theorem xZj7 (v:xZ4) (N:Nat):xZ5M N v=some (vchk v):=by
 have hc:=xZdb v.Bits N
 simp only [xZ5M,xZcD,vchk,Bool.cond_eq_ite]
 by_cases k1:v.Kind=1
 ·simp [k1,xZ4z,xZv];repeat' split
  all_goals first | rfl | (exfalso;omega) | simp_all [eq_comm]
 ·by_cases k2:v.Kind=2
  ·simp [k2,xZ42];repeat' split
   all_goals first | rfl | (exfalso;omega) | simp_all [eq_comm]
  ·by_cases k3:v.Kind=3
   ·simp [k3,xZ4F,hc];repeat' split
    all_goals first | rfl | (exfalso;omega) | simp_all [eq_comm]
   ·by_cases k4:v.Kind=4
    ·simp [k4,xZ4W,xZv];repeat' split
     all_goals first | rfl | (exfalso;omega) | simp_all [eq_comm]
    ·simp [k1,k2,k3,k4]
theorem xZeU (u:Int) (h0:0≤u) (h1:u≤18446744073709551615) (N:Nat):xZ2M N u=some (cln u):=by
 obtain ⟨n,rfl⟩:∃ n:Nat,u=(n:Int):=⟨u.toNat,by omega⟩
 have d1:Int.tdiv (n:Int) 4503599627370496=((n / 4503599627370496:Nat):Int):=rfl
 have w1:IntKind.u64.wrap ((n / 4503599627370496:Nat):Int)=((n / 4503599627370496:Nat):Int):=by
  rw [IntKind.wrap_u64];omega
 have d2:Int.tmod ((n / 4503599627370496:Nat):Int) 2048=((n / 4503599627370496 % 2048:Nat):Int):=rfl
 have w2:IntKind.i64.wrap ((n / 4503599627370496 % 2048:Nat):Int)=((n / 4503599627370496 % 2048:Nat):Int):=by
  rw [IntKind.wrap_i64];omega
 have d3:Int.tmod (n:Int) 4503599627370496=((n % 4503599627370496:Nat):Int):=rfl
 have hexp:xZ4K N n=some ((n / 4503599627370496 % 2048:Nat):Int):=by simp only [xZ4K,d1,w1,d2,w2]
 have hfrac:xZ5s N n=some ((n % 4503599627370496:Nat):Int):=by simp only [xZ5s,d3]
 have hk:∃ k,xZak N n=some k∧(k==5)=decide (9218868437227405312 < n % 9223372036854775808):=by
  simp only [xZak,hexp,hfrac,Option.bind_some,Bool.cond_eq_ite]
  by_cases c1:n / 4503599627370496 % 2048=2047
  ·have c1':(((n / 4503599627370496 % 2048:Nat):Int)==2047)=true:=by simp;omega
   by_cases c2:n % 4503599627370496=0
   ·have c2':(((n % 4503599627370496:Nat):Int) != 0)=false:=by simp;omega
    simp only [c1',c2',if_true]
    exact ⟨4,rfl,by symm;exact decide_eq_false (by omega)⟩
   ·have c2':(((n % 4503599627370496:Nat):Int) != 0)=true:=by simp;omega
    simp only [c1',c2',if_true]
    exact ⟨5,rfl,by symm;exact decide_eq_true (by omega)⟩
  ·have c1':(((n / 4503599627370496 % 2048:Nat):Int)==2047)=false:=by simp;omega
   simp only [c1',Bool.false_eq_true,if_false]
   have hd:decide (9218868437227405312 < n % 9223372036854775808)=false:=decide_eq_false (by omega)
   rw [hd]
   by_cases c3:(((n / 4503599627370496 % 2048:Nat):Int) != 0)=true
   ·simp only [c3,if_true];exact ⟨3,rfl,rfl⟩
   ·by_cases c4:(((n % 4503599627370496:Nat):Int) != 0)=true
    ·simp only [eq_false_of_ne_true c3,c4,if_true,Bool.false_eq_true,if_false];exact ⟨2,rfl,rfl⟩
    ·simp only [eq_false_of_ne_true c3,eq_false_of_ne_true c4,Bool.false_eq_true,if_false];exact ⟨1,rfl,rfl⟩
 obtain ⟨k,hk1,hk2⟩:=hk
 simp only [xZ2M,hk1,hk2,Option.bind_some,cln,decide_eq_true_eq,Int.toNat_natCast,Bool.cond_eq_ite]
 split<;>rfl
theorem xZjF (v:xZ4) (h0:0≤v.Bits) (h1:v.Bits≤18446744073709551615) (N:Nat):xZ5O N v=some (vchk v):=by
 have hc:=xZeU v.Bits h0 h1 N
 simp only [xZ5O,hc,Option.bind_some,vchk,Bool.cond_eq_ite,xZv]
 by_cases k1:v.Kind=1
 ·simp [k1];repeat' split
  all_goals first | rfl | (exfalso;omega) | simp_all
 ·by_cases k2:v.Kind=2
  ·simp [k2];repeat' split
   all_goals first | rfl | (exfalso;omega) | simp_all
  ·by_cases k3:v.Kind=3
   ·simp [k3];repeat' split
    all_goals first | rfl | (exfalso;omega) | simp_all
   ·by_cases k4:v.Kind=4
    ·simp [k4];repeat' split
     all_goals first | rfl | (exfalso;omega) | simp_all
    ·simp [k1,k2,k3,k4];repeat' split
     all_goals first | rfl | (exfalso;omega) | (intros;omega) | simp_all
def nResl:List (List UInt8):=[[119,105,116,104,105,110],[98,121],[97,110,100],[111,114],[110,111,116],[97,110,121],[110,101,120,116],[115,116,114,105,99,116],[116,114,117,101],[102,97,108,115,101]]
def nResv (s:List UInt8):Bool:=nResl.any (s==·)
theorem xZm2 (s:List UInt8):W (fun N=>xZ29 N s) (·=nResv s):=by
 refine wall fun N=>?_
 have e2:∀ (b r:Bool),(bif b then some true else some r)=some (b || r):=by intro b r;cases b<;>rfl
 unfold xZ29
 have e3:∀ (b r r':Bool),(bif b then some (b || r') else some r)=some (b || r):=by intro b r r';cases b<;>rfl
 have e4:∀ (b r:Bool),(bif b then some b else some r)=some (b || r):=by intro b r;cases b<;>rfl
 simp only [nResv,nResl,List.any_cons,List.any_nil,e2,e3,e4,Bool.or_false]
theorem xZli (s:List UInt8):W (fun N=>xZ3Q N s) (·=nResv s):=by
 refine wr1 (l:=nResl) (fun _ rest=>rest.any (s==·)) [] nResl rfl rfl (by decide) ?_ ?_
 ·intro F pre e rest hl h1 h2 h3 hn
  simp only [xZ2f]
  rw [show ltB (pre.length:Int) (List.length ([[119,105,116,104,105,110],[98,121],[97,110,100],[111,114],[110,111,116],[97,110,121],[110,101,120,116],[115,116,114,105,99,116],[116,114,117,101],[102,97,108,115,101]]:List (List UInt8)):Int)=true from h1]
  have h2':ix ([[119,105,116,104,105,110],[98,121],[97,110,100],[111,114],[110,111,116],[97,110,121],[110,101,120,116],[115,116,114,105,99,116],[116,114,117,101],[102,97,108,115,101]]:List (List UInt8)) (pre.length:Int)=some e:=h2
  simp only [h2',h3,Option.bind_some,cond_true,List.any_cons,xZ1S,W.cond,W.ret]
  rw [show (e==s)=(s==e) from BEq.comm]
  refine ⟨fun h=>by simp only [h,Bool.true_or],fun h=>by simp only [h,Bool.false_or];exact hn⟩
 ·intro F h1
  simp only [xZ2f]
  rw [show ltB (nResl.length:Int) (List.length ([[119,105,116,104,105,110],[98,121],[97,110,100],[111,114],[110,111,116],[97,110,121],[110,101,120,116],[115,116,114,105,99,116],[116,114,117,101],[102,97,108,115,101]]:List (List UInt8)):Int)=false from h1]
  exact W.ret.2 rfl
def nLtr (c:UInt8):Bool:=leB 97 (c.toNat:Int)&&leB (c.toNat:Int) 122
def nTl (c:UInt8):Bool:=nLtr c || (leB 48 (c.toNat:Int)&&leB (c.toNat:Int) 57) || ((c.toNat:Int)==95)
def nm:List UInt8→Bool
 | []=>false
 | c::t=>!(ltB 12 ((c::t).length:Int))&&(nLtr c&&(!nResv (c::t)&&t.all nTl))
theorem xZcB (c:UInt8) (N:Nat):xZ4o N (c.toNat:Int)=some (nLtr c):=by
 simp only [xZ4o,nLtr];cases leB 97 (c.toNat:Int)<;>rfl
theorem xZji (c:UInt8) (N:Nat):xZ7V N (c.toNat:Int)=some (nTl c):=by
 simp only [xZ7V,xZcB,Option.bind_some,nTl]
 cases nLtr c<;>cases leB 48 (c.toNat:Int)<;>cases leB (c.toNat:Int) 57<;>rfl
theorem xZ4R (s:List UInt8):W (fun N=>xZ2N N s) (·=nm s):=by
 cases s with
 | nil=>exact wall fun _=>rfl
 | cons c t=>
   simp only [xZ2N,show ((c::t)==([]:List UInt8))=false from rfl,cond_false,W.cond,W.ret,show ix (c::t) 0=some c from rfl,Option.bind_some,xZcB]
   refine ⟨fun h=>by simp only [nm,h,Bool.not_true,Bool.false_and],fun h=>⟨fun h'=>?_,fun h'=>?_⟩⟩
   ·have h':nLtr c=false:=by simpa using h'
    simp only [nm,h',Bool.false_and,Bool.and_false]
   have h':nLtr c=true:=by simpa using h'
   simp only [nm,h,h',Bool.not_false,Bool.true_and]
   refine W.call (xZm2 _) ?_
   rintro _ rfl
   simp only [W.cond,W.ret]
   refine ⟨fun h2=>by simp only [h2,Bool.not_true,Bool.false_and],fun h2=>?_⟩
   simp only [h2,Bool.not_false,Bool.true_and]
   have hb:=xZL.1 h
   refine wr1 (l:=c::t) (fun _ rest=>rest.all nTl) [c] t rfl rfl (by omega) ?_ ?_
   ·intro F pre e rest hl h1 h2 h3 hn
    simp only [xZ5F,h1,h2,h3,Option.bind_some,cond_true,xZji,W.cond,W.ret,xZ1S,List.all_cons]
    refine ⟨fun h=>?_,fun h=>?_⟩
    ·have h:nTl e=false:=by simpa using h
     simp only [h,Bool.false_and]
    ·have h:nTl e=true:=by simpa using h
     simp only [h,Bool.true_and];exact hn
   ·intro F h1
    simp only [xZ5F,h1,cond_false,W.ret,List.all_nil]
def nmr:List UInt8→List UInt8→Bool
 | [],c::t=>nLtr c&&t.all nTl
 | [],[]=>true
 | _::_,rest=>rest.all nTl
theorem xZsB (pre:List UInt8) (e:UInt8) (rest:List UInt8):nmr pre (e::rest)=(if (if pre=[] then nLtr e else nTl e)=true then rest.all nTl else false):=by
 cases pre with
 | nil=>simp only [nmr,if_true];cases nLtr e<;>rfl
 | cons c t=>simp only [nmr,List.all_cons,reduceCtorEq,if_false];cases nTl e<;>rfl
theorem xZsd (pre:List UInt8) (e:UInt8) (rest:List UInt8):nmr (pre++[e]) rest=rest.all nTl:=by
 cases pre<;>rfl
theorem xZ5y (s:List UInt8):W (fun N=>xZ3k N s) (·=nm s):=by
 cases s with
 | nil=>exact wall fun _=>rfl
 | cons c t=>
   have e0:ltB (((c::t).length:Nat):Int) 1=false:=xZL.2 (by simp;omega)
   simp only [xZ3k,e0,cond_false,W.cond,W.ret]
   refine ⟨fun h=>by simp only [nm,h,Bool.not_true,Bool.false_and],fun h=>?_⟩
   simp only [nm,h,Bool.not_false,Bool.true_and]
   refine W.call (xZli _) ?_
   rintro _ rfl
   simp only [W.cond,W.ret]
   refine ⟨fun h2=>by simp only [h2,Bool.not_true,Bool.false_and,Bool.and_false],fun h2=>?_⟩
   simp only [h2,Bool.not_false,Bool.true_and]
   have hb:=xZL.1 h
   refine wr1 (l:=c::t) nmr [] (c::t) rfl rfl (by omega) ?_ ?_
   ·intro F pre e rest hl h1 h2 h3 hn
    simp only [xZ6f,h1,h2,h3,Option.bind_some,cond_true,xZ1S]
    rw [xZsB]
    rw [xZsd] at hn
    have hi0:((pre.length:Int)==0)=decide (pre=[]):=by cases pre<;>simp<;>omega
    have e95:(((e.toNat:Int)==95):Bool)=decide (e.toNat=95):=by rw [Bool.eq_iff_iff];simp;omega
    have a1:leB 97 (e.toNat:Int)=decide (97≤e.toNat):=by rw [xZ5b];simp only [decide_eq_decide];omega
    have a2:leB 48 (e.toNat:Int)=decide (48≤e.toNat):=by rw [xZ5b];simp only [decide_eq_decide];omega
    have a3:leB (e.toNat:Int) 57=decide (e.toNat≤57):=by rw [xZ5b];simp only [decide_eq_decide];omega
    have a4:leB (e.toNat:Int) 122=decide (e.toNat≤122):=by rw [xZ5b];simp only [decide_eq_decide];omega
    simp only [hi0,e95,a1,a2,a3,a4,nTl,nLtr]
    generalize rest.all nTl=R at hn ⊢
    by_cases b0:pre=[]<;>by_cases b1:97≤e.toNat<;>by_cases b2:48≤e.toNat<;>by_cases b3:e.toNat≤57<;>by_cases b4:e.toNat≤122<;>by_cases b5:e.toNat=95<;>
     first | (exfalso;omega) | (simp only [b0,b1,b2,b3,b4,b5,decide_true,decide_false,if_true,if_false,cond_true,cond_false,Bool.not_true,Bool.not_false,Bool.true_and,Bool.and_true,Bool.false_and,Bool.and_false,Bool.true_or,Bool.or_true,Bool.false_or,Bool.or_false,reduceCtorEq,Bool.false_eq_true];first | exact hn | (subst b0;exact hn) | exact W.ret.2 rfl)
   ·intro F h1
    simp only [xZ6f,h1,cond_false,W.ret,nmr,List.all_nil]
section
def zT:xZ0:=⟨0,0,[],⟨0,0,0,[]⟩⟩
def tk (y:List xZ0) (i:Nat):xZ0:=y[i]?.getD zT
def plc (y:List xZ0) (e:Int) (i:Nat):Int:=match y[i]? with
 | some t=>t.At
 | none=>e
def isT' (y:List xZ0) (i:Nat) (k:Int) (s:List UInt8):Bool:=((tk y i).Kind==k)&&((tk y i).Text==s)
section
variable {N:Nat} {y:List xZ0} {i:Nat} {e:Int}
theorem ix_at (h:i < y.length):ix y (i:Int)=some (tk y i)∧y[i]?=some (tk y i):=by
 have:y[i]?=some y[i]:=List.getElem?_eq_getElem h
 rw [ix_nat',tk,this];exact ⟨rfl,rfl⟩
theorem xZgm (h:¬ i < y.length):tk y i=zT:=by
 rw [tk,List.getElem?_eq_none (by omega)];rfl
theorem xZdR:ltB (i:Int) (y.length:Int)=decide (i < y.length):=by
 rw [xZ8R];congr 1;exact propext (by omega)
theorem xZhi:xZq N y i e=some (tk y i,y,(i:Int),e):=by
 simp only [xZq,xZdR]
 by_cases h:i < y.length
 ·simp [h,(ix_at h).1]
 ·simp [h,xZgm h,zT]
theorem xZpc:xZj N y i e=some (plc y e i,y,(i:Int),e):=by
 simp only [xZj,xZdR]
 by_cases h:i < y.length
 ·simp only [h,decide_true,cond_true,(ix_at h).1,Option.bind_some,plc,(ix_at h).2]
 ·simp [h,plc,List.getElem?_eq_none (Nat.le_of_not_lt h)]
theorem xZj9 (c:Int):xZl N c y i e=some (c,plc y e i,y,(i:Int),e):=by
 simp only [xZl,xZpc,Option.bind_some]
theorem xZ8a {n:Nat} (h:n≤1000000):i64b ((n:Int)+1)=true:=xZo.2 (by omega)
theorem xZgT (k:Int) (s:List UInt8) (hi:i≤1000000):xZg N k s y i e=some (if isT' y i k s=true then (true,y,((i+1:Nat):Int),e) else (false,y,(i:Int),e)):=by
 simp only [xZg,xZhi,Option.bind_some,xZ8a hi,xZ1S,isT']
 by_cases h1:(tk y i).Kind=k
 ·by_cases h2:(tk y i).Text=s
  ·simp [h1,h2]
  ·simp [h1,show ((tk y i).Text==s)=false by simpa using h2]
 ·simp [show ((tk y i).Kind==k)=false by simpa using h1,show ((tk y i).Kind != k)=true by simpa using h1]
theorem xZmS (k:Int) (hi:i≤1000000):xZE N k y i e=some (if (tk y i).Kind=k then .inr (tk y i,y,((i+1:Nat):Int),e) else .inl (4,plc y e i,y,(i:Int),e)):=by
 simp only [xZE,xZhi,xZj9,Option.bind_some,xZ8a hi,xZ1S]
 by_cases h1:(tk y i).Kind=k
 ·simp [h1]
 ·simp [h1,show ((tk y i).Kind != k)=true by simpa using h1]
theorem xZS {k:Int} (hk:k≠0) (h:(tk y i).Kind=k):i < y.length:=by
 by_cases hi:i < y.length
 ·exact hi
 ·rw [xZgm hi] at h;exact absurd h.symm hk
theorem xZP {k:Int} {s:List UInt8} (h:isT' y i k s=true):(tk y i).Kind=k∧(tk y i).Text=s:=by
 simpa [isT'] using h
def U (y:List xZ0) (i:Nat):Nat⊕(xZ2×Nat):=if isT' y i 4 [45]=true then (if (tk y (i+1)).Val.Kind=1∧(tk y (i+1)).Kind=3 then .inr (⟨9,0,[],[],⟨(tk y (i+1)).Val.Kind,IntKind.i64.wrap (0 - (tk y (i+1)).Val.N),(tk y (i+1)).Val.Bits,(tk y (i+1)).Val.Text⟩⟩,i+2) else .inl (i+1)) else if (tk y i).Kind=3 then .inr (⟨9,0,[],[],(tk y i).Val⟩,i+1) else if (tk y i).Kind=1 then (if isT' y (i+1) 4 [46]=true then (if (tk y (i+2)).Kind=1 then .inr (⟨8,0,(tk y i).Text,(tk y (i+2)).Text,⟨0,0,0,[]⟩⟩,i+3) else .inl (i+2)) else .inr (⟨7,0,[],(tk y i).Text,⟨0,0,0,[]⟩⟩,i+1)) else .inl i
theorem U_ok:match U y i with
 | .inl j=>i≤j∧(i≤y.length→j≤y.length)
 | .inr (_,j)=>i < j∧j≤y.length:=by
 unfold U
 by_cases h1:isT' y i 4 [45]=true
 ·have:=xZS (by decide) (xZP h1).1
  rw [if_pos h1]
  by_cases h2:(tk y (i+1)).Val.Kind=1∧(tk y (i+1)).Kind=3
  ·have:=xZS (by decide) h2.2
   rw [if_pos h2];simp only;omega
  ·rw [if_neg h2];simp only;omega
 rw [if_neg h1]
 by_cases h2:(tk y i).Kind=3
 ·have:=xZS (by decide) h2
  rw [if_pos h2];simp only;omega
 rw [if_neg h2]
 by_cases h3:(tk y i).Kind=1
 ·have:=xZS (by decide) h3
  rw [if_pos h3]
  by_cases h4:isT' y (i+1) 4 [46]=true
  ·have:=xZS (by decide) (xZP h4).1
   rw [if_pos h4]
   by_cases h5:(tk y (i+2)).Kind=1
   ·have:=xZS (by decide) h5
    rw [if_pos h5];simp only;omega
   ·rw [if_neg h5];simp only;omega
  ·rw [if_neg h4];simp only;omega
 ·rw [if_neg h3];simp only;omega
abbrev PR:=(Int×Int×List xZ0×Int×Int)⊕(List xZ2×List xZ0×Int×Int)
def enP (y:List xZ0) (e:Int):(Int×Nat)⊕(List xZ2×Nat)→PR
 | .inl (c,j)=>.inl (c,plc y e j,y,(j:Int),e)
 | .inr (l,j)=>.inr (l,y,(j:Int),e)
def UR (y:List xZ0) (i:Nat):(Int×Nat)⊕(List xZ2×Nat):=match U y i with
 | .inl j=>.inl (4,j)
 | .inr (n,j)=>.inr ([n],j)
theorem xZu5 (hi:i≤900000):xZu N y i e=some (enP y e (UR y i)):=by
 have c2:((i+1:Nat):Int)=(i:Int)+1:=by omega
 simp only [xZu,xZgT (N:=N) (y:=y) (e:=e) 4 [45] (show i≤1000000 by omega),Option.bind_some,UR,U]
 by_cases h1:isT' y i 4 [45]=true
 ·simp only [if_pos h1,cond_true,xZhi,Option.bind_some]
  by_cases h2:(tk y (i+1)).Val.Kind=1
  ·simp only [h2,bne_self_eq_false,cond_false,xZmS (N:=N) (y:=y) (e:=e) 3 (show i+1≤1000000 by omega),Option.bind_some,true_and]
   by_cases h3:(tk y (i+1)).Kind=3
   ·simp only [if_pos h3,Sum.elim_inr,enP,h2]
   ·simp only [if_neg h3,Sum.elim_inl,enP]
  ·simp only [show ((tk y (i+1)).Val.Kind != 1)=true by simpa using h2,cond_true,xZj9,Option.bind_some,h2,false_and,if_false,enP]
 ·simp only [if_neg h1,cond_false,xZhi,Option.bind_some]
  by_cases h2:(tk y i).Kind=3
  ·simp only [h2,beq_self_eq_true,cond_true,xZ8a (show i≤1000000 by omega),xZ1S,if_true,enP,c2]
  ·simp only [show ((tk y i).Kind==3)=false by simpa using h2,cond_false,h2,if_false,xZmS (N:=N) (y:=y) (e:=e) 1 (show i≤1000000 by omega),Option.bind_some]
   by_cases h3:(tk y i).Kind=1
   ·simp only [if_pos h3,Sum.elim_inr,xZgT (N:=N) (y:=y) (e:=e) 4 [46] (show i+1≤1000000 by omega),Option.bind_some]
    by_cases h4:isT' y (i+1) 4 [46]=true
    ·simp only [if_pos h4,cond_true,xZmS (N:=N) (y:=y) (e:=e) 1 (show i+2≤1000000 by omega),Option.bind_some]
     by_cases h5:(tk y (i+2)).Kind=1
     ·simp only [if_pos h5,Sum.elim_inr,enP]
     ·simp only [if_neg h5,Sum.elim_inl,enP]
    ·simp only [if_neg h4,cond_false,enP]
   ·simp only [if_neg h3,Sum.elim_inl,enP]
end
end
section
def oS (y:List xZ0) (e:Int) (i:Nat):xZ6:=⟨y,i,e,⟨0,0⟩⟩
def fS (y:List xZ0) (e:Int) (c:Int) (j k:Nat):xZ6:=⟨y,k,e,⟨c,plc y e j⟩⟩
section
variable {N:Nat} {y:List xZ0} {i:Nat} {e:Int} {F:xZ3}
theorem xZo4 {k:Int} (hk:k≠0) (s:List UInt8):xZ1l N ⟨y,i,e,F⟩ k s=some (isT' y i k s):=by
 simp only [xZ1l,xZdR,isT']
 by_cases h:i < y.length
 ·simp only [h,decide_true,cond_true,(ix_at h).1,Option.bind_some]
  cases (tk y i).Kind==k<;>simp
 ·rw [xZgm h]
  simp [h,zT,hk.symm]
theorem xZkG {k:Int} (hk:k≠0):xZ1Q N ⟨y,i,e,F⟩ k=some ((tk y i).Kind==k):=by
 simp only [xZ1Q,xZdR]
 by_cases h:i < y.length
 ·simp only [h,decide_true,cond_true,(ix_at h).1,Option.bind_some]
 ·rw [xZgm h]
  simp [h,zT,hk.symm]
theorem xZmU:xZ4O N ⟨y,i,e,F⟩=some (plc y e i):=by
 simp only [xZ4O,xZdR]
 by_cases h:i < y.length
 ·simp only [h,decide_true,cond_true,(ix_at h).1,Option.bind_some,plc,(ix_at h).2]
 ·simp [h,plc,List.getElem?_eq_none (Nat.le_of_not_lt h)]
theorem xZd1 (c:Int):xZR N (oS y e i) c=some (fS y e c i i):=by
 simp only [xZR,oS,beq_self_eq_true,cond_true,xZmU,Option.bind_some,fS]
theorem xZfI (hi:i≤1000000):xZi N ⟨y,i,e,F⟩=some ⟨y,((i+1:Nat):Int),e,F⟩:=by
 simp only [xZi,xZ8a hi,xZ1S,show ((i+1:Nat):Int)=(i:Int)+1 by omega]
def enU (y:List xZ0) (e:Int):Nat⊕(xZ2×Nat)→List xZ2×xZ6
 | .inl j=>([],fS y e 4 j j)
 | .inr (n,j)=>([n],oS y e j)
theorem xZsy (hi:i≤900000):xZ2X N (oS y e i)=some (enU y e (U y i)):=by
 have r1:∀ j:Nat,xZ1Q N (oS y e j) 1=some ((tk y j).Kind==1):=fun j=>xZkG (by decide)
 have r3:∀ j:Nat,xZ1Q N (oS y e j) 3=some ((tk y j).Kind==3):=fun j=>xZkG (by decide)
 have t4:∀ (j:Nat) s,xZ1l N (oS y e j) 4 s=some (isT' y j 4 s):=fun j s=>xZo4 (by decide) s
 have st:∀ j:Nat,j≤1000000→xZi N (oS y e j)=some (oS y e (j+1)):=fun j hj=>xZfI hj
 have ixo:∀ j:Nat,j < y.length→ix (oS y e j).L (oS y e j).At=some (tk y j):=fun j hj=>(ix_at hj).1
 simp only [xZ2X,r3,t4,r1,Option.bind_some,U]
 by_cases h3:(tk y i).Kind=3
 ·have hl:=xZS (by decide) h3
  have n1:¬ isT' y i 4 [45]=true:=fun h=>by have:=(xZP h).1;omega
  simp only [h3,beq_self_eq_true,cond_true,ixo i hl,st i (by omega),Option.bind_some,if_neg n1,if_true,enU]
 simp only [show ((tk y i).Kind==3)=false by simpa using h3,cond_false,h3,if_false]
 by_cases h1:isT' y i 4 [45]=true
 ·simp only [h1,cond_true,st i (show i≤1000000 by omega),Option.bind_some,r3,if_true]
  by_cases h2:(tk y (i+1)).Kind=3
  ·have hl:=xZS (by decide) h2
   simp only [h2,beq_self_eq_true,Bool.not_true,cond_false,ixo (i+1) hl,Option.bind_some,and_true]
   by_cases h4:(tk y (i+1)).Val.Kind=1
   ·simp only [h4,bne_self_eq_false,cond_false,st (i+1) (show i+1≤1000000 by omega),Option.bind_some,if_true,enU]
   ·simp only [show ((tk y (i+1)).Val.Kind != 1)=true by simpa using h4,cond_true,xZd1,Option.bind_some,h4,if_false,enU]
  ·simp only [show ((tk y (i+1)).Kind==3)=false by simpa using h2,Bool.not_false,cond_true,xZd1,Option.bind_some,h2,and_false,if_false,enU]
 simp only [show isT' y i 4 [45]=false by simpa using h1,cond_false,Bool.false_eq_true,if_false]
 by_cases h2:(tk y i).Kind=1
 ·have hl:=xZS (by decide) h2
  simp only [h2,beq_self_eq_true,Bool.not_true,cond_false,ixo i hl,st i (show i≤1000000 by omega),t4,Option.bind_some,if_true]
  by_cases h4:isT' y (i+1) 4 [46]=true
  ·simp only [h4,Bool.not_true,cond_false,st (i+1) (show i+1≤1000000 by omega),r1,Option.bind_some,if_true]
   by_cases h5:(tk y (i+2)).Kind=1
   ·have hl2:=xZS (by decide) h5
    simp only [h5,beq_self_eq_true,Bool.not_true,cond_false,ixo (i+2) hl2,ixo (i+1+1) hl2,st (i+1+1) (show i+1+1≤1000000 by omega),Option.bind_some,if_true,enU]
   ·simp only [show ((tk y (i+1+1)).Kind==1)=false by simpa using h5,Bool.not_false,cond_true,xZd1,Option.bind_some,h5,if_false,enU]
  ·simp only [show isT' y (i+1) 4 [46]=false by simpa using h4,Bool.not_false,cond_true,Bool.false_eq_true,if_false,enU]
 ·simp only [show ((tk y i).Kind==1)=false by simpa using h2,Bool.not_false,cond_true,xZd1,Option.bind_some,h2,if_false,enU]
end
end
theorem W.shift {α:Type} {f:Nat→Option α} {Q:α→Prop} (h:W (fun N=>f (N+1)) Q):W f Q:=by
 obtain ⟨a,⟨n,hn⟩,hq⟩:=h
 refine ⟨a,⟨n+1,fun N hN=>?_⟩,hq⟩
 obtain ⟨M,rfl⟩:∃ M,N=M+1:=⟨N - 1,by omega⟩
 exact hn M (by omega)
theorem xZst (ks:List (List xZ2)) (hk:ks.length≤10) (hf:ks.flatten.length≤100000):W (fun N=>xZ24 N ks) (·=.inr ks.flatten):=by
 simp only [xZ24]
 have pre_le:∀ {pre rest:List (List xZ2)},ks=pre++rest→pre.flatten.length≤100000:=fun h=>by
  have:=congrArg (fun l=>l.flatten.length) h
  simp only [List.flatten_append,List.length_append] at this
  omega
 refine wf2z (l:=ks) (fun pre s=>s=(pre.flatten.length:Int)) [] rfl rfl (by omega) rfl ?_ ?_
 ·rintro F pre k rest s hl h1 h2 h3 rfl hn
  have hp:=pre_le (pre:=pre++[k]) (rest:=rest) (by simpa using hl)
  have hpl:pre.length≤10:=by
   have:=congrArg List.length hl
   simp only [List.length_append,List.length_cons] at this
   omega
  simp only [List.flatten_append,List.length_append,List.flatten_cons,List.flatten_nil,List.append_nil] at hp
  simp only [xZ1H,h1,cond_true,h2,Option.bind_some,W.gd,W.cond,xZo,xZv,xZL,W.ret]
  refine ⟨by omega,fun h=>by omega,fun _=>⟨by omega,hn _ (by simp)⟩⟩
 ·rintro F s h1 rfl
  have hp:=pre_le (pre:=ks) (rest:=[]) (by simp)
  simp only [xZ1H,h1,cond_false,xZ19]
  rw [show leB 0 (ks.flatten.length:Int)=true from xZ16.2 (by omega),show leB (80 * (ks.flatten.length:Int)) 140737488355328=true from xZ16.2 (by omega)]
  simp only [xZ1S,Option.bind_some]
  refine wf2a (l:=ks) (fun pre ys=>ys=pre.flatten) [] rfl rfl (by omega) rfl ?_ ?_
  ·rintro F2 pre k rest ys hl g1 g2 g3 rfl hn
   have hp:=pre_le (pre:=pre++[k]) (rest:=rest) (by simpa using hl)
   simp only [List.flatten_append,List.length_append,List.flatten_cons,List.flatten_nil,List.append_nil] at hp
   simp only [xZ1F,g1,cond_true,g2,Option.bind_some,W.gd,g3,Nat.ble_eq]
   exact ⟨by omega,trivial,hn _ (by simp)⟩
  ·rintro F2 ys g1 rfl
   simp only [xZ1F,g1,cond_false,W.ret]
theorem xZmB (n:xZ2) (ks:List (List xZ2)) (hk:ks.length≤10) (hf:ks.flatten.length≤100000):W (fun N=>xZ15 N n ks) (·=n::ks.flatten):=by
 simp only [xZ15]
 refine W.call (xZst ks hk hf) ?_
 rintro _ rfl
 simp only [Sum.elim_inr,W.gd,W.ret,Nat.ble_eq]
 exact ⟨by omega,trivial⟩
theorem xZeE {N:Nat} (n:xZ2) (a b:List xZ2) (h:a.length+b.length≤100000):xZJ N n a b=some (n::(a++b)):=by
 simp only [xZJ,show Nat.ble ((1+List.length a) * 80) 140737488355328=true by rw [Nat.ble_eq];omega,show Nat.ble ((List.length a+1+List.length b) * 80) 140737488355328=true by rw [Nat.ble_eq];omega,xZ1S]
abbrev RR:=(Int×Nat)⊕(List xZ2×Nat)
def okR (y:List xZ0) (i:Nat):RR→Prop
 | .inl (c,j)=>c≠0∧i≤j∧j≤y.length
 | .inr (l,j)=>i < j∧j≤y.length∧l.length≤j - i
def rfR (y:List xZ0) (e:Int) (i:Nat):RR→List xZ2×xZ6→Prop
 | .inl (c,j),r=>∃ k,r.2=fS y e c j k∧k+i≤2 * y.length∧i≤k∧r.1.length≤k - i
 | .inr (l,j),r=>r=(l,oS y e j)
def bn (k:Int):xZ2:=⟨k,0,[],[],⟨0,0,0,[]⟩⟩
def lpG (f:Nat→RR) (sep:Nat→Option Int):Nat→List xZ2→Nat→RR
 | 0,l,j=>.inr (l,j)
 | n+1,l,j=>match sep j with
   | some k=>match f (j+1) with
     | .inl x=>.inl x
     | .inr (r,j')=>lpG f sep n (bn k::(l++r)) j'
   | none=>.inr (l,j)
def sepS (y:List xZ0) (j:Nat):Option Int:=if isT' y j 4 [43]=true then some 5 else if isT' y j 4 [45]=true then some 6 else none
def SU (y:List xZ0) (i:Nat):RR:=match UR y i with
 | .inl x=>.inl x
 | .inr (l,j)=>lpG (UR y) (sepS y) (y.length - j) l j
theorem UR_ok {y:List xZ0} {i:Nat} (hi:i≤y.length):okR y i (UR y i):=by
 have:=U_ok (y:=y) (i:=i)
 unfold UR
 cases h:U y i with
 | inl j=>rw [h] at this;exact ⟨by decide,this.1,this.2 hi⟩
 | inr p=>rw [h] at this;exact ⟨this.1,this.2,by simp;omega⟩
theorem xZu0 {y:List xZ0} {i:Nat} {e:Int} (hi:i≤900000):W (fun N=>xZu N y i e) (·=enP y e (UR y i)):=wall fun N=>xZu5 hi
theorem xZrR {y:List xZ0} {i:Nat} {e:Int} (hi:i≤y.length) (hy:y.length≤700):W (fun N=>xZ2X N (oS y e i)) (rfR y e i (UR y i)):=by
 refine (wall fun N=>xZsy (show i≤900000 by omega)).mp ?_
 rintro _ rfl
 have:=U_ok (y:=y) (i:=i)
 unfold UR
 cases h:U y i with
 | inl j=>
   rw [h] at this
   have:=this.2 hi
   exact ⟨j,rfl,by omega,by omega,Nat.zero_le _⟩
 | inr p=>rfl
theorem xZkd {f:Nat→RR} {sep:Nat→Option Int} {n:Nat} {l:List xZ2} {j:Nat} {k:Int} {r:List xZ2} {j':Nat} (hs:sep j=some k) (hf:f (j+1)=.inr (r,j')):lpG f sep (n+1) l j=lpG f sep n (bn k::(l++r)) j':=by
 simp only [lpG,hs,hf]
theorem xZjA {f:Nat→RR} {sep:Nat→Option Int} {n:Nat} {l:List xZ2} {j:Nat} {k:Int} {x:Int×Nat} (hs:sep j=some k) (hf:f (j+1)=.inl x):lpG f sep (n+1) l j=.inl x:=by
 simp only [lpG,hs,hf]
theorem xZh3 {f:Nat→RR} {sep:Nat→Option Int} {n:Nat} {l:List xZ2} {j:Nat} (hs:sep j=none):lpG f sep n l j=.inr (l,j):=by
 cases n<;>simp only [lpG,hs]
theorem xZsk {y:List xZ0} {f:Nat→RR} {sep:Nat→Option Int} {i:Nat} (hf:∀ j,j≤y.length→okR y j (f j)) (hs:∀ j k,sep j=some k→j < y.length):∀ (n:Nat) (l:List xZ2) (j:Nat),i < j→j≤y.length→l.length≤j - i→okR y i (lpG f sep n l j)
 | 0,l,j,h1,h2,h3=>⟨h1,h2,h3⟩
 | n+1,l,j,h1,h2,h3=>by
   cases h:sep j with
   | none=>rw [xZh3 h];exact ⟨h1,h2,h3⟩
   | some k=>
     have hj:=hs j k h
     have:=hf (j+1) hj
     cases g:f (j+1) with
     | inl x=>
       rw [g] at this
       rw [xZjA h g]
       exact ⟨this.1,by have:=this.2.1;omega,this.2.2⟩
     | inr p=>
       obtain ⟨r,j'⟩:=p
       rw [g] at this
       rw [xZkd h g]
       obtain ⟨g1,g2,g3⟩:=this
       exact xZsk hf hs n _ j' (by omega) g2 (by simp only [List.length_cons,List.length_append];omega)
theorem xZpx {y:List xZ0} {j:Nat} {k:Int} (h:sepS y j=some k):j < y.length:=by
 unfold sepS at h
 split at h
 ·rename_i h1;exact xZS (by decide) (xZP h1).1
 ·split at h
  ·rename_i h1;exact xZS (by decide) (xZP h1).1
  ·cases h
theorem SU_ok {y:List xZ0} {i:Nat} (hi:i≤y.length):okR y i (SU y i):=by
 have:=UR_ok hi
 unfold SU
 cases h:UR y i with
 | inl x=>rw [h] at this;exact this
 | inr p=>
   obtain ⟨l,j⟩:=p
   rw [h] at this
   exact xZsk (fun j hj=>UR_ok hj) (fun j k hk=>xZpx hk) _ l j this.1 this.2.1 this.2.2
theorem w_sum {y:List xZ0} {i:Nat} {e:Int} (hi:i≤y.length) (hy:y.length≤700):W (fun N=>xZ1h N y i e) (·=enP y e (SU y i)):=by
 simp only [xZ1h]
 have h0:=UR_ok hi
 refine W.call (xZu0 (show i≤900000 by omega)) ?_
 rintro _ rfl
 unfold SU
 cases h:UR y i with
 | inl x=>simp only [enP,Sum.elim_inl,W.ret]
 | inr p=>
   obtain ⟨l0,j0⟩:=p
   rw [h] at h0
   simp only [enP,Sum.elim_inr]
   refine W.lp4 (fun l y4 y5 y6=>∃ j n:Nat,y4=y∧y5=(j:Int)∧y6=e∧i < j∧j≤y.length∧l.length≤j - i∧y.length - j≤n∧lpG (UR y) (sepS y) n l j=lpG (UR y) (sepS y) (y.length - j0) l0 j0) (fun _ _ y5 _=>y.length - y5.toNat) ⟨j0,_,rfl,rfl,rfl,h0.1,h0.2.1,h0.2.2,Nat.le_refl _,rfl⟩ ?_
   rintro F l y4 y5 y6 ⟨j,n,rfl,rfl,rfl,g1,g2,g3,g4,g5⟩ hn
   simp only [xZ2k,xZgT (y:=y4) (i:=j) (e:=y6) 4 [43] (show j≤1000000 by omega),Option.bind_some]
   have round:∀ k:Int,sepS y4 j=some k→∀ (g:(ι:Type)→[Lim ι]→True),W (fun p:Nat×Nat=>(xZu p.1 y4 ((j+1:Nat):Int) y6).bind fun x=>Sum.elim (fun u=>some (Sum.inl (u.1,u.2.1,u.2.2.1,u.2.2.2.1,u.2.2.2.2))) (fun u=>(xZ15 p.1 (bn k) [l,u.1]).bind fun ab=>F p ab u.2.1 u.2.2.1 u.2.2.2) x) (·=enP y4 y6 (lpG (UR y4) (sepS y4) (y4.length - j0) l0 j0)):=fun k hs _=>by
    have hj:=xZpx hs
    obtain ⟨n,rfl⟩:∃ m,n=m+1:=⟨n - 1,by omega⟩
    have hu:=UR_ok (y:=y4) (i:=j+1) hj
    refine W.call (xZu0 (show j+1≤900000 by omega)) ?_
    rintro _ rfl
    cases q:UR y4 (j+1) with
    | inl x=>
      rw [xZjA hs q] at g5
      simp only [enP,Sum.elim_inl,W.ret]
      rw [← g5]
    | inr p=>
      obtain ⟨r,j'⟩:=p
      rw [xZkd hs q] at g5
      rw [q] at hu
      obtain ⟨u1,u2,u3⟩:=hu
      simp only [enP,Sum.elim_inr]
      refine W.call (xZmB (bn k) [l,r] (by simp) (by simp;omega)) ?_
      rintro _ rfl
      exact hn _ _ _ _ ⟨j',n,rfl,rfl,rfl,by omega,u2,by simp;omega,by omega,by simpa using g5⟩ (by omega)
   by_cases h1:isT' y4 j 4 [43]=true
   ·simp only [if_pos h1,cond_true]
    exact round 5 (by simp [sepS,h1]) fun _=>trivial
   ·simp only [if_neg h1,cond_false,xZgT (y:=y4) (i:=j) (e:=y6) 4 [45] (show j≤1000000 by omega),Option.bind_some]
    by_cases h2:isT' y4 j 4 [45]=true
    ·simp only [if_pos h2,cond_true]
     exact round 6 (by simp [sepS,h1,h2]) fun _=>trivial
    ·simp only [if_neg h2,cond_false,W.ret]
     rw [xZh3 (by simp [sepS,h1,h2])] at g5
     rw [← g5]
def inR (y:List xZ0) (e:Int) (i:Nat) (f:Nat→RR) (sep:Nat→Option Int) (fin:RR) (l:List xZ2) (y1:List xZ0) (y2 y3 y4 y5:Int):Prop:=y1=y∧y3=e∧((y4=0∧y5=0∧∃ j n:Nat,y2=(j:Int)∧i < j∧j≤y.length∧l.length≤j - i∧y.length - j≤n∧lpG f sep n l j=fin)∨(y4≠0∧∃ c j k,fin=.inl (c,j)∧y4=c∧y5=plc y e j∧y2=(k:Nat)∧k+i≤2 * y.length∧i≤k∧l.length≤k - i))
def meR (y:List xZ0) (y2 y4:Int):Nat:=if y4=0 then y.length+1 - y2.toNat else 0
theorem xZpl {y:List xZ0} {e:Int} {i:Nat} {f:Nat→RR} {sep:Nat→Option Int} {fin:RR} {l:List xZ2} {y1:List xZ0} {y2 y3 y4 y5:Int} (h:inR y e i f sep fin l y1 y2 y3 y4 y5) (h4:y4≠0):rfR y e i fin (l,⟨y1,y2,y3,⟨y4,y5⟩⟩):=by
 obtain ⟨rfl,rfl,h | ⟨_,c,j,k,rfl,rfl,rfl,rfl,h1,h2,h3⟩⟩:=h
 ·exact absurd h.1 h4
 ·exact ⟨k,rfl,h1,h2,h3⟩
theorem xZmY {ι:Type} [Lim ι] {y:List xZ0} {e:Int} {i j:Nat} {n:Nat} {f:Nat→RR} {sep:Nat→Option Int} {fin:RR} {l:List xZ2} {k:Int} (hy:y.length≤700) (hs:sep j=some k) (hj:j < y.length) (h1:i < j) (h3:l.length≤j - i) (h4:y.length - j≤n+1) (h5:lpG f sep (n+1) l j=fin) (hok:okR y (j+1) (f (j+1)))
 {sub:ι→Option (List xZ2×xZ6)} (hsub:W sub (rfR y e (j+1) (f (j+1)))) {Nx:ι→Nat} {F:ι→List xZ2→List xZ0→Int→Int→Int→Int→Option (List xZ2×xZ6)} {Q:List xZ2×xZ6→Prop}
 (hn:∀ l' y1 y2 y3 y4 y5,inR y e i f sep fin l' y1 y2 y3 y4 y5→meR y y2 y4 < meR y (j:Int) 0→W (fun p=>F p l' y1 y2 y3 y4 y5) Q):
 W (fun p=>(sub p).bind fun u=>(xZJ (Nx p) (bn k) l u.1).bind fun jn=>F p jn u.2.L u.2.At u.2.End u.2.F.E u.2.F.At) Q:=by
 refine W.bind hsub fun u hu=>?_
 cases g:f (j+1) with
 | inl x=>
   obtain ⟨c,jf⟩:=x
   rw [g] at hu hok
   rw [xZjA hs g] at h5
   obtain ⟨kk,hu2,q1,q2,q3⟩:=hu
   obtain ⟨hc,_⟩:=hok
   rw [hu2]
   simp only [xZeE (bn k) l u.1 (by omega),Option.bind_some,fS]
   refine hn _ _ _ _ _ _ ⟨rfl,rfl,.inr ⟨hc,c,jf,kk,h5.symm,rfl,rfl,rfl,by omega,by omega,by simp only [List.length_cons,List.length_append];omega⟩⟩ ?_
   simp only [meR,if_neg hc,if_true];omega
 | inr p=>
   obtain ⟨r,j'⟩:=p
   rw [g] at hu hok
   rw [xZkd hs g] at h5
   obtain ⟨u1,u2,u3⟩:=hok
   obtain rfl:u=(r,oS y e j'):=hu
   simp only [xZeE (bn k) l r (by omega),Option.bind_some,oS]
   refine hn _ _ _ _ _ _ ⟨rfl,rfl,.inl ⟨rfl,rfl,j',n,rfl,by omega,u2,by simp only [List.length_cons,List.length_append];omega,by omega,h5⟩⟩ ?_
   simp only [meR,if_true];omega
theorem xZtG {y:List xZ0} {i:Nat} {e:Int} (hi:i≤y.length) (hy:y.length≤700):W (fun N=>xZ3X N (oS y e i)) (rfR y e i (SU y i)):=by
 simp only [xZ3X]
 have h0:=UR_ok hi
 refine W.call (xZrR hi hy) fun u hu=>?_
 have start:inR y e i (UR y) (sepS y) (SU y i) u.1 u.2.L u.2.At u.2.End u.2.F.E u.2.F.At:=by
  unfold SU
  cases h:UR y i with
  | inl x=>
    rw [h] at h0 hu
    obtain ⟨k,hu2,h1,h2,h3⟩:=hu
    rw [hu2]
    exact ⟨rfl,rfl,.inr ⟨h0.1,x.1,x.2,k,rfl,rfl,rfl,rfl,h1,h2,h3⟩⟩
  | inr p=>
    rw [h] at h0 hu
    obtain rfl:u=(p.1,oS y e p.2):=hu
    exact ⟨rfl,rfl,.inl ⟨rfl,rfl,p.2,_,rfl,h0.1,h0.2.1,h0.2.2,Nat.le_refl _,rfl⟩⟩
 refine W.lp6 (inR y e i (UR y) (sepS y) (SU y i)) (fun _ _ y2 _ y4 _=>meR y y2 y4) start ?_
 rintro F l y1 y2 y3 y4 y5 hin hn
 simp only [xZba,W.cond]
 refine ⟨fun h4=>?_,fun h4=>W.ret.2 (xZpl hin (by simpa using h4))⟩
 obtain ⟨rfl,rfl,⟨rfl,rfl,j,n,rfl,g1,g2,g3,g4,g5⟩ | ⟨h5,_⟩⟩:=hin
 rotate_left
 ·exact absurd (by simpa using h4) h5
 have round:∀ k:Int,sepS y1 j=some k→W (fun p:Nat×Nat=>(xZi p.1 (xZ6.mk y1 (j:Int) y3 (xZ3.mk 0 0))).bind fun st=>(xZ2X p.1 st).bind fun u=>(xZJ p.1 (bn k) l u.1).bind fun jn=>F p jn u.2.L u.2.At u.2.End u.2.F.E u.2.F.At) (rfR y1 y3 i (SU y1 i)):=fun k hs=>by
  have hj:=xZpx hs
  obtain ⟨n,rfl⟩:∃ m,n=m+1:=⟨n - 1,by omega⟩
  simp only [xZfI (y:=y1) (i:=j) (e:=y3) (F:=⟨0,0⟩) (show j≤1000000 by omega),Option.bind_some]
  exact xZmY hy hs hj g1 g3 g4 g5 (UR_ok hj) (xZrR hj hy).lift hn
 simp only [xZo4 (y:=y1) (i:=j) (e:=y3) (F:=⟨0,0⟩) (show (4:Int)≠0 by decide),Option.bind_some,W.cond]
 refine ⟨fun h1=>⟨fun h2=>?_,fun _=>round 5 (by simp [sepS,h1])⟩,fun h1=>⟨fun h2=>⟨fun _=>round 6 (by simp [sepS,h1,h2]),fun h3=>?_⟩,fun h2=>?_⟩⟩
 ·have a:=(xZP h1).2
  have b:=(xZP h2).2
  rw [a] at b;cases b
 ·rw [h2] at h3;cases h3
 ·rw [W.ret]
  rw [xZh3 (by simp [sepS,h1,h2])] at g5
  rw [← g5];rfl
def opV (s:List UInt8):Int:=if s=[61] then 1 else if s=[33,61] then 2 else if s=[60] then 3 else if s=[60,61] then 4 else if s=[62] then 5 else if s=[62,61] then 6 else 0
def sgV (v:Int):List UInt8:=if v=1 then [61] else if v=2 then [33,61] else if v=3 then [60] else if v=4 then [60,61] else if v=5 then [62] else [62,61]
theorem opV_b (s:List UInt8):0≤opV s∧opV s≤6:=by
 unfold opV
 repeat' split
 all_goals omega
theorem sg_ok (s:List UInt8) (v:Int) (h1:1≤v) (h2:v≤6):(∀ N,xZ2O N v=some (sgV v))∧(∀ N,xZdc N v=some (sgV v))∧((sgV v==s)=true ↔ opV s=v)∧IntKind.u8.wrap (v+1)=v+1∧leB v 6=true:=by
 have h6:v=1∨v=2∨v=3∨v=4∨v=5∨v=6:=by omega
 rcases h6 with rfl | rfl | rfl | rfl | rfl | rfl
 all_goals
  refine ⟨fun N=>rfl,fun N=>rfl,?_,rfl,rfl⟩
  rw [beq_iff_eq]
  constructor
  ·intro h
   rw [← h]
   rfl
  ·intro h
   unfold opV at h
   repeat' split at h
   all_goals first | omega | (rename_i e;rw [e];rfl) | (rename_i e _;rw [e];rfl)
theorem w_op (s:List UInt8):W (fun N=>xZaI N s) (·=opV s):=by
 simp only [xZaI]
 have hb:=opV_b s
 refine W.lp1 (fun v:Int=>1≤v∧v≤7∧(opV s=0∨v≤opV s)) (fun v=>(8 - v).toNat) ⟨by omega,by omega,by omega⟩ ?_
 rintro F v ⟨h1,h2,h3⟩ hn
 by_cases h7:v=7
 ·subst h7
  simp only [xZ6n,show leB 7 6=false from rfl,cond_false,W.ret];omega
 obtain ⟨g1,g2,g3,g4,g5⟩:=sg_ok s v h1 (by omega)
 simp only [xZ6n,g5,cond_true,g1,Option.bind_some,W.cond,W.ret,g4]
 refine ⟨fun h=>(g3.1 h).symm,fun h=>hn _ ⟨by omega,by omega,?_⟩ (by omega)⟩
 have:opV s≠v:=fun e=>by rw [g3.2 e] at h;cases h
 omega
theorem w_rop (s:List UInt8):W (fun N=>xZ9j N s) (·=opV s):=by
 simp only [xZ9j]
 have hb:=opV_b s
 refine W.lp1 (fun v:Int=>1≤v∧v≤7∧(opV s=0∨v≤opV s)) (fun v=>(8 - v).toNat) ⟨by omega,by omega,by omega⟩ ?_
 rintro F v ⟨h1,h2,h3⟩ hn
 by_cases h7:v=7
 ·subst h7
  simp only [xZal,show leB 7 6=false from rfl,cond_false,W.ret];omega
 obtain ⟨g1,g2,g3,g4,g5⟩:=sg_ok s v h1 (by omega)
 simp only [xZal,g5,cond_true,g2,Option.bind_some,W.cond,W.ret,g4]
 refine ⟨fun h=>(g3.1 h).symm,fun h=>hn _ ⟨by omega,by omega,?_⟩ (by omega)⟩
 have:opV s≠v:=fun e=>by rw [g3.2 e] at h;cases h
 omega
section
def bad (n:xZ2):Bool:=bif n.Kind==4 then !(leB 1 n.Op&&leB n.Op 6) else bif n.Kind==7 then !nm n.Name else bif n.Kind==8 then (!nm n.Name) || (!nm n.Var) else bif n.Kind==9 then vchk n.Val != 0 else false
def nds (n:xZ2):Int:=bif bad n then 4 else bif moreB n then 2 else 0
theorem xZsK (v:Int) (N:Nat):∃ s,xZ2O N v=some s∧(s==[])=!(leB 1 v&&leB v 6):=by
 by_cases h:1≤v∧v≤6
 ·have h6:v=1∨v=2∨v=3∨v=4∨v=5∨v=6:=by omega
  rcases h6 with rfl | rfl | rfl | rfl | rfl | rfl<;>exact ⟨_,rfl,rfl⟩
 ·refine ⟨[],?_,?_⟩
  ·have e:∀ k:Int,1≤k∧k≤6→(v==k)=false:=fun k hk=>by
    rw [beq_eq_false_iff_ne];intro he;subst he;exact h hk
   simp only [xZ2O,e 1 (by omega),e 2 (by omega),e 3 (by omega),e 4 (by omega),e 5 (by omega),e 6 (by omega),cond_false]
  ·rw [xZ5b,xZ5b]
   have:¬ (1≤v∧v≤6):=h
   by_cases h1:1≤v
   ·have:¬ v≤6:=fun h2=>h ⟨h1,h2⟩
    simp [h1,this]
   ·simp [h1]
theorem xZuG (n:xZ2):W (fun N=>xZ4v N n) (·=bad n):=by
 obtain ⟨k,op,va,na,v⟩:=n
 simp only [xZ4v,bad]
 by_cases h4:k=4
 ·subst h4
  have e:∀ N,((xZ2O N op).bind fun sign=>some (sign==[]))=some (!(leB 1 op&&leB op 6)):=fun N=>by
   obtain ⟨s,hs,h⟩:=xZsK op N
   rw [hs,Option.bind_some,h]
  simp only [show ((4:Int)==4)=true from rfl,cond_true,e,W.ret]
 simp only [show (k==4)=false by simpa using h4,cond_false]
 by_cases h7:k=7
 ·subst h7
  simp only [show ((7:Int)==7)=true from rfl,cond_true]
  refine W.call (xZ4R na) ?_
  rintro _ rfl
  simp only [W.ret]
 simp only [show (k==7)=false by simpa using h7,cond_false]
 by_cases h8:k=8
 ·subst h8
  simp only [show ((8:Int)==8)=true from rfl,cond_true]
  refine W.call (xZ4R na) ?_
  rintro _ rfl
  cases hn:nm na with
  | false=>simp [W.ret]
  | true=>
    simp only [Bool.not_true,cond_false]
    refine W.call (xZ4R va) ?_
    rintro _ rfl
    simp [W.ret]
 simp only [show (k==8)=false by simpa using h8,cond_false]
 by_cases h9:k=9
 ·subst h9
  simp only [show ((9:Int)==9)=true from rfl,cond_true,xZj7,Option.bind_some,W.ret]
 simp only [show (k==9)=false by simpa using h9,cond_false,W.ret]
set_option maxHeartbeats 4000000 in
theorem xZtI (n:xZ2) (b0:0≤n.Val.Bits) (b1:n.Val.Bits≤18446744073709551615):W (fun N=>xZ8e N n) (·=nds n):=by
 obtain ⟨k,op,va,na,v⟩:=n
 simp only at b0 b1
 simp only [xZ8e,xZ56,xZ3T,xZ21,xZ75,xZ3R,nds,bad,moreB,moreZ]
 by_cases h4:k=4
 ·subst h4
  have l1:ltB op 1=!leB 1 op:=by rw [xZ8R,xZ5b];by_cases h:op < 1<;>simp [h]<;>omega
  have l2:ltB 6 op=!leB op 6:=by rw [xZ8R,xZ5b];by_cases h:6 < op<;>simp [h]<;>omega
  simp only [l1,l2]
  cases leB 1 op<;>cases leB op 6<;>cases hv:(va==[])<;>cases hn:(na==[])<;>cases hz:((v.Kind==0)&&((v.N==0)&&((v.Bits==0)&&(v.Text==[]))))<;>simp [W.ret]
 by_cases h7:k=7
 ·subst h7
  simp only [show ((7:Int)==4)=false from rfl,show ((7:Int)==7)=true from rfl,cond_false,cond_true]
  refine W.call (xZ5y na) ?_
  rintro _ rfl
  cases nm na<;>cases ho:(op==0)<;>cases hv:(va==[])<;>cases hz:((v.Kind==0)&&((v.N==0)&&((v.Bits==0)&&(v.Text==[]))))<;>simp [W.ret,bne,ho]
 by_cases h8:k=8
 ·subst h8
  simp only [show ((8:Int)==4)=false from rfl,show ((8:Int)==7)=false from rfl,show ((8:Int)==8)=true from rfl,cond_false,cond_true]
  refine W.call (xZ5y na) ?_
  rintro _ rfl
  cases nm na with
  | false=>simp [W.ret]
  | true=>
    simp only [Bool.not_true,cond_false]
    refine W.call (xZ5y va) ?_
    rintro _ rfl
    cases nm va<;>cases ho:(op==0)<;>cases hz:((v.Kind==0)&&((v.N==0)&&((v.Bits==0)&&(v.Text==[]))))<;>simp [W.ret,bne,ho]
 by_cases h9:k=9
 ·subst h9
  simp only [xZjF v b0 b1,Option.bind_some]
  cases hc:(vchk v==0)<;>cases ho:(op==0)<;>cases hv:(va==[])<;>cases hn:(na==[])<;>simp [W.ret,bne,ho,hc]
 have e4:(k==4)=false:=by simpa using h4
 have e7:(k==7)=false:=by simpa using h7
 have e8:(k==8)=false:=by simpa using h8
 have e9:(k==9)=false:=by simpa using h9
 simp only [e4,e7,e8,e9,bne,cond_false,Bool.not_false,cond_true]
 cases ho:(op==0)<;>cases hv:(va==[])<;>cases hn:(na==[])<;>cases hz:((v.Kind==0)&&((v.N==0)&&((v.Bits==0)&&(v.Text==[]))))<;>simp [W.ret]
end
def kdN (k:Int):Int:=if k=1∨k=2∨k=4∨k=5∨k=6 then 2 else if k=3 then 1 else 0
def kdW (k:Int) (x:Int):Int:=if k≤3 then 0 else if k=4 then 1 else if x=0 then 1 else 2
def stB (k w:Int):Bool:=bif w==0 then leB 1 k&&leB k 4 else bif w==1 then leB 5 k&&leB k 9 else leB 7 k&&leB k 9
abbrev TF:=Int→Int→Nat→Int×Nat
def kids (p:TF) (k d:Int) (i:Nat):Int×Nat:=if kdN k=0 then (0,i) else if (p (kdW k 0) (d+1) i).1≠0∨kdN k=1 then p (kdW k 0) (d+1) i else p (kdW k 1) (d+1) (p (kdW k 0) (d+1) i).2
def trS (l:List xZ2) (p:TF):TF:=fun w d i=>
 match l[i]? with
 | none=>(3,i)
 | some n=>if 16≤d then (15,i) else if stB n.Kind w=false then (11,i) else if nds n≠0 then (nds n,i) else kids p n.Kind d (i+1)
def TR (l:List xZ2):Nat→TF
 | 0=>fun _ _ i=>(3,i)
 | n+1=>trS l (TR l n)
theorem xZvp (k:Int) (N:Nat):xZce N k=some (kdN k):=by
 simp only [xZce,kdN]
 by_cases h1:k=1
 ·subst h1;rfl
 by_cases h2:k=2
 ·subst h2;rfl
 by_cases h4:k=4
 ·subst h4;rfl
 by_cases h5:k=5
 ·subst h5;rfl
 by_cases h6:k=6
 ·subst h6;rfl
 simp only [show (k==1)=false by simpa using h1,show (k==2)=false by simpa using h2,show (k==4)=false by simpa using h4,show (k==5)=false by simpa using h5,show (k==6)=false by simpa using h6,cond_false,h1,h2,h4,h5,h6,false_or,if_false]
 by_cases h3:k=3
 ·subst h3;rfl
 ·simp [h3,show (k==3)=false by simpa using h3]
theorem xZun (k:Int) (N:Nat):xZ9T N k=some (kdN k):=by
 simp only [xZ9T,kdN]
 by_cases h1:k=1
 ·subst h1;rfl
 by_cases h2:k=2
 ·subst h2;rfl
 by_cases h4:k=4
 ·subst h4;rfl
 by_cases h5:k=5
 ·subst h5;rfl
 by_cases h6:k=6
 ·subst h6;rfl
 simp only [show (k==1)=false by simpa using h1,show (k==2)=false by simpa using h2,show (k==4)=false by simpa using h4,show (k==5)=false by simpa using h5,show (k==6)=false by simpa using h6,cond_false,h1,h2,h4,h5,h6,false_or,if_false]
 by_cases h3:k=3
 ·subst h3;rfl
 ·simp [h3,show (k==3)=false by simpa using h3]
theorem e_kid (n:xZ2) (x:Int) (N:Nat):xZ5E N n x=some (kdW n.Kind x):=by
 simp only [xZ5E,kdW,xZ5b]
 by_cases h3:n.Kind≤3
 ·simp [h3]
 ·by_cases h4:n.Kind=4
  ·simp [h4]
  ·by_cases hx:x=0
   ·simp [h3,h4,hx,show (n.Kind==4)=false by simpa using h4]
   ·simp [h3,h4,hx,show (x==0)=false by simpa using hx,show (n.Kind==4)=false by simpa using h4]
theorem xZw9 (k x:Int) (N:Nat):xZck N k x=some (kdW k x+1):=by
 simp only [xZck,kdW,xZ5b]
 by_cases h3:k≤3
 ·simp [h3]
 ·by_cases h4:k=4
  ·simp [h4]
  ·by_cases hx:x=0
   ·simp [h3,h4,hx,show (k==4)=false by simpa using h4]
   ·simp [h3,h4,hx,show (x==0)=false by simpa using hx,show (k==4)=false by simpa using h4]
theorem xZt2 (n:xZ2) (w:Int) (N:Nat):xZ3Z N n w=some (stB n.Kind w):=by
 simp only [xZ3Z,stB]
 cases w==0<;>cases w==1<;>cases leB 1 n.Kind<;>cases leB 5 n.Kind<;>cases leB 7 n.Kind<;>simp
theorem e_may (k w:Int) (N:Nat):xZcn N k (w+1)=some (stB k w):=by
 simp only [xZcn,stB]
 have e1:(w+1==1)=(w==0):=by rw [Bool.eq_iff_iff,beq_iff_eq,beq_iff_eq];omega
 have e2:(w+1==2)=(w==1):=by rw [Bool.eq_iff_iff,beq_iff_eq,beq_iff_eq];omega
 rw [e1,e2]
 cases w==0<;>cases w==1<;>cases leB 1 k<;>cases leB 5 k<;>cases leB 7 k<;>simp
theorem kdN_b (k:Int):0≤kdN k∧kdN k≤2:=by
 unfold kdN
 repeat' split
 all_goals omega
theorem xZqw {l:List xZ2} {i:Nat}:(leB (l.length:Int) (i:Int)=(l[i]?).isNone)∧∀ n,l[i]?=some n→ix l (i:Int)=some n:=by
 refine ⟨?_,fun n h=>by rw [ix_nat',h]⟩
 rw [xZ5b,Bool.eq_iff_iff,decide_eq_true_iff,Option.isNone_iff_eq_none,List.getElem?_eq_none_iff]
 omega
theorem xZvP {l:List xZ2} {p:TF} {n:xZ2} {d:Int} {i:Nat} (hl:l.length≤30) (hd0:0≤d) (hd:d < 16) (hp:∀ (w:Int) (j:Nat),W (fun N=>(xZ12 N) w (d+1) l j) (·=((p w (d+1) j).1,l,((p w (d+1) j).2:Int)))):
 W (fun N=>lp3 (xZ1V N (xZ12 N) d (kdN n.Kind) n.Kind n.Op n.Var n.Name n.Val.Kind n.Val.N n.Val.Bits n.Val.Text) N 0 l (i:Int)) (·=((kids p n.Kind d i).1,l,((kids p n.Kind d i).2:Int))):=by
 have hb:=kdN_b n.Kind
 refine W.lp3 (N:=fun N=>N) (fun x y j=>y=l∧((x=0∧j=(i:Int))∨(x=1∧kdN n.Kind≠0∧(p (kdW n.Kind 0) (d+1) i).1=0∧j=((p (kdW n.Kind 0) (d+1) i).2:Int))∨
  (x=2∧kdN n.Kind=2∧(p (kdW n.Kind 0) (d+1) i).1=0∧(p (kdW n.Kind 1) (d+1) (p (kdW n.Kind 0) (d+1) i).2).1=0∧j=((p (kdW n.Kind 1) (d+1) (p (kdW n.Kind 0) (d+1) i).2).2:Int)))) (fun x _ _=>(3 - x).toNat) ⟨rfl,.inl ⟨rfl,rfl⟩⟩ ?_
 rintro F x y j ⟨rfl,h⟩ hn
 simp only [xZ1V,e_kid,Option.bind_some,W.cond,W.gd,xZv,xZL,xZo,W.ret]
 rcases h with ⟨rfl,rfl⟩ | ⟨rfl,h1,h2,rfl⟩ | ⟨rfl,h1,h2,h3,rfl⟩
 ·refine ⟨fun hx=>⟨by omega,?_⟩,fun hx=>?_⟩
  ·refine W.bind (hp _ i).lift ?_
   rintro _ rfl
   simp only [W.cond,W.gd,W.ret,xZo]
   refine ⟨fun h0=>?_,fun h0=>⟨by omega,hn _ _ _ ⟨rfl,.inr (.inl ⟨rfl,by omega,by simpa using h0,rfl⟩)⟩ (by omega)⟩⟩
   have h0:(p (kdW n.Kind 0) (d+1) i).1≠0:=by simpa using h0
   rw [kids,if_neg (by omega),if_pos (.inl h0)]
  ·rw [kids,if_pos (by omega)]
 ·refine ⟨fun hx=>⟨by omega,?_⟩,fun hx=>?_⟩
  ·refine W.bind (hp _ _).lift ?_
   rintro _ rfl
   simp only [W.cond,W.gd,W.ret,xZo]
   refine ⟨fun h0=>?_,fun h0=>⟨by omega,hn _ _ _ ⟨rfl,.inr (.inr ⟨rfl,by omega,h2,by simpa using h0,rfl⟩)⟩ (by omega)⟩⟩
   rw [kids,if_neg (by omega),if_neg (by intro h;rcases h with h | h<;>omega)]
  ·rw [kids,if_neg h1,if_pos (.inr (by omega))]
   rw [h2]
 ·refine ⟨fun hx=>by omega,fun hx=>?_⟩
  rw [kids,if_neg (by omega),if_neg (by intro h;rcases h with h | h<;>omega),h3]
theorem xZwc {l:List xZ2} {p:TF} {k:Int} {d:Int} {i:Nat} (hl:l.length≤30) (hd0:0≤d) (hd:d < 16) (hp:∀ (w:Int) (j:Nat),W (fun N=>(xZ4L N) l j (w+1) (d+1)) (·=(((p w (d+1) j).2:Int),(p w (d+1) j).1))):
 W (fun N=>lp2 (xZ68 N (xZ4L N) l d k) N (i:Int) 0) (·=(((kids p k d i).2:Int),(kids p k d i).1)):=by
 have hb:=kdN_b k
 refine W.lp2 (N:=fun N=>N) (fun j x=>((x=0∧j=(i:Int))∨(x=1∧kdN k≠0∧(p (kdW k 0) (d+1) i).1=0∧j=((p (kdW k 0) (d+1) i).2:Int))∨
  (x=2∧kdN k=2∧(p (kdW k 0) (d+1) i).1=0∧(p (kdW k 1) (d+1) (p (kdW k 0) (d+1) i).2).1=0∧j=((p (kdW k 1) (d+1) (p (kdW k 0) (d+1) i).2).2:Int)))) (fun _ x=>(3 - x).toNat) (.inl ⟨rfl,rfl⟩) ?_
 rintro F j x h hn
 simp only [xZ68,xZun,xZw9,Option.bind_some,W.cond,W.gd,xZv,xZL,xZo,W.ret]
 rcases h with ⟨rfl,rfl⟩ | ⟨rfl,h1,h2,rfl⟩ | ⟨rfl,h1,h2,h3,rfl⟩
 ·refine ⟨fun hx=>⟨by omega,?_⟩,fun hx=>?_⟩
  ·refine W.bind (hp _ i).lift ?_
   rintro _ rfl
   simp only [W.cond,W.gd,W.ret,xZo]
   refine ⟨fun h0=>?_,fun h0=>⟨by omega,hn _ _ (.inr (.inl ⟨rfl,by omega,by simpa using h0,rfl⟩)) (by omega)⟩⟩
   have h0:(p (kdW k 0) (d+1) i).1≠0:=by simpa using h0
   rw [kids,if_neg (by omega),if_pos (.inl h0)]
  ·rw [kids,if_pos (by omega)]
 ·refine ⟨fun hx=>⟨by omega,?_⟩,fun hx=>?_⟩
  ·refine W.bind (hp _ _).lift ?_
   rintro _ rfl
   simp only [W.cond,W.gd,W.ret,xZo]
   refine ⟨fun h0=>?_,fun h0=>⟨by omega,hn _ _ (.inr (.inr ⟨rfl,by omega,h2,by simpa using h0,rfl⟩)) (by omega)⟩⟩
   rw [kids,if_neg (by omega),if_neg (by intro h;rcases h with h | h<;>omega)]
  ·rw [kids,if_neg h1,if_pos (.inr (by omega))]
   rw [h2]
 ·refine ⟨fun hx=>by omega,fun hx=>?_⟩
  rw [kids,if_neg (by omega),if_neg (by intro h;rcases h with h | h<;>omega),h3]
def okN (l:List xZ2):Prop:=∀ n∈l,0≤n.Val.Bits∧n.Val.Bits≤18446744073709551615
theorem xZvs (n:xZ2):nds n=if bad n=true then 4 else if moreB n=true then 2 else 0:=by
 unfold nds
 cases bad n<;>cases moreB n<;>rfl
theorem xZuJ {l:List xZ2} (hl:l.length≤30):∀ (n:Nat) (w d:Int) (i:Nat),0≤d→d≤16→16 - d+1≤n→W (fun N=>(xZ12 N) w d l i) (·=((TR l n w d i).1,l,((TR l n w d i).2:Int)))
 | 0,w,d,i,h0,h1,h2=>by omega
 | n+1,w,d,i,h0,h1,h2=>by
   refine W.shift ?_
   show W (fun N=>xZ3j N (xZ12 N) w d l i) _
   simp only [xZ3j,xZqw.1]
   show W _ (·=((trS l (TR l n) w d i).1,l,((trS l (TR l n) w d i).2:Int)))
   unfold trS
   cases hg:l[i]? with
   | none=>simp only [Option.isNone_none,cond_true,W.ret]
   | some nd=>
     have hi:i < 30:=by have:=(List.getElem?_eq_some_iff.1 hg).1;omega
     simp only [Option.isNone_some,cond_false,xZqw.2 nd hg,Option.bind_some,xZ5b,xZt2]
     by_cases hd:16≤d
     ·simp only [decide_eq_true hd,cond_true,if_pos hd,W.ret]
     simp only [decide_eq_false hd,cond_false,if_neg hd]
     cases hs:stB nd.Kind w with
     | false=>simp only [Bool.not_false,cond_true,W.ret,if_true]
     | true=>
       simp only [Bool.not_true,cond_false,Bool.true_eq_false,if_false,xZad,xZa2,xZ7d]
       refine W.bind (P:=(·=if bad nd=true then (4:Int) else 0)) ?_ ?_
       ·refine W.call (xZuG nd) ?_
        rintro _ rfl
        cases bad nd<;>simp [W.ret]
       rintro _ rfl
       rw [xZvs]
       cases hb:bad nd with
       | true=>simp [W.ret]
       | false=>
         cases hm:moreB nd with
         | true=>simp [W.ret,hm]
         | false=>
           simp only [Bool.false_eq_true,if_false,show ((0:Int) != 0)=false from rfl,cond_false,Option.bind_some,W.gd,xZo,xZvp,ne_eq,not_true_eq_false]
           refine ⟨by omega,?_⟩
           have:=xZvP (l:=l) (p:=TR l n) (n:=nd) (d:=d) (i:=i+1) hl h0 (by omega) fun w j=>xZuJ hl n w (d+1) j (by omega) (by omega) (by omega)
           simpa using this
theorem xZtK {l:List xZ2} (hl:l.length≤30) (hk:okN l):∀ (n:Nat) (w d:Int) (i:Nat),0≤d→d≤16→16 - d+1≤n→W (fun N=>(xZ4L N) l i (w+1) d) (·=(((TR l n w d i).2:Int),(TR l n w d i).1))
 | 0,w,d,i,h0,h1,h2=>by omega
 | n+1,w,d,i,h0,h1,h2=>by
   refine W.shift ?_
   show W (fun N=>xZd7 N (xZ4L N) l i (w+1) d) _
   simp only [xZd7,xZqw.1]
   show W _ (·=(((trS l (TR l n) w d i).2:Int),(trS l (TR l n) w d i).1))
   unfold trS
   cases hg:l[i]? with
   | none=>simp only [Option.isNone_none,cond_true,W.ret]
   | some nd=>
     have hi:i < 30:=by have:=(List.getElem?_eq_some_iff.1 hg).1;omega
     have hmem:nd∈l:=List.mem_of_getElem? hg
     simp only [Option.isNone_some,cond_false,xZqw.2 nd hg,Option.bind_some,xZ5b,e_may]
     by_cases hd:16≤d
     ·simp only [decide_eq_true hd,cond_true,if_pos hd,W.ret]
     simp only [decide_eq_false hd,cond_false,if_neg hd]
     cases hs:stB nd.Kind w with
     | false=>simp only [Bool.not_false,cond_true,W.ret,if_true]
     | true=>
       simp only [Bool.not_true,cond_false,Bool.true_eq_false,if_false]
       refine W.call (xZtI nd (hk nd hmem).1 (hk nd hmem).2) ?_
       rintro _ rfl
       by_cases h3:nds nd=0
       ·simp only [h3,show ((0:Int) != 0)=false from rfl,cond_false,W.gd,xZo,ne_eq,not_true_eq_false,if_false]
        refine ⟨by omega,?_⟩
        have:=xZwc (l:=l) (p:=TR l n) (k:=nd.Kind) (d:=d) (i:=i+1) hl h0 (by omega) fun w j=>xZtK hl hk n w (d+1) j (by omega) (by omega) (by omega)
        simpa using this
       ·simp only [show (nds nd != 0)=true by simpa using h3,cond_true,W.ret,ne_eq,h3,not_false_eq_true,if_true]
def chk (l:List xZ2):Int:=if 30 < l.length then 5 else if l.length=0 then 0 else if (TR l 17 0 0 0).1≠0 then (TR l 17 0 0 0).1 else if (TR l 17 0 0 0).2 < l.length then 5 else 0
theorem xZr9 (l:List xZ2):W (fun N=>xZ3h N l) (·=chk l):=by
 simp only [xZ3h,chk,W.cond,xZv,xZL,W.ret]
 refine ⟨fun h=>by rw [if_pos (by omega)],fun h=>?_⟩
 rw [if_neg (by omega)]
 refine ⟨fun h2=>by rw [if_pos (by simpa using h2)],fun h2=>?_⟩
 have h2:¬ l.length=0:=by simpa using h2
 rw [if_neg h2]
 refine W.call (xZuJ (l:=l) (by omega) 17 0 0 0 (by omega) (by omega) (by omega)) ?_
 rintro _ rfl
 simp only [W.cond,W.ret,xZv,xZL]
 refine ⟨fun h3=>by rw [if_pos (by simpa using h3)],fun h3=>?_⟩
 rw [if_neg (by simpa using h3)]
 exact ⟨fun h4=>by rw [if_pos (by omega)],fun h4=>by rw [if_neg (by omega)]⟩
theorem xZpR (l:List xZ2) (hk:okN l):W (fun N=>xZ5L N l) (·=chk l):=by
 simp only [xZ5L,chk,W.cond,xZv,xZL,W.ret]
 refine ⟨fun h=>by rw [if_pos (by omega)],fun h=>?_⟩
 rw [if_neg (by omega)]
 refine ⟨fun h2=>by rw [if_pos (by simpa using h2)],fun h2=>?_⟩
 have h2:¬ l.length=0:=by simpa using h2
 rw [if_neg h2]
 refine W.call (xZtK (l:=l) (by omega) hk 17 0 0 0 (by omega) (by omega) (by omega)) ?_
 rintro _ rfl
 simp only [W.cond,W.ret,xZv,xZL]
 refine ⟨fun h3=>by rw [if_pos (by simpa using h3)],fun h3=>?_⟩
 rw [if_neg (by simpa using h3)]
 exact ⟨fun h4=>by rw [if_pos (by omega)],fun h4=>by rw [if_neg (by omega)]⟩
abbrev SPT:=(Int→Nat→RR)×(Int→Nat→RR)×(Int→Nat→RR)
def sepK (y:List xZ0) (s:List UInt8) (k:Int) (j:Nat):Option Int:=if isT' y j 2 s=true then some k else none
def rowS (y:List xZ0) (f:Nat→RR) (sep:Nat→Option Int) (i:Nat):RR:=match f i with
 | .inl x=>.inl x
 | .inr (l,j)=>lpG f sep (y.length - j) l j
def nt:List UInt8:=[110,111,116]
def partS (y:List xZ0) (p:SPT) (d:Int) (i:Nat):RR:=
 if isT' y i 2 nt=true∨isT' y i 4 [40]=true then
  (if 16≤d then .inl (15,i)
   else if isT' y i 2 nt=true then (match p.2.2 (d+1) (i+1) with
    | .inl x=>.inl x
    | .inr (l,j)=>.inr (bn 3::l,j))
   else match p.1 (d+1) (i+1) with
    | .inl x=>.inl x
    | .inr (l,j)=>if isT' y j 4 [41]=true then .inr (l,j+1) else .inl (4,j))
 else match SU y i with
  | .inl x=>.inl x
  | .inr (l,j)=>if (tk y j).Kind=4∧opV (tk y j).Text≠0 then (match SU y (j+1) with
     | .inl x=>.inl x
     | .inr (r,j')=>.inr (⟨4,opV (tk y j).Text,[],[],⟨0,0,0,[]⟩⟩::(l++r),j')) else .inl (4,j)
def SPP (y:List xZ0):Nat→SPT
 | 0=>(fun _ i=>.inl (4,i),fun _ i=>.inl (4,i),fun _ i=>.inl (4,i))
 | n+1=>(fun d=>rowS y ((SPP y n).2.1 d) (sepK y [111,114] 2),fun d=>rowS y ((SPP y n).2.2 d) (sepK y [97,110,100] 1),fun d=>partS y (SPP y n) d)
theorem xZrp {y:List xZ0} {s:List UInt8} {k0:Int} {j:Nat} {k:Int} (h:sepK y s k0 j=some k):j < y.length∧k=k0∧isT' y j 2 s=true:=by
 unfold sepK at h
 split at h
 ·rename_i h1;cases h;exact ⟨xZS (by decide) (xZP h1).1,rfl,h1⟩
 ·cases h
theorem xZmX {y:List xZ0} {f:Nat→RR} {s:List UInt8} {k:Int} {i:Nat} (hf:∀ j,j≤y.length→okR y j (f j)) (hi:i≤y.length):okR y i (rowS y f (sepK y s k) i):=by
 have:=hf i hi
 unfold rowS
 cases h:f i with
 | inl x=>rw [h] at this;exact this
 | inr p=>
   obtain ⟨l,j⟩:=p
   rw [h] at this
   exact xZsk hf (fun j k hk=>(xZrp hk).1) _ l j this.1 this.2.1 this.2.2
theorem xZva {y:List xZ0} {e:Int} {i:Nat} (hy:y.length≤700) {f:Nat→RR} {s:List UInt8} {k:Int} (hf:∀ j,j≤y.length→okR y j (f j)) {l0:List xZ2} {j0:Nat} (h0:i < j0∧j0≤y.length∧l0.length≤j0 - i)
 {F0:Nat→(List xZ2→List xZ0→Int→Int→Option PR)→List xZ2→List xZ0→Int→Int→Option PR}
 (hr:∀ (F:Nat×Nat→List xZ2→List xZ0→Int→Int→Option PR) (l:List xZ2) (j:Nat) (Q:PR→Prop),j≤y.length→l.length≤1000→(isT' y j 2 s=false→Q (enP y e (.inr (l,j))))→
   (isT' y j 2 s=true→j < y.length→match f (j+1) with
     | .inl x=>Q (enP y e (.inl x))
     | .inr (r,j')=>r.length≤1000→W (fun p=>F p (bn k::(l++r)) y (j':Int) e) Q)→W (fun p:Nat×Nat=>F0 p.1 (F p) l y (j:Int) e) Q):
 W (fun N=>lp4 (F0 N) N l0 y (j0:Int) e) (·=enP y e (lpG f (sepK y s k) (y.length - j0) l0 j0)):=by
 refine W.lp4 (N:=fun N=>N) (fun l y4 y5 y6=>∃ j n:Nat,y4=y∧y5=(j:Int)∧y6=e∧i < j∧j≤y.length∧l.length≤j - i∧y.length - j≤n∧lpG f (sepK y s k) n l j=lpG f (sepK y s k) (y.length - j0) l0 j0) (fun _ _ y5 _=>y.length - y5.toNat) ⟨j0,_,rfl,rfl,rfl,h0.1,h0.2.1,h0.2.2,Nat.le_refl _,rfl⟩ ?_
 rintro F l y4 y5 y6 ⟨j,n,rfl,rfl,rfl,g1,g2,g3,g4,g5⟩ hn
 refine hr F l j _ g2 (by omega) (fun h=>?_) fun h hj=>?_
 ·rw [xZh3 (by simp [sepK,h])] at g5
  rw [← g5]
 ·have hs:sepK y4 s k j=some k:=by simp [sepK,h]
  obtain ⟨n,rfl⟩:∃ m,n=m+1:=⟨n - 1,by omega⟩
  have hu:=hf (j+1) hj
  cases q:f (j+1) with
  | inl x=>
    rw [xZjA hs q] at g5
    rw [← g5]
  | inr p=>
    obtain ⟨r,j'⟩:=p
    rw [xZkd hs q] at g5
    rw [q] at hu
    obtain ⟨u1,u2,u3⟩:=hu
    exact fun _=>hn _ _ _ _ ⟨j',n,rfl,rfl,rfl,by omega,u2,by simp;omega,by omega,g5⟩ (by omega)
theorem xZvW {y:List xZ0} {e:Int} {i:Nat} (hy:y.length≤700) (hi:i≤y.length) {f:Nat→RR} {s:List UInt8} {k:Int} (hf:∀ j,j≤y.length→okR y j (f j)) {sub:Nat→Nat→Option (List xZ2×xZ6)} (hsub:∀ j,j≤y.length→W (fun N=>sub N j) (rfR y e j (f j))) {u:List xZ2×xZ6} (hu:rfR y e i (f i) u)
 {F0:Nat→(List xZ2→List xZ0→Int→Int→Int→Int→Option (List xZ2×xZ6))→List xZ2→List xZ0→Int→Int→Int→Int→Option (List xZ2×xZ6)}
 (hfail:∀ (F:Nat×Nat→List xZ2→List xZ0→Int→Int→Int→Int→Option (List xZ2×xZ6)) l y1 y2 y3 y4 y5 (Q:List xZ2×xZ6→Prop),y4≠0→Q (l,⟨y1,y2,y3,⟨y4,y5⟩⟩)→W (fun p:Nat×Nat=>F0 p.1 (F p) l y1 y2 y3 y4 y5) Q)
 (hr:∀ (F:Nat×Nat→List xZ2→List xZ0→Int→Int→Int→Int→Option (List xZ2×xZ6)) (l:List xZ2) (j:Nat) (Q:List xZ2×xZ6→Prop),j≤y.length→(isT' y j 2 s=false→Q (l,oS y e j))→
   (isT' y j 2 s=true→W (fun p:Nat×Nat=>(sub p.1 (j+1)).bind fun u=>(xZJ p.1 (bn k) l u.1).bind fun jn=>F p jn u.2.L u.2.At u.2.End u.2.F.E u.2.F.At) Q)→W (fun p:Nat×Nat=>F0 p.1 (F p) l y (j:Int) e 0 0) Q):
 W (fun N=>lp6 (F0 N) N u.1 u.2.L u.2.At u.2.End u.2.F.E u.2.F.At) (rfR y e i (rowS y f (sepK y s k) i)):=by
 have h0:=hf i hi
 have start:inR y e i f (sepK y s k) (rowS y f (sepK y s k) i) u.1 u.2.L u.2.At u.2.End u.2.F.E u.2.F.At:=by
  unfold rowS
  cases h:f i with
  | inl x=>
    rw [h] at h0 hu
    obtain ⟨kk,hu2,h1,h2,h3⟩:=hu
    rw [hu2]
    exact ⟨rfl,rfl,.inr ⟨h0.1,x.1,x.2,kk,rfl,rfl,rfl,rfl,h1,h2,h3⟩⟩
  | inr p=>
    rw [h] at h0 hu
    obtain rfl:u=(p.1,oS y e p.2):=hu
    exact ⟨rfl,rfl,.inl ⟨rfl,rfl,p.2,_,rfl,h0.1,h0.2.1,h0.2.2,Nat.le_refl _,rfl⟩⟩
 refine W.lp6 (N:=fun N=>N) (inR y e i f (sepK y s k) (rowS y f (sepK y s k) i)) (fun _ _ y2 _ y4 _=>meR y y2 y4) start ?_
 rintro F l y1 y2 y3 y4 y5 hin hn
 by_cases h4:y4=0
 rotate_left
 ·exact hfail F l y1 y2 y3 y4 y5 _ h4 (xZpl hin h4)
 obtain ⟨rfl,rfl,⟨rfl,rfl,j,n,rfl,g1,g2,g3,g4,g5⟩ | ⟨h5,_⟩⟩:=hin
 rotate_left
 ·exact absurd h4 h5
 refine hr F l j _ g2 (fun h=>?_) fun h=>?_
 ·rw [xZh3 (by simp [sepK,h])] at g5
  rw [← g5];rfl
 ·have hs:sepK y1 s k j=some k:=by simp [sepK,h]
  have hj:=(xZrp hs).1
  obtain ⟨n,rfl⟩:∃ m,n=m+1:=⟨n - 1,by omega⟩
  exact xZmY hy hs hj g1 g3 g4 g5 (hf _ hj) (hsub _ hj).lift hn
theorem xZqU {N:Nat} {y:List xZ0} {i:Nat} {e:Int} (d:Int):xZ1o N d y i e=some (if (isT' y i 2 nt=true∨isT' y i 4 [40]=true)∧16≤d then .inl (15,plc y e i,y,(i:Int),e) else .inr (y,(i:Int),e)):=by
 have eb:∀ (x y:Int),x≠y→(x==y)=false:=fun x y h=>by simpa using h
 have es:∀ (x y:List UInt8),x≠y→(x==y)=false:=fun x y h=>by simpa using h
 simp only [xZ1o,xZhi,xZj9,Option.bind_some,xZ5b,isT',nt]
 by_cases hd:16≤d
 ·by_cases h1:(tk y i).Kind=2
  ·by_cases h2:(tk y i).Text=[110,111,116]
   ·simp [h1,h2,hd]
   ·simp [h1,es _ _ h2,h2,hd,eb 2 4 (by decide)]
  ·by_cases h3:(tk y i).Kind=4
   ·by_cases h4:(tk y i).Text=[40]
    ·simp [h3,h4,hd,eb 4 2 (by decide)]
    ·simp [h3,es _ _ h4,h4,hd,eb 4 2 (by decide)]
   ·simp [eb _ _ h1,eb _ _ h3,h1,h3]
 ·by_cases h1:(tk y i).Kind=2
  ·by_cases h2:(tk y i).Text=[110,111,116]
   ·simp [h1,h2,hd]
   ·simp [h1,es _ _ h2,h2,hd,eb 2 4 (by decide)]
  ·by_cases h3:(tk y i).Kind=4
   ·by_cases h4:(tk y i).Text=[40]
    ·simp [h3,h4,hd,eb 4 2 (by decide)]
    ·simp [h3,es _ _ h4,h4,hd,eb 4 2 (by decide)]
   ·simp [eb _ _ h1,eb _ _ h3,h1,h3,hd]
theorem p_row {y:List xZ0} {e:Int} (hy:y.length≤700) {f:Nat→RR} {s:List UInt8} {k:Int} {g:Nat→List xZ0→Int→Int→Option PR} (hg:∀ i:Nat,i≤y.length→okR y i (f i)∧W (fun N=>g N y i e) (·=enP y e (f i)))
 {F0:Nat→(List xZ2→List xZ0→Int→Int→Option PR)→List xZ2→List xZ0→Int→Int→Option PR}
 (hF:∀ N nx l y' i' e',F0 N nx l y' i' e'=((xZg N 2 s y' i' e').bind fun eat=>bif eat.1 then (g N eat.2.1 eat.2.2.1 eat.2.2.2).bind fun x=>Sum.elim (fun a=>some (Sum.inl (a.1,a.2.1,a.2.2.1,a.2.2.2.1,a.2.2.2.2))) (fun a=>(xZ15 N (bn k) [l,a.1]).bind fun ab=>nx ab a.2.1 a.2.2.1 a.2.2.2) x else some (Sum.inr (l,eat.2.1,eat.2.2.1,eat.2.2.2)))) {i:Nat} (hi:i≤y.length):
 W (fun N=>(g N y i e).bind fun x=>Sum.elim (fun a=>some (Sum.inl (a.1,a.2.1,a.2.2.1,a.2.2.2.1,a.2.2.2.2))) (fun a=>lp4 (F0 N) N a.1 a.2.1 a.2.2.1 a.2.2.2) x) (·=enP y e (rowS y f (sepK y s k) i)):=by
 obtain ⟨h0,hw⟩:=hg i hi
 refine W.bind hw ?_
 rintro _ rfl
 unfold rowS
 cases h:f i with
 | inl x=>simp only [enP,Sum.elim_inl,W.ret]
 | inr p=>
   obtain ⟨l0,j0⟩:=p
   rw [h] at h0
   simp only [enP,Sum.elim_inr]
   refine xZva hy (fun j hj=>(hg j hj).1) h0 ?_
   intro F l j Q hj hl hend hgo
   rw [show (fun p:Nat×Nat=>F0 p.1 (F p) l y (j:Int) e)=_ from funext fun p=>hF p.1 (F p) l y j e]
   simp only [xZgT (y:=y) (i:=j) (e:=e) 2 s (show j≤1000000 by omega),Option.bind_some]
   by_cases h1:isT' y j 2 s=true
   ·have hj2:=xZS (by decide) (xZP h1).1
    simp only [if_pos h1,cond_true]
    have hq:=hgo h1 hj2
    refine W.bind (hg (j+1) hj2).2.lift ?_
    rintro _ rfl
    have hok:=(hg (j+1) hj2).1
    cases q:f (j+1) with
    | inl x=>rw [q] at hq;simp only [enP,Sum.elim_inl,W.ret];exact hq
    | inr p=>
      obtain ⟨r,j'⟩:=p
      rw [q] at hq hok
      have hr:r.length≤1000:=by have:=hok.2.2;have:=hok.2.1;omega
      simp only [enP,Sum.elim_inr]
      refine W.call (xZmB (bn k) [l,r] (by simp) (by simp;omega)) ?_
      rintro _ rfl
      simpa using hq hr
   ·simp only [if_neg h1,cond_false,W.ret]
    exact hend (by simpa using h1)
theorem xZoT {y:List xZ0} {p:SPT} {d:Int} {i:Nat} (hn:d < 16→∀ j,j≤y.length→okR y j (p.2.2 (d+1) j)) (ho:d < 16→∀ j,j≤y.length→okR y j (p.1 (d+1) j)) (hi:i≤y.length):okR y i (partS y p d i):=by
 unfold partS
 by_cases hk:isT' y i 2 nt=true∨isT' y i 4 [40]=true
 ·have hl:i < y.length:=by
   rcases hk with h | h
   ·exact xZS (by decide) (xZP h).1
   ·exact xZS (by decide) (xZP h).1
  rw [if_pos hk]
  by_cases hd:16≤d
  ·rw [if_pos hd];exact ⟨by decide,Nat.le_refl _,hi⟩
  rw [if_neg hd]
  by_cases h1:isT' y i 2 nt=true
  ·rw [if_pos h1]
   have:=hn (by omega) (i+1) hl
   cases h:p.2.2 (d+1) (i+1) with
   | inl x=>rw [h] at this;exact ⟨this.1,by have:=this.2.1;omega,this.2.2⟩
   | inr q=>rw [h] at this;obtain ⟨a,b,c⟩:=this;exact ⟨by omega,b,by simp only [List.length_cons];omega⟩
  ·rw [if_neg h1]
   have:=ho (by omega) (i+1) hl
   cases h:p.1 (d+1) (i+1) with
   | inl x=>rw [h] at this;exact ⟨this.1,by have:=this.2.1;omega,this.2.2⟩
   | inr q=>
     obtain ⟨l,j⟩:=q
     rw [h] at this;obtain ⟨a,b,c⟩:=this
     by_cases h2:isT' y j 4 [41]=true
     ·have:=xZS (by decide) (xZP h2).1
      simp only [if_pos h2];exact ⟨by omega,by omega,by omega⟩
     ·simp only [if_neg h2];exact ⟨by decide,by omega,b⟩
 ·rw [if_neg hk]
  have:=SU_ok hi
  cases h:SU y i with
  | inl x=>rw [h] at this;exact this
  | inr q=>
    obtain ⟨l,j⟩:=q
    rw [h] at this;obtain ⟨a,b,c⟩:=this
    by_cases h2:(tk y j).Kind=4∧opV (tk y j).Text≠0
    ·have hj:=xZS (by decide) h2.1
     simp only [if_pos h2]
     have:=SU_ok (y:=y) (i:=j+1) hj
     cases g:SU y (j+1) with
     | inl x=>rw [g] at this;exact ⟨this.1,by have:=this.2.1;omega,this.2.2⟩
     | inr q=>rw [g] at this;obtain ⟨a2,b2,c2⟩:=this;exact ⟨by omega,b2,by simp only [List.length_cons,List.length_append];omega⟩
    ·simp only [if_neg h2];exact ⟨by decide,by omega,b⟩
theorem xZw3 {y:List xZ0} {e:Int} {p:SPT} {d:Int} {i:Nat} (hy:y.length≤700) (hd0:0≤d) (hd16:d≤16)
 (hn:d < 16→∀ j:Nat,j≤y.length→okR y j (p.2.2 (d+1) j)∧W (fun N=>(xZd N).2.2 (d+1) y j e) (·=enP y e (p.2.2 (d+1) j)))
 (ho:d < 16→∀ j:Nat,j≤y.length→okR y j (p.1 (d+1) j)∧W (fun N=>(xZd N).1 (d+1) y j e) (·=enP y e (p.1 (d+1) j))) (hi:i≤y.length):
 W (fun N=>xZ2A N (xZd N) d y i e) (·=enP y e (partS y p d i)):=by
 have hent:([110,111,116]:List UInt8)=nt:=rfl
 simp only [xZ2A,xZqU,Option.bind_some,hent]
 unfold partS
 by_cases hk:isT' y i 2 nt=true∨isT' y i 4 [40]=true
 ·have hl:i < y.length:=by
   rcases hk with h | h
   ·exact xZS (by decide) (xZP h).1
   ·exact xZS (by decide) (xZP h).1
  rw [if_pos hk]
  by_cases hd:16≤d
  ·rw [if_pos hd]
   simp only [if_pos (And.intro hk hd),Sum.elim_inl,W.ret,enP]
  rw [if_neg hd]
  simp only [if_neg (show ¬ ((isT' y i 2 nt=true∨isT' y i 4 [40]=true)∧16≤d) from fun h=>hd h.2),Sum.elim_inr,xZgT (y:=y) (i:=i) (e:=e) 2 nt (show i≤1000000 by omega),Option.bind_some]
  by_cases h1:isT' y i 2 nt=true
  ·simp only [if_pos h1,cond_true,W.gd,xZo]
   refine ⟨by omega,?_⟩
   obtain ⟨ok,hw⟩:=hn (by omega) (i+1) hl
   refine W.bind hw ?_
   rintro _ rfl
   cases h:p.2.2 (d+1) (i+1) with
   | inl x=>simp only [enP,Sum.elim_inl,W.ret]
   | inr q=>
     rw [h] at ok
     simp only [enP,Sum.elim_inr]
     refine W.call (xZmB (bn 3) [q.1] (by simp) (by have:=ok.2.2;have:=ok.2.1;simp;omega)) ?_
     rintro _ rfl
     simp [W.ret]
  ·have h2:isT' y i 4 [40]=true:=hk.resolve_left h1
   simp only [if_neg h1,cond_false,xZgT (y:=y) (i:=i) (e:=e) 4 [40] (show i≤1000000 by omega),Option.bind_some,if_pos h2,cond_true,W.gd,xZo]
   refine ⟨by omega,?_⟩
   obtain ⟨ok,hw⟩:=ho (by omega) (i+1) hl
   refine W.bind hw ?_
   rintro _ rfl
   cases h:p.1 (d+1) (i+1) with
   | inl x=>simp only [enP,Sum.elim_inl,W.ret]
   | inr q=>
     obtain ⟨l,j⟩:=q
     rw [h] at ok
     have hj:=ok.2.1
     simp only [enP,Sum.elim_inr,xZgT (y:=y) (i:=j) (e:=e) 4 [41] (show j≤1000000 by omega),Option.bind_some]
     by_cases h3:isT' y j 4 [41]=true
     ·simp only [if_pos h3,Bool.not_true,cond_false,W.ret,enP]
     ·simp only [if_neg h3,Bool.not_false,cond_true,xZj9,Option.bind_some,W.ret,enP]
 ·have h1:¬ isT' y i 2 nt=true:=fun h=>hk (.inl h)
  have h2:¬ isT' y i 4 [40]=true:=fun h=>hk (.inr h)
  rw [if_neg hk]
  simp only [if_neg (show ¬ ((isT' y i 2 nt=true∨isT' y i 4 [40]=true)∧16≤d) from fun h=>hk h.1),Sum.elim_inr,xZgT (y:=y) (i:=i) (e:=e) 2 nt (show i≤1000000 by omega),Option.bind_some,if_neg h1,cond_false,xZgT (y:=y) (i:=i) (e:=e) 4 [40] (show i≤1000000 by omega),if_neg h2]
  refine W.call (w_sum hi hy) ?_
  rintro _ rfl
  have ok:=SU_ok (y:=y) hi
  cases h:SU y i with
  | inl x=>simp only [enP,Sum.elim_inl,W.ret]
  | inr q=>
    obtain ⟨l,j⟩:=q
    rw [h] at ok
    obtain ⟨a,b,c⟩:=ok
    simp only [enP,Sum.elim_inr,xZhi,Option.bind_some]
    refine W.call (w_op _) ?_
    rintro _ rfl
    by_cases h3:opV (tk y j).Text=0
    ·simp only [h3,beq_self_eq_true,cond_true,xZj9,Option.bind_some,W.ret,ne_eq,not_true_eq_false,and_false,if_false,enP]
    ·simp only [show (opV (tk y j).Text==0)=false by simpa using h3,cond_false,xZmS (y:=y) (i:=j) (e:=e) 4 (show j≤1000000 by omega),Option.bind_some]
     by_cases h4:(tk y j).Kind=4
     ·have hj:=xZS (by decide) h4
      simp only [if_pos h4,Sum.elim_inr,if_pos (And.intro h4 h3)]
      refine W.call (w_sum (i:=j+1) hj hy) ?_
      rintro _ rfl
      have ok2:=SU_ok (y:=y) (i:=j+1) hj
      cases g:SU y (j+1) with
      | inl x=>simp only [enP,Sum.elim_inl,W.ret]
      | inr q=>
        rw [g] at ok2
        obtain ⟨a2,b2,c2⟩:=ok2
        simp only [enP,Sum.elim_inr]
        refine W.call (xZmB _ [l,q.1] (by simp) (by simp;omega)) ?_
        rintro _ rfl
        simp [W.ret]
     ·simp only [if_neg h4,Sum.elim_inl,W.ret,if_neg (show ¬ ((tk y j).Kind=4∧opV (tk y j).Text≠0) from fun h=>h4 h.1),enP]
theorem p_all {y:List xZ0} {e:Int} (hy:y.length≤700):∀ (n:Nat),
 (∀ (d:Int) (i:Nat),0≤d→d≤16→i≤y.length→3 * (16 - d)+3≤n→okR y i ((SPP y n).1 d i)∧W (fun N=>(xZd N).1 d y i e) (·=enP y e ((SPP y n).1 d i)))∧
 (∀ (d:Int) (i:Nat),0≤d→d≤16→i≤y.length→3 * (16 - d)+2≤n→okR y i ((SPP y n).2.1 d i)∧W (fun N=>(xZd N).2.1 d y i e) (·=enP y e ((SPP y n).2.1 d i)))∧
 (∀ (d:Int) (i:Nat),0≤d→d≤16→i≤y.length→3 * (16 - d)+1≤n→okR y i ((SPP y n).2.2 d i)∧W (fun N=>(xZd N).2.2 d y i e) (·=enP y e ((SPP y n).2.2 d i)))
 | 0=>⟨fun d i h1 h2 _ h4=>by omega,fun d i h1 h2 _ h4=>by omega,fun d i h1 h2 _ h4=>by omega⟩
 | n+1=>by
   obtain ⟨io,ia,ip⟩:=p_all hy n
   refine ⟨fun d i h1 h2 h3 h4=>?_,fun d i h1 h2 h3 h4=>?_,fun d i h1 h2 h3 h4=>?_⟩
   ·have hg:=fun (j:Nat) (hj:j≤y.length)=>ia d j h1 h2 hj (by omega)
    refine ⟨xZmX (fun j hj=>(hg j hj).1) h3,W.shift ?_⟩
    exact p_row hy (g:=fun N y' i' e'=>(xZd N).2.1 d y' i' e') (F0:=fun N=>xZ2z N (xZd N) d) hg (fun N nx l y' i' e'=>rfl) h3
   ·have hg:=fun (j:Nat) (hj:j≤y.length)=>ip d j h1 h2 hj (by omega)
    refine ⟨xZmX (fun j hj=>(hg j hj).1) h3,W.shift ?_⟩
    exact p_row hy (g:=fun N y' i' e'=>(xZd N).2.2 d y' i' e') (F0:=fun N=>xZ2o N (xZd N) d) hg (fun N nx l y' i' e'=>rfl) h3
   ·refine ⟨xZoT (fun hd j hj=>(ip (d+1) j (by omega) (by omega) hj (by omega)).1) (fun hd j hj=>(io (d+1) j (by omega) (by omega) hj (by omega)).1) h3,W.shift ?_⟩
    exact xZw3 hy h1 h2 (fun hd j hj=>ip (d+1) j (by omega) (by omega) hj (by omega)) (fun hd j hj=>io (d+1) j (by omega) (by omega) hj (by omega)) h3
theorem r_row {y:List xZ0} {e:Int} (hy:y.length≤700) {f:Nat→RR} {s:List UInt8} {k:Int} {g:Nat→xZ6→Option (List xZ2×xZ6)} (hg:∀ i:Nat,i≤y.length→okR y i (f i)∧W (fun N=>g N (oS y e i)) (rfR y e i (f i)))
 {F0:Nat→(List xZ2→List xZ0→Int→Int→Int→Int→Option (List xZ2×xZ6))→List xZ2→List xZ0→Int→Int→Int→Int→Option (List xZ2×xZ6)}
 (hF:∀ N nx l y1 y2 y3 y4 y5,F0 N nx l y1 y2 y3 y4 y5=bif y4==0 then (xZ1l N (xZ6.mk y1 y2 y3 (xZ3.mk y4 y5)) 2 s).bind fun is=>bif is then (xZi N (xZ6.mk y1 y2 y3 (xZ3.mk y4 y5))).bind fun st=>(g N st).bind fun u=>(xZJ N (bn k) l u.1).bind fun jn=>nx jn u.2.L u.2.At u.2.End u.2.F.E u.2.F.At else some (l,xZ6.mk y1 y2 y3 (xZ3.mk y4 y5)) else some (l,xZ6.mk y1 y2 y3 (xZ3.mk y4 y5))) {i:Nat} (hi:i≤y.length):
 W (fun N=>(g N (oS y e i)).bind fun u=>lp6 (F0 N) N u.1 u.2.L u.2.At u.2.End u.2.F.E u.2.F.At) (rfR y e i (rowS y f (sepK y s k) i)):=by
 refine W.bind (hg i hi).2 fun u hu=>?_
 refine xZvW hy hi (fun j hj=>(hg j hj).1) (sub:=fun N j=>g N (oS y e j)) (fun j hj=>(hg j hj).2) hu ?_ ?_
 ·intro F l y1 y2 y3 y4 y5 Q h4 hq
  rw [show (fun p:Nat×Nat=>F0 p.1 (F p) l y1 y2 y3 y4 y5)=_ from funext fun p=>hF p.1 (F p) l y1 y2 y3 y4 y5]
  simp only [show (y4==0)=false by simpa using h4,cond_false,W.ret]
  exact hq
 ·intro F l j Q hj hend hgo
  rw [show (fun p:Nat×Nat=>F0 p.1 (F p) l y (j:Int) e 0 0)=_ from funext fun p=>hF p.1 (F p) l y j e 0 0]
  simp only [beq_self_eq_true,cond_true,xZo4 (y:=y) (i:=j) (e:=e) (F:=⟨0,0⟩) (show (2:Int)≠0 by decide),xZfI (y:=y) (i:=j) (e:=e) (F:=⟨0,0⟩) (show j≤1000000 by omega),Option.bind_some]
  by_cases h1:isT' y j 2 s=true
  ·simp only [h1,cond_true]
   exact hgo h1
  ·simp only [show isT' y j 2 s=false by simpa using h1,cond_false,W.ret]
   exact hend (by simpa using h1)
theorem xZvS {y:List xZ0} {e:Int} {p:SPT} {d:Int} {i:Nat} (hy:y.length≤700) (hd0:0≤d) (hd16:d≤16)
 (hn:d < 16→∀ j:Nat,j≤y.length→okR y j (p.2.2 (d+1) j)∧W (fun N=>(xZ1R N).2.2 (oS y e j) (d+1)) (rfR y e j (p.2.2 (d+1) j)))
 (ho:d < 16→∀ j:Nat,j≤y.length→okR y j (p.1 (d+1) j)∧W (fun N=>(xZ1R N).1 (oS y e j) (d+1)) (rfR y e j (p.1 (d+1) j))) (hi:i≤y.length):
 W (fun N=>xZcL N (xZ1R N) (oS y e i) d) (rfR y e i (partS y p d i)):=by
 have hent:([110,111,116]:List UInt8)=nt:=rfl
 have t4:∀ (N j:Nat) s,xZ1l N (oS y e j) 4 s=some (isT' y j 4 s):=fun N j s=>xZo4 (by decide) s
 have t2:∀ (N j:Nat) s,xZ1l N (oS y e j) 2 s=some (isT' y j 2 s):=fun N j s=>xZo4 (by decide) s
 have k4:∀ (N j:Nat),xZ1Q N (oS y e j) 4=some ((tk y j).Kind==4):=fun N j=>xZkG (by decide)
 have st:∀ (N j:Nat),j≤1000000→xZi N (oS y e j)=some (oS y e (j+1)):=fun N j hj=>xZfI hj
 have sf:∀ (N:Nat) (c:Int) (j k:Nat),k≤1000000→xZi N (fS y e c j k)=some (fS y e c j (k+1)):=fun N c j k hk=>xZfI hk
 have ixo:∀ j:Nat,j < y.length→ix (oS y e j).L (oS y e j).At=some (tk y j):=fun j hj=>(ix_at hj).1
 simp only [xZcL,t2,t4,Option.bind_some,hent,xZ5b]
 unfold partS
 by_cases hk:isT' y i 2 nt=true∨isT' y i 4 [40]=true
 ·have hl:i < y.length:=by
   rcases hk with h | h
   ·exact xZS (by decide) (xZP h).1
   ·exact xZS (by decide) (xZP h).1
  rw [if_pos hk]
  by_cases hd:16≤d
  ·rw [if_pos hd]
   have:W (fun N:Nat=>(xZR N (oS y e i) 15).bind fun fail=>some (([]:List xZ2),fail)) (rfR y e i (.inl (15,i))):=by
    simp only [xZd1,Option.bind_some,W.ret]
    exact ⟨i,rfl,by omega,Nat.le_refl _,Nat.zero_le _⟩
   by_cases h1:isT' y i 2 nt=true
   ·simp only [h1,cond_true,decide_eq_true hd];exact this
   ·have h2:isT' y i 4 [40]=true:=hk.resolve_left h1
    simp only [show isT' y i 2 nt=false by simpa using h1,h2,cond_false,cond_true,decide_eq_true hd];exact this
  rw [if_neg hd]
  by_cases h1:isT' y i 2 nt=true
  ·simp only [h1,cond_true,decide_eq_false hd,cond_false,st _ i (show i≤1000000 by omega),Option.bind_some,W.gd,xZo,if_true]
   refine ⟨by omega,?_⟩
   obtain ⟨ok,hw⟩:=hn (by omega) (i+1) hl
   refine W.bind hw fun u hu=>?_
   cases h:p.2.2 (d+1) (i+1) with
   | inl x=>
     rw [h] at hu
     obtain ⟨kk,hu2,q1,q2,q3⟩:=hu
     simp only [show xZJ=xZJ from rfl]
     have hj:=fun N=>xZeE (N:=N) (bn 3) u.1 [] (by simp;omega)
     simp only [bn] at hj
     simp only [hj,Option.bind_some,W.ret]
     exact ⟨kk,hu2,by omega,by omega,by simp;omega⟩
   | inr q=>
     rw [h] at hu ok
     obtain rfl:u=(q.1,oS y e q.2):=hu
     have hj:=fun N=>xZeE (N:=N) (bn 3) q.1 [] (by have:=ok.2.2;have:=ok.2.1;simp;omega)
     simp only [bn] at hj
     simp only [hj,Option.bind_some,W.ret]
     simp [rfR,bn]
  ·have h2:isT' y i 4 [40]=true:=hk.resolve_left h1
   simp only [show isT' y i 2 nt=false by simpa using h1,h2,cond_true,decide_eq_false hd,cond_false,st _ i (show i≤1000000 by omega),Option.bind_some,W.gd,xZo,Bool.false_eq_true,if_false]
   refine ⟨by omega,?_⟩
   obtain ⟨ok,hw⟩:=ho (by omega) (i+1) hl
   refine W.bind hw fun u hu=>?_
   cases h:p.1 (d+1) (i+1) with
   | inl x=>
     rw [h] at hu ok
     obtain ⟨kk,hu2,q1,q2,q3⟩:=hu
     have hc:x.1≠0:=ok.1
     rw [hu2]
     simp only [show ((fS y e x.1 x.2 kk).F.E==0)=false by simpa [fS] using hc,cond_false,sf _ x.1 x.2 kk (show kk≤1000000 by omega),Option.bind_some,W.ret]
     exact ⟨kk+1,rfl,by omega,by omega,by show u.1.length≤_;omega⟩
   | inr q=>
     obtain ⟨l,j⟩:=q
     rw [h] at hu ok
     obtain rfl:u=(l,oS y e j):=hu
     have hj:=ok.2.1
     simp only [show ((oS y e j).F.E==0)=true from rfl,cond_true,t4,Option.bind_some]
     by_cases h3:isT' y j 4 [41]=true
     ·simp only [h3,Bool.not_true,cond_false,st _ j (show j≤1000000 by omega),Option.bind_some,W.ret,if_true];rfl
     ·simp only [show isT' y j 4 [41]=false by simpa using h3,Bool.not_false,cond_true,xZd1,Option.bind_some,W.ret,Bool.false_eq_true,if_false]
      exact ⟨j,rfl,by omega,by have:=ok.1;omega,Nat.zero_le _⟩
 ·have h1:isT' y i 2 nt=false:=by
   cases h:isT' y i 2 nt with
   | false=>rfl
   | true=>exact absurd (.inl h) hk
  have h2:isT' y i 4 [40]=false:=by
   cases h:isT' y i 4 [40] with
   | false=>rfl
   | true=>exact absurd (.inr h) hk
  rw [if_neg hk]
  simp only [h1,h2,cond_false]
  refine W.call (xZtG hi hy) fun u hu=>?_
  have ok:=SU_ok (y:=y) hi
  cases h:SU y i with
  | inl x=>
    rw [h] at hu ok
    obtain ⟨kk,hu2,q1,q2,q3⟩:=hu
    have hc:x.1≠0:=ok.1
    rw [hu2]
    simp only [show ((fS y e x.1 x.2 kk).F.E != 0)=true by simpa [fS] using hc,cond_true,W.ret]
    exact ⟨kk,rfl,by omega,by omega,Nat.zero_le _⟩
  | inr q=>
    obtain ⟨l,j⟩:=q
    rw [h] at hu ok
    obtain rfl:u=(l,oS y e j):=hu
    obtain ⟨a,b,c⟩:=ok
    have fl:W (fun N:Nat=>(xZR N (oS y e j) 4).bind fun fail=>some (([]:List xZ2),fail)) (rfR y e i (.inl (4,j))):=by
     simp only [xZd1,Option.bind_some,W.ret]
     exact ⟨j,rfl,by omega,by omega,Nat.zero_le _⟩
    simp only [show ((oS y e j).F.E != 0)=false from rfl,cond_false,k4,Option.bind_some]
    by_cases h4:(tk y j).Kind=4
    ·have hj:=xZS (by decide) h4
     simp only [show ((tk y j).Kind==4)=true by simpa using h4,cond_true,ixo j hj,Option.bind_some]
     refine W.call (w_rop _) ?_
     rintro _ rfl
     by_cases h3:opV (tk y j).Text=0
     ·simp only [show (opV (tk y j).Text==0)=true by simpa using h3,cond_true,if_neg (show ¬ ((tk y j).Kind=4∧opV (tk y j).Text≠0) from fun h=>h.2 h3)];exact fl
     ·simp only [show (opV (tk y j).Text==0)=false by simpa using h3,cond_false,st _ j (show j≤1000000 by omega),Option.bind_some,if_pos (And.intro h4 h3)]
      refine W.call (xZtG (i:=j+1) hj hy) fun u hu=>?_
      have ok2:=SU_ok (y:=y) (i:=j+1) hj
      cases g:SU y (j+1) with
      | inl x=>
        rw [g] at hu
        obtain ⟨kk,hu2,q1,q2,q3⟩:=hu
        simp only [fun N=>xZeE (N:=N) ⟨4,opV (tk y j).Text,[],[],⟨0,0,0,[]⟩⟩ l u.1 (by omega),Option.bind_some,W.ret]
        exact ⟨kk,hu2,by omega,by omega,by simp only [List.length_cons,List.length_append];omega⟩
      | inr q=>
        rw [g] at hu ok2
        obtain ⟨a2,b2,c2⟩:=ok2
        obtain rfl:u=(q.1,oS y e q.2):=hu
        simp only [fun N=>xZeE (N:=N) ⟨4,opV (tk y j).Text,[],[],⟨0,0,0,[]⟩⟩ l q.1 (by omega),Option.bind_some,W.ret]
        rfl
    ·simp only [show ((tk y j).Kind==4)=false by simpa using h4,cond_false,if_neg (show ¬ ((tk y j).Kind=4∧opV (tk y j).Text≠0) from fun h=>h4 h.1)];exact fl
theorem r_all {y:List xZ0} {e:Int} (hy:y.length≤700):∀ (n:Nat),
 (∀ (d:Int) (i:Nat),0≤d→d≤16→i≤y.length→3 * (16 - d)+3≤n→okR y i ((SPP y n).1 d i)∧W (fun N=>(xZ1R N).1 (oS y e i) d) (rfR y e i ((SPP y n).1 d i)))∧
 (∀ (d:Int) (i:Nat),0≤d→d≤16→i≤y.length→3 * (16 - d)+2≤n→okR y i ((SPP y n).2.1 d i)∧W (fun N=>(xZ1R N).2.1 (oS y e i) d) (rfR y e i ((SPP y n).2.1 d i)))∧
 (∀ (d:Int) (i:Nat),0≤d→d≤16→i≤y.length→3 * (16 - d)+1≤n→okR y i ((SPP y n).2.2 d i)∧W (fun N=>(xZ1R N).2.2 (oS y e i) d) (rfR y e i ((SPP y n).2.2 d i)))
 | 0=>⟨fun d i h1 h2 _ h4=>by omega,fun d i h1 h2 _ h4=>by omega,fun d i h1 h2 _ h4=>by omega⟩
 | n+1=>by
   obtain ⟨io,ia,ip⟩:=r_all hy n
   refine ⟨fun d i h1 h2 h3 h4=>?_,fun d i h1 h2 h3 h4=>?_,fun d i h1 h2 h3 h4=>?_⟩
   ·have hg:=fun (j:Nat) (hj:j≤y.length)=>ia d j h1 h2 hj (by omega)
    refine ⟨xZmX (fun j hj=>(hg j hj).1) h3,W.shift ?_⟩
    exact r_row hy (g:=fun N s=>(xZ1R N).2.1 s d) (F0:=fun N=>xZd9 N (xZ1R N) d) hg (fun N nx l y1 y2 y3 y4 y5=>rfl) h3
   ·have hg:=fun (j:Nat) (hj:j≤y.length)=>ip d j h1 h2 hj (by omega)
    refine ⟨xZmX (fun j hj=>(hg j hj).1) h3,W.shift ?_⟩
    exact r_row hy (g:=fun N s=>(xZ1R N).2.2 s d) (F0:=fun N=>xZc1 N (xZ1R N) d) hg (fun N nx l y1 y2 y3 y4 y5=>rfl) h3
   ·refine ⟨xZoT (fun hd j hj=>(ip (d+1) j (by omega) (by omega) hj (by omega)).1) (fun hd j hj=>(io (d+1) j (by omega) (by omega) hj (by omega)).1) h3,W.shift ?_⟩
    exact xZvS hy h1 h2 (fun hd j hj=>ip (d+1) j (by omega) (by omega) hj (by omega)) (fun hd j hj=>io (d+1) j (by omega) (by omega) hj (by omega)) h3
def okT (y:List xZ0):Prop:=∀ t∈y,0≤t.Val.Bits∧t.Val.Bits≤18446744073709551615
def oL:RR→Prop
 | .inl _=>True
 | .inr (l,_)=>okN l
theorem tk_ok {y:List xZ0} (h:okT y) (i:Nat):0≤(tk y i).Val.Bits∧(tk y i).Val.Bits≤18446744073709551615:=by
 by_cases hi:i < y.length
 ·exact h _ (List.mem_of_getElem? (ix_at hi).2)
 ·rw [xZgm hi];exact ⟨by decide,by decide⟩
theorem xZkc {n:xZ2} (h:0≤n.Val.Bits∧n.Val.Bits≤18446744073709551615):okN [n]:=fun m hm=>by
 simp only [List.mem_singleton] at hm;rw [hm];exact h
theorem xZoJ {a b:List xZ2} (h:okN a) (g:okN b):okN (a++b):=fun m hm=>by
 rcases List.mem_append.1 hm with h1 | h1
 ·exact h m h1
 ·exact g m h1
theorem xZkm {n:xZ2} {b:List xZ2} (h:0≤n.Val.Bits∧n.Val.Bits≤18446744073709551615) (g:okN b):okN (n::b):=xZoJ (xZkc h) g
theorem z_ok:0≤(⟨0,0,0,[]⟩:xZ4).Bits∧(⟨0,0,0,[]⟩:xZ4).Bits≤18446744073709551615:=⟨by decide,by decide⟩
theorem UR_l {y:List xZ0} (h:okT y) (i:Nat):oL (UR y i):=by
 unfold UR U
 by_cases h1:isT' y i 4 [45]=true
 ·rw [if_pos h1]
  by_cases h2:(tk y (i+1)).Val.Kind=1∧(tk y (i+1)).Kind=3
  ·rw [if_pos h2];exact xZkc (tk_ok h (i+1))
  ·rw [if_neg h2];trivial
 rw [if_neg h1]
 by_cases h2:(tk y i).Kind=3
 ·rw [if_pos h2];exact xZkc (tk_ok h i)
 rw [if_neg h2]
 by_cases h3:(tk y i).Kind=1
 ·rw [if_pos h3]
  by_cases h4:isT' y (i+1) 4 [46]=true
  ·rw [if_pos h4]
   by_cases h5:(tk y (i+2)).Kind=1
   ·rw [if_pos h5];exact xZkc z_ok
   ·rw [if_neg h5];trivial
  ·rw [if_neg h4];exact xZkc z_ok
 ·rw [if_neg h3];trivial
theorem lpG_l {f:Nat→RR} {sep:Nat→Option Int} (hf:∀ j,oL (f j)):∀ (n:Nat) (l:List xZ2) (j:Nat),okN l→oL (lpG f sep n l j)
 | 0,l,j,h=>h
 | n+1,l,j,h=>by
   cases hs:sep j with
   | none=>rw [xZh3 hs];exact h
   | some k=>
     have:=hf (j+1)
     cases g:f (j+1) with
     | inl x=>rw [xZjA hs g];trivial
     | inr p=>
       rw [g] at this
       rw [xZkd (r:=p.1) (j':=p.2) hs g]
       exact lpG_l hf n _ _ (xZkm z_ok (xZoJ h this))
theorem xZuK {y:List xZ0} {f:Nat→RR} {sep:Nat→Option Int} (hf:∀ j,oL (f j)) (i:Nat):oL (rowS y f sep i):=by
 have:=hf i
 unfold rowS
 cases h:f i with
 | inl x=>trivial
 | inr p=>rw [h] at this;exact lpG_l hf _ _ _ this
theorem SU_l {y:List xZ0} (h:okT y) (i:Nat):oL (SU y i):=by
 have:=UR_l h i
 unfold SU
 cases g:UR y i with
 | inl x=>trivial
 | inr p=>rw [g] at this;exact lpG_l (UR_l h) _ _ _ this
theorem SPP_l {y:List xZ0} (h:okT y):∀ n:Nat,(∀ d i,oL ((SPP y n).1 d i))∧(∀ d i,oL ((SPP y n).2.1 d i))∧(∀ d i,oL ((SPP y n).2.2 d i))
 | 0=>⟨fun _ _=>trivial,fun _ _=>trivial,fun _ _=>trivial⟩
 | n+1=>by
   obtain ⟨io,ia,ip⟩:=SPP_l h n
   refine ⟨fun d i=>xZuK (ia d) i,fun d i=>xZuK (ip d) i,fun d i=>?_⟩
   show oL (partS y (SPP y n) d i)
   unfold partS
   by_cases hk:isT' y i 2 nt=true∨isT' y i 4 [40]=true
   ·rw [if_pos hk]
    by_cases hd:16≤d
    ·rw [if_pos hd];trivial
    rw [if_neg hd]
    by_cases h1:isT' y i 2 nt=true
    ·rw [if_pos h1]
     have:=ip (d+1) (i+1)
     cases g:(SPP y n).2.2 (d+1) (i+1) with
     | inl x=>trivial
     | inr q=>rw [g] at this;exact xZkm z_ok this
    ·rw [if_neg h1]
     have:=io (d+1) (i+1)
     cases g:(SPP y n).1 (d+1) (i+1) with
     | inl x=>trivial
     | inr q=>
       rw [g] at this
       by_cases h2:isT' y q.2 4 [41]=true
       ·simp only [if_pos h2];exact this
       ·simp only [if_neg h2];trivial
   ·rw [if_neg hk]
    have:=SU_l h i
    cases g:SU y i with
    | inl x=>trivial
    | inr q=>
      rw [g] at this
      by_cases h2:(tk y q.2).Kind=4∧opV (tk y q.2).Text≠0
      ·simp only [if_pos h2]
       have h3:=SU_l h (q.2+1)
       cases g2:SU y (q.2+1) with
       | inl x=>trivial
       | inr r=>rw [g2] at h3;exact xZkm z_ok (xZoJ this h3)
      ·simp only [if_neg h2];trivial
def PAR (y:List xZ0) (b:Nat) (e:Int):(Int×Int)⊕(List xZ2×Nat):=match (SPP y 51).1 0 b with
 | .inl (c,j)=>.inl (c,plc y e j)
 | .inr (l,j)=>if chk l=0 then .inr (l,j) else .inl (chk l,plc y e b)
theorem xZtg {y:List xZ0} {b:Nat} {e:Int} (hy:y.length≤700) (hb:b≤y.length):W (fun N=>xZ36 N y b e) (·=match PAR y b e with
 | .inl (c,a)=>.inr ([],0,c,a)
 | .inr (l,j)=>.inl (l,(j:Int))):=by
 have hpl:∀ N,xZj N y b e=some (plc y e b,y,(b:Int),e):=fun N=>xZpc (i:=b)
 simp only [xZ36,show ltB (b:Int) 0=false from xZL.2 (by omega),cond_false,show ltB (y.length:Int) b=false from xZL.2 (by omega),hpl,Option.bind_some]
 obtain ⟨ok,hw⟩:=(p_all (e:=e) hy 51).1 0 b (by omega) (by omega) (by omega) (by omega)
 refine W.bind (show W (fun N=>xZQ N 0 y b e) _ from hw) ?_
 rintro _ rfl
 unfold PAR
 cases h:(SPP y 51).1 0 b with
 | inl x=>
   rw [h] at ok
   have hc:x.1≠0:=ok.1
   simp only [enP,Sum.elim_inl,show (x.1 != 0)=true by simpa using hc,xZ1S,W.ret]
 | inr p=>
   simp only [enP,Sum.elim_inr]
   refine W.call (xZr9 p.1) ?_
   rintro _ rfl
   by_cases hz:chk p.1=0
   ·simp only [hz,show ((0:Int) != 0)=false from rfl,cond_false,W.ret,if_true]
   ·simp only [show (chk p.1 != 0)=true by simpa using hz,cond_true,W.ret,if_neg hz]
def zv:xZ4:=⟨0,0,0,[]⟩
def isS (c:UInt8):Bool:=leB 97 (c.toNat:Int)&&leB (c.toNat:Int) 122
def isD (c:UInt8):Bool:=leB 48 (c.toNat:Int)&&leB (c.toNat:Int) 57
def isT (c:UInt8):Bool:=isS c || isD c || ((c.toNat:Int)==95)
def isG (c:UInt8):Bool:=leB 0 (Lib.indexByte [40,41,91,93,123,125,59,124,33,58,44,46,43,42,63,45,61,60,62] c)
def isC (c:UInt8):Bool:=leB 0 (Lib.indexByte [33,60,62] c)
def known (c:UInt8):Bool:=isS c || isD c || ((c.toNat:Int)==35) || ((c.toNat:Int)==39) || isG c
def blank (c:UInt8):Bool:=((c.toNat:Int)==32) || ((c.toNat:Int)==9) || ((c.toNat:Int)==10)
def hx (c:UInt8):Option Nat:=if isD c then some (c.toNat - 48) else if leB 97 (c.toNat:Int)&&leB (c.toNat:Int) 102 then some (c.toNat - 87) else none
abbrev R1:=(Int×List UInt8×xZ4×Nat)⊕(Int×Nat)
def resl:List (List UInt8):=[[119,105,116,104,105,110],[98,121],[97,110,100],[111,114],[110,111,116],[97,110,121],[110,101,120,116],[115,116,114,105,99,116],[116,114,117,101],[102,97,108,115,101]]
def resv (s:List UInt8):Bool:=resl.any (s==·)
def wordR (w:List UInt8):R1:=if w=[116,114,117,101] then .inl (3,[],⟨2,1,0,[]⟩,w.length) else if w=[102,97,108,115,101] then .inl (3,[],⟨2,0,0,[]⟩,w.length) else if resv w then .inl (2,w,zv,w.length) else if 12 < w.length then .inr (5,0) else .inl (1,w,zv,w.length)
def numv:Nat→List UInt8→Option Nat
 | v,[]=>some v
 | v,c::t=>if (4611686018427387904 - (c.toNat - 48)) / 10 < v then none else numv (10 * v+(c.toNat - 48)) t
def numR (w:List UInt8):R1:=
 if 1 < w.length∧w.head?=some 48 then .inr (4,0)
 else match numv 0 w with
  | none=>.inr (8,0)
  | some v=>.inl (3,[],⟨1,(v:Int),0,[]⟩,w.length)
def hexv:Nat→List UInt8→Option Nat
 | u,[]=>some u
 | u,c::t=>match hx c with
   | none=>none
   | some d=>hexv (16 * u+d) t
def dblR (t:List UInt8):R1:=
 if t.length < 16 then .inr (4,0) else match hexv 0 (t.take 16) with
  | none=>.inr (4,0)
  | some u=>if cln (u:Int)=(u:Int) then .inl (3,[],⟨3,0,(u:Int),[]⟩,17) else .inr (4,0)
def quoR:List UInt8→Nat→List UInt8→R1
 | [],_,_=>.inr (3,0)
 | c::t,off,b=>
   if c.toNat < 32∨126 < c.toNat then .inr (10,off)
   else if c=92 then match t with
    | x::y::t=>match hx x,hx y with
      | some h,some l=>quoR t (off+3) (b++[UInt8.ofNat (16 * h+l)])
      | _,_=>.inr (4,off)
    | _=>.inr (4,off)
   else if c=39 then match t with
    | x::t=>if x=39 then quoR t (off+2) (b++[39]) else if 24 < b.length then .inr (5,0) else .inl (3,[],⟨4,0,0,b⟩,off+1)
    | []=>if 24 < b.length then .inr (5,0) else .inl (3,[],⟨4,0,0,b⟩,off+1)
   else quoR t (off+1) (b++[c])
theorem xZfN (off:Nat) (b:List UInt8):quoR [] off b=.inr (3,0):=by rw [quoR.eq_def]
theorem xZ6u (c:UInt8) (t:List UInt8) (off:Nat) (b:List UInt8):quoR (c::t) off b=
 if c.toNat < 32∨126 < c.toNat then .inr (10,off)
 else if c=92 then match t with
  | x::y::t=>match hx x,hx y with
    | some h,some l=>quoR t (off+3) (b++[UInt8.ofNat (16 * h+l)])
    | _,_=>.inr (4,off)
  | _=>.inr (4,off)
 else if c=39 then match t with
  | x::t=>if x=39 then quoR t (off+2) (b++[39]) else if 24 < b.length then .inr (5,0) else .inl (3,[],⟨4,0,0,b⟩,off+1)
  | []=>if 24 < b.length then .inr (5,0) else .inl (3,[],⟨4,0,0,b⟩,off+1)
 else quoR t (off+1) (b++[c]):=by rw [quoR.eq_def]
def signR (c:UInt8) (t:List UInt8):R1:=if isC c∧t.head?=some 61 then .inl (4,[c,61],zv,2) else .inl (4,[c],zv,1)
def oneR:List UInt8→R1
 | []=>.inr (10,0)
 | c::t=>if isS c then wordR ((c::t).takeWhile isT)
   else if isD c then numR ((c::t).takeWhile isD)
   else if (c.toNat:Int)==35 then dblR t
   else if (c.toNat:Int)==39 then quoR t 1 []
   else if isG c then signR c t
   else .inr (10,0)
def scanR (r:List UInt8) (p:Nat) (out:List xZ0):List xZ0⊕(Int×Int):=
 match r with
 | []=>.inl out
 | c::t=>if blank c then scanR t (p+1) out
   else if known c&&decide (out.length=200) then .inr (7,(p:Int))
   else match oneR (c::t) with
    | .inr (e,o)=>.inr (e,((p+o:Nat):Int))
    | .inl (k,x,v,m)=>scanR (t.drop (m - 1)) (p+m) (out++[⟨k,(p:Int),x,v⟩])
termination_by r.length
def scan (s:List UInt8):List xZ0⊕(Int×Int):=if 600 < s.length then .inr (5,0) else scanR s 0 []
/-! ### Small facts -/
theorem xZrq (c:UInt8) (N:Nat):xZ3p N (c.toNat:Int)=some (isS c):=by
 simp only [xZ3p,isS];cases leB 97 (c.toNat:Int)<;>rfl
theorem xZox (c:UInt8) (N:Nat):xZ37 N (c.toNat:Int)=some (isD c):=by
 simp only [xZ37,isD];cases leB 48 (c.toNat:Int)<;>rfl
theorem xZvH (c:UInt8) (N:Nat):xZdM N (c.toNat:Int)=some (isT c):=by
 simp only [xZdM,xZrq,xZox,Option.bind_some,isT]
 cases isS c<;>cases isD c<;>rfl
theorem xZa6 {P:UInt8→Prop} (h:∀ n:Fin 256,P (UInt8.ofNat n.val)) (c:UInt8):P c:=by
 have:=h ⟨c.toNat,c.toNat_lt⟩
 simpa using this
theorem ofN (c:UInt8):UInt8.ofNat (Int.toNat (c.toNat:Int))=c:=by simp
theorem hx_ix:∀ c:UInt8,Lib.indexByte [48,49,50,51,52,53,54,55,56,57,97,98,99,100,101,102] c=match hx c with
 | none=>-1
 | some d=>(d:Int):=xZa6 (by decide +kernel)
theorem hx_lt {c:UInt8} {d:Nat} (h:hx c=some d):d < 16:=by
 unfold hx at h
 split at h
 ·rename_i hd
  simp only [isD,Bool.and_eq_true,xZ16] at hd
  cases h;omega
 ·split at h
  ·rename_i hd
   simp only [Bool.and_eq_true,xZ16] at hd
   cases h;omega
  ·cases h
theorem xZud (c:UInt8) (N:Nat):xZ5C N (c.toNat:Int)=some (match hx c with | none=>-1 | some d=>(d:Int)):=by
 simp only [xZ5C,xZ1u,xZ2s,Option.bind_some,ofN,hx_ix]
theorem xZrd (l:List UInt8) (c:UInt8) (N:Nat):xZ1u N l (c.toNat:Int)=some (Lib.indexByte l c):=by
 simp only [xZ1u,xZ2s,Option.bind_some,ofN]
theorem xZpy (s:List UInt8) (N:Nat):xZ29 N s=some (resv s):=by
 have e2:∀ (b r:Bool),(bif b then some true else some r)=some (b || r):=by intro b r;cases b<;>rfl
 have e3:∀ (b r r':Bool),(bif b then some (b || r') else some r)=some (b || r):=by intro b r r';cases b<;>rfl
 have e4:∀ (b r:Bool),(bif b then some b else some r)=some (b || r):=by intro b r;cases b<;>rfl
 unfold xZ29
 simp only [resv,resl,List.any_cons,List.any_nil,e2,e3,e4,Bool.or_false]
theorem tw_le {α:Type} (p:α→Bool):∀ r:List α,(r.takeWhile p).length≤r.length
 | []=>Nat.le_refl _
 | x::r=>by
   have:=tw_le p r
   simp only [List.takeWhile_cons]
   split<;>simp;omega
theorem tw_at {α:Type} {p:α→Bool}:∀ {r:List α} {k:Nat} {e:α},k≤(r.takeWhile p).length→r[k]?=some e→p e=decide (k < (r.takeWhile p).length)
 | [],_,_,_,h=>by simp at h
 | x::r,0,e,_,h=>by
   simp only [List.getElem?_cons_zero,Option.some.injEq] at h
   subst h
   simp only [List.takeWhile_cons]
   cases p x<;>simp
 | x::r,k+1,e,hk,h=>by
   simp only [List.getElem?_cons_succ] at h
   simp only [List.takeWhile_cons] at hk ⊢
   cases hx:p x with
   | false=>simp [hx] at hk
   | true=>
     simp only [hx,if_true,List.length_cons,Nat.add_le_add_iff_right,Nat.add_lt_add_iff_right] at hk ⊢
     exact tw_at hk h
theorem xZoO {α:Type} (p:α→Bool):∀ r:List α,r.take (r.takeWhile p).length=r.takeWhile p
 | []=>rfl
 | x::r=>by
   simp only [List.takeWhile_cons]
   split
   ·simp [xZoO p r]
   ·rfl
theorem xZ3x {y:List UInt8} {a k:Nat} {e:UInt8} (h:(y.drop a)[k]?=some e):ix y ((a:Int)+(k:Int))=some e:=by
 rw [show (a:Int)+(k:Int)=((a+k:Nat):Int) by omega,ix_nat',← h,List.getElem?_drop]
theorem xZ4h {y:List UInt8} {a k:Nat} (h:a+k < y.length):∃ e,(y.drop a)[k]?=some e:=by
 rw [List.getElem?_drop];exact ⟨y[a+k],List.getElem?_eq_getElem h⟩
theorem xZub (y:List UInt8) (a:Nat) (xs:List xZ0) (ha:a≤y.length) (hy:y.length≤700):
 W (fun N=>xZ26 N y a xs) (·=((((y.drop a).takeWhile isT).length:Int),y,(a:Int),xs)):=by
 have hl:=tw_le isT (y.drop a)
 rw [List.length_drop] at hl
 simp only [xZ26]
 refine W.lp1 (fun v:Int=>∃ k:Nat,v=k∧k≤((y.drop a).takeWhile isT).length) (fun v:Int=>((y.drop a).takeWhile isT).length - v.toNat) ⟨0,rfl,Nat.zero_le _⟩ ?_
 rintro F v ⟨k,rfl,hk⟩ hn
 simp only [xZ2w,W.gd,W.cond,xZo,xZv,xZL,W.ret]
 refine ⟨by omega,fun h=>⟨by omega,?_⟩,fun h=>by rw [show k=((y.drop a).takeWhile isT).length by omega]⟩
 obtain ⟨e,he⟩:=xZ4h (y:=y) (a:=a) (k:=k) (by omega)
 have hp:=tw_at hk he
 simp only [xZ3x he,Option.bind_some,xZvH,hp,W.cond,W.gd,decide_eq_true_eq,decide_eq_false_iff_not,W.ret,xZo]
 refine ⟨fun h2=>⟨by omega,hn _ ⟨k+1,by omega,h2⟩ (by omega)⟩,fun h2=>by rw [show k=((y.drop a).takeWhile isT).length by omega]⟩
theorem xZtt (y:List UInt8) (a:Nat) (xs:List xZ0) (ha:a≤y.length) (hy:y.length≤700):
 W (fun N=>xZ27 N y a xs) (·=((((y.drop a).takeWhile isD).length:Int),y,(a:Int),xs)):=by
 have hl:=tw_le isD (y.drop a)
 rw [List.length_drop] at hl
 simp only [xZ27]
 refine W.lp1 (fun v:Int=>∃ k:Nat,v=k∧k≤((y.drop a).takeWhile isD).length) (fun v:Int=>((y.drop a).takeWhile isD).length - v.toNat) ⟨0,rfl,Nat.zero_le _⟩ ?_
 rintro F v ⟨k,rfl,hk⟩ hn
 simp only [xZ2y,W.gd,W.cond,xZo,xZv,xZL,W.ret]
 refine ⟨by omega,fun h=>⟨by omega,?_⟩,fun h=>by rw [show k=((y.drop a).takeWhile isD).length by omega]⟩
 obtain ⟨e,he⟩:=xZ4h (y:=y) (a:=a) (k:=k) (by omega)
 have hp:=tw_at hk he
 simp only [xZ3x he,Option.bind_some,xZox,hp,W.cond,W.gd,decide_eq_true_eq,decide_eq_false_iff_not,W.ret,xZo]
 refine ⟨fun h2=>⟨by omega,hn _ ⟨k+1,by omega,h2⟩ (by omega)⟩,fun h2=>by rw [show k=((y.drop a).takeWhile isD).length by omega]⟩
abbrev St3:=List UInt8×Int×List xZ0
abbrev Ft:=Int×Int×List UInt8×Int×List xZ0
def finA:St3⊕Ft⊕St3→St3⊕(Int×Int)
 | .inl x=>.inl x
 | .inr (.inl f)=>.inr (f.1,f.2.1)
 | .inr (.inr x)=>.inl x
def finW:St3⊕St3⊕Ft→St3⊕(Int×Int)
 | .inl x=>.inl x
 | .inr (.inl x)=>.inl x
 | .inr (.inr f)=>.inr (f.1,f.2.1)
def stepR (y:List UInt8) (a:Nat) (xs:List xZ0):R1→St3⊕(Int×Int)
 | .inl (k,x,v,m)=>.inl (y,((a+m:Nat):Int),xs++[⟨k,(a:Int),x,v⟩])
 | .inr (e,o)=>.inr (e,((a+o:Nat):Int))
theorem w_put (n:Nat) (k:Int) (x:List UInt8) (v:xZ4) (y:List UInt8) (a:Nat) (xs:List xZ0) (h1:a≤700) (h2:n≤700) (h3:xs.length≤700):
 W (fun N=>xZe N (n:Int) k x v y a xs) (·=(y,((a+n:Nat):Int),xs++[⟨k,(a:Int),x,v⟩])):=by
 simp only [xZe,W.gd,W.ret,xZo]
 refine ⟨Nat.ble_eq_true_of_le (by omega),by omega,?_⟩
 rw [show ((a+n:Nat):Int)=(a:Int)+(n:Int) by omega]
theorem xZgL (e:Int) (he:(e==0)=false) (y:List UInt8) (a:Int) (xs:List xZ0) (N:Nat):xZb N e y a xs=some (.inr (e,a,y,a,xs)):=by
 simp only [xZb,xZV,he,cond_false,Option.bind_some,Sum.elim_inr]
theorem xZvG (y:List UInt8) (a:Nat) (xs:List xZ0) (ha:a≤y.length) (hy:y.length≤700) (hx:xs.length≤700):
 W (fun N=>xZN N y a xs) fun r=>finW r=stepR y a xs (wordR ((y.drop a).takeWhile isT)):=by
 have hl:=tw_le isT (y.drop a)
 rw [List.length_drop] at hl
 simp only [xZN]
 refine W.call (xZub y a xs ha hy) ?_
 rintro _ rfl
 have hw:List.drop (Int.toNat (a:Int)) (List.take (Int.toNat ((a:Int)+(((y.drop a).takeWhile isT).length:Nat))) y)=(y.drop a).takeWhile isT:=by
  rw [show Int.toNat ((a:Int)+(((y.drop a).takeWhile isT).length:Nat))=a+((y.drop a).takeWhile isT).length by omega,Int.toNat_natCast,List.drop_take,Nat.add_sub_cancel_left]
  exact xZoO _ _
 simp only [W.gd,W.cond,W.ret,xZo,xZ16,hw]
 generalize (y.drop a).takeWhile isT=w at *
 have put:∀ {ι:Type} [Lim ι] (N:ι→Nat) [Tends N] (k:Int) (x:List UInt8) (v:xZ4),wordR w=.inl (k,x,v,w.length)→W (fun i=>(xZe (N i) (w.length:Nat) k x v y a xs).bind fun p=>some (.inl (p.1,p.2.1,p.2.2):St3⊕St3⊕Ft)) fun r=>finW r=stepR y a xs (wordR w):=fun N _ k x v he=>by
  refine W.call (w_put _ _ _ _ _ _ _ (by omega) (by omega) hx) ?_
  rintro _ rfl
  rw [he];exact W.ret.2 rfl
 refine ⟨by omega,by omega,by omega,by omega,fun h=>?_,fun h=>⟨fun h2=>?_,fun h2=>?_⟩⟩
 ·have h:=eq_of_beq h
  subst h
  exact put _ 3 [] ⟨2,1,0,[]⟩ rfl
 ·have h2:=eq_of_beq h2
  subst h2
  exact put _ 3 [] ⟨2,0,0,[]⟩ rfl
 ·have h:¬ w=[116,114,117,101]:=by simpa using h
  have h2:¬ w=[102,97,108,115,101]:=by simpa using h2
  simp only [xZpy,Option.bind_some,W.cond]
  refine ⟨fun h3=>put _ 2 w zv (by rw [wordR,if_neg h,if_neg h2,if_pos h3]),fun h3=>⟨fun h4=>?_,fun h4=>put _ 1 w zv ?_⟩⟩
  ·have h4:=xZv.1 h4
   simp only [xZgL 5 rfl,Option.bind_some,Sum.elim_inr,W.ret]
   rw [wordR,if_neg h,if_neg h2,if_neg (by simp [h3]),if_pos (by omega)];rfl
  ·have h4:=xZL.1 h4
   rw [wordR,if_neg h,if_neg h2,if_neg (by simp [h3]),if_neg (by omega)]
theorem xZt1 {α:Type} {p:α→Bool}:∀ {r:List α} {k:Nat},k < (r.takeWhile p).length→(r.takeWhile p)[k]?=r[k]?
 | [],k,h=>by simp at h
 | x::r,k,h=>by
   cases hx:p x with
   | false=>simp [List.takeWhile_cons,hx] at h
   | true=>
     simp only [List.takeWhile_cons,hx,if_true,List.length_cons] at h ⊢
     cases k with
     | zero=>rfl
     | succ k=>
       simp only [List.getElem?_cons_succ]
       exact xZt1 (by omega)
theorem xZaO {α:Type} {l:List α} {k:Nat} {e:α} (h:l[k]?=some e):l.drop k=e::l.drop (k+1):=by
 obtain ⟨h1,h2⟩:=List.getElem?_eq_some_iff.1 h
 rw [List.drop_eq_getElem_cons h1,h2]
theorem xZrI {c:UInt8}:isD c=true ↔ 48≤c.toNat∧c.toNat≤57:=by
 simp only [isD,Bool.and_eq_true,xZ16];omega
theorem xZs6 (y:List UInt8) (a:Nat) (xs:List xZ0) (ha:a < y.length) (hy:y.length≤700) (hx:xs.length≤700):
 W (fun N=>xZD N y a xs) fun r=>finA r=stepR y a xs (numR ((y.drop a).takeWhile isD)):=by
 have hl:=tw_le isD (y.drop a)
 rw [List.length_drop] at hl
 simp only [xZD]
 refine W.call (xZtt y a xs (Nat.le_of_lt ha) hy) ?_
 rintro _ rfl
 have hD:∀ k,k < ((y.drop a).takeWhile isD).length→∃ e,((y.drop a).takeWhile isD)[k]?=some e∧(y.drop a)[k]?=some e∧isD e=true:=fun k hk=>by
  obtain ⟨e,he⟩:=xZ4h (y:=y) (a:=a) (k:=k) (by omega)
  exact ⟨e,(xZt1 hk).trans he,he,by rw [tw_at (Nat.le_of_lt hk) he];exact decide_eq_true hk⟩
 generalize (y.drop a).takeWhile isD=w at *
 have loop:¬ (1 < w.length∧w.head?=some 48)→∀ {ι:Type} [Lim ι] (N:ι→Nat) [Tends N],W (fun i=>lp2 (xZ1a (N i) (w.length:Int) (w.length:Int) y (a:Int) xs) (N i) 0 0) fun r=>finA r=stepR y a xs (numR w):=fun h0 {ι} _ N _=>by
  have key:∀ v,numv 0 w=v→numR w=match v with
   | none=>.inr (8,0)
   | some v=>.inl (3,[],⟨1,(v:Int),0,[]⟩,w.length):=fun v hv=>by rw [numR,if_neg h0,hv]<;>cases v<;>rfl
  refine W.lp2 (fun v x=>∃ V k:Nat,v=(V:Int)∧x=(k:Int)∧k≤w.length∧V≤4611686018427387904∧numv 0 w=numv V (w.drop k)) (fun _ x=>w.length - x.toNat) ⟨0,0,rfl,rfl,Nat.zero_le _,by omega,rfl⟩ ?_
  rintro F v x ⟨V,k,rfl,rfl,hk,hV,hv⟩ hn
  simp only [xZ1a,W.cond,W.gd,xZv,xZL,xZo]
  refine ⟨fun hlt=>⟨by omega,?_⟩,fun hge=>?_⟩
  ·obtain ⟨e,he1,he2,he3⟩:=hD k (by omega)
   have h48:=xZrI.1 he3
   have e1:IntKind.i64.wrap (IntKind.u8.wrap ((e.toNat:Int) - 48))=((e.toNat - 48:Nat):Int):=by rw [IntKind.wrap_u8,IntKind.wrap_i64];omega
   have e2:IntKind.i64.wrap (Int.tdiv (4611686018427387904 - ((e.toNat - 48:Nat):Int)) 10)=(((4611686018427387904 - (e.toNat - 48)) / 10:Nat):Int):=by
    rw [show (4611686018427387904:Int) - ((e.toNat - 48:Nat):Int)=((4611686018427387904 - (e.toNat - 48):Nat):Int) by omega]
    rw [show Int.tdiv ((4611686018427387904 - (e.toNat - 48):Nat):Int) 10=(((4611686018427387904 - (e.toNat - 48)) / 10:Nat):Int) from rfl,IntKind.wrap_i64]
    omega
   rw [xZaO he1,numv] at hv
   simp only [xZ3x he2,Option.bind_some,e1,e2,W.gd,W.cond,xZo,xZv,xZL]
   have hd:e.toNat - 48≤9:=by omega
   generalize e.toNat - 48=d at *
   refine ⟨by omega,fun h=>?_,fun h=>?_⟩
   ·rw [if_pos (by omega)] at hv
    simp only [xZgL 8 rfl,Option.bind_some,Sum.elim_inr,W.ret,key _ hv]
    rfl
   ·rw [if_neg (by omega)] at hv
    refine ⟨by omega,by omega,by omega,hn _ _ ⟨10 * V+d,k+1,by omega,by omega,by omega,by omega,hv⟩ (by omega)⟩
  ·have hk:k=w.length:=by omega
   rw [hk,List.drop_length,numv] at hv
   have e3:max (-4611686018427387904) (min (V:Int) 4611686018427387904)=(V:Int):=by omega
   simp only [xZ8b,Option.bind_some,e3]
   refine W.call (w_put w.length 3 [] _ y a xs (by omega) (by omega) hx) ?_
   rintro _ rfl
   rw [key _ hv]
   exact W.ret.2 rfl
 simp only [W.cond,xZv,xZL]
 refine ⟨fun h=>?_,fun h=>loop (by omega) _⟩
 obtain ⟨e,he1,he2,he3⟩:=hD 0 (by omega)
 have hh:w.head?=some e:=by rw [← he1];cases w<;>rfl
 have he2:=xZ3x he2
 rw [show (a:Int)+((0:Nat):Int)=(a:Int) by omega] at he2
 simp only [he2,Option.bind_some,W.cond]
 refine ⟨fun h2=>?_,fun h2=>loop ?_ _⟩
 ·simp only [xZgL 4 rfl,Option.bind_some,Sum.elim_inr,W.ret]
  have h48:e=48:=by
   have:=eq_of_beq h2
   exact UInt8.toNat_inj.1 (by simp only [UInt8.reduceToNat];omega)
  rw [numR,if_pos ⟨by omega,by rw [hh,h48]⟩];rfl
 ·rintro ⟨_,h3⟩
  rw [hh] at h3
  cases h3
  exact absurd h2 (by decide)
theorem bwO4 {U d:Nat} (h:U * 16 < 18446744073709551616) (hd:d < 16):bwO .u64 (IntKind.u64.wrap ((U:Int) * 2 ^ 4)) (IntKind.u64.wrap (d:Int))=((16 * U+d:Nat):Int):=by
 have e1:IntKind.u64.wrap ((U:Int) * 2 ^ 4)=((2 ^ 4 * U:Nat):Int):=by rw [IntKind.wrap_u64];omega
 have e2:IntKind.u64.wrap (d:Int)=(d:Int):=by rw [IntKind.wrap_u64];omega
 rw [e1,e2]
 unfold bwO
 rw [BitVec.toNat_or,BitVec.toNat_ofInt,BitVec.toNat_ofInt]
 rw [show IntKind.u64.bits=64 from rfl]
 rw [show (((2 ^ 4 * U:Nat):Int) % ((2 ^ 64:Nat):Int)).toNat=2 ^ 4 * U by omega,show ((d:Int) % ((2 ^ 64:Nat):Int)).toNat=d by omega]
 rw [← Nat.two_pow_add_eq_or_of_lt (by omega:d < 2 ^ 4),IntKind.wrap_u64]
 omega
theorem pow16:∀ k:Nat,k < 16→16 ^ k * 16≤18446744073709551616:=by
 intro k hk
 have:16 ^ k≤16 ^ 15:=Nat.pow_le_pow_right (by decide) (by omega)
 have h2:(16:Nat) ^ 15=1152921504606846976:=by decide
 omega
theorem xZs4 (y:List UInt8) (a:Nat) (xs:List xZ0) (ha:a < y.length) (hy:y.length≤700) (hx':xs.length≤700):
 W (fun N=>xZC N y a xs) fun r=>finA r=stepR y a xs (dblR (y.drop (a+1))):=by
 simp only [xZC,W.gd,W.cond,xZo,xZ16,xZn0]
 refine ⟨by omega,fun h=>?_,fun h=>?_⟩
 ·simp only [xZgL 4 rfl,Option.bind_some,Sum.elim_inr,W.ret]
  rw [dblR,if_pos (by rw [List.length_drop];omega)];rfl
 ·have h0:¬ (y.drop (a+1)).length < 16:=by rw [List.length_drop];omega
  have key:∀ v,hexv 0 ((y.drop (a+1)).take 16)=v→dblR (y.drop (a+1))=match v with
   | none=>.inr (4,0)
   | some u=>if cln (u:Int)=(u:Int) then .inl (3,[],⟨3,0,(u:Int),[]⟩,17) else .inr (4,0):=fun v hv=>by rw [dblR,if_neg h0,hv]<;>cases v<;>rfl
  refine W.lp2 (fun v x=>∃ U k:Nat,v=(U:Int)∧x=(k:Int)∧k≤16∧U < 16 ^ k∧hexv 0 ((y.drop (a+1)).take 16)=hexv U (((y.drop (a+1)).take 16).drop k)) (fun _ x=>16 - x.toNat) ⟨0,0,rfl,rfl,Nat.zero_le _,by decide,rfl⟩ ?_
  rintro F v x ⟨U,k,rfl,rfl,hk,hU,hv⟩ hn
  simp only [xZ2D,W.cond,W.gd,xZv,xZL,xZo]
  refine ⟨fun hlt=>⟨by omega,by omega,?_⟩,fun hge=>?_⟩
  ·obtain ⟨e,he⟩:=xZ4h (y:=y) (a:=a+1) (k:=k) (by omega)
   have he2:((y.drop (a+1)).take 16)[k]?=some e:=by rw [List.getElem?_take,if_pos (by omega)];exact he
   have he3:=xZ3x he
   rw [show ((a+1:Nat):Int)+(k:Int)=(a:Int)+1+(k:Int) by omega] at he3
   rw [xZaO he2,hexv] at hv
   simp only [he3,Option.bind_some,xZud]
   cases hh:hx e with
   | none=>
     rw [hh] at hv
     simp only [show ltB (-1) 0=true from rfl,cond_true,xZgL 4 rfl,Option.bind_some,Sum.elim_inr,W.ret,key _ hv]
     rfl
   | some d=>
     rw [hh] at hv
     have hd:=hx_lt hh
     have hp:=pow16 k (by omega)
     simp only [show ltB (d:Int) 0=false from xZL.2 (by omega),cond_false,W.gd,xZo]
     refine ⟨by omega,hn _ _ ⟨16 * U+d,k+1,bwO4 (by omega) hd,by omega,by omega,?_,hv⟩ (by omega)⟩
     rw [Nat.pow_succ];omega
  ·have hk:k=16:=by omega
   have hnil:((y.drop (a+1)).take 16).drop 16=[]:=List.drop_eq_nil_of_le (by rw [List.length_take];omega)
   rw [hk,hnil,hexv] at hv
   simp only [xZdb,Option.bind_some,W.cond]
   refine ⟨fun hne=>?_,fun hne=>?_⟩
   ·simp only [xZgL 4 rfl,Option.bind_some,Sum.elim_inr,W.ret,key _ hv]
    rw [if_neg (by simpa using hne)];rfl
   ·have hne:cln (U:Int)=(U:Int):=by simpa using hne
    simp only [xZaB,xZdb,Option.bind_some,hne]
    refine W.call (w_put 17 3 [] _ y a xs (by omega) (by omega) hx') ?_
    rintro _ rfl
    simp only [key _ hv,hne,if_true]
    exact W.ret.2 rfl
theorem xZuf:∀ h l:Fin 16,IntKind.u8.wrap (bwO .i64 (IntKind.i64.wrap ((h.val:Int) * 2 ^ 4)) (bwA .i64 (l.val:Int) 15))=((16 * h.val+l.val:Nat):Int):=by decide +kernel
theorem xZqK (y:List UInt8) (i:Nat) (a:Int) (xs:List xZ0) (hi:i≤y.length) (hy:y.length≤700):
 W (fun N=>xZ1W N i y a xs) fun r=>r.2.2=(y,a,xs)∧match y.drop i with
  | p::q::_=>(match hx p,hx q with
    | some h,some l=>r.2.1=true∧r.1=((16 * h+l:Nat):Int)
    | _,_=>r.2.1=false)
  | _=>r.2.1=false:=by
 simp only [xZ1W,W.gd,W.cond,xZo,xZv,xZL,W.ret]
 refine ⟨by omega,fun h=>⟨trivial,?_⟩,fun h=>?_⟩
 ·have hl:(y.drop i).length < 2:=by rw [List.length_drop];omega
  split
  ·rename_i p q r he;rw [he] at hl;simp only [List.length_cons] at hl;omega
  ·trivial
 ·obtain ⟨p,hp⟩:=xZ4h (y:=y) (a:=i) (k:=0) (by omega)
  obtain ⟨q,hq⟩:=xZ4h (y:=y) (a:=i) (k:=1) (by omega)
  have e1:=xZaO hp
  have e2:=xZaO hq
  rw [List.drop_zero] at e1
  rw [e1,e2]
  have hp:=xZ3x hp
  have hq:=xZ3x hq
  rw [show (i:Int)+((0:Nat):Int)=(i:Int) by omega] at hp
  rw [show (i:Int)+((1:Nat):Int)=(i:Int)+1 by omega] at hq
  simp only [hp,hq,Option.bind_some,xZud,W.gd,W.cond,W.ret,xZo,true_and]
  refine ⟨by omega,?_⟩
  cases h1:hx p with
  | none=>exact ⟨fun h=>absurd h (by decide),fun _=>trivial⟩
  | some h=>
    cases h2:hx q with
    | none=>exact ⟨fun _=>rfl,fun _=>trivial⟩
    | some l=>
      have:=xZuf ⟨h,hx_lt h1⟩ ⟨l,hx_lt h2⟩
      dsimp only at this ⊢
      exact ⟨fun _=>⟨xZ16.2 (Int.natCast_nonneg _),this⟩,fun h=>absurd (xZn0.1 h) (Int.not_lt.2 (Int.natCast_nonneg _))⟩
theorem xZef (b:List Int) (x:Int):byS (b++[x])=byS b++[UInt8.ofNat x.toNat]:=by simp [byS]
theorem xZcz (b:List Int):(byS b).length=b.length:=by simp [byS]
theorem u8eq {c:UInt8} {n:Nat} (hn:n < 256):((c.toNat:Int)==(n:Int))=decide (c=UInt8.ofNat n):=by
 by_cases h:c=UInt8.ofNat n
 ·subst h
  rw [decide_eq_true rfl,beq_iff_eq]
  simp [Nat.mod_eq_of_lt hn]
 ·rw [decide_eq_false h,beq_eq_false_iff_ne]
  intro h2
  refine h (UInt8.toNat_inj.1 ?_)
  simp [Nat.mod_eq_of_lt hn]
  omega
theorem xZsX (y:List UInt8) (a:Nat) (xs:List xZ0) (ha:a < y.length) (hy:y.length≤700) (hx':xs.length≤700):
 W (fun N=>xZB N y a xs) fun r=>finA r=stepR y a xs (quoR (y.drop (a+1)) 1 []):=by
 simp only [xZB,W.gd,xZo]
 refine ⟨by omega,?_⟩
 refine W.lp5 (fun i y3 y4 ys b=>∃ j:Nat,i=((a+j:Nat):Int)∧1≤j∧a+j≤y.length∧y3=y∧y4=(a:Int)∧ys=xs∧b.length≤j∧quoR (y.drop (a+1)) 1 []=quoR (y.drop (a+j)) j (byS b)) (fun i _ _ _ _=>y.length - i.toNat) ⟨1,by omega,Nat.le_refl _,by omega,rfl,rfl,rfl,by simp,rfl⟩ ?_
 rintro F i y3 y4 ys b ⟨j,rfl,hj,hl,rfl,rfl,rfl,hb,hq⟩ hn
 have done:∀ (n:Nat),n=j+1→a+n≤y3.length→24 ≥ b.length→quoR (y3.drop (a+1)) 1 []=.inl (3,[],⟨4,0,0,byS b⟩,j+1)→
  ∀ {ι:Type} [Lim ι] (N:ι→Nat) [Tends N],W (fun i=>(xZ5g (N i) (byS b)).bind fun o=>(xZe (N i) (((a+j:Nat):Int)+1 - (a:Int)) 3 [] o y3 a ys).bind fun p=>some (.inr (.inr (p.1,p.2.1,p.2.2)):St3⊕Ft⊕St3)) fun r=>finA r=stepR y3 a ys (quoR (y3.drop (a+1)) 1 []):=fun n hn h1 h2 h3 {ι} _ N _=>by
  have e1:xZ5g=fun N s=>bif (ltB 24 (List.length s:Int)) then gd (leB 24 (List.length s:Int)) (some (xZ4.mk 4 0 0 (List.take 24 s))) else some (xZ4.mk 4 0 0 s):=rfl
  have e2:ltB 24 ((byS b).length:Int)=false:=xZL.2 (by rw [xZcz];omega)
  simp only [e1,e2,cond_false,Option.bind_some]
  rw [show ((a+j:Nat):Int)+1 - (a:Int)=((j+1:Nat):Int) by omega]
  refine W.call (w_put (j+1) 3 [] _ y3 a ys (by omega) (by omega) hx') ?_
  rintro _ rfl
  rw [h3]
  exact W.ret.2 rfl
 simp only [xZ2C,W.cond,W.gd,xZv,xZL,xZo]
 refine ⟨fun hlt=>?_,fun hge=>?_⟩
 rotate_left
 ·have hnil:y3.drop (a+j)=[]:=List.drop_eq_nil_of_le (by omega)
  rw [hnil,xZfN] at hq
  simp only [xZgL 3 rfl,Option.bind_some,Sum.elim_inr,W.ret]
  rw [hq];rfl
 obtain ⟨c,hc⟩:=xZ4h (y:=y3) (a:=a+j) (k:=0) (by omega)
 have hd:=xZaO hc
 rw [List.drop_zero,List.drop_drop] at hd
 have hc:=xZ3x hc
 rw [show ((a+j:Nat):Int)+((0:Nat):Int)=((a+j:Nat):Int) by omega] at hc
 rw [hd] at hq
 have ebig:∀ e:Int,(e==0)=false→∀ p:Int,xZV=fun N e p=>bif e==0 then some (.inl ()) else some (.inr (e,p)):=fun _ _ _=>rfl
 simp only [hc,Option.bind_some,W.cond,xZv,xZL]
 refine ⟨fun h1=>?_,fun h1=>⟨fun h2=>?_,fun h2=>⟨fun h3=>?_,fun h3=>⟨fun h4=>?_,fun h4=>?_⟩⟩⟩⟩
 ·simp only [xZV,show ((10:Int)==0)=false from rfl,cond_false,Option.bind_some,Sum.elim_inr,W.ret]
  rw [xZ6u,if_pos (.inl (by omega))] at hq
  rw [hq];rfl
 ·simp only [xZV,show ((10:Int)==0)=false from rfl,cond_false,Option.bind_some,Sum.elim_inr,W.ret]
  rw [xZ6u,if_pos (.inr (by omega))] at hq
  rw [hq];rfl
 ·
  have hc92:c=92:=by have:=u8eq (c:=c) (n:=92) (by omega);rw [show ((92:Nat):Int)=92 from rfl,h3] at this;simpa using this.symm
  rw [xZ6u,if_neg (by omega),if_pos hc92] at hq
  rw [show ((a+j:Nat):Int)+1=((a+j+1:Nat):Int) by omega]
  simp only [W.gd,xZo]
  refine ⟨by omega,?_⟩
  refine W.call (xZqK y3 (a+j+1) a ys (by omega) hy) ?_
  rintro ⟨v,is,r3⟩ ⟨hr1,hr2⟩
  dsimp only at hr1 hr2
  subst hr1
  simp only [W.cond,W.gd,xZo,xZV,show ((4:Int)==0)=false from rfl,cond_false,Option.bind_some,Sum.elim_inr,W.ret]
  have bad:is=false→quoR (y3.drop (a+1)) 1 []=.inr (4,j)→W (fun _:_=>some (Sum.inr (Sum.inl (4,((a+j:Nat):Int),y3,(a:Int),ys)):St3⊕Ft⊕St3)) (ι:=Nat) fun r=>finA r=stepR y3 a ys (quoR (y3.drop (a+1)) 1 []):=fun _ h=>by rw [h];exact W.ret.2 rfl
  rcases hdd:y3.drop (a+j+1) with _ | ⟨p,_ | ⟨q,t⟩⟩
  ·rw [hdd] at hr2 hq
   dsimp only at hr2 hq
   subst hr2
   refine ⟨fun _=>by rw [hq];rfl,fun h=>by cases h⟩
  ·rw [hdd] at hr2 hq
   dsimp only at hr2 hq
   subst hr2
   refine ⟨fun _=>by rw [hq];rfl,fun h=>by cases h⟩
  ·rw [hdd] at hr2 hq
   dsimp only at hr2 hq
   have hlen:(y3.drop (a+j+1)).length=t.length+2:=by rw [hdd];rfl
   rw [List.length_drop] at hlen
   have ht:t=y3.drop (a+(j+3)):=by
    have:(y3.drop (a+j+1)).drop 2=t:=by rw [hdd];rfl
    rw [← this,List.drop_drop]
    congr 1
   cases hp:hx p with
   | none=>
     rw [hp] at hr2 hq
     dsimp only at hr2 hq
     subst hr2
     refine ⟨fun _=>by rw [hq];rfl,fun h=>by cases h⟩
   | some h=>
     cases hq2:hx q with
     | none=>
       rw [hp,hq2] at hr2 hq
       dsimp only at hr2 hq
       subst hr2
       refine ⟨fun _=>by rw [hq];rfl,fun h=>by cases h⟩
     | some l=>
       rw [hp,hq2] at hr2 hq
       dsimp only at hr2 hq
       obtain ⟨rfl,rfl⟩:=hr2
       refine ⟨fun h=>(by cases h),fun _=>⟨Nat.ble_eq_true_of_le (by omega),by omega,?_⟩⟩
       refine hn _ _ _ _ _ ⟨j+3,by omega,by omega,by omega,rfl,rfl,rfl,by simp;omega,?_⟩ (by omega)
       rw [xZef,Int.toNat_natCast,← ht]
       exact hq
 ·
  have h3:¬ c=92:=by have:=u8eq (c:=c) (n:=92) (by omega);rw [show ((92:Nat):Int)=92 from rfl,h3] at this;simpa using this.symm
  have h4:¬ c=39:=by
   intro h;subst h;exact absurd h4 (by decide)
  rw [xZ6u,if_neg (by omega),if_neg h3,if_neg h4] at hq
  simp only [W.gd,xZo]
  refine ⟨Nat.ble_eq_true_of_le (by omega),by omega,?_⟩
  rw [show ((a+j:Nat):Int)+1=((a+(j+1):Nat):Int) by omega]
  refine hn _ _ _ _ _ ⟨j+1,rfl,by omega,by omega,rfl,rfl,rfl,by simp;omega,?_⟩ (by omega)
  rw [xZef,ofN]
  exact hq
 ·have h3:¬ c=92:=by have:=u8eq (c:=c) (n:=92) (by omega);rw [show ((92:Nat):Int)=92 from rfl,h3] at this;simpa using this.symm
  have h39:c=39:=by
   have h5:((c.toNat:Int)==39)=true:=by cases hh:((c.toNat:Int)==39)<;>simp_all
   have:=u8eq (c:=c) (n:=39) (by omega);rw [show ((39:Nat):Int)=39 from rfl,h5] at this;simpa using this.symm
  subst h39
  rw [xZ6u,if_neg (by decide),if_neg h3,if_pos rfl] at hq
  have hfin:(¬ 24 < b.length→quoR (y3.drop (a+1)) 1 []=.inl (3,[],⟨4,0,0,byS b⟩,j+1))→(24 < b.length→quoR (y3.drop (a+1)) 1 []=.inr (5,0))→∀ {ι:Type} [Lim ι] (N:ι→Nat) [Tends N],
   (24 < (b.length:Int)→W (fun i=>(xZb (N i) 5 y3 a ys).bind fun x=>Sum.elim (fun fail=>some (Sum.inl (fail.1,fail.2.1,fail.2.2))) (fun fail2=>some (Sum.inr (Sum.inl (fail2.1,fail2.2.1,fail2.2.2.1,fail2.2.2.2.1,fail2.2.2.2.2)))) x) (α:=St3⊕Ft⊕St3) fun r=>finA r=stepR y3 a ys (quoR (y3.drop (a+1)) 1 [])):=fun _ h2 {ι} _ N _ h=>by
   simp only [xZgL 5 rfl,Option.bind_some,Sum.elim_inr,W.ret]
   rw [h2 (by omega)];rfl
  simp only [W.gd,W.cond,xZo,xZv,xZL]
  refine ⟨by omega,fun h5=>⟨by omega,?_⟩,fun h5=>?_⟩
  ·obtain ⟨x,hx⟩:=xZ4h (y:=y3) (a:=a+j+1) (k:=0) (by omega)
   have hdx:=xZaO hx
   rw [List.drop_zero,List.drop_drop] at hdx
   have hx:=xZ3x hx
   rw [show ((a+j+1:Nat):Int)+((0:Nat):Int)=((a+j:Nat):Int)+1 by omega] at hx
   rw [hdx] at hq
   dsimp only at hq
   simp only [hx,Option.bind_some,W.cond,W.gd,xZo,xZv,xZL]
   refine ⟨fun h6=>?_,fun h6=>?_⟩
   ·have hx39:x=39:=by have:=u8eq (c:=x) (n:=39) (by omega);rw [show ((39:Nat):Int)=39 from rfl,h6] at this;simpa using this.symm
    rw [if_pos hx39] at hq
    refine ⟨Nat.ble_eq_true_of_le (by omega),by omega,?_⟩
    refine hn _ _ _ _ _ ⟨j+2,by omega,by omega,by omega,rfl,rfl,rfl,by simp;omega,?_⟩ (by omega)
    rw [xZef]
    exact hq
   ·have hx39:¬ x=39:=by have:=u8eq (c:=x) (n:=39) (by omega);rw [show ((39:Nat):Int)=39 from rfl,h6] at this;simpa using this.symm
    rw [if_neg hx39] at hq
    refine ⟨fun h7=>hfin (fun h=>absurd (by omega) h) (fun h=>by rw [hq,if_pos (by rw [xZcz];exact h)]) _ h7,fun h7=>⟨by omega,by omega,?_⟩⟩
    exact done _ rfl (by omega) (by omega) (by rw [hq,if_neg (by rw [xZcz];omega)]) _
  ·have hnil:y3.drop (a+j+1)=[]:=List.drop_eq_nil_of_le (by omega)
   rw [hnil] at hq
   dsimp only at hq
   refine ⟨fun h7=>hfin (fun h=>absurd (by omega) h) (fun h=>by rw [hq,if_pos (by rw [xZcz];exact h)]) _ h7,fun h7=>⟨by omega,by omega,?_⟩⟩
   exact done _ rfl (by omega) (by omega) (by rw [hq,if_neg (by rw [xZcz];omega)]) _
theorem xZfW {y:List UInt8} {a m:Nat}:List.drop (Int.toNat (a:Int)) (List.take (Int.toNat ((a:Int)+(m:Int))) y)=(y.drop a).take m:=by
 rw [show Int.toNat ((a:Int)+(m:Int))=a+m by omega,Int.toNat_natCast,List.drop_take,Nat.add_sub_cancel_left]
def sigR (c:UInt8) (t:List UInt8):List UInt8:=if isC c∧t.head?=some 61 then [c,61] else [c]
theorem xZfH (c:UInt8) (t:List UInt8):signR c t=.inl (4,sigR c t,zv,(sigR c t).length):=by
 unfold signR sigR;split<;>rfl
theorem xZwf (y:List UInt8) (a:Nat) (xs:List xZ0) (c:UInt8) (t:List UInt8) (hd:y.drop a=c::t) (hy:y.length≤700) (hx':xs.length≤700):
 W (fun N=>xZM N y a xs) (·=(y,((a+(sigR c t).length:Nat):Int),xs++[⟨4,(a:Int),sigR c t,zv⟩])):=by
 have hl:(y.drop a).length=t.length+1:=by rw [hd];rfl
 rw [List.length_drop] at hl
 have hc:ix y (a:Int)=some c:=by
  have:=xZ3x (y:=y) (a:=a) (k:=0) (e:=c) (by rw [hd];rfl)
  rwa [show (a:Int)+((0:Nat):Int)=(a:Int) by omega] at this
 have t1:=xZfW (y:=y) (a:=a) (m:=1)
 have t2:=xZfW (y:=y) (a:=a) (m:=2)
 rw [hd] at t1 t2
 rw [show ((1:Nat):Int)=1 from rfl] at t1
 rw [show ((2:Nat):Int)=2 from rfl] at t2
 have put:∀ (x:List UInt8) (n:Nat),x=sigR c t→n=(sigR c t).length→n≤2→∀ {ι:Type} [Lim ι] (N:ι→Nat) [Tends N],W (fun i=>(xZe (N i) (n:Int) 4 x (xZ4.mk 0 0 0 []) y a xs).bind fun p=>some ((p.1,p.2.1,p.2.2):St3)) (·=(y,((a+(sigR c t).length:Nat):Int),xs++[⟨4,(a:Int),sigR c t,zv⟩])):=fun x n h1 h2 h3 {ι} _ N _=>by
  refine W.call (w_put n 4 x _ y a xs (by omega) (by omega) hx') ?_
  rintro _ rfl
  subst h1
  rw [h2]
  exact W.ret.2 rfl
 simp only [xZM,hc,Option.bind_some,xZrd,W.cond,W.gd,xZo,xZ16,xZv,xZL]
 rw [show (leB 0 (Lib.indexByte [33,60,62] c))=isC c from rfl] at *
 have one:(t.head?=some 61→isC c=false)→sigR c t=[c]:=fun h=>by
  rw [sigR,if_neg];rintro ⟨h1,h2⟩;rw [h h2] at h1;cases h1
 refine ⟨fun h=>⟨by omega,fun h2=>⟨by omega,?_⟩,fun h2=>⟨by omega,by omega,by omega,by omega,?_⟩⟩,fun h=>⟨by omega,by omega,by omega,by omega,?_⟩⟩
 ·cases t with
  | nil=>simp at hl;omega
  | cons d t=>
    have hd1:=xZ3x (y:=y) (a:=a) (k:=1) (e:=d) (by rw [hd];rfl)
    rw [show (a:Int)+((1:Nat):Int)=(a:Int)+1 by omega] at hd1
    simp only [hd1,Option.bind_some,W.cond,W.gd,xZo,xZ16]
    refine ⟨fun h3=>⟨by omega,by omega,by omega,by omega,?_⟩,fun h3=>⟨by omega,by omega,by omega,by omega,?_⟩⟩
    ·have h61:d=61:=by have:=u8eq (c:=d) (n:=61) (by omega);rw [show ((61:Nat):Int)=61 from rfl,h3] at this;simpa using this.symm
     subst h61
     have hs:sigR c (61::t)=[c,61]:=by rw [sigR,if_pos ⟨xZ16.2 h,rfl⟩]
     rw [t2]
     exact put _ 2 (by rw [hs];rfl) (by rw [hs];rfl) (by omega) _
    ·have h61:¬ d=61:=by have:=u8eq (c:=d) (n:=61) (by omega);rw [show ((61:Nat):Int)=61 from rfl,h3] at this;simpa using this.symm
     have hs:=one (fun h=>by cases h;exact absurd rfl h61)
     rw [t1]
     exact put _ 1 (by rw [hs];rfl) (by rw [hs];rfl) (by omega) _
 ·have hs:=one (fun h=>by cases t with | nil=>cases h | cons d t=>simp at hl;omega)
  rw [t1]
  exact put _ 1 (by rw [hs];rfl) (by rw [hs];rfl) (by omega) _
 ·have h:isC c=false:=by
   cases hh:isC c with
   | false=>rfl
   | true=>exact absurd (xZ16.1 (show leB 0 (Lib.indexByte [33,60,62] c)=true from hh)) (by have:=xZn0.1 h;omega)
  have hs:=one (fun _=>h)
  rw [t1]
  exact put _ 1 (by rw [hs];rfl) (by rw [hs];rfl) (by omega) _
theorem xZut (y:List UInt8) (a:Nat) (xs:List xZ0) (c:UInt8) (t:List UInt8) (hd:y.drop a=c::t) (hy:y.length≤700) (hx':xs.length≤200):
 W (fun N=>xZ2e N y a xs) fun r=>finA r=if known c&&decide (xs.length=200) then .inr (7,(a:Int)) else stepR y a xs (oneR (c::t)):=by
 have hl:(y.drop a).length=t.length+1:=by rw [hd];rfl
 rw [List.length_drop] at hl
 have ha:a < y.length:=by omega
 have hd1:y.drop (a+1)=t:=by
  have:(y.drop a).drop 1=t:=by rw [hd];rfl
  rw [← this,List.drop_drop]
 have hc:ix y (a:Int)=some c:=by
  have:=xZ3x (y:=y) (a:=a) (k:=0) (e:=c) (by rw [hd];rfl)
  rwa [show (a:Int)+((0:Nat):Int)=(a:Int) by omega] at this
 have e200:((xs.length:Int)==200)=decide (xs.length=200):=by
  by_cases h:xs.length=200
  ·rw [decide_eq_true h,beq_iff_eq];omega
  ·rw [decide_eq_false h,beq_eq_false_iff_ne];omega
 have full:∀ {Q:St3⊕Ft⊕St3→Prop},Q (.inr (.inl (7,(a:Int),y,(a:Int),xs)))→∀ {ι:Type} [Lim ι] (N:ι→Nat) [Tends N],W (fun i=>(xZb (N i) 7 y a xs).bind fun x=>Sum.elim (fun fail=>some (Sum.inl (fail.1,fail.2.1,fail.2.2))) (fun fail2=>some (Sum.inr (Sum.inl (fail2.1,fail2.2.1,fail2.2.2.1,fail2.2.2.2.1,fail2.2.2.2.2)))) x) Q:=fun {Q} h {ι} _ N _=>by
  simp only [xZgL 7 rfl,Option.bind_some,Sum.elim_inr]
  exact W.ret.2 h
 simp only [xZ2e,hc,Option.bind_some,xZrq,xZox,xZrd,e200]
 simp only [show ∀ c,(leB 0 (Lib.indexByte [40,41,91,93,123,125,59,124,33,58,44,46,43,42,63,45,61,60,62] c))=isG c from fun _=>rfl]
 have kn:∀ {b:Bool},known c=b→known c=b:=id
 by_cases hS:isS c=true
 ·have hk:known c=true:=by simp [known,hS]
  simp only [hS,hk,cond_true,Bool.true_and,oneR,if_true]
  refine W.cond.2 ⟨fun h=>full (by simp only [h,if_true];rfl) _,fun h=>?_⟩
  simp only [h,Bool.false_eq_true,if_false]
  refine W.call (xZvG y a xs (by omega) hy (by omega)) ?_
  rw [hd]
  rintro (r | r | r) hr<;>simp only [Sum.elim_inl,Sum.elim_inr,W.ret]<;>exact hr
 have hS:=eq_false_of_ne_true hS
 by_cases hD:isD c=true
 ·have hk:known c=true:=by simp [known,hD]
  simp only [hS,hD,hk,cond_true,cond_false,Bool.true_and,oneR,if_true,Bool.false_eq_true,if_false]
  refine W.cond.2 ⟨fun h=>full (by simp only [h,if_true];rfl) _,fun h=>?_⟩
  simp only [h,Bool.false_eq_true,if_false]
  refine W.call (xZs6 y a xs (by omega) hy (by omega)) ?_
  rw [hd]
  rintro (r | r | r) hr<;>simp only [Sum.elim_inl,Sum.elim_inr,W.ret]<;>exact hr
 have hD:=eq_false_of_ne_true hD
 by_cases h35:((c.toNat:Int)==35)=true
 ·have hk:known c=true:=by simp [known,h35]
  simp only [hS,hD,h35,hk,cond_true,cond_false,Bool.true_and,oneR,if_true,Bool.false_eq_true,if_false]
  refine W.cond.2 ⟨fun h=>full (by simp only [h,if_true];rfl) _,fun h=>?_⟩
  simp only [h,Bool.false_eq_true,if_false]
  refine W.call (xZs4 y a xs (by omega) hy (by omega)) ?_
  rw [hd1]
  rintro (r | r | r) hr<;>simp only [Sum.elim_inl,Sum.elim_inr,W.ret]<;>exact hr
 have h35:=eq_false_of_ne_true h35
 by_cases h39:((c.toNat:Int)==39)=true
 ·have hk:known c=true:=by simp [known,h39]
  simp only [hS,hD,h35,h39,hk,cond_true,cond_false,Bool.true_and,oneR,if_true,Bool.false_eq_true,if_false]
  refine W.cond.2 ⟨fun h=>full (by simp only [h,if_true];rfl) _,fun h=>?_⟩
  simp only [h,Bool.false_eq_true,if_false]
  refine W.call (xZsX y a xs (by omega) hy (by omega)) ?_
  rw [hd1]
  rintro (r | r | r) hr<;>simp only [Sum.elim_inl,Sum.elim_inr,W.ret]<;>exact hr
 have h39:=eq_false_of_ne_true h39
 by_cases hG:isG c=true
 ·have hk:known c=true:=by simp [known,hG]
  simp only [hS,hD,h35,h39,hG,hk,cond_true,cond_false,Bool.true_and,oneR,if_true,Bool.false_eq_true,if_false,Bool.not_true]
  refine W.cond.2 ⟨fun h=>full (by simp only [h,if_true];rfl) _,fun h=>?_⟩
  simp only [h,Bool.false_eq_true,if_false]
  refine W.call (xZwf y a xs c t hd hy (by omega)) ?_
  rintro _ rfl
  rw [xZfH]
  exact W.ret.2 rfl
 have hG:=eq_false_of_ne_true hG
 have hk:known c=false:=by simp [known,hS,hD,h35,h39,hG]
 simp only [hS,hD,h35,h39,hG,hk,cond_true,cond_false,Bool.false_and,oneR,Bool.false_eq_true,if_false,Bool.not_false,xZgL 10 rfl,Option.bind_some,Sum.elim_inr,W.ret]
 rfl
theorem xZdZ (p:Nat) (out:List xZ0):scanR [] p out=.inl out:=by rw [scanR.eq_def]
theorem xZby (c:UInt8) (t:List UInt8) (p:Nat) (out:List xZ0):scanR (c::t) p out=
 if blank c then scanR t (p+1) out
 else if known c&&decide (out.length=200) then .inr (7,(p:Int))
 else match oneR (c::t) with
  | .inr (e,o)=>.inr (e,((p+o:Nat):Int))
  | .inl (k,x,v,m)=>scanR (t.drop (m - 1)) (p+m) (out++[⟨k,(p:Int),x,v⟩]):=by
 rw [scanR.eq_def]<;>rfl
def scanE:List xZ0⊕(Int×Int)→List xZ0⊕(List xZ0×Int×Int)
 | .inl l=>.inl l
 | .inr (e,a)=>.inr ([],e,a)
theorem xZhL:∀ (n:Nat) (t:List UInt8),t.length≤n→∀ {off:Nat} {b:List UInt8} {k:Int} {x:List UInt8} {v:xZ4} {m:Nat},1≤off→quoR t off b=.inl (k,x,v,m)→off < m∧m≤off+t.length
 | n,[],_,off,b,k,x,v,m,_,h=>by rw [xZfN] at h;cases h
 | 0,c::t,hn,_,_,_,_,_,_,_,_=>by simp at hn
 | n+1,c::t,hn,off,b,k,x,v,m,ho,h=>by
   simp only [List.length_cons,Nat.add_le_add_iff_right] at hn
   rw [xZ6u] at h
   split at h
   ·cases h
   ·split at h
    ·split at h
     ·rename_i p q t'
      split at h
      ·have:=xZhL n _ (by simp at hn;omega) (by omega) h
       simp only [List.length_cons];omega
      ·cases h
     ·cases h
    ·split at h
     ·split at h
      ·rename_i p t'
       split at h
       ·have:=xZhL n _ (by simp at hn;omega) (by omega) h
        simp only [List.length_cons];omega
       ·split at h
        ·cases h
        ·cases h;simp only [List.length_cons];omega
      ·split at h
       ·cases h
       ·cases h;simp only [List.length_cons,List.length_nil];omega
     ·have:=xZhL n _ hn (by omega) h
      simp only [List.length_cons];omega
theorem xZu7 {c:UInt8} {t:List UInt8} {k:Int} {x:List UInt8} {v:xZ4} {m:Nat} (h:oneR (c::t)=.inl (k,x,v,m)):1≤m∧m≤t.length+1:=by
 simp only [oneR] at h
 split at h
 ·rename_i hs
  have h1:1≤((c::t).takeWhile isT).length:=by rw [List.takeWhile_cons,if_pos (by simp [isT,hs])];simp
  have h2:=tw_le isT (c::t)
  simp only [List.length_cons] at h2
  unfold wordR at h
  repeat' split at h
  all_goals first | (cases h;omega) | cases h
 ·split at h
  ·rename_i hs
   have h1:1≤((c::t).takeWhile isD).length:=by rw [List.takeWhile_cons,if_pos hs];simp
   have h2:=tw_le isD (c::t)
   simp only [List.length_cons] at h2
   unfold numR at h
   repeat' split at h
   all_goals first | (cases h;omega) | cases h
  ·split at h
   ·unfold dblR at h
    split at h
    ·cases h
    ·split at h
     ·cases h
     ·split at h
      ·cases h;omega
      ·cases h
   ·split at h
    ·have:=xZhL _ t (Nat.le_refl _) (by omega) h
     omega
    ·split at h
     ·rename_i hg
      rw [xZfH] at h
      cases h
      unfold sigR
      split
      ·rename_i hh
       cases t with
       | nil=>cases hh.2
       | cons=>simp
      ·simp
     ·cases h
theorem xZvT (s:List UInt8) (hs:s.length≤700):W (fun N=>xZdT N s) (·=scanE (scan s)):=by
 simp only [xZdT,W.cond,xZv,xZL,scan]
 refine ⟨fun h=>?_,fun h=>?_⟩
 ·simp only [xZV,show ((5:Int)==0)=false from rfl,cond_false,Option.bind_some,Sum.elim_inr,W.ret]
  rw [if_pos (by omega)];rfl
 ·rw [if_neg (by omega)]
  refine W.lp3 (fun y p ys=>∃ a:Nat,p=(a:Int)∧y=s∧a≤s.length∧ys.length≤200∧scanR s 0 []=scanR (s.drop a) a ys) (fun _ p _=>s.length - p.toNat) ⟨0,rfl,rfl,Nat.zero_le _,by simp,rfl⟩ ?_
  rintro F y p ys ⟨a,rfl,rfl,ha,hl,hq⟩ hn
  simp only [xZdh,W.cond,xZv,xZL]
  refine ⟨fun h1=>?_,fun h1=>?_⟩
  ·obtain ⟨c,hc⟩:=xZ4h (y:=y) (a:=a) (k:=0) (by omega)
   have hd:=xZaO hc
   rw [List.drop_zero,List.drop_drop] at hd
   have hc:=xZ3x hc
   rw [show (a:Int)+((0:Nat):Int)=(a:Int) by omega] at hc
   rw [hd,xZby] at hq
   have skip:blank c=true→W (fun p:Nat×Nat=>F p y ((a:Int)+1) ys) fun r=>r=scanE (scanR y 0 []):=fun hb=>by
    rw [show (a:Int)+1=((a+1:Nat):Int) by omega]
    rw [if_pos hb] at hq
    exact hn _ _ _ ⟨a+1,rfl,rfl,by omega,hl,hq⟩ (by omega)
   simp only [hc,Option.bind_some,W.cond,W.gd,xZo]
   refine ⟨fun h=>⟨by omega,skip (by simp [blank,h])⟩,fun h2=>⟨fun h=>⟨by omega,skip (by simp [blank,h])⟩,fun h3=>⟨fun h=>⟨by omega,skip (by simp [blank,h])⟩,fun h4=>?_⟩⟩⟩
   rw [if_neg (by simp only [blank,h2,h3,h4];decide)] at hq
   refine W.call (xZut y a ys c _ hd (by omega) hl) ?_
   intro r hr
   by_cases hfull:(known c&&decide (ys.length=200))=true
   ·rw [if_pos hfull] at hr hq
    rcases r with r | ⟨e1,p1,r⟩ | r
    ·cases hr
    ·simp only [Sum.elim_inl,Sum.elim_inr,W.ret]
     simp only [finA] at hr
     cases hr
     rw [hq];rfl
    ·cases hr
   ·rw [if_neg hfull] at hr hq
    cases ho:oneR (c::y.drop (a+1)) with
    | inr f=>
      obtain ⟨e,o⟩:=f
      rw [ho] at hr hq
      rcases r with r | ⟨e1,p1,r⟩ | r
      ·cases hr
      ·simp only [Sum.elim_inl,Sum.elim_inr,W.ret]
       simp only [finA,stepR] at hr
       cases hr
       rw [hq];rfl
      ·cases hr
    | inl f=>
      obtain ⟨k,x,v,m⟩:=f
      rw [ho] at hr hq
      dsimp only at hq
      have hm:=xZu7 ho
      rw [List.length_drop] at hm
      have hlen:ys.length < 200:=by
       have hk:known c=true:=by
        cases hk:known c with
        | true=>rfl
        | false=>
          simp only [known,Bool.or_eq_false_iff] at hk
          simp only [oneR,hk.1.1.1.1,hk.1.1.1.2,hk.1.1.2,hk.1.2,hk.2,Bool.false_eq_true,if_false] at ho
          cases ho
       rw [hk] at hfull
       simp only [Bool.true_and,decide_eq_true_eq] at hfull
       omega
      rw [List.drop_drop,show a+1+(m - 1)=a+m by omega] at hq
      have next:W (fun p:Nat×Nat=>F p y ((a+m:Nat):Int) (ys++[⟨k,(a:Int),x,v⟩])) fun r=>r=scanE (scanR y 0 []):=hn _ _ _ ⟨a+m,rfl,rfl,by omega,by simp;omega,hq⟩ (by omega)
      rcases r with r | r | r
      ·simp only [finA,stepR] at hr
       cases hr
       simp only [Sum.elim_inl];exact next
      ·cases hr
      ·simp only [finA,stepR] at hr
       cases hr
       simp only [Sum.elim_inr];exact next
  ·have hnil:y.drop a=[]:=List.drop_eq_nil_of_le (by omega)
   rw [hnil,xZdZ] at hq
   rw [hq];exact W.ret.2 rfl
theorem w_rin (c:UInt8) (s:List UInt8) (hs:s.length≤700):W (fun N=>xZ5R N (c.toNat:Int) s) (·=s.any (·==c)):=by
 refine wr1 (l:=s) (fun _ rest=>rest.any (·==c)) [] s rfl rfl (by omega) ?_ ?_
 ·intro F pre e rest hl h1 h2 h3 hn
  have he:((e.toNat:Int)==(c.toNat:Int))=(e==c):=by
   cases h:e==c with
   | true=>rw [eq_of_beq h];simp
   | false=>
     rw [beq_eq_false_iff_ne]
     intro h2
     have:e=c:=UInt8.toNat_inj.1 (by omega)
     rw [this] at h;simp at h
  simp only [xZaE,h1,h2,h3,Option.bind_some,cond_true,W.cond,W.ret,xZ1S,List.any_cons,he]
  exact ⟨fun h=>by simp [h],fun h=>by simp only [h,Bool.false_or];exact hn⟩
 ·intro F h1
  simp only [xZaE,h1,cond_false,W.ret,List.any_nil]
def hexs:List UInt8:=[48,49,50,51,52,53,54,55,56,57,97,98,99,100,101,102]
theorem in_S:∀ c:UInt8,List.any [97,98,99,100,101,102,103,104,105,106,107,108,109,110,111,112,113,114,115,116,117,118,119,120,121,122] (·==c)=isS c:=xZa6 (by decide +kernel)
theorem in_D:∀ c:UInt8,List.any [48,49,50,51,52,53,54,55,56,57] (·==c)=isD c:=xZa6 (by decide +kernel)
theorem in_T:∀ c:UInt8,List.any [97,98,99,100,101,102,103,104,105,106,107,108,109,110,111,112,113,114,115,116,117,118,119,120,121,122,48,49,50,51,52,53,54,55,56,57,95] (·==c)=isT c:=xZa6 (by decide +kernel)
def isH (c:UInt8):Bool:=(hx c).isSome
theorem in_H:∀ c:UInt8,List.any [48,49,50,51,52,53,54,55,56,57,97,98,99,100,101,102] (·==c)=isH c:=xZa6 (by decide +kernel)
theorem in_G:∀ c:UInt8,List.any [40,41,91,93,123,125,59,124,33,58,44,46,43,42,63,45,61,60,62] (·==c)=isG c:=xZa6 (by decide +kernel)
theorem in_C:∀ c:UInt8,List.any [33,60,62] (·==c)=isC c:=xZa6 (by decide +kernel)
theorem in_K:∀ c:UInt8,List.any [97,98,99,100,101,102,103,104,105,106,107,108,109,110,111,112,113,114,115,116,117,118,119,120,121,122,48,49,50,51,52,53,54,55,56,57,40,41,91,93,123,125,59,124,33,58,44,46,43,42,63,45,61,60,62,35,39] (·==c)=known c:=xZa6 (by decide +kernel)
theorem w_run (p:UInt8→Bool) (set:List UInt8) (hp:∀ c,set.any (·==c)=p c) (hl:set.length≤700) (y:List UInt8) (a:Nat) (ha:a≤y.length) (hy:y.length≤700):
 W (fun N=>xZ5z N y a set) (·=(((y.drop a).takeWhile p).length:Int)):=by
 have hl':=tw_le p (y.drop a)
 rw [List.length_drop] at hl'
 simp only [xZ5z]
 refine W.lp1 (fun v:Int=>∃ k:Nat,v=k∧k≤((y.drop a).takeWhile p).length) (fun v:Int=>((y.drop a).takeWhile p).length - v.toNat) ⟨0,rfl,Nat.zero_le _⟩ ?_
 rintro F v ⟨k,rfl,hk⟩ hn
 simp only [xZc0,W.gd,W.cond,xZo,xZv,xZL,W.ret]
 refine ⟨by omega,fun h=>⟨by omega,?_⟩,fun h=>by rw [show k=((y.drop a).takeWhile p).length by omega]⟩
 obtain ⟨e,he⟩:=xZ4h (y:=y) (a:=a) (k:=k) (by omega)
 have hpe:=tw_at hk he
 simp only [xZ3x he,Option.bind_some]
 refine W.call (w_rin e set hl) ?_
 rintro _ rfl
 simp only [hp,hpe,W.cond,W.gd,decide_eq_true_eq,decide_eq_false_iff_not,W.ret,xZo]
 refine ⟨fun h2=>⟨by omega,hn _ ⟨k+1,by omega,h2⟩ (by omega)⟩,fun h2=>by rw [show k=((y.drop a).takeWhile p).length by omega]⟩
theorem xZvz:∀ c:UInt8,∀ k:Fin 16,∃ e,hexs[k.val]?=some e∧((e.toNat:Int)==(c.toNat:Int))=decide (hx c=some k.val):=by
 have:∀ n:Fin 256,∀ k:Fin 16,(match hexs[k.val]? with | some e=>(((e.toNat:Int)==((UInt8.ofNat n.val).toNat:Int))==decide (hx (UInt8.ofNat n.val)=some k.val)) | none=>false)=true:=by decide +kernel
 intro c k
 have:=xZa6 (P:=fun c=>∀ k:Fin 16,(match hexs[k.val]? with | some e=>(((e.toNat:Int)==(c.toNat:Int))==decide (hx c=some k.val)) | none=>false)=true) this c k
 split at this
 ·rename_i e he;exact ⟨e,he,eq_of_beq this⟩
 ·cases this
theorem xZod (c:UInt8):W (fun N=>xZ4S N (c.toNat:Int)) (·=match hx c with | some d=>(d:Int) | none=>0):=by
 simp only [xZ4S]
 refine W.lp1 (fun v:Int=>∃ k:Nat,v=k∧k≤16∧∀ d,hx c=some d→k≤d) (fun v:Int=>16 - v.toNat) ⟨0,rfl,Nat.zero_le _,fun _ _=>Nat.zero_le _⟩ ?_
 rintro F v ⟨k,rfl,hk,hd⟩ hn
 simp only [xZ8D,W.gd,W.cond,xZo,xZv,xZL,W.ret]
 refine ⟨fun h=>?_,fun h=>?_⟩
 ·obtain ⟨e,he,heq⟩:=xZvz c ⟨k,by omega⟩
  have he:ix ([48,49,50,51,52,53,54,55,56,57,97,98,99,100,101,102]:List UInt8) (k:Int)=some e:=by rw [ix_nat'];exact he
  simp only [he,Option.bind_some,heq,W.cond,W.gd,W.ret,xZo,decide_eq_true_eq,decide_eq_false_iff_not]
  refine ⟨fun h2=>by rw [h2],fun h2=>⟨by omega,hn _ ⟨k+1,by omega,by omega,fun d h3=>?_⟩ (by omega)⟩⟩
  have:=hd d h3
  have:k≠d:=by rintro rfl;exact h2 h3
  omega
 ·cases hh:hx c with
  | none=>rfl
  | some d=>have:=hd d hh;have:=hx_lt hh;omega
def z3:xZ0:=⟨0,0,[],zv⟩
def r3 (a:Nat):R1→xZ0×Int×Int
 | .inl (k,x,v,m)=>(⟨k,(a:Int),x,v⟩,(m:Int),0)
 | .inr (e,o)=>(z3,0,e)
def r4 (a:Nat):R1→xZ0×Int×xZ3
 | .inl (k,x,v,m)=>(⟨k,(a:Int),x,v⟩,(m:Int),⟨0,0⟩)
 | .inr (e,o)=>(z3,0,⟨e,((a+o:Nat):Int)⟩)
theorem xZvR (s:List UInt8):W (fun N=>xZ3Q N s) (·=resv s):=by
 refine wr1 (l:=resl) (fun _ rest=>rest.any (s==·)) [] resl rfl rfl (by decide) ?_ ?_
 ·intro F pre e rest hl h1 h2 h3 hn
  have hb:(e==s)=(s==e):=by
   cases h:s==e with
   | true=>rw [eq_of_beq h];simp
   | false=>rw [beq_eq_false_iff_ne] at h ⊢;exact fun h'=>h h'.symm
  simp only [resl] at h1 h2
  simp only [xZ2f,h1,h2,h3,Option.bind_some,cond_true,W.cond,W.ret,xZ1S,List.any_cons,hb]
  exact ⟨fun h=>by simp [h],fun h=>by simp only [h,Bool.false_or];exact hn⟩
 ·intro F h1
  simp only [resl] at h1
  simp only [resl,xZ2f,h1,cond_false,W.ret,List.any_nil]
theorem xZt3 (y:List UInt8) (a:Nat) (ha:a≤y.length) (hy:y.length≤700):W (fun N=>xZ9B N y a) (·=r3 a (wordR ((y.drop a).takeWhile isT))):=by
 have hl:=tw_le isT (y.drop a)
 rw [List.length_drop] at hl
 simp only [xZ9B]
 refine W.call (w_run isT _ in_T (by decide) y a ha hy) ?_
 rintro _ rfl
 have hw:List.drop (Int.toNat (a:Int)) (List.take (Int.toNat ((a:Int)+(((y.drop a).takeWhile isT).length:Nat))) y)=(y.drop a).takeWhile isT:=by rw [xZfW];exact xZoO _ _
 simp only [W.gd,W.cond,W.ret,xZo,xZ16,hw]
 generalize (y.drop a).takeWhile isT=w at *
 refine ⟨by omega,by omega,by omega,by omega,fun h=>?_,fun h=>⟨fun h2=>?_,fun h2=>?_⟩⟩
 ·have h:=eq_of_beq h
  subst h
  exact W.ret.2 rfl
 ·have h2:=eq_of_beq h2
  subst h2
  exact W.ret.2 rfl
 ·have h:¬ w=[116,114,117,101]:=by simpa using h
  have h2:¬ w=[102,97,108,115,101]:=by simpa using h2
  refine W.call (xZvR w) ?_
  rintro _ rfl
  simp only [W.cond,W.ret,xZv,xZL]
  refine ⟨fun h3=>by rw [wordR,if_neg h,if_neg h2,if_pos h3];rfl,fun h3=>⟨fun h4=>?_,fun h4=>?_⟩⟩
  ·rw [wordR,if_neg h,if_neg h2,if_neg (by simp [h3]),if_pos (by omega)];rfl
  ·rw [wordR,if_neg h,if_neg h2,if_neg (by simp [h3]),if_neg (by omega)];rfl
theorem xZqj (y:List UInt8) (a:Nat) (ha:a < y.length) (hy:y.length≤700):W (fun N=>xZ6c N y a) (·=r3 a (numR ((y.drop a).takeWhile isD))):=by
 have hl:=tw_le isD (y.drop a)
 rw [List.length_drop] at hl
 simp only [xZ6c]
 refine W.call (w_run isD _ in_D (by decide) y a (Nat.le_of_lt ha) hy) ?_
 rintro _ rfl
 have hD:∀ k,k < ((y.drop a).takeWhile isD).length→∃ e,((y.drop a).takeWhile isD)[k]?=some e∧(y.drop a)[k]?=some e∧isD e=true:=fun k hk=>by
  obtain ⟨e,he⟩:=xZ4h (y:=y) (a:=a) (k:=k) (by omega)
  exact ⟨e,(xZt1 hk).trans he,he,by rw [tw_at (Nat.le_of_lt hk) he];exact decide_eq_true hk⟩
 generalize (y.drop a).takeWhile isD=w at *
 have loop:¬ (1 < w.length∧w.head?=some 48)→∀ {ι:Type} [Lim ι] (N:ι→Nat) [Tends N],W (fun i=>lp2 (xZ3G (N i) y (a:Int) (w.length:Int)) (N i) 0 (a:Int)) (·=r3 a (numR w)):=fun h0 {ι} _ N _=>by
  have key:∀ v,numv 0 w=v→numR w=match v with
   | none=>.inr (8,0)
   | some v=>.inl (3,[],⟨1,(v:Int),0,[]⟩,w.length):=fun v hv=>by rw [numR,if_neg h0,hv]<;>cases v<;>rfl
  refine W.lp2 (fun v x=>∃ V k:Nat,v=(V:Int)∧x=(a:Int)+(k:Int)∧k≤w.length∧V≤4611686018427387904∧numv 0 w=numv V (w.drop k)) (fun _ x=>a+w.length - x.toNat) ⟨0,0,rfl,by omega,Nat.zero_le _,by omega,rfl⟩ ?_
  rintro F v x ⟨V,k,rfl,rfl,hk,hV,hv⟩ hn
  simp only [xZ3G,W.cond,W.gd,xZv,xZL,xZo]
  refine ⟨by omega,fun hlt=>?_,fun hge=>?_⟩
  ·obtain ⟨e,he1,he2,he3⟩:=hD k (by omega)
   have h48:=xZrI.1 he3
   have e1:IntKind.i64.wrap (e.toNat:Int) - 48=((e.toNat - 48:Nat):Int):=by rw [IntKind.wrap_i64];omega
   have e2:IntKind.i64.wrap (Int.tdiv (4611686018427387904 - ((e.toNat - 48:Nat):Int)) 10)=(((4611686018427387904 - (e.toNat - 48)) / 10:Nat):Int):=by
    rw [show (4611686018427387904:Int) - ((e.toNat - 48:Nat):Int)=((4611686018427387904 - (e.toNat - 48):Nat):Int) by omega]
    rw [show Int.tdiv ((4611686018427387904 - (e.toNat - 48):Nat):Int) 10=(((4611686018427387904 - (e.toNat - 48)) / 10:Nat):Int) from rfl,IntKind.wrap_i64]
    omega
   rw [xZaO he1,numv] at hv
   simp only [xZ3x he2,Option.bind_some,e1,e2,W.gd,W.cond,xZo,xZv,xZL]
   have hd:e.toNat - 48≤9:=by omega
   generalize e.toNat - 48=d at *
   refine ⟨by omega,by omega,fun h=>?_,fun h=>?_⟩
   ·rw [if_pos (by omega)] at hv
    rw [key _ hv]
    exact W.ret.2 rfl
   ·rw [if_neg (by omega)] at hv
    refine ⟨by omega,by omega,by omega,hn _ _ ⟨10 * V+d,k+1,by omega,by omega,by omega,by omega,hv⟩ (by omega)⟩
  ·have hk:k=w.length:=by omega
   rw [hk,List.drop_length,numv] at hv
   have e3:max (-4611686018427387904) (min 4611686018427387904 (V:Int))=(V:Int):=by omega
   simp only [xZbm,Option.bind_some,e3]
   rw [key _ hv]
   exact W.ret.2 rfl
 simp only [W.cond,xZv,xZL]
 refine ⟨fun h=>?_,fun h=>loop (by omega) _⟩
 obtain ⟨e,he1,he2,he3⟩:=hD 0 (by omega)
 have hh:w.head?=some e:=by rw [← he1];cases w<;>rfl
 have he2:=xZ3x he2
 rw [show (a:Int)+((0:Nat):Int)=(a:Int) by omega] at he2
 simp only [he2,Option.bind_some,W.cond]
 refine ⟨fun h2=>?_,fun h2=>loop ?_ _⟩
 ·have h48:e=48:=by
   have:=eq_of_beq h2
   exact UInt8.toNat_inj.1 (by simp only [UInt8.reduceToNat];omega)
  rw [numR,if_pos ⟨by omega,by rw [hh,h48]⟩];exact W.ret.2 rfl
 ·rintro ⟨_,h3⟩
  rw [hh] at h3
  cases h3
  exact absurd h2 (by decide)
theorem xZqb {l:List UInt8} {k:Nat} {e:UInt8} (h:l[k]?=some e) (he:hx e=none):∀ U,hexv U l=none:=by
 induction l generalizing k with
 | nil=>simp at h
 | cons c t ih=>
   intro U
   rw [hexv]
   cases hc:hx c with
   | none=>rfl
   | some d=>
     cases k with
     | zero=>simp only [List.getElem?_cons_zero,Option.some.injEq] at h;subst h;rw [he] at hc;cases hc
     | succ k=>exact ih (by simpa using h) _
theorem xZr3 (y:List UInt8) (a:Nat) (ha:a < y.length) (hy:y.length≤700):W (fun N=>xZ6A N y a) (·=r3 a (dblR (y.drop (a+1)))):=by
 have hl:=tw_le isH (y.drop (a+1))
 rw [List.length_drop] at hl
 simp only [xZ6A,W.gd,xZo]
 refine ⟨by omega,?_⟩
 rw [show (a:Int)+1=((a+1:Nat):Int) by omega]
 refine W.call (w_run isH _ in_H (by decide) y (a+1) (by omega) hy) ?_
 rintro _ rfl
 simp only [W.cond,W.gd,W.ret,xZv,xZL,xZo]
 refine ⟨fun h=>?_,fun h=>⟨by omega,?_⟩⟩
 ·by_cases h16:(y.drop (a+1)).length < 16
  ·rw [dblR,if_pos h16];rfl
  ·rw [List.length_drop] at h16
   obtain ⟨e,he⟩:=xZ4h (y:=y) (a:=a+1) (k:=((y.drop (a+1)).takeWhile isH).length) (by omega)
   have hp:=tw_at (Nat.le_refl _) he
   have hnone:hx e=none:=by
    simp only [isH,Nat.lt_irrefl,decide_false] at hp
    cases hh:hx e with
    | none=>rfl
    | some d=>rw [hh] at hp;cases hp
   have:=xZqb (l:=(y.drop (a+1)).take 16) (k:=((y.drop (a+1)).takeWhile isH).length) (e:=e) (by rw [List.getElem?_take,if_pos (by omega)];exact he) hnone 0
   rw [dblR,if_neg (by rw [List.length_drop];omega),this];rfl
 ·have h0:¬ (y.drop (a+1)).length < 16:=by rw [List.length_drop];omega
  have key:∀ v,hexv 0 ((y.drop (a+1)).take 16)=v→dblR (y.drop (a+1))=match v with
   | none=>.inr (4,0)
   | some u=>if cln (u:Int)=(u:Int) then .inl (3,[],⟨3,0,(u:Int),[]⟩,17) else .inr (4,0):=fun v hv=>by rw [dblR,if_neg h0,hv]<;>cases v<;>rfl
  refine W.lp2 (fun v x=>∃ U k:Nat,v=(U:Int)∧x=((a+1:Nat):Int)+(k:Int)∧k≤16∧U < 16 ^ k∧hexv 0 ((y.drop (a+1)).take 16)=hexv U (((y.drop (a+1)).take 16).drop k)) (fun _ x=>a+17 - x.toNat) ⟨0,0,rfl,by omega,Nat.zero_le _,by decide,rfl⟩ ?_
  rintro F v x ⟨U,k,rfl,rfl,hk,hU,hv⟩ hn
  simp only [xZ79,W.cond,W.gd,xZv,xZL,xZo]
  refine ⟨by omega,fun hlt=>?_,fun hge=>?_⟩
  ·obtain ⟨e,he⟩:=xZ4h (y:=y) (a:=a+1) (k:=k) (by omega)
   have hp:=tw_at (p:=isH) (by omega) he
   rw [decide_eq_true (by omega)] at hp
   have he2:((y.drop (a+1)).take 16)[k]?=some e:=by rw [List.getElem?_take,if_pos (by omega)];exact he
   rw [xZaO he2,hexv] at hv
   simp only [xZ3x he,Option.bind_some]
   refine W.call (xZod e) ?_
   rintro _ rfl
   cases hh:hx e with
   | none=>rw [isH,hh] at hp;cases hp
   | some d=>
     rw [hh] at hv
     have hd:=hx_lt hh
     have hp2:=pow16 k (by omega)
     simp only [W.gd,xZo]
     refine ⟨by omega,hn _ _ ⟨16 * U+d,k+1,?_,by omega,by omega,?_,hv⟩ (by omega)⟩
     ·rw [IntKind.wrap_u64,IntKind.wrap_u64,IntKind.wrap_u64];omega
     ·rw [Nat.pow_succ];omega
  ·have hk:k=16:=by omega
   have hnil:((y.drop (a+1)).take 16).drop 16=[]:=List.drop_eq_nil_of_le (by rw [List.length_take];omega)
   have hU2:U < 18446744073709551616:=by rw [hk] at hU;exact hU
   rw [hk,hnil,hexv] at hv
   have hc:=fun N=>xZeU (U:Int) (by omega) (by omega) N
   simp only [hc,Option.bind_some,W.cond]
   refine ⟨fun hne=>?_,fun hne=>?_⟩
   ·rw [key _ hv]
    dsimp only
    rw [if_neg (by simpa using hne)];exact W.ret.2 rfl
   ·have hne:cln (U:Int)=(U:Int):=by simpa using hne
    simp only [xZab,hc,Option.bind_some,hne]
    rw [key _ hv]
    dsimp only
    rw [if_pos hne]
    exact W.ret.2 rfl
theorem u8lit {c:UInt8} {n:Nat} (hn:n < 256):((c.toNat:Int)==(n:Int))=true→c=UInt8.ofNat n:=fun h=>by rw [u8eq hn] at h;simpa using h
theorem u8nlit {c:UInt8} {n:Nat} (hn:n < 256):((c.toNat:Int)==(n:Int))=false→¬ c=UInt8.ofNat n:=fun h=>by rw [u8eq hn] at h;simpa using h
theorem xZq7 (y:List UInt8) (a:Nat) (ha:a < y.length) (hy:y.length≤700):W (fun N=>xZ6i N y a) (·=r4 a (quoR (y.drop (a+1)) 1 [])):=by
 simp only [xZ6i,W.gd,xZo]
 refine ⟨by omega,?_⟩
 refine W.lp2 (fun i b=>∃ j:Nat,i=((a+j:Nat):Int)∧1≤j∧a+j≤y.length∧b.length≤j∧quoR (y.drop (a+1)) 1 []=quoR (y.drop (a+j)) j (byS b)) (fun i _=>y.length - i.toNat) ⟨1,by omega,Nat.le_refl _,by omega,by simp,rfl⟩ ?_
 rintro F i b ⟨j,rfl,hj,hl,hb,hq⟩ hn
 have done:a+j+1≤y.length→24 ≥ b.length→quoR (y.drop (a+1)) 1 []=.inl (3,[],⟨4,0,0,byS b⟩,j+1)→
  W (fun i:Nat×Nat=>(xZ5i i.1 (byS b)).bind fun o=>gd (i64b (((a+j:Nat):Int)+1)) (gd (i64b (((a+j:Nat):Int)+1 - (a:Int))) (some ((xZ0.mk 3 (a:Int) [] o),(((a+j:Nat):Int)+1 - (a:Int)),(xZ3.mk 0 0))))) (·=r4 a (quoR (y.drop (a+1)) 1 [])):=fun h1 h2 h3=>by
  have e2:min ((byS b).length:Int) 24=((byS b).length:Int):=by rw [xZcz];omega
  simp only [xZ5i,e2,Int.toNat_natCast,List.take_length]
  rw [show leB 0 ((byS b).length:Int)=true from xZ16.2 (by omega),show leB ((byS b).length:Int) ((byS b).length:Int)=true from xZ16.2 (by omega)]
  simp only [xZ1S,Option.bind_some,W.gd,xZo,W.ret]
  refine ⟨by omega,by omega,?_⟩
  rw [h3]
  simp only [r4]
  rw [show ((a+j:Nat):Int)+1 - (a:Int)=((j+1:Nat):Int) by omega]
 simp only [xZ6K,W.cond,W.gd,xZv,xZL,xZo]
 refine ⟨fun hlt=>?_,fun hge=>?_⟩
 rotate_left
 ·have hnil:y.drop (a+j)=[]:=List.drop_eq_nil_of_le (by omega)
  rw [hnil,xZfN] at hq
  rw [hq];exact W.ret.2 rfl
 obtain ⟨c,hc⟩:=xZ4h (y:=y) (a:=a+j) (k:=0) (by omega)
 have hd:=xZaO hc
 rw [List.drop_zero,List.drop_drop] at hd
 have hc:=xZ3x hc
 rw [show ((a+j:Nat):Int)+((0:Nat):Int)=((a+j:Nat):Int) by omega] at hc
 rw [hd,xZ6u] at hq
 simp only [hc,Option.bind_some,W.cond,W.ret,xZv,xZL]
 refine ⟨fun h1=>?_,fun h1=>⟨fun h2=>?_,fun h2=>?_⟩⟩
 ·rw [if_pos (.inl (by omega))] at hq
  rw [hq];rfl
 ·rw [if_pos (.inr (by omega))] at hq
  rw [hq];rfl
 rw [if_neg (by omega)] at hq
 refine ⟨fun h3=>?_,fun h3=>⟨fun h4=>?_,fun h4=>?_⟩⟩
 ·have hc92:c=92:=u8lit (n:=92) (by omega) h3
  rw [if_pos hc92] at hq
  rw [show ((a+j:Nat):Int)+1=((a+j+1:Nat):Int) by omega]
  simp only [W.gd,xZo]
  refine ⟨by omega,?_⟩
  have hrl:=tw_le isH (y.drop (a+j+1))
  rw [List.length_drop] at hrl
  refine W.call (w_run isH _ in_H (by decide) y (a+j+1) (by omega) hy) ?_
  rintro _ rfl
  simp only [W.cond,W.gd,W.ret,xZv,xZL,xZo]
  refine ⟨fun h5=>?_,fun h5=>⟨by omega,?_⟩⟩
  ·have:quoR (y.drop (a+1)) 1 []=.inr (4,j):=by
    rw [hq]
    rcases hdd:y.drop (a+j+1) with _ | ⟨p,_ | ⟨q,t⟩⟩
    ·rfl
    ·rfl
    ·rw [hdd] at h5
     dsimp only
     simp only [List.takeWhile_cons,isH] at h5
     cases hp:hx p with
     | none=>rfl
     | some h=>
       cases hq2:hx q with
       | none=>rfl
       | some l=>simp [hp,hq2] at h5;omega
   rw [this];rfl
  ·rcases hdd:y.drop (a+j+1) with _ | ⟨p,_ | ⟨q,t⟩⟩
   ·rw [hdd] at h5;simp at h5
   ·rw [hdd] at h5;simp only [List.takeWhile_cons] at h5;split at h5<;>simp at h5
   ·have g1:(y.drop (a+j+1))[0]?=some p:=by rw [hdd];rfl
    have g2:(y.drop (a+j+1))[1]?=some q:=by rw [hdd];rfl
    have p1:=tw_at (p:=isH) (by omega) g1
    have p2:=tw_at (p:=isH) (by omega) g2
    rw [decide_eq_true (by omega)] at p1 p2
    have g1:=xZ3x g1
    have g2:=xZ3x g2
    rw [show ((a+j+1:Nat):Int)+((0:Nat):Int)=((a+j+1:Nat):Int) by omega] at g1
    rw [show ((a+j+1:Nat):Int)+((1:Nat):Int)=((a+j:Nat):Int)+2 by omega] at g2
    have hlen:(y.drop (a+j+1)).length=t.length+2:=by rw [hdd];rfl
    rw [List.length_drop] at hlen
    have ht:t=y.drop (a+(j+3)):=by
     have:(y.drop (a+j+1)).drop 2=t:=by rw [hdd];rfl
     rw [← this,List.drop_drop]
     congr 1
    rw [hdd] at hq
    dsimp only at hq
    simp only [isH] at p1 p2
    cases hp:hx p with
    | none=>rw [hp] at p1;cases p1
    | some h=>
      cases hq2:hx q with
      | none=>rw [hq2] at p2;cases p2
      | some l=>
        have l1:=hx_lt hp
        have l2:=hx_lt hq2
        rw [hp,hq2] at hq
        dsimp only at hq
        simp only [g1,Option.bind_some]
        refine W.call (xZod p) ?_
        rw [hp]
        rintro _ rfl
        simp only [W.gd,xZo,g2,Option.bind_some]
        refine ⟨by omega,by omega,?_⟩
        refine W.call (xZod q) ?_
        rw [hq2]
        rintro _ rfl
        have hv:IntKind.u8.wrap (16 * (h:Int)+(l:Int))=((16 * h+l:Nat):Int):=by rw [IntKind.wrap_u8];omega
        simp only [W.gd,xZo,hv]
        refine ⟨by omega,Nat.ble_eq_true_of_le (by omega),by omega,?_⟩
        refine hn _ _ ⟨j+3,by omega,by omega,by omega,by simp;omega,?_⟩ (by omega)
        rw [xZef,Int.toNat_natCast,← ht]
        exact hq
 ·have h3:¬ c=92:=u8nlit (n:=92) (by omega) h3
  have h4:¬ c=39:=by intro h;subst h;exact absurd h4 (by decide)
  rw [if_neg h3,if_neg h4] at hq
  simp only [W.gd,xZo]
  refine ⟨Nat.ble_eq_true_of_le (by omega),by omega,?_⟩
  rw [show ((a+j:Nat):Int)+1=((a+(j+1):Nat):Int) by omega]
  refine hn _ _ ⟨j+1,rfl,by omega,by omega,by simp;omega,?_⟩ (by omega)
  rw [xZef,ofN]
  exact hq
 ·have h3:¬ c=92:=u8nlit (n:=92) (by omega) h3
  have h5:((c.toNat:Int)==39)=true:=by cases hh:((c.toNat:Int)==39)<;>simp_all
  have h39:c=39:=u8lit (n:=39) (by omega) h5
  subst h39
  rw [if_neg h3,if_pos rfl] at hq
  simp only [W.gd,W.cond,W.ret,xZo,xZv,xZL]
  refine ⟨by omega,fun h5=>⟨by omega,?_⟩,fun h5=>?_⟩
  ·obtain ⟨x,hx⟩:=xZ4h (y:=y) (a:=a+j+1) (k:=0) (by omega)
   have hdx:=xZaO hx
   rw [List.drop_zero,List.drop_drop] at hdx
   have hx:=xZ3x hx
   rw [show ((a+j+1:Nat):Int)+((0:Nat):Int)=((a+j:Nat):Int)+1 by omega] at hx
   rw [hdx] at hq
   dsimp only at hq
   simp only [hx,Option.bind_some,W.cond,W.gd,W.ret,xZo,xZv,xZL]
   refine ⟨fun h6=>?_,fun h6=>?_⟩
   ·have hx39:x=39:=u8lit (n:=39) (by omega) h6
    rw [if_pos hx39] at hq
    refine ⟨Nat.ble_eq_true_of_le (by omega),by omega,?_⟩
    refine hn _ _ ⟨j+2,by omega,by omega,by omega,by simp;omega,?_⟩ (by omega)
    rw [xZef]
    exact hq
   ·have hx39:¬ x=39:=u8nlit (n:=39) (by omega) h6
    rw [if_neg hx39] at hq
    refine ⟨fun h7=>by rw [hq,if_pos (by rw [xZcz];omega)];rfl,fun h7=>?_⟩
    exact done (by omega) (by omega) (by rw [hq,if_neg (by rw [xZcz];omega)])
  ·have hnil:y.drop (a+j+1)=[]:=List.drop_eq_nil_of_le (by omega)
   rw [hnil] at hq
   dsimp only at hq
   refine ⟨fun h7=>by rw [hq,if_pos (by rw [xZcz];omega)];rfl,fun h7=>?_⟩
   exact done (by omega) (by omega) (by rw [hq,if_neg (by rw [xZcz];omega)])
theorem xZps {w:List UInt8} {e:Int} {o:Nat} (h:numR w=.inr (e,o)):o=0∧(e==0)=false:=by
 unfold numR at h
 repeat' split at h
 all_goals first | (cases h;exact ⟨rfl,rfl⟩) | cases h
theorem xZmR {w:List UInt8} {e:Int} {o:Nat} (h:wordR w=.inr (e,o)):o=0∧(e==0)=false:=by
 unfold wordR at h
 repeat' split at h
 all_goals first | (cases h;exact ⟨rfl,rfl⟩) | cases h
theorem xZp3 {w:List UInt8} {e:Int} {o:Nat} (h:dblR w=.inr (e,o)):o=0∧(e==0)=false:=by
 unfold dblR at h
 repeat' split at h
 all_goals first | (cases h;exact ⟨rfl,rfl⟩) | cases h
theorem xZvV (y:List UInt8) (a:Nat) (c:UInt8) (t:List UInt8) (hd:y.drop a=c::t) (hy:y.length≤700):W (fun N=>xZ6F N y a) (·=r4 a (oneR (c::t))):=by
 have hl:(y.drop a).length=t.length+1:=by rw [hd];rfl
 rw [List.length_drop] at hl
 have ha:a < y.length:=by omega
 have hd1:y.drop (a+1)=t:=by
  have:(y.drop a).drop 1=t:=by rw [hd];rfl
  rw [← this,List.drop_drop]
 have hc:ix y (a:Int)=some c:=by
  have:=xZ3x (y:=y) (a:=a) (k:=0) (e:=c) (by rw [hd];rfl)
  rwa [show (a:Int)+((0:Nat):Int)=(a:Int) by omega] at this
 have new:∀ (R:R1),(∀ e o,R=.inr (e,o)→o=0∧(e==0)=false)→W (fun i:Nat=>(xZ2g i (r3 a R).2.2 (a:Int)).bind fun n=>some ((r3 a R).1,(r3 a R).2.1,n)) (·=r4 a R):=fun R hR=>by
  cases R with
  | inl f=>obtain ⟨k,x,v,m⟩:=f;exact W.ret.2 rfl
  | inr f=>
    obtain ⟨e,o⟩:=f
    obtain ⟨rfl,he⟩:=hR e o rfl
    simp only [r3,xZ2g,he,cond_false,Option.bind_some,W.ret,r4,Nat.add_zero]
 simp only [xZ6F,hc,Option.bind_some,W.cond]
 refine ⟨fun h39=>?_,fun h39=>?_⟩
 ·have h39':c=39:=u8lit (n:=39) (by omega) h39
  have e:oneR (c::t)=quoR t 1 []:=by subst h39';rfl
  refine W.call (xZq7 y a ha hy) ?_
  rintro _ rfl
  rw [hd1,e]
  exact W.ret.2 rfl
 refine W.call (w_rin c _ (by decide)) ?_
 rw [in_S]
 rintro _ rfl
 refine W.cond.2 ⟨fun hS=>?_,fun hS=>?_⟩
 ·refine W.call (xZt3 y a (Nat.le_of_lt ha) hy) ?_
  rintro _ rfl
  rw [hd]
  have e:oneR (c::t)=wordR ((c::t).takeWhile isT):=by simp only [oneR,hS,if_true]
  rw [e]
  exact new _ fun _ _ h=>xZmR h
 refine W.call (w_rin c _ (by decide)) ?_
 rw [in_D]
 rintro _ rfl
 refine W.cond.2 ⟨fun hD=>?_,fun hD=>?_⟩
 ·refine W.call (xZqj y a ha hy) ?_
  rintro _ rfl
  rw [hd]
  have e:oneR (c::t)=numR ((c::t).takeWhile isD):=by simp only [oneR,hS,hD,if_true,Bool.false_eq_true,if_false]
  rw [e]
  exact new _ fun _ _ h=>xZps h
 refine W.cond.2 ⟨fun h35=>?_,fun h35=>?_⟩
 ·refine W.call (xZr3 y a ha hy) ?_
  rintro _ rfl
  rw [hd1]
  have e:oneR (c::t)=dblR t:=by simp only [oneR,hS,hD,h35,if_true,Bool.false_eq_true,if_false]
  rw [e]
  exact new _ fun _ _ h=>xZp3 h
 refine W.call (w_rin c _ (by decide)) ?_
 rw [in_G]
 rintro _ rfl
 have t1:=xZfW (y:=y) (a:=a) (m:=1)
 have t2:=xZfW (y:=y) (a:=a) (m:=2)
 rw [hd] at t1 t2
 rw [show ((1:Nat):Int)=1 from rfl] at t1
 rw [show ((2:Nat):Int)=2 from rfl] at t2
 refine W.cond.2 ⟨fun hG=>?_,fun hG=>?_⟩
 ·have e:oneR (c::t)=signR c t:=by simp only [oneR,hS,hD,h35,h39,hG,if_true,Bool.false_eq_true,if_false]
  rw [e,xZfH]
  have one:(t.head?=some 61→isC c=false)→sigR c t=[c]:=fun h=>by
   rw [sigR,if_neg];rintro ⟨h1,h2⟩;rw [h h2] at h1;cases h1
  refine W.call (w_rin c _ (by decide)) ?_
  rw [in_C]
  rintro _ rfl
  simp only [xZ2g,show ((0:Int)==0)=true from rfl,cond_true,Option.bind_some,W.cond,W.gd,W.ret,xZv,xZL,xZ16,xZo,t1,t2]
  refine ⟨fun h=>⟨by omega,fun h2=>⟨by omega,?_⟩,fun h2=>⟨by omega,by omega,by omega,by omega,?_⟩⟩,fun h=>⟨by omega,by omega,by omega,by omega,?_⟩⟩
  ·cases t with
   | nil=>simp at hl;omega
   | cons d t=>
     have hd1:=xZ3x (y:=y) (a:=a) (k:=1) (e:=d) (by rw [hd];rfl)
     rw [show (a:Int)+((1:Nat):Int)=(a:Int)+1 by omega] at hd1
     simp only [hd1,Option.bind_some,W.cond,W.gd,W.ret,xZo,xZ16]
     refine ⟨fun h3=>⟨by omega,by omega,by omega,by omega,?_⟩,fun h3=>⟨by omega,by omega,by omega,by omega,?_⟩⟩
     ·have h61:d=61:=u8lit (n:=61) (by omega) h3
      subst h61
      have hs:sigR c (61::t)=[c,61]:=by rw [sigR,if_pos ⟨h,rfl⟩]
      rw [hs];rfl
     ·have h61:¬ d=61:=u8nlit (n:=61) (by omega) h3
      have hs:=one (fun h=>by cases h;exact absurd rfl h61)
      rw [hs];rfl
  ·have hs:=one (fun h=>by cases t with | nil=>cases h | cons d t=>simp at hl;omega)
   rw [hs];rfl
  ·rw [one (fun _=>h)];rfl
 ·have e:oneR (c::t)=.inr (10,0):=by simp only [oneR,hS,hD,h35,h39,hG,Bool.false_eq_true,if_false]
  rw [e]
  simp only [xZ2g,show ((10:Int)==0)=false from rfl,cond_false,Option.bind_some,W.ret,r4,Nat.add_zero]
  rfl
theorem xZqP:∀ (n:Nat) (t:List UInt8),t.length≤n→∀ {off:Nat} {b:List UInt8} {e:Int} {o:Nat},quoR t off b=.inr (e,o)→(e==0)=false
 | n,[],_,off,b,e,o,h=>by rw [xZfN] at h;cases h;rfl
 | 0,c::t,hn,_,_,_,_,_=>by simp at hn
 | n+1,c::t,hn,off,b,e,o,h=>by
   simp only [List.length_cons,Nat.add_le_add_iff_right] at hn
   rw [xZ6u] at h
   split at h
   ·cases h;rfl
   ·split at h
    ·split at h
     ·split at h
      ·exact xZqP n _ (by simp at hn;omega) h
      ·cases h;rfl
     ·cases h;rfl
    ·split at h
     ·split at h
      ·split at h
       ·exact xZqP n _ (by simp at hn;omega) h
       ·split at h
        ·cases h;rfl
        ·cases h
      ·split at h
       ·cases h;rfl
       ·cases h
     ·exact xZqP n _ hn h
theorem xZul {r:List UInt8} {e:Int} {o:Nat} (h:oneR r=.inr (e,o)):(e==0)=false:=by
 cases r with
 | nil=>cases h;rfl
 | cons c t=>
   simp only [oneR] at h
   split at h
   ·exact (xZmR h).2
   ·split at h
    ·exact (xZps h).2
    ·split at h
     ·exact (xZp3 h).2
     ·split at h
      ·exact xZqP _ t (Nat.le_refl _) h
      ·split at h
       ·rw [xZfH] at h;cases h
       ·cases h;rfl
def scanF:List xZ0⊕(Int×Int)→List xZ0×xZ3
 | .inl l=>(l,⟨0,0⟩)
 | .inr (e,a)=>([],⟨e,a⟩)
theorem xZt8 (s:List UInt8) (hs:s.length≤700):W (fun N=>xZa0 N s) (·=scanF (scan s)):=by
 simp only [xZa0,W.cond,W.ret,xZv,xZL,scan]
 refine ⟨fun h=>by rw [if_pos (by omega)];rfl,fun h=>?_⟩
 rw [if_neg (by omega)]
 refine W.lp2 (fun p ys=>∃ a:Nat,p=(a:Int)∧a≤s.length∧ys.length≤200∧scanR s 0 []=scanR (s.drop a) a ys) (fun p _=>s.length - p.toNat) ⟨0,rfl,Nat.zero_le _,by simp,rfl⟩ ?_
 rintro F p ys ⟨a,rfl,ha,hl,hq⟩ hn
 simp only [xZae,W.cond,xZv,xZL]
 refine ⟨fun h1=>?_,fun h1=>?_⟩
 ·obtain ⟨c,hc⟩:=xZ4h (y:=s) (a:=a) (k:=0) (by omega)
  have hd:=xZaO hc
  rw [List.drop_zero,List.drop_drop] at hd
  have hc:=xZ3x hc
  rw [show (a:Int)+((0:Nat):Int)=(a:Int) by omega] at hc
  rw [hd,xZby] at hq
  have skip:blank c=true→W (fun p:Nat×Nat=>F p ((a:Int)+1) ys) fun r=>r=scanF (scanR s 0 []):=fun hb=>by
   rw [show (a:Int)+1=((a+1:Nat):Int) by omega]
   rw [if_pos hb] at hq
   exact hn _ _ ⟨a+1,rfl,by omega,hl,hq⟩ (by omega)
  have e200:((ys.length:Int)==200)=decide (ys.length=200):=by
   by_cases h:ys.length=200
   ·rw [decide_eq_true h,beq_iff_eq];omega
   ·rw [decide_eq_false h,beq_eq_false_iff_ne];omega
  simp only [hc,Option.bind_some,W.cond,W.gd,xZo]
  refine ⟨fun h=>⟨by omega,skip (by simp [blank,h])⟩,fun h2=>⟨fun h=>⟨by omega,skip (by simp [blank,h])⟩,fun h3=>⟨fun h=>⟨by omega,skip (by simp [blank,h])⟩,fun h4=>?_⟩⟩⟩
  rw [if_neg (by simp only [blank,h2,h3,h4];decide)] at hq
  have body:(known c&&decide (ys.length=200))=false→W (fun p:Nat×Nat=>(xZ6F p.1 s (a:Int)).bind fun one=>bif (one.2.2.E != 0) then some ([],one.2.2) else gd (Nat.ble ((List.length ys+1) * 72) 140737488355328) (gd (i64b ((a:Int)+one.2.1)) (F p ((a:Int)+one.2.1) (ys++[one.1])))) fun r=>r=scanF (scanR s 0 []):=fun hf=>by
   rw [hf] at hq
   simp only [Bool.false_eq_true,if_false] at hq
   refine W.call (xZvV s a c _ hd hs) ?_
   rintro _ rfl
   cases ho:oneR (c::s.drop (a+1)) with
   | inr f=>
     obtain ⟨e,o⟩:=f
     have he:=xZul ho
     rw [ho] at hq
     dsimp only at hq
     rw [hq]
     simp only [r4,bne,he,Bool.not_false,cond_true]
     exact W.ret.2 rfl
   | inl f=>
     obtain ⟨k,x,v,m⟩:=f
     rw [ho] at hq
     dsimp only at hq
     have hm:=xZu7 ho
     rw [List.length_drop] at hm
     have hlen:ys.length < 200:=by
      have hk:known c=true:=by
       cases hk:known c with
       | true=>rfl
       | false=>
         simp only [known,Bool.or_eq_false_iff] at hk
         simp only [oneR,hk.1.1.1.1,hk.1.1.1.2,hk.1.1.2,hk.1.2,hk.2,Bool.false_eq_true,if_false] at ho
         cases ho
      rw [hk] at hf
      simp only [Bool.true_and,decide_eq_false_iff_not] at hf
      omega
     rw [List.drop_drop,show a+1+(m - 1)=a+m by omega] at hq
     simp only [r4,show ((0:Int) != 0)=false from rfl,cond_false,W.gd,xZo]
     refine ⟨Nat.ble_eq_true_of_le (by omega),by omega,?_⟩
     rw [show (a:Int)+(m:Int)=((a+m:Nat):Int) by omega]
     exact hn _ _ ⟨a+m,rfl,by omega,by simp;omega,hq⟩ (by omega)
  refine W.call (w_rin c _ (by decide)) ?_
  rw [in_K]
  rintro _ rfl
  rw [e200]
  refine W.cond.2 ⟨fun hk=>W.cond.2 ⟨fun hf=>?_,fun hf=>body (by rw [hk,hf];rfl)⟩,fun hk=>body (by rw [hk];rfl)⟩
  rw [hk,hf] at hq
  simp only [Bool.and_self,if_true] at hq
  rw [hq];exact W.ret.2 rfl
 ·have hnil:s.drop a=[]:=List.drop_eq_nil_of_le (by omega)
  rw [hnil,xZdZ] at hq
  rw [hq];exact W.ret.2 rfl
theorem xZw2 {y:List xZ0} {b:Nat} {e:Int} (hy:y.length≤700) (hb:b≤y.length) {c a:Int} (h:PAR y b e=.inl (c,a)):c≠0:=by
 have ok:=((p_all (e:=e) hy 51).1 0 b (by omega) (by omega) (by omega) (by omega)).1
 unfold PAR at h
 cases g:(SPP y 51).1 0 b with
 | inl x=>
   rw [g] at ok h
   have hc:x.1≠0:=ok.1
   simp only [Sum.inl.injEq,Prod.mk.injEq] at h
   rw [← h.1];exact hc
 | inr p=>
   rw [g] at h
   simp only at h
   by_cases hz:chk p.1=0
   ·rw [if_pos hz] at h;cases h
   ·rw [if_neg hz] at h
    simp only [Sum.inl.injEq,Prod.mk.injEq] at h
    rw [← h.1];exact hz
def okB (v:xZ4):Prop:=0≤v.Bits∧v.Bits≤18446744073709551615
theorem xZpd:∀ (l:List UInt8) (V u:Nat),hexv V l=some u→u < (V+1) * 16 ^ l.length
 | [],V,u,hq=>by rw [hexv] at hq;cases hq;simp
 | c::l,V,u,hq=>by
   rw [hexv] at hq
   split at hq
   ·cases hq
   ·rename_i d hd
    have h1:=xZpd l _ u hq
    have h2:=hx_lt hd
    rw [List.length_cons,Nat.pow_succ]
    have h3:(16 * V+d+1) * 16 ^ l.length≤((V+1) * 16) * 16 ^ l.length:=Nat.mul_le_mul_right _ (by omega)
    rw [Nat.mul_assoc] at h3
    rw [Nat.mul_comm (16 ^ l.length) 16]
    omega
theorem xZq4:∀ (n:Nat) (t:List UInt8),t.length≤n→∀ {off:Nat} {b:List UInt8} {k:Int} {x:List UInt8} {v:xZ4} {m:Nat},quoR t off b=.inl (k,x,v,m)→v.Bits=0
 | n,[],_,off,b,k,x,v,m,h=>by rw [xZfN] at h;cases h
 | 0,c::t,hn,_,_,_,_,_,_,_=>by simp at hn
 | n+1,c::t,hn,off,b,k,x,v,m,h=>by
   simp only [List.length_cons,Nat.add_le_add_iff_right] at hn
   rw [xZ6u] at h
   split at h
   ·cases h
   ·split at h
    ·split at h
     ·split at h
      ·exact xZq4 n _ (by simp at hn;omega) h
      ·cases h
     ·cases h
    ·split at h
     ·split at h
      ·split at h
       ·exact xZq4 n _ (by simp at hn;omega) h
       ·split at h
        ·cases h
        ·cases h;rfl
      ·split at h
       ·cases h
       ·cases h;rfl
     ·exact xZq4 n _ hn h
theorem ok0 {v:xZ4} (h:v.Bits=0):okB v:=by unfold okB;omega
theorem one_b {r:List UInt8} {k:Int} {x:List UInt8} {v:xZ4} {m:Nat} (h:oneR r=.inl (k,x,v,m)):okB v:=by
 cases r with
 | nil=>cases h
 | cons c t=>
   simp only [oneR] at h
   split at h
   ·unfold wordR at h
    repeat' split at h
    all_goals first | (cases h;exact ok0 rfl) | cases h
   ·split at h
    ·unfold numR at h
     repeat' split at h
     all_goals first | (cases h;exact ok0 rfl) | cases h
    ·split at h
     ·unfold dblR at h
      split at h
      ·cases h
      ·split at h
       ·cases h
       ·rename_i h16 u hu
        have hlt:=xZpd _ _ _ hu
        rw [List.length_take,show min 16 t.length=16 by omega] at hlt
        have hlt:u < 18446744073709551616:=by simpa using hlt
        split at h
        ·cases h;exact ⟨by show (0:Int)≤(u:Int);omega,by show (u:Int)≤_;omega⟩
        ·cases h
     ·split at h
      ·exact ok0 (xZq4 _ t (Nat.le_refl _) h)
      ·split at h
       ·rw [xZfH] at h;cases h;exact ok0 rfl
       ·cases h
theorem xZhJ {P:xZ0→Prop} (hP:∀ {r k x v m} (p:Int),oneR r=.inl (k,x,v,m)→P ⟨k,p,x,v⟩):∀ (n:Nat) (r:List UInt8),r.length≤n→∀ {p:Nat} {out l:List xZ0},(∀ t∈out,P t)→scanR r p out=.inl l→∀ t∈l,P t
 | n,[],_,p,out,l,ho,h=>by rw [xZdZ] at h;cases h;exact ho
 | 0,c::t,hn,_,_,_,_,_=>by simp at hn
 | n+1,c::t,hn,p,out,l,hl,h=>by
   simp only [List.length_cons,Nat.add_le_add_iff_right] at hn
   rw [xZby] at h
   split at h
   ·exact xZhJ hP n t hn hl h
   ·split at h
    ·cases h
    ·split at h
     ·cases h
     ·rename_i k x v m ho
      refine xZhJ hP n _ (by rw [List.length_drop];omega) (fun t ht=>?_) h
      rcases List.mem_append.1 ht with ht | ht
      ·exact hl t ht
      ·rw [List.mem_singleton.1 ht];exact hP _ ho
theorem xZoX:∀ (n:Nat) (r:List UInt8),r.length≤n→∀ {p:Nat} {out l:List xZ0},out.length≤200→scanR r p out=.inl l→l.length≤200
 | n,[],_,p,out,l,h,hq=>by rw [xZdZ] at hq;cases hq;exact h
 | 0,c::t,hn,_,_,_,_,_=>by simp at hn
 | n+1,c::t,hn,p,out,l,h,hq=>by
   simp only [List.length_cons,Nat.add_le_add_iff_right] at hn
   rw [xZby] at hq
   split at hq
   ·exact xZoX n t hn h hq
   ·split at hq
    ·cases hq
    ·rename_i hf
     split at hq
     ·cases hq
     ·rename_i k x v m ho
      have hk:known c=true:=by
       cases hk:known c with
       | true=>rfl
       | false=>
         simp only [known,Bool.or_eq_false_iff] at hk
         simp only [oneR,hk.1.1.1.1,hk.1.1.1.2,hk.1.1.2,hk.1.2,hk.2,Bool.false_eq_true,if_false] at ho
         cases ho
      rw [hk] at hf
      simp only [Bool.true_and,decide_eq_true_eq] at hf
      exact xZoX n _ (by rw [List.length_drop];omega) (by simp;omega) hq
theorem xZo8:∀ (n:Nat) (r:List UInt8),r.length≤n→∀ {p:Nat} {out:List xZ0} {e a:Int},scanR r p out=.inr (e,a)→e≠0
 | n,[],_,p,out,e,a,hq=>by rw [xZdZ] at hq;cases hq
 | 0,c::t,hn,_,_,_,_,_=>by simp at hn
 | n+1,c::t,hn,p,out,e,a,hq=>by
   simp only [List.length_cons,Nat.add_le_add_iff_right] at hn
   rw [xZby] at hq
   split at hq
   ·exact xZo8 n t hn hq
   ·split at hq
    ·cases hq;decide
    ·split at hq
     ·rename_i ho
      cases hq
      have:=xZul ho
      simpa using this
     ·exact xZo8 n _ (by rw [List.length_drop];omega) hq
theorem xZly {s:List UInt8} {y:List xZ0} (h:scan s=.inl y):y.length≤200∧okT y:=by
 unfold scan at h
 split at h
 ·cases h
 ·exact ⟨xZoX _ s (Nat.le_refl _) (by simp) h,xZhJ (P:=fun t=>okB t.Val) (fun _ h=>one_b h) _ s (Nat.le_refl _) (by simp) h⟩
theorem xZsI {s:List UInt8} {x:Int×Int} (h:scan s=.inr x):x.1≠0:=by
 obtain ⟨e,a⟩:=x
 unfold scan at h
 split at h
 ·cases h;decide
 ·exact xZo8 _ s (Nat.le_refl _) h
theorem xZmI {y:List xZ0} {b:Nat} {e:Int} (hy:y.length≤700) (hb:b≤y.length) {l:List xZ2} {j:Nat} (h:PAR y b e=.inr (l,j)):l.length≤j - b∧b < j∧j≤y.length∧chk l=0:=by
 have ok:=((p_all (e:=e) hy 51).1 0 b (by omega) (by omega) (by omega) (by omega)).1
 unfold PAR at h
 cases g:(SPP y 51).1 0 b with
 | inl x=>rw [g] at h;cases h
 | inr p=>
   rw [g] at ok h
   simp only at h
   by_cases hz:chk p.1=0
   ·rw [if_pos hz] at h
    cases h
    exact ⟨ok.2.2,ok.1,ok.2.1,hz⟩
   ·rw [if_neg hz] at h;cases h
section
abbrev ErG:=Int×Int×List xZ0×Int×Int
section
variable {N:Nat} {y:List xZ0} {i:Nat} {e:Int}
theorem xZhE {k:Int} (hk:k≠0) (s:List UInt8):xZs N k s y i e=some (isT' y i k s,y,(i:Int),e):=by
 simp only [xZs,xZdR]
 by_cases h:i < y.length
 ·simp only [h,decide_true,cond_true,(ix_at h).1,Option.bind_some,isT']
  cases (tk y i).Kind==k<;>simp
 ·have:isT' y i k s=false:=by
   rw [isT',xZgm h]
   have:(zT.Kind==k)=false:=by simpa [zT] using fun e:(0:Int)=k=>hk e.symm
   rw [this];rfl
  simp [h,this]
theorem xZbl {k:Int} (hk:k≠0) (s:List UInt8) (hi:i≤1000000):xZc N k s y i e=some (if isT' y i k s=true then (true,y,((i+1:Nat):Int),e) else (false,y,(i:Int),e)):=by
 simp only [xZc,xZhE hk,Option.bind_some,xZ8a hi,xZ1S]
 cases isT' y i k s<;>simp
theorem xZdj {c:Int} (hc:c≠0):xZf N c y i e=some (.inr (c,plc y e i,y,(i:Int),e)):=by
 have h0:(c==0)=false:=by simpa using hc
 simp only [xZf,xZdR]
 by_cases h:i < y.length
 ·simp only [h,decide_true,cond_true,(ix_at h).1,Option.bind_some,xZV,h0,cond_false,Sum.elim_inr,xZ2j,plc,(ix_at h).2]
 ·simp only [h,decide_false,cond_false,Option.bind_some,xZV,h0,Sum.elim_inr,xZ2j,plc,List.getElem?_eq_none (Nat.le_of_not_lt h)]
theorem xZn8:leB (y.length:Int) (i:Int)=!decide (i < y.length):=by
 rw [xZ5b,← decide_not];congr 1;exact propext (by omega)
theorem back1 (h:i < y.length):ix y ((i:Int)+1 - 1)=some (tk y i):=by
 rw [show (i:Int)+1 - 1=(i:Int) by omega];exact (ix_at h).1
theorem xZpJ (hi:i≤1000000):i64b ((i:Int)+1 - 1)=true:=xZo.2 (by omega)
theorem xZl7 (hi:i≤1000000):xZX N y i e=some (if (tk y i).Kind=1 then .inl ((tk y i).Text,y,((i+1:Nat):Int),e) else .inr (4,plc y e i,y,(i:Int),e)):=by
 simp only [xZX,xZn8,xZdj (show (4:Int)≠0 by decide),Option.bind_some,Sum.elim_inr]
 by_cases h:i < y.length
 ·simp only [h,decide_true,Bool.not_true,cond_false,(ix_at h).1,Option.bind_some,xZ8a hi,xZpJ hi,xZ1S,back1 h]
  by_cases h1:(tk y i).Kind=1
  ·simp [h1]
  ·simp [h1,show ((tk y i).Kind != 1)=true by simpa using h1]
 ·simp [h,xZgm h,zT]
theorem xZtu (hi:i≤1000000):xZy N y i e=some (if (tk y i).Kind=3∧(tk y i).Val.Kind=1 then .inl ((tk y i).Val.N,y,((i+1:Nat):Int),e) else .inr (4,plc y e i,y,(i:Int),e)):=by
 simp only [xZy,xZn8,xZdj (show (4:Int)≠0 by decide),Option.bind_some,Sum.elim_inr]
 by_cases h:i < y.length
 ·simp only [h,decide_true,Bool.not_true,cond_false,(ix_at h).1,Option.bind_some,xZ8a hi,xZpJ hi,xZ1S,back1 h]
  by_cases h1:(tk y i).Kind=3
  ·by_cases h2:(tk y i).Val.Kind=1
   ·simp [h1,h2]
   ·simp [h1,h2,show ((tk y i).Val.Kind != 1)=true by simpa using h2]
  ·simp [h1,show ((tk y i).Kind != 3)=true by simpa using h1]
 ·simp [h,xZgm h,zT]
theorem xZdm {k:Int} (hk:k≠0) (s:List UInt8) (hi:i≤1000000):xZk N k s y i e=some (if isT' y i k s=true then .inl (y,((i+1:Nat):Int),e) else .inr (4,plc y e i,y,(i:Int),e)):=by
 simp only [xZk,xZbl hk s hi,Option.bind_some,xZdj (show (4:Int)≠0 by decide)]
 cases isT' y i k s<;>simp [xZdj (show (4:Int)≠0 by decide)]
end
abbrev RG:=(Int×Int)⊕(List xZ1×Nat)
abbrev RGp:=(List xZ1×List xZ0×Int×Int)⊕ErG
def EN (y:List xZ0) (e:Int):RG→RGp→Prop
 | .inl (c,a),r=>∃ j:Int,r=.inr (c,a,y,j,e)
 | .inr (l,i),r=>r=.inl (l,y,(i:Int),e)
def atomS (y:List xZ0) (e:Int) (k:Int) (i:Nat):RG:=
 if (tk y i).Kind=1 then
  (if isT' y (i+1) 4 [58]=true then
    (if (tk y (i+2)).Kind=1 then
      (if isT' y (i+3) 4 [91]=true then (match PAR y (i+4) e with
        | .inl x=>.inl x
        | .inr (l,j)=>if isT' y j 4 [93]=true then .inr ([⟨k,0,0,0,(tk y i).Text,(tk y (i+2)).Text,l⟩],j+1) else .inl (4,plc y e j))
      else .inr ([⟨k,0,0,0,(tk y i).Text,(tk y (i+2)).Text,[]⟩],i+3))
    else .inl (4,plc y e (i+2)))
  else .inl (4,plc y e (i+1)))
 else .inl (4,plc y e i)
theorem xZui {y:List xZ0} {e k:Int} {i:Nat} (hy:y.length≤700) (hi:i≤y.length):W (fun N=>xZ1g N k y i e) (EN y e (atomS y e k i)):=by
 have hp:∀ {j c:Nat},((j+c:Nat):Int)+1=((j+(c+1):Nat):Int):=fun {j c}=>by omega
 simp only [xZ1g,xZl7 (show i≤1000000 by omega),Option.bind_some]
 unfold atomS
 by_cases h1:(tk y i).Kind=1
 ·have l1:=xZS (by decide) h1
  simp only [if_pos h1,Sum.elim_inl,xZdm (show (4:Int)≠0 by decide) [58] (show i+1≤1000000 by omega),Option.bind_some]
  by_cases h2:isT' y (i+1) 4 [58]=true
  ·have l2:=xZS (by decide) (xZP h2).1
   simp only [if_pos h2,Sum.elim_inl,xZl7 (show i+1+1≤1000000 by omega),Option.bind_some]
   by_cases h3:(tk y (i+2)).Kind=1
   ·have l3:=xZS (by decide) h3
    simp only [show i+1+1=i+2 from rfl,if_pos h3,Sum.elim_inl,xZbl (show (4:Int)≠0 by decide) [91] (show i+2+1≤1000000 by omega),Option.bind_some]
    by_cases h4:isT' y (i+3) 4 [91]=true
    ·have l4:=xZS (by decide) (xZP h4).1
     simp only [show i+2+1=i+3 from rfl,if_pos h4,cond_true,show i+3+1=i+4 from rfl]
     refine W.call (xZtg (b:=i+4) (e:=e) hy (by omega)) ?_
     rintro _ rfl
     cases hq:PAR y (i+4) e with
     | inl x=>
       obtain ⟨c,a⟩:=x
       simp only [Sum.elim_inr,xZ2j,Option.bind_some,W.ret]
       exact ⟨_,rfl⟩
     | inr p=>
       obtain ⟨l,j⟩:=p
       have hl:=xZmI hy (by omega) hq
       simp only [Sum.elim_inl,xZ3z,Option.bind_some,xZdm (show (4:Int)≠0 by decide) [93] (show j≤1000000 by omega)]
       by_cases h5:isT' y j 4 [93]=true
       ·simp only [if_pos h5,Sum.elim_inl,W.ret];rfl
       ·simp only [if_neg h5,Sum.elim_inr,W.ret];exact ⟨_,rfl⟩
    ·simp only [show i+2+1=i+3 from rfl,if_neg h4,cond_false,W.ret];rfl
   ·simp only [show i+1+1=i+2 from rfl,if_neg h3,Sum.elim_inr,W.ret];exact ⟨_,rfl⟩
  ·simp only [if_neg h2,Sum.elim_inr,W.ret];exact ⟨_,rfl⟩
 ·simp only [if_neg h1,Sum.elim_inr,W.ret];exact ⟨_,rfl⟩
def numS (y:List xZ0) (i:Nat):Option Int:=if (tk y i).Kind=3∧(tk y i).Val.Kind=1 then some (tk y i).Val.N else none
def cntS (y:List xZ0) (e:Int) (i:Nat):(Int×Int)⊕(Int×Int×Nat):=match numS y i with
 | none=>.inl (4,plc y e i)
 | some a=>if isT' y (i+1) 4 [44]=true then
    (if isT' y (i+2) 4 [125]=true then .inr (a,0,i+3) else match numS y (i+2) with
      | none=>.inl (4,plc y e (i+2))
      | some b=>if isT' y (i+3) 4 [125]=true then .inr (a,b,i+4) else .inl (4,plc y e (i+3)))
   else if isT' y (i+1) 4 [125]=true then .inr (a,a,i+2) else .inl (4,plc y e (i+1))
def oftS (y:List xZ0) (e:Int) (i:Nat):(Int×Int)⊕(Option (Int×Int)×Nat):=
 if isT' y i 4 [43]=true then .inr (some (1,0),i+1)
 else if isT' y i 4 [42]=true then .inr (some (0,0),i+1)
 else if isT' y i 4 [63]=true then .inr (some (0,1),i+1)
 else if isT' y i 4 [123]=true then (match cntS y e (i+1) with
  | .inl x=>.inl x
  | .inr (a,b,j)=>.inr (some (a,b),j))
 else .inr (none,i)
def repN (a b:Int):xZ1:=⟨3,1,a,b,[],[],[]⟩
def oftR (part:List xZ1):(Int×Int)⊕(Option (Int×Int)×Nat)→RG
 | .inl x=>.inl x
 | .inr (none,j)=>.inr (part,j)
 | .inr (some (a,b),j)=>.inr (repN a b::part,j)
theorem xZs0 {N:Nat} {y:List xZ0} {i:Nat} {e:Int} (hi:i≤1000000):xZy N y i e=some (match numS y i with | some a=>.inl (a,y,((i+1:Nat):Int),e) | none=>.inr (4,plc y e i,y,(i:Int),e)):=by
 rw [xZtu hi,numS]
 by_cases h:(tk y i).Kind=3∧(tk y i).Val.Kind=1
 ·rw [if_pos h,if_pos h]
 ·rw [if_neg h,if_neg h]
theorem xZqf {y:List xZ0} {e:Int} {i:Nat} (hi:i≤900000):W (fun N=>xZ1p N y i e) (fun r=>match cntS y e i with
 | .inl (c,a)=>∃ j:Int,r=.inr (c,a,y,j,e)
 | .inr (a,b,j)=>r=.inl (a,b,y,(j:Int),e)):=by
 simp only [xZ1p,xZs0 (show i≤1000000 by omega),Option.bind_some]
 unfold cntS
 cases h1:numS y i with
 | none=>simp only [Sum.elim_inr,W.ret];exact ⟨_,rfl⟩
 | some a=>
   simp only [Sum.elim_inl,xZbl (show (4:Int)≠0 by decide) [44] (show i+1≤1000000 by omega),Option.bind_some]
   by_cases h2:isT' y (i+1) 4 [44]=true
   ·simp only [if_pos h2,cond_true,show i+1+1=i+2 from rfl,xZhE (show (4:Int)≠0 by decide),Option.bind_some]
    by_cases h3:isT' y (i+2) 4 [125]=true
    ·simp only [h3,if_true,Bool.not_true,cond_false,xZdm (show (4:Int)≠0 by decide) [125] (show i+2≤1000000 by omega),Option.bind_some,Sum.elim_inl,W.ret]
    ·have h3':isT' y (i+2) 4 [125]=false:=by simpa using h3
     simp only [h3',Bool.false_eq_true,if_false,Bool.not_false,cond_true,xZs0 (show i+2≤1000000 by omega),Option.bind_some]
     cases h4:numS y (i+2) with
     | none=>simp only [Sum.elim_inr,W.ret];exact ⟨_,rfl⟩
     | some b=>
       simp only [Sum.elim_inl,show i+2+1=i+3 from rfl,xZdm (show (4:Int)≠0 by decide) [125] (show i+3≤1000000 by omega),Option.bind_some]
       by_cases h5:isT' y (i+3) 4 [125]=true
       ·simp only [if_pos h5,Sum.elim_inl,W.ret]
       ·simp only [if_neg h5,Sum.elim_inr,W.ret];exact ⟨_,rfl⟩
   ·simp only [if_neg h2,cond_false,xZdm (show (4:Int)≠0 by decide) [125] (show i+1≤1000000 by omega),Option.bind_some]
    by_cases h5:isT' y (i+1) 4 [125]=true
    ·simp only [if_pos h5,Sum.elim_inl,W.ret]
    ·simp only [if_neg h5,Sum.elim_inr,W.ret];exact ⟨_,rfl⟩
theorem xZrv {y:List xZ0} {e:Int} {i:Nat} {part:List xZ1} (hi:i≤800000) (hp:part.length≤100000):W (fun N=>xZU N part y i e) (EN y e (oftR part (oftS y e i))):=by
 have g:Nat.ble ((1+part.length) * 88) 140737488355328=true:=Nat.ble_eq_true_of_le (by omega)
 simp only [xZU,xZbl (show (4:Int)≠0 by decide) _ (show i≤1000000 by omega),Option.bind_some,g,xZ1S]
 unfold oftS
 by_cases h1:isT' y i 4 [43]=true
 ·simp only [if_pos h1,cond_true,W.ret];rfl
 simp only [if_neg h1,cond_false,xZbl (show (4:Int)≠0 by decide) _ (show i≤1000000 by omega),Option.bind_some]
 by_cases h2:isT' y i 4 [42]=true
 ·simp only [if_pos h2,cond_true,W.ret];rfl
 simp only [if_neg h2,cond_false,xZbl (show (4:Int)≠0 by decide) _ (show i≤1000000 by omega),Option.bind_some]
 by_cases h3:isT' y i 4 [63]=true
 ·simp only [if_pos h3,cond_true,W.ret];rfl
 simp only [if_neg h3,cond_false,xZbl (show (4:Int)≠0 by decide) _ (show i≤1000000 by omega),Option.bind_some]
 by_cases h4:isT' y i 4 [123]=true
 ·simp only [if_pos h4,cond_true]
  refine W.call (xZqf (y:=y) (e:=e) (i:=i+1) (by omega)) fun r hr=>?_
  cases hc:cntS y e (i+1) with
  | inl x=>
    obtain ⟨c,a⟩:=x
    rw [hc] at hr
    obtain ⟨j,rfl⟩:=hr
    simp only [Sum.elim_inr,W.ret];exact ⟨_,rfl⟩
  | inr x=>
    obtain ⟨a,b,j⟩:=x
    rw [hc] at hr
    subst hr
    simp only [Sum.elim_inl,g,xZ1S,W.ret];rfl
 ·simp only [if_neg h4,cond_false,W.ret];rfl
end
section
def addG (k:Int) (s:Int×List xZ1):List xZ1→Int×List xZ1
 | []=>s
 | n::r=>if n.Kind=k then (s.1+n.Kids,s.2++r) else (s.1+1,s.2++n::r)
def hdN (k:Int) (s:Int×List xZ1):List xZ1:=⟨k,s.1,0,0,[],[],[]⟩::s.2
theorem l1_eq {N:Nat} {k:Int} {s:Int×List xZ1} {n:xZ1} {r:List xZ1} (h1:0≤s.1∧s.1≤1000000) (h2:0≤n.Kids∧n.Kids≤1000000) (h3:s.2.length≤1000000) (h4:r.length≤1000000):
 xZh N (n::r) k (hdN k s)=some (k,hdN k (addG k s (n::r))):=by
 have e0:∀ (a:xZ1) (l:List xZ1),ix (a::l) 0=some a:=fun _ _=>rfl
 simp only [xZh,hdN,e0,Option.bind_some,addG]
 by_cases hk:n.Kind=k
 ·have g1:i64b (s.1+n.Kids)=true:=xZo.2 (by omega)
  have g2:leB 1 ((n::r).length:Int)=true:=xZ16.2 (by simp only [List.length_cons];omega)
  have g3:Nat.ble ((List.length (List.set (({ Kind:=k,Kids:=s.1,Lo:=0,Hi:=0,Var:=[],Type_:=[],Test:=[] }:xZ1)::s.2) 0 (xZ1.mk k (s.1+n.Kids) 0 0 [] [] []))+List.length (List.drop 1 (n::r))) * 88) 140737488355328=true:=Nat.ble_eq_true_of_le (by simp only [List.length_set,List.length_cons,List.drop_succ_cons,List.drop_zero];omega)
  simp only [show (n.Kind==k)=true by simpa using hk,cond_true,if_pos hk,g1,g2,g3,xZ1S]
  rfl
 ·have g1:i64b (s.1+1)=true:=xZo.2 (by omega)
  have g3:Nat.ble ((List.length (List.set (({ Kind:=k,Kids:=s.1,Lo:=0,Hi:=0,Var:=[],Type_:=[],Test:=[] }:xZ1)::s.2) 0 (xZ1.mk k (s.1+1) 0 0 [] [] []))+List.length (n::r)) * 88) 140737488355328=true:=Nat.ble_eq_true_of_le (by simp only [List.length_set,List.length_cons];omega)
  simp only [show (n.Kind==k)=false by simpa using hk,cond_false,if_neg hk,g1,g3,xZ1S]
  rfl
section
variable (y:List xZ0) (e:Int)
def lpS (k:Int) (sep:List UInt8) (f:Nat→RG):Nat→(Int×List xZ1)→Nat→RG
 | 0,s,j=>.inr (hdN k s,j)
 | n+1,s,j=>if isT' y j 4 sep=true then (match f (j+1) with
    | .inl x=>.inl x
    | .inr (l,j')=>lpS k sep f n (addG k s l) j') else .inr (hdN k s,j)
def lsS (k:Int) (sep:List UInt8) (f:Nat→RG) (i:Nat):RG:=match f i with
 | .inl x=>.inl x
 | .inr (l,j)=>if isT' y j 4 sep=true then lpS y k sep f (y.length - j) (addG k (0,[]) l) j else .inr (l,j)
def itS (b:Int→Nat→RG) (d:Int) (i:Nat):RG:=
 if isT' y i 4 [33]=true then atomS y e 5 (i+1)
 else if isT' y i 4 [40]=true then
  (if 16≤d then .inl (15,plc y e i) else match b (d+1) (i+1) with
    | .inl x=>.inl x
    | .inr (l,j)=>if isT' y j 4 [41]=true then oftR l (oftS y e (j+1)) else .inl (4,plc y e j))
 else match atomS y e 4 i with
  | .inl x=>.inl x
  | .inr (l,j)=>oftR l (oftS y e j)
def SB:Nat→Int→Nat→RG
 | 0=>fun _ i=>.inl (4,plc y e i)
 | n+1=>fun d i=>lsS y 2 [124] (lsS y 1 [59] (itS y e (SB n) d)) i
end
def okG (y:List xZ0) (c i:Nat):RG→Prop
 | .inl _=>True
 | .inr (l,j)=>i < j∧j≤y.length∧∃ n r,l=n::r∧l.length+c≤2 * (j - i)+1∧0≤n.Kids∧n.Kids+(c:Int)≤2 * ((j:Int) - i)+1
section
variable {y:List xZ0} {e:Int}
theorem xZiN {k:Int} {i:Nat} (hy:y.length≤700):okG y 2 i (atomS y e k i):=by
 unfold atomS
 by_cases h1:(tk y i).Kind=1
 ·rw [if_pos h1]
  by_cases h2:isT' y (i+1) 4 [58]=true
  ·rw [if_pos h2]
   by_cases h3:(tk y (i+2)).Kind=1
   ·have l3:=xZS (by decide) h3
    rw [if_pos h3]
    by_cases h4:isT' y (i+3) 4 [91]=true
    ·have l4:=xZS (by decide) (xZP h4).1
     rw [if_pos h4]
     cases hq:PAR y (i+4) e with
     | inl x=>trivial
     | inr p=>
       obtain ⟨l,j⟩:=p
       have hl:=xZmI hy (by omega) hq
       by_cases h5:isT' y j 4 [93]=true
       ·have l5:=xZS (by decide) (xZP h5).1
        simp only [if_pos h5]
        exact ⟨by omega,by omega,_,_,rfl,by simp only [List.length_singleton];omega,Int.le_refl _,by simp only;omega⟩
       ·simp only [if_neg h5];trivial
    ·rw [if_neg h4]
     exact ⟨by omega,by omega,_,_,rfl,by simp only [List.length_singleton];omega,Int.le_refl _,by simp only;omega⟩
   ·rw [if_neg h3];trivial
  ·rw [if_neg h2];trivial
 ·rw [if_neg h1];trivial
theorem xZuF {i:Nat} {o:Option (Int×Int)} {j:Nat} (h:oftS y e i=.inr (o,j)):(o=none∧j=i)∨(o≠none∧i < j∧j≤y.length):=by
 unfold oftS at h
 by_cases h1:isT' y i 4 [43]=true
 ·have:=xZS (by decide) (xZP h1).1
  rw [if_pos h1] at h;cases h;exact .inr ⟨by simp,by omega,by omega⟩
 rw [if_neg h1] at h
 by_cases h2:isT' y i 4 [42]=true
 ·have:=xZS (by decide) (xZP h2).1
  rw [if_pos h2] at h;cases h;exact .inr ⟨by simp,by omega,by omega⟩
 rw [if_neg h2] at h
 by_cases h3:isT' y i 4 [63]=true
 ·have:=xZS (by decide) (xZP h3).1
  rw [if_pos h3] at h;cases h;exact .inr ⟨by simp,by omega,by omega⟩
 rw [if_neg h3] at h
 by_cases h4:isT' y i 4 [123]=true
 ·rw [if_pos h4] at h
  unfold cntS at h
  cases hn:numS y (i+1) with
  | none=>rw [hn] at h;cases h
  | some a=>
    rw [hn] at h
    simp only at h
    by_cases g1:isT' y (i+1+1) 4 [44]=true
    ·rw [if_pos g1] at h
     by_cases g2:isT' y (i+1+2) 4 [125]=true
     ·have:=xZS (by decide) (xZP g2).1
      rw [if_pos g2] at h;cases h;exact .inr ⟨by simp,by omega,by omega⟩
     ·rw [if_neg g2] at h
      cases hm:numS y (i+1+2) with
      | none=>rw [hm] at h;cases h
      | some b=>
        rw [hm] at h
        simp only at h
        by_cases g3:isT' y (i+1+3) 4 [125]=true
        ·have:=xZS (by decide) (xZP g3).1
         rw [if_pos g3] at h;cases h;exact .inr ⟨by simp,by omega,by omega⟩
        ·rw [if_neg g3] at h;cases h
    ·rw [if_neg g1] at h
     by_cases g3:isT' y (i+1+1) 4 [125]=true
     ·have:=xZS (by decide) (xZP g3).1
      rw [if_pos g3] at h;cases h;exact .inr ⟨by simp,by omega,by omega⟩
     ·rw [if_neg g3] at h;cases h
 ·rw [if_neg h4] at h;cases h;exact .inl ⟨rfl,rfl⟩
theorem xZrz {c i j k:Nat} {l:List xZ1} (hj:i < j) (hjl:j≤y.length) (hk:j≤k) (hkl:k≤y.length) (hl:∃ n r,l=n::r∧l.length+c≤2 * (j - i)+1∧0≤n.Kids∧n.Kids+(c:Int)≤2 * ((j:Int) - i)+1) (hc:c+2≤2+2 * (k - j)+c) (h2:2≤c+2 * (k - j)):okG y 2 i (oftR l (oftS y e k)):=by
 obtain ⟨n,r,rfl,q1,q2,q3⟩:=hl
 cases h:oftS y e k with
 | inl x=>trivial
 | inr p=>
   obtain ⟨o,m⟩:=p
   rcases xZuF h with ⟨rfl,rfl⟩ | ⟨ho,h3,h4⟩
   ·exact ⟨by omega,by omega,n,r,rfl,by omega,q2,by omega⟩
   ·cases o with
    | none=>exact absurd rfl ho
    | some ab=>exact ⟨by omega,by omega,_,_,rfl,by simp only [List.length_cons] at q1 ⊢;omega,by show (0:Int)≤1;omega,by show (1:Int)+_≤_;omega⟩
theorem xZsb {b:Int→Nat→RG} {d:Int} {i:Nat} (hy:y.length≤700) (hb:¬ 16≤d→i < y.length→okG y 0 (i+1) (b (d+1) (i+1))):okG y 2 i (itS y e b d i):=by
 unfold itS
 by_cases h1:isT' y i 4 [33]=true
 ·rw [if_pos h1]
  have:=xZiN (e:=e) (k:=5) (i:=i+1) hy
  cases h:atomS y e 5 (i+1) with
  | inl x=>trivial
  | inr p=>rw [h] at this;obtain ⟨a1,a2,n,r,a3,a4,a5,a6⟩:=this;exact ⟨by omega,a2,n,r,a3,by omega,a5,by omega⟩
 rw [if_neg h1]
 by_cases h2:isT' y i 4 [40]=true
 ·have hl:=xZS (by decide) (xZP h2).1
  rw [if_pos h2]
  by_cases hd:16≤d
  ·rw [if_pos hd];trivial
  rw [if_neg hd]
  have:=hb hd hl
  cases h:b (d+1) (i+1) with
  | inl x=>trivial
  | inr p=>
    obtain ⟨l,j⟩:=p
    rw [h] at this
    obtain ⟨a1,a2,n,r,a3,a4,a5,a6⟩:=this
    by_cases h3:isT' y j 4 [41]=true
    ·have hj:=xZS (by decide) (xZP h3).1
     simp only [if_pos h3]
     have:=xZrz (y:=y) (e:=e) (c:=0) (i:=i+1) (j:=j) (k:=j+1) (l:=l) a1 a2 (by omega) (by omega) ⟨n,r,a3,a4,a5,a6⟩ (by omega) (by omega)
     cases hq:oftR l (oftS y e (j+1)) with
     | inl x=>trivial
     | inr p=>rw [hq] at this;obtain ⟨a1,a2,n,r,a3,a4,a5,a6⟩:=this;exact ⟨by omega,a2,n,r,a3,by omega,a5,by omega⟩
    ·simp only [if_neg h3];trivial
 ·rw [if_neg h2]
  have:=xZiN (e:=e) (k:=4) (i:=i) hy
  cases h:atomS y e 4 i with
  | inl x=>trivial
  | inr p=>
    obtain ⟨l,j⟩:=p
    rw [h] at this
    obtain ⟨a1,a2,a3⟩:=this
    exact xZrz a1 a2 (Nat.le_refl _) a2 a3 (by omega) (by omega)
def okL1 (c i j:Nat) (s:Int×List xZ1):Prop:=s.2.length+1+c≤2 * (j - i)+1∧0≤s.1∧s.1+(c:Int)≤2 * ((j:Int) - i)+1
theorem xZrc {c i j m:Nat} {k:Int} {s:Int×List xZ1} {n:xZ1} {r:List xZ1} (hs:okL1 c i j s) (hij:i < j) (hj:j+1 < m) (h1:(n::r).length+(c+1)≤2 * (m - (j+1))+1) (h2:0≤n.Kids) (h3:n.Kids+((c+1:Nat):Int)≤2 * ((m:Int) - ((j+1:Nat):Int))+1):okL1 c i m (addG k s (n::r)):=by
 obtain ⟨a1,a2,a3⟩:=hs
 simp only [List.length_cons] at h1
 by_cases hk:n.Kind=k
 ·simp only [addG,if_pos hk,okL1,List.length_append];exact ⟨by omega,by omega,by omega⟩
 ·simp only [addG,if_neg hk,okL1,List.length_append,List.length_cons];exact ⟨by omega,by omega,by omega⟩
theorem xZp6 {c i j:Nat} {k:Int} {n:xZ1} {r:List xZ1} (hc:c≤1) (hij:i < j) (h1:(n::r).length+(c+1)≤2 * (j - i)+1) (h2:0≤n.Kids) (h3:n.Kids+((c+1:Nat):Int)≤2 * ((j:Int) - (i:Int))+1):okL1 c i j (addG k (0,[]) (n::r)):=by
 simp only [List.length_cons] at h1
 by_cases hk:n.Kind=k
 ·simp only [addG,if_pos hk,okL1,List.nil_append];exact ⟨by omega,by omega,by omega⟩
 ·simp only [addG,if_neg hk,okL1,List.nil_append,List.length_cons];exact ⟨by omega,by omega,by omega⟩
theorem xZuX {k:Int} {sep:List UInt8} {f:Nat→RG} {c i:Nat} (hf:∀ j,j≤y.length→okG y (c+1) j (f j)):∀ (n:Nat) (s:Int×List xZ1) (j:Nat),i < j→j≤y.length→okL1 c i j s→okG y c i (lpS y k sep f n s j)
 | 0,s,j,h1,h2,h3=>⟨h1,h2,_,_,rfl,by simp only [hdN,List.length_cons];exact h3.1,h3.2⟩
 | n+1,s,j,h1,h2,h3=>by
   unfold lpS
   by_cases hs:isT' y j 4 sep=true
   ·have hj:=xZS (by decide) (xZP hs).1
    rw [if_pos hs]
    have:=hf (j+1) (by omega)
    cases h:f (j+1) with
    | inl x=>trivial
    | inr p=>
      obtain ⟨l,m⟩:=p
      rw [h] at this
      obtain ⟨a1,a2,n',r,rfl,a4,a5,a6⟩:=this
      exact xZuX hf n _ m (by omega) a2 (xZrc h3 h1 (by omega) a4 a5 a6)
   ·rw [if_neg hs]
    exact ⟨h1,h2,_,_,rfl,by simp only [hdN,List.length_cons];exact h3.1,h3.2⟩
theorem xZqx {k:Int} {sep:List UInt8} {f:Nat→RG} {c i:Nat} (hc:c≤1) (hf:∀ j,j≤y.length→okG y (c+1) j (f j)) (hi:i≤y.length):okG y c i (lsS y k sep f i):=by
 have:=hf i hi
 unfold lsS
 cases h:f i with
 | inl x=>trivial
 | inr p=>
   obtain ⟨l,j⟩:=p
   rw [h] at this
   obtain ⟨a1,a2,n,r,rfl,a4,a5,a6⟩:=this
   by_cases hs:isT' y j 4 sep=true
   ·simp only [if_pos hs]
    exact xZuX hf _ _ j a1 a2 (xZp6 hc a1 a4 a5 a6)
   ·simp only [if_neg hs]
    exact ⟨a1,a2,n,r,rfl,by omega,a5,by omega⟩
theorem SB_ok (hy:y.length≤700):∀ (n:Nat) (d:Int) (i:Nat),0≤d→d≤16→17 - d≤n→i≤y.length→okG y 0 i (SB y e n d i)
 | 0,d,i,h1,h2,h3,h4=>by omega
 | n+1,d,i,h1,h2,h3,h4=>
   xZqx (by omega) (fun j hj=>xZqx (Nat.le_refl _) (fun m hm=>xZsb hy fun hd hl=>SB_ok hy n (d+1) (m+1) (by omega) (by omega) (by omega) hl) hj) h4
end
end
theorem xZp1 {y:List xZ0} {k:Int} {sep:List UInt8} {f:Nat→RG} {s:Int×List xZ1} {j:Nat} (h:¬ isT' y j 4 sep=true):∀ n,lpS y k sep f n s j=.inr (hdN k s,j)
 | 0=>rfl
 | n+1=>by rw [lpS,if_neg h]
theorem xZt5 {y:List xZ0} {e:Int} (hy:y.length≤700) {k:Int} {sep:List UInt8} {f:Nat→RG} {g:Nat→List xZ0→Int→Int→Option RGp}
 {F0:Nat→(List xZ0→Int→Int→Int→List xZ1→Option RGp)→List xZ0→Int→Int→Int→List xZ1→Option RGp} {c:Nat} (hc:c≤1)
 (hg:∀ j:Nat,j≤y.length→okG y (c+1) j (f j)∧W (fun N=>g N y j e) (EN y e (f j)))
 (hF:∀ N nx y4 y5 y6 y7 ys,F0 N nx y4 y5 y6 y7 ys=(xZc N 4 sep y4 y5 y6).bind fun eat=>bif eat.1 then (g N eat.2.1 eat.2.2.1 eat.2.2.2).bind fun x=>Sum.elim (fun b=>(xZh N b.1 y7 ys).bind fun l2=>nx b.2.1 b.2.2.1 b.2.2.2 l2.1 l2.2) (fun b=>some (Sum.inr (b.1,b.2.1,b.2.2.1,b.2.2.2.1,b.2.2.2.2))) x else some (Sum.inl (ys,eat.2.1,eat.2.2.1,eat.2.2.2)))
 {i:Nat} (hi:i≤y.length):
 W (fun N=>(g N y i e).bind fun x=>Sum.elim (fun item=>(xZs N 4 sep item.2.1 item.2.2.1 item.2.2.2).bind fun peek=>bif (!peek.1) then some (Sum.inl (item.1,peek.2.1,peek.2.2.1,peek.2.2.2)) else (xZh N item.1 k [(xZ1.mk k 0 0 0 [] [] [])]).bind fun l=>lp5 (F0 N) N peek.2.1 peek.2.2.1 peek.2.2.2 l.1 l.2) (fun b=>some (Sum.inr (b.1,b.2.1,b.2.2.1,b.2.2.2.1,b.2.2.2.2))) x) (EN y e (lsS y k sep f i)):=by
 obtain ⟨ok,hw⟩:=hg i hi
 refine W.bind hw fun r hr=>?_
 unfold lsS
 cases h:f i with
 | inl x=>
   obtain ⟨a,b⟩:=x
   rw [h] at hr
   obtain ⟨j,rfl⟩:=hr
   simp only [Sum.elim_inr,W.ret]
   exact ⟨_,rfl⟩
 | inr p=>
   obtain ⟨l,j⟩:=p
   rw [h] at hr ok
   obtain ⟨a1,a2,n,r',rfl,a4,a5,a6⟩:=ok
   have hr:r=.inl (n::r',y,(j:Int),e):=hr
   subst hr
   simp only [Sum.elim_inl,xZhE (show (4:Int)≠0 by decide),Option.bind_some]
   by_cases hs:isT' y j 4 sep=true
   ·have hj:=xZS (by decide) (xZP hs).1
    have l1:∀ N,xZh N (n::r') k [(xZ1.mk k 0 0 0 [] [] [])]=some (k,hdN k (addG k (0,[]) (n::r'))):=fun N=>l1_eq (s:=(0,[])) (by simp) (by omega) (by simp) (by simp only [List.length_cons] at a4;omega)
    simp only [hs,Bool.not_true,cond_false,if_true,l1,Option.bind_some]
    have hok:=xZp6 (k:=k) hc a1 a4 a5 a6
    refine W.lp5 (P:=fun v0 v1 v2 v3 v4=>v0=y∧v2=e∧v3=k∧∃ (m j':Nat) (s:Int×List xZ1),v1=(j':Int)∧v4=hdN k s∧i < j'∧j'≤y.length∧y.length - j'≤m∧okL1 c i j' s∧lpS y k sep f m s j'=lpS y k sep f (y.length - j) (addG k (0,[]) (n::r')) j) (m:=fun _ v1 _ _ _=>y.length - v1.toNat)
     ⟨rfl,rfl,rfl,_,j,_,rfl,rfl,a1,a2,Nat.le_refl _,hok,rfl⟩ ?_
    rintro F v0 v1 v2 v3 v4 ⟨rfl,rfl,rfl,m,j',s,rfl,rfl,b1,b2,b3,b4,b5⟩ hn
    simp only [hF,xZbl (show (4:Int)≠0 by decide) _ (show j'≤1000000 by omega),Option.bind_some]
    rw [← b5]
    by_cases ht:isT' v0 j' 4 sep=true
    ·have hj':=xZS (by decide) (xZP ht).1
     simp only [if_pos ht,cond_true]
     obtain ⟨m,rfl⟩:∃ q,m=q+1:=⟨m - 1,by omega⟩
     obtain ⟨ok2,hw2⟩:=hg (j'+1) (by omega)
     refine W.bind (W.lift hw2) fun r2 hr2=>?_
     rw [lpS,if_pos ht]
     cases h2:f (j'+1) with
     | inl x=>
       obtain ⟨a,b⟩:=x
       rw [h2] at hr2
       obtain ⟨q,rfl⟩:=hr2
       simp only [Sum.elim_inr,W.ret]
       exact ⟨_,rfl⟩
     | inr p=>
       obtain ⟨l2,j2⟩:=p
       rw [h2] at hr2 ok2
       obtain ⟨d1,d2,n2,r2',rfl,d4,d5,d6⟩:=ok2
       have hr2:r2=.inl (n2::r2',v0,(j2:Int),v2):=hr2
       subst hr2
       obtain ⟨o1,o2,o3⟩:=b4
       have l2:∀ N,xZh N (n2::r2') v3 (hdN v3 s)=some (v3,hdN v3 (addG v3 s (n2::r2'))):=fun N=>l1_eq (by omega) (by omega) (by omega) (by simp only [List.length_cons] at d4;omega)
       simp only [Sum.elim_inl,l2,Option.bind_some]
       have e1:lpS v0 v3 sep f m (addG v3 s (n2::r2')) j2=lpS v0 v3 sep f (v0.length - j) (addG v3 (0,[]) (n::r')) j:=by
        rw [← b5]
        show _=lpS v0 v3 sep f (m+1) s j'
        rw [lpS,if_pos ht,h2]
       show W _ (EN v0 v2 (lpS v0 v3 sep f m (addG v3 s (n2::r2')) j2))
       rw [e1]
       exact hn _ _ _ _ _ ⟨rfl,rfl,rfl,m,j2,_,rfl,rfl,by omega,d2,by omega,xZrc (k:=v3) ⟨o1,o2,o3⟩ b1 (by omega) d4 d5 d6,e1⟩ (by simp only [Int.toNat_natCast];omega)
    ·have ht':isT' v0 j' 4 sep=false:=by simpa using ht
     simp only [ht',Bool.false_eq_true,if_false,cond_false,W.ret,xZp1 ht]
     rfl
   ·have hs':isT' y j 4 sep=false:=by simpa using hs
    simp only [hs',Bool.not_false,cond_true,W.ret,Bool.false_eq_true,if_false]
    rfl
theorem xZvM {y:List xZ0} {e:Int} (hy:y.length≤700) {b:Int→Nat→RG} {d:Int} {i:Nat} (h0:0≤d) (h16:d≤16) (hi:i≤y.length)
 (hb:d < 16→∀ j:Nat,j≤y.length→okG y 0 j (b (d+1) j)∧W (fun N=>(xZa N).1 (d+1) y j e) (EN y e (b (d+1) j))):
 W (fun N=>xZ2Y N (xZa N) d y i e) (EN y e (itS y e b d i)):=by
 simp only [xZ2Y,xZbl (y:=y) (i:=i) (e:=e) (show (4:Int)≠0 by decide) _ (show i≤1000000 by omega),Option.bind_some]
 unfold itS
 by_cases h1:isT' y i 4 [33]=true
 ·have l1:=xZS (by decide) (xZP h1).1
  simp only [if_pos h1,cond_true]
  refine W.call (xZui (k:=5) (i:=i+1) hy l1) fun r hr=>?_
  cases h:atomS y e 5 (i+1) with
  | inl x=>obtain ⟨a,b⟩:=x;rw [h] at hr;obtain ⟨j,rfl⟩:=hr;simp only [Sum.elim_inr,W.ret];exact ⟨_,rfl⟩
  | inr x=>obtain ⟨l,j⟩:=x;rw [h] at hr;have hr:r=.inl (l,y,(j:Int),e):=hr;subst hr;simp only [Sum.elim_inl,W.ret];rfl
 have h1':isT' y i 4 [33]=false:=by simpa using h1
 simp only [h1',Bool.false_eq_true,if_false,cond_false,xZhE (y:=y) (i:=i) (e:=e) (show (4:Int)≠0 by decide),Option.bind_some]
 by_cases h2:isT' y i 4 [40]=true
 ·have l2:=xZS (by decide) (xZP h2).1
  simp only [h2,Bool.not_true,cond_false,if_true]
  by_cases hd:16≤d
  ·simp only [show leB 16 d=true from xZ16.2 hd,cond_true,if_pos hd,xZdj (y:=y) (i:=i) (e:=e) (show (15:Int)≠0 by decide),Option.bind_some,Sum.elim_inr,W.ret]
   exact ⟨_,rfl⟩
  ·have hd':leB 16 d=false:=by rw [xZ5b];simpa using hd
   simp only [hd',cond_false,if_neg hd,W.gd,xZo]
   refine ⟨by omega,by omega,?_⟩
   obtain ⟨ok,hw⟩:=hb (by omega) (i+1) l2
   have hw:W (fun N=>(xZa N).1 (d+1) y ((i:Int)+1) e) (EN y e (b (d+1) (i+1))):=by
    have e1:((i+1:Nat):Int)=(i:Int)+1:=by omega
    rwa [e1] at hw
   refine W.bind hw fun r hr=>?_
   cases h:b (d+1) (i+1) with
   | inl x=>obtain ⟨a,b⟩:=x;rw [h] at hr;obtain ⟨j,rfl⟩:=hr;simp only [Sum.elim_inr,W.ret];exact ⟨_,rfl⟩
   | inr x=>
     obtain ⟨l,j⟩:=x
     rw [h] at hr ok
     obtain ⟨a1,a2,n,r',rfl,a4,a5,a6⟩:=ok
     have hr:r=.inl (n::r',y,(j:Int),e):=hr
     subst hr
     simp only [Sum.elim_inl,xZdm (y:=y) (i:=j) (e:=e) (show (4:Int)≠0 by decide) _ (show j≤1000000 by omega),Option.bind_some]
     by_cases h3:isT' y j 4 [41]=true
     ·simp only [if_pos h3,Sum.elim_inl]
      refine W.call (xZrv (y:=y) (e:=e) (i:=j+1) (part:=n::r') (by omega) (by omega)) fun r2 hr2=>?_
      cases hq:oftR (n::r') (oftS y e (j+1)) with
      | inl x=>obtain ⟨a,b⟩:=x;rw [hq] at hr2;obtain ⟨q,rfl⟩:=hr2;simp only [Sum.elim_inr,W.ret];exact ⟨_,rfl⟩
      | inr x=>obtain ⟨l,q⟩:=x;rw [hq] at hr2;have hr2:r2=.inl (l,y,(q:Int),e):=hr2;subst hr2;simp only [Sum.elim_inl,W.ret];rfl
     ·simp only [if_neg h3,Sum.elim_inr,W.ret];exact ⟨_,rfl⟩
 ·have h2':isT' y i 4 [40]=false:=by simpa using h2
  simp only [h2',Bool.not_false,cond_true,Bool.false_eq_true,if_false]
  have ok:=xZiN (e:=e) (k:=4) (i:=i) hy
  refine W.call (xZui (k:=4) (i:=i) hy hi) fun r hr=>?_
  cases h:atomS y e 4 i with
  | inl x=>obtain ⟨a,b⟩:=x;rw [h] at hr;obtain ⟨j,rfl⟩:=hr;simp only [Sum.elim_inr,W.ret];exact ⟨_,rfl⟩
  | inr x=>
    obtain ⟨l,j⟩:=x
    rw [h] at hr ok
    obtain ⟨a1,a2,n,r',rfl,a4,a5,a6⟩:=ok
    have hr:r=.inl (n::r',y,(j:Int),e):=hr
    subst hr
    simp only [Sum.elim_inl]
    refine W.call (xZrv (y:=y) (e:=e) (i:=j) (part:=n::r') (by omega) (by omega)) fun r2 hr2=>?_
    cases hq:oftR (n::r') (oftS y e j) with
    | inl x=>obtain ⟨a,b⟩:=x;rw [hq] at hr2;obtain ⟨q,rfl⟩:=hr2;simp only [Sum.elim_inr,W.ret];exact ⟨_,rfl⟩
    | inr x=>obtain ⟨l,q⟩:=x;rw [hq] at hr2;have hr2:r2=.inl (l,y,(q:Int),e):=hr2;subst hr2;simp only [Sum.elim_inl,W.ret];rfl
theorem xZuC {f:Nat→Option RGp} {Q:RGp→Prop} (h:W f Q):W (fun N=>(f N).bind fun x=>Sum.elim (fun list=>some (Sum.inl (list.1,list.2.1,list.2.2.1,list.2.2.2))) (fun list2=>some (Sum.inr (list2.1,list2.2.1,list2.2.2.1,list2.2.2.2.1,list2.2.2.2.2))) x) Q:=
 W.bind h fun r hr=>by
  cases r<;>simp only [Sum.elim_inl,Sum.elim_inr,W.ret]<;>exact hr
theorem g_all {y:List xZ0} {e:Int} (hy:y.length≤700):∀ (n:Nat) (d:Int) (i:Nat),0≤d→d≤16→17 - d≤n→i≤y.length→
 W (fun N=>(xZa N).1 d y i e) (EN y e (SB y e n d i))
 | 0,d,i,h1,h2,h3,h4=>by omega
 | n+1,d,i,h1,h2,h3,h4=>by
   have hit:=fun (j:Nat) (hj:j≤y.length)=>And.intro (xZsb (y:=y) (e:=e) (b:=SB y e n) (d:=d) (i:=j) hy fun hd hl=>SB_ok hy n (d+1) (j+1) (by omega) (by omega) (by omega) hl)
    (W.shift (f:=fun N=>(xZa N).2.2.2.2 d y j e) (xZvM hy (b:=SB y e n) h1 h2 hj fun hd m hm=>⟨SB_ok hy n (d+1) m (by omega) (by omega) (by omega) hm,g_all hy n (d+1) m (by omega) (by omega) (by omega) hm⟩))
   have hl1:=fun (j:Nat) (hj:j≤y.length)=>W.shift (f:=fun N=>(xZa N).2.2.2.1 1 [59] d y j e) (xZt5 hy (k:=1) (sep:=[59]) (g:=fun N y' i' e'=>(xZa N).2.2.2.2 d y' i' e') (F0:=fun N=>xZ2l N (xZa N) [59] d) (Nat.le_refl _) hit (fun N nx y4 y5 y6 y7 ys=>rfl) hj)
   have hbr:=fun (j:Nat) (hj:j≤y.length)=>And.intro (xZqx (k:=1) (sep:=[59]) (c:=1) (Nat.le_refl _) (fun m hm=>(hit m hm).1) hj) (W.shift (f:=fun N=>(xZa N).2.2.1 d y j e) (xZuC (hl1 j hj)))
   have hl2:=W.shift (f:=fun N=>(xZa N).2.1 2 [124] d y i e) (xZt5 hy (k:=2) (sep:=[124]) (g:=fun N y' i' e'=>(xZa N).2.2.1 d y' i' e') (F0:=fun N=>xZ2i N (xZa N) [124] d) (c:=0) (Nat.zero_le _) hbr (fun N nx y4 y5 y6 y7 ys=>rfl) h4)
   exact W.shift (f:=fun N=>(xZa N).1 d y i e) (xZuC hl2)
theorem xZsj {y:List xZ0} {b:Nat} {e:Int} (hy:y.length≤700) (hb:b≤y.length) (ht:okT y):W (fun N=>xZ4I N y b e) (·=match PAR y b e with
 | .inl (c,a)=>([],0,⟨c,a⟩)
 | .inr (l,j)=>(l,(j:Int),⟨0,0⟩)):=by
 have hpl:∀ N,xZ4O N ⟨y,b,e,⟨0,0⟩⟩=some (plc y e b):=fun N=>xZmU (i:=b)
 simp only [xZ4I,show ltB (b:Int) 0=false from xZL.2 (by omega),cond_false,show ltB (y.length:Int) b=false from xZL.2 (by omega),hpl,Option.bind_some]
 obtain ⟨ok,hw⟩:=(r_all (e:=e) hy 51).1 0 b (by omega) (by omega) (by omega) (by omega)
 have hl:=(SPP_l ht 51).1 0 b
 refine W.bind (show W (fun N=>xZgn N ⟨y,b,e,⟨0,0⟩⟩ 0) _ from hw) fun u hu=>?_
 unfold PAR
 cases h:(SPP y 51).1 0 b with
 | inl x=>
   rw [h] at ok hu
   have hc:x.1≠0:=ok.1
   obtain ⟨k,hu2,_⟩:=hu
   rw [hu2]
   simp only [show ((fS y e x.1 x.2 k).F.E != 0)=true by simpa [fS] using hc,cond_true,W.ret];rfl
 | inr p=>
   rw [h] at hu hl
   obtain rfl:u=(p.1,oS y e p.2):=hu
   simp only [show ((oS y e p.2).F.E != 0)=false from rfl,cond_false]
   refine W.call (xZpR p.1 hl) ?_
   rintro _ rfl
   by_cases hz:chk p.1=0
   ·simp only [hz,show ((0:Int) != 0)=false from rfl,cond_false,W.ret,if_true];rfl
   ·simp only [show (chk p.1 != 0)=true by simpa using hz,cond_true,W.ret,if_neg hz]
structure Dl (d:UInt8):Prop where
 T:isT d=false
 D:isD d=false
 H:hx d=none
 e61:d≠61
 e39:d≠39
def Asc (hi:Nat):Nat→List xZ0→Prop
 | _,[]=>True
 | lo,t::l=>∃ a:Nat,t.At=(a:Int)∧lo≤a∧a < hi∧Asc hi (a+1) l
theorem Asc.le {hi:Nat}:∀ {l:List xZ0} {lo lo':Nat},lo'≤lo→Asc hi lo l→Asc hi lo' l
 | [],_,_,_,_=>trivial
 | t::l,lo,lo',h,⟨a,h1,h2,h3,h4⟩=>⟨a,h1,by omega,h3,h4⟩
theorem Asc.mem {hi:Nat}:∀ {l:List xZ0} {lo:Nat},Asc hi lo l→∀ t∈l,0≤t.At∧t.At < (hi:Int)
 | t::l,lo,⟨a,h1,h2,h3,h4⟩,x,hx=>by
   rcases List.mem_cons.1 hx with rfl | hx
   ·omega
   ·exact Asc.mem h4 x hx
def sh (q:Nat) (t:xZ0):xZ0:=⟨t.Kind,t.At+(q:Int),t.Text,t.Val⟩
inductive TU where
 | own (n:List UInt8)
 | of (v n:List UInt8)
 | lit (v:xZ4)
inductive TS where
 | u (a:TU)
 | op (k:Bool) (s:TS) (a:TU)
inductive TT where
 | or (a b:TT)
 | and (a b:TT)
 | not (a:TT)
 | test (o:Int) (a b:TS)
def TU.nd:TU→xZ2
 | .own n=>⟨7,0,[],n,zv⟩
 | .of v n=>⟨8,0,v,n,zv⟩
 | .lit v=>⟨9,0,[],[],v⟩
def TS.fl:TS→List xZ2
 | .u a=>[a.nd]
 | .op k s a=>bn (if k then 6 else 5)::(s.fl++[a.nd])
def TT.fl:TT→List xZ2
 | .or a b=>bn 2::(a.fl++b.fl)
 | .and a b=>bn 1::(a.fl++b.fl)
 | .not a=>bn 3::a.fl
 | .test o a b=>⟨4,o,[],[],zv⟩::(a.fl++b.fl)
def TU.ok:TU→Prop
 | .own n=>nm n=true
 | .of v n=>nm v=true∧nm n=true
 | .lit v=>vchk v=0∧0≤v.Bits∧v.Bits < 18446744073709551616
def TS.ok:TS→Prop
 | .u a=>a.ok
 | .op _ s a=>s.ok∧a.ok
def TT.ok:TT→Prop
 | .or a b=>a.ok∧b.ok
 | .and a b=>a.ok∧b.ok
 | .not a=>a.ok
 | .test o a b=>1≤o∧o≤6∧a.ok∧b.ok
def TT.ht:TT→Nat
 | .or a b=>1+max a.ht b.ht
 | .and a b=>1+max a.ht b.ht
 | .not a=>1+a.ht
 | .test _ _ _=>1
theorem kids2 {p:TF} {k d:Int} {i j:Nat} (hk:kdN k=2) (h:kids p k d i=(0,j)):∃ m,p (kdW k 0) (d+1) i=(0,m)∧p (kdW k 1) (d+1) m=(0,j):=by
 rw [kids,if_neg (by omega)] at h
 by_cases h0:(p (kdW k 0) (d+1) i).1≠0
 ·rw [if_pos (.inl h0)] at h;rw [h] at h0;exact absurd rfl h0
 ·rw [if_neg (by intro q;rcases q with q | q<;>omega)] at h
  exact ⟨_,Prod.ext (by simpa using h0) rfl,h⟩
abbrev Tk:=Int×List UInt8×xZ4
def ke (t:xZ0):Tk:=(t.Kind,t.Text,t.Val)
def sg (s:List UInt8):Tk:=(4,s,zv)
def kw (s:List UInt8):Tk:=(2,s,zv)
def M (y:List xZ0):Nat→List Tk→Prop
 | _,[]=>True
 | i,t::ts=>ke (tk y i)=t∧M y (i+1) ts
def TU.tk:TU→List Tk
 | .own n=>[(1,n,zv)]
 | .of v n=>[(1,v,zv),sg [46],(1,n,zv)]
 | .lit v=>if v.Kind=1∧v.N < 0 then [sg [45],(3,[],⟨1,-v.N,0,[]⟩)] else [(3,[],v)]
def TS.tk:TS→List Tk
 | .u a=>a.tk
 | .op k s a=>s.tk++sg (if k then [45] else [43])::a.tk
def TT.bd:TT→Nat
 | .or _ _=>1
 | .and _ _=>2
 | _=>3
def brk (c:Bool) (l:List Tk):List Tk:=if c then sg [40]::(l++[sg [41]]) else l
def TT.tk:TT→List Tk
 | .or a b=>brk (decide (a.bd < 1)) a.tk++kw [111,114]::brk (decide (b.bd < 2)) b.tk
 | .and a b=>brk (decide (a.bd < 2)) a.tk++kw [97,110,100]::brk (decide (b.bd < 3)) b.tk
 | .not a=>kw [110,111,116]::brk (decide (a.bd < 3)) a.tk
 | .test o a b=>a.tk++sg (sgV o)::b.tk
def an:List UInt8:=[97,110,100]
section
section
variable {l:List xZ2}
end
end
def Hd (b:List UInt8):Prop:=∃ d r,b=d::r∧Dl d
def Fd (b:List UInt8):Prop:=b=[]∨Hd b
def CutX (f:List UInt8→Prop) (w:List UInt8) (ts:List Tk):Prop:=∀ rest p (out:List xZ0),f rest→out.length≤200→(out.length+ts.length≤200→∃ ms,ms.map ke=ts∧scanR (w++rest) p out=scanR rest (p+w.length) (out++ms))∧(200 < out.length+ts.length→∃ a,scanR (w++rest) p out=.inr (7,a))
abbrev Cut:=CutX Fd
abbrev Cut':=CutX fun _=>True
theorem Cut'.sc {w:List UInt8} {ts:List Tk} (h:Cut' w ts):Cut w ts:=fun rest p out _ h2=>h rest p out trivial h2
section
inductive GT where
 | leaf (neg:Bool) (v t:List UInt8) (o:Option TT)
 | rep (lo hi:Int) (a:GT)
 | lst (alt:Bool) (bs:List GT)
def kA (alt:Bool):Int:=if alt then 2 else 1
def kL (neg:Bool):Int:=if neg then 5 else 4
def oT:Option TT→List xZ2
 | none=>[]
 | some t=>t.fl
def oK:Option TT→Prop
 | none=>True
 | some t=>t.ok∧t.ht≤16∧t.fl.length≤30∧chk t.fl=0
mutual
def GT.fl:GT→List xZ1
 | .leaf neg v t o=>[⟨kL neg,0,0,0,v,t,oT o⟩]
 | .rep lo hi a=>⟨3,1,lo,hi,[],[],[]⟩::GT.fl a
 | .lst alt bs=>⟨kA alt,(bs.length:Int),0,0,[],[],[]⟩::GT.fls bs
def GT.fls:List GT→List xZ1
 | []=>[]
 | a::r=>GT.fl a++GT.fls r
end
mutual
def GT.ok:GT→Int→Prop
 | .leaf neg v t o,w=>(neg=true→w≠3)∧nm v=true∧nm t=true∧oK o
 | .rep lo hi a,w=>(0≤lo∧lo≤8∧0≤hi∧hi≤8∧¬ (lo=1∧hi=1)∧(hi=0∨lo≤hi))∧GT.ok a 3
 | .lst alt bs,w=>kA alt≠w∧2≤bs.length∧bs.length≤40∧GT.oks bs (kA alt)
def GT.oks:List GT→Int→Prop
 | [],_=>True
 | a::r,w=>GT.ok a w∧GT.oks r w
end
mutual
def GT.dp:GT→Nat
 | .leaf ..=>1
 | .rep _ _ a=>GT.dp a+1
 | .lst _ bs=>GT.dps bs+1
def GT.dps:List GT→Nat
 | []=>0
 | a::r=>max (GT.dp a) (GT.dps r)
end
section
variable (n:xZ1)
def isLs:Bool:=n.Kind==1 || n.Kind==2
theorem e_ls (N:Nat):xZ2H N n=some (isLs n):=by
 simp only [xZ2H,isLs];cases n.Kind==1<;>rfl
def stG (w:Int):Bool:=!(ltB n.Kind 1)&&(!(ltB 5 n.Kind)&&(if isLs n=true then n.Kind != w else (n.Kind != 5 || w != 3)))
theorem e_stG (w:Int) (N:Nat):xZ3y N n w=some (stG n w):=by
 simp only [xZ3y,e_ls,Option.bind_some,stG]
 cases ltB n.Kind 1<;>cases ltB 5 n.Kind<;>cases isLs n<;>simp
 cases h:(n.Kind != 5)<;>simp_all
def ofG:Bool:=!(ltB n.Lo 0)&&(!(ltB 8 n.Lo)&&(!(ltB n.Hi 0)&&(!(ltB 8 n.Hi)&&(!((n.Lo==1)&&(n.Hi==1))&&((n.Hi==0) || leB n.Lo n.Hi)))))
theorem e_ofG (N:Nat):xZ3Y N n=some (ofG n):=by
 simp only [xZ3Y,ofG]
 cases ltB n.Lo 0<;>cases ltB 8 n.Lo<;>cases ltB n.Hi 0<;>cases ltB 8 n.Hi<;>cases n.Lo==1<;>cases n.Hi==1<;>cases n.Hi==0<;>rfl
def lkG:Bool:=if isLs n=true then (ltB n.Kids 2 || ltB 40 n.Kids) else if n.Kind=3 then (n.Kids != 1 || !ofG n) else (!nm n.Var || (!nm n.Type_ || chk n.Test != 0))
theorem w_lkG:W (fun N=>xZ3W N n) (·=lkG n):=by
 simp only [xZ3W,e_ls,Option.bind_some,e_ofG,lkG]
 cases h:isLs n
 ·simp only [cond_false,Bool.false_eq_true,if_false]
  by_cases h3:n.Kind=3
  ·simp only [h3,beq_self_eq_true,cond_true,if_true]
   cases n.Kids != 1<;>simp [W.ret]
  ·simp only [show (n.Kind==3)=false by simpa using h3,cond_false,if_neg h3]
   refine W.call (xZ4R _) ?_
   rintro _ rfl
   cases nm n.Var
   ·simp [W.ret]
   ·simp only [Bool.not_true,cond_false,Bool.false_or]
    refine W.call (xZ4R _) ?_
    rintro _ rfl
    cases nm n.Type_
    ·simp [W.ret]
    ·simp only [Bool.not_true,cond_false,Bool.false_or]
     refine W.call (xZr9 _) ?_
     rintro _ rfl
     simp only [W.ret]
 ·simp only [cond_true,if_true]
  cases ltB n.Kids 2<;>simp [W.ret]
def lfG:Bool:=n.Kind==4 || n.Kind==5
theorem e_lf (N:Nat):xZ17 N n=some (lfG n):=by
 simp only [xZ17,lfG];cases n.Kind==4<;>rfl
def moG:Bool:=if lfG n=true then (n.Lo != 0 || n.Hi != 0 || n.Kids != 0) else ((!(n.Var==[]) || !(n.Type_==[]) || ltB 0 (n.Test.length:Int)) || (n.Lo != 0 || n.Hi != 0)&&n.Kind != 3)
theorem e_moG (N:Nat):xZ4t N n=some (moG n):=by
 simp only [xZ4t,e_lf,Option.bind_some,moG]
 cases n.Lo != 0<;>cases n.Hi != 0<;>cases n.Var==[]<;>cases n.Type_==[]<;>cases lfG n<;>cases ltB 0 (n.Test.length:Int)<;>rfl
def kdG:Int:=if isLs n=true then max 0 (min n.Kids 40) else if n.Kind=3 then 1 else 0
theorem e_kdG (N:Nat):xZ2F N n=some (kdG n):=by
 simp only [xZ2F,e_ls,Option.bind_some,kdG]
 cases isLs n
 ·by_cases h:n.Kind=3
  ·simp [h]
  ·simp [h,show (n.Kind==3)=false by simpa using h]
 ·simp
end
abbrev TGF:=List xZ1→Int→Int→List xZ1×Int
def kidsG (f:List xZ1→List xZ1×Int):Nat→List xZ1→List xZ1×Int
 | 0,r=>(r,0)
 | k+1,r=>if (f r).2=0 then kidsG f k (f r).1 else ([],(f r).2)
def TG:Nat→TGF
 | 0=>fun _ _ _=>([],15)
 | n+1=>fun l w d=>match l with
   | []=>([],3)
   | e::r=>if 16≤d then ([],15) else if stG e w=false then ([],11) else if lkG e=true then ([],4) else if moG e=true then ([],2) else kidsG (fun r=>TG n r e.Kind (d+1)) (kdG e).toNat r
theorem xZts (e:xZ1):0≤kdG e∧kdG e≤40:=by
 unfold kdG
 split
 ·omega
 ·split<;>omega
theorem xZry:∀ (n:Nat) (l:List xZ1) (w d:Int),0≤d→d≤16→17 - d≤n→W (fun N=>(xZ7X N) l w d) (·=TG n l w d)
 | 0,l,w,d,h1,h2,h3=>by omega
 | n+1,l,w,d,h1,h2,h3=>by
   refine W.shift ?_
   show W (fun N=>xZd5 N (xZ7X N) l w d) _
   cases l with
   | nil=>exact wall fun _=>rfl
   | cons e r=>
     have e0:ix (e::r) 0=some e:=rfl
     have el:((List.length (e::r):Int)==0)=false:=by simp only [List.length_cons];simpa using (by omega:¬ ((r.length:Int)+1=0))
     have eg:leB 1 (List.length (e::r):Int)=true:=xZ16.2 (by simp only [List.length_cons];omega)
     simp only [xZd5,el,cond_false,e0,Option.bind_some,e_stG,e_moG,e_kdG,eg,xZ1S,TG]
     by_cases hd:16≤d
     ·simp only [show leB 16 d=true from xZ16.2 hd,cond_true,if_pos hd,W.ret]
     have hd':leB 16 d=false:=by rw [xZ5b];simpa using hd
     simp only [hd',cond_false,if_neg hd]
     cases hs:stG e w
     ·simp [W.ret]
     simp only [Bool.not_true,cond_false,Bool.true_eq_false,if_false]
     refine W.call (w_lkG e) ?_
     rintro _ rfl
     cases hk:lkG e
     rotate_left
     ·simp [W.ret]
     simp only [cond_false,Bool.false_eq_true,if_false]
     cases hm:moG e
     rotate_left
     ·simp [W.ret]
     simp only [cond_false,Bool.false_eq_true,if_false]
     obtain ⟨k0,k1⟩:=xZts e
     refine W.lp2 (P:=fun rest x=>0≤x∧x≤kdG e∧kidsG (fun r=>TG n r e.Kind (d+1)) (kdG e - x).toNat rest=kidsG (fun r=>TG n r e.Kind (d+1)) (kdG e).toNat r) (m:=fun _ x=>(kdG e - x).toNat) ⟨by omega,by omega,by simp⟩ ?_
     rintro F rest x ⟨x0,x1,x2⟩ hn
     simp only [xZ9J]
     by_cases hx:x < kdG e
     ·obtain ⟨m,hm⟩:∃ m,(kdG e - x).toNat=m+1:=⟨(kdG e - x).toNat - 1,by omega⟩
      simp only [show ltB x (kdG e)=true from xZv.2 hx,cond_true,W.gd,xZo]
      refine ⟨by omega,W.bind (W.lift (xZry n rest e.Kind (d+1) (by omega) (by omega) (by omega))) ?_⟩
      rintro _ rfl
      rw [hm,kidsG] at x2
      by_cases hc:(TG n rest e.Kind (d+1)).2=0
      ·rw [if_pos hc] at x2
       simp only [show ((TG n rest e.Kind (d+1)).2 != 0)=false by simpa using hc,cond_false,W.gd,xZo]
       refine ⟨by omega,hn _ _ ⟨by omega,by omega,?_⟩ (by omega)⟩
       rw [show (kdG e - (x+1)).toNat=m by omega]
       exact x2
      ·rw [if_neg hc] at x2
       simp only [show ((TG n rest e.Kind (d+1)).2 != 0)=true by simpa using hc,cond_true,W.ret]
       exact x2
     ·obtain rfl:x=kdG e:=by omega
      have:ltB (kdG e) (kdG e)=false:=by rw [xZ8R];simp
      simp only [this,cond_false,W.ret]
      rw [Int.sub_self] at x2
      exact x2
def wdS (m:Int):List UInt8:=if m=1 then [97,110,121] else if m=2 then [110,101,120,116] else if m=3 then [115,116,114,105,99,116] else []
theorem e_wd (m:Int) (N:Nat):xZ2Z N m=some (wdS m):=by
 simp only [xZ2Z,wdS]
 by_cases h1:m=1
 ·subst h1;rfl
 by_cases h2:m=2
 ·subst h2;rfl
 by_cases h3:m=3
 ·subst h3;rfl
 simp [h1,h2,h3,show (m==1)=false by simpa using h1,show (m==2)=false by simpa using h2,show (m==3)=false by simpa using h3]
def chkG (p:xZ5):Int:=if 40 < p.Body.length then 5 else if (TG 17 p.Body 0 0).2≠0 then (TG 17 p.Body 0 0).2 else if 0 < (TG 17 p.Body 0 0).1.length then 5 else if p.Within < 1 then 8 else if 1073741824 < p.Within then 8 else if p.By≠[]∧nm p.By=false then 4 else if wdS p.Mode=[] then 11 else 0
theorem xZqH (p:xZ5):W (fun N=>xZ5T N p) (·=chkG p):=by
 simp only [xZ5T,e_wd,Option.bind_some]
 unfold chkG
 by_cases h0:40 < p.Body.length
 ·simp only [show ltB 40 (p.Body.length:Int)=true from xZv.2 (by omega),cond_true,if_pos h0,W.ret]
 have g0:ltB 40 (p.Body.length:Int)=false:=by rw [xZ8R];exact decide_eq_false (by omega)
 simp only [g0,cond_false,if_neg h0,xZdo]
 refine W.call (xZry 17 p.Body 0 0 (by omega) (by omega) (by omega)) ?_
 rintro _ rfl
 generalize TG 17 p.Body 0 0=q
 by_cases h1:q.2=0
 rotate_left
 ·simp only [show (q.2 != 0)=true by simpa using h1,cond_true,if_pos h1,W.ret]
 simp only [show (q.2 != 0)=false by simpa using h1,cond_false,if_neg (show ¬ q.2≠0 from fun h=>h h1)]
 by_cases h2:0 < q.1.length
 ·simp only [show ltB 0 (q.1.length:Int)=true from xZv.2 (by omega),cond_true,if_pos h2,W.ret]
 have g2:ltB 0 (q.1.length:Int)=false:=by rw [xZ8R];exact decide_eq_false (by omega)
 simp only [g2,cond_false,if_neg h2]
 by_cases h3:p.Within < 1
 ·simp only [show ltB p.Within 1=true from xZv.2 h3,cond_true,if_pos h3,W.ret]
 have g3:ltB p.Within 1=false:=by rw [xZ8R];exact decide_eq_false h3
 simp only [g3,cond_false,if_neg h3]
 by_cases h4:1073741824 < p.Within
 ·simp only [show ltB 1073741824 p.Within=true from xZv.2 h4,cond_true,if_pos h4,W.ret]
 have g4:ltB 1073741824 p.Within=false:=by rw [xZ8R];exact decide_eq_false h4
 simp only [g4,cond_false,if_neg h4]
 by_cases h5:p.By=[]
 ·simp only [h5,show (!(([]:List UInt8)==[]))=false from rfl,cond_false,if_neg (show ¬ (([]:List UInt8)≠[]∧_) from fun h=>h.1 rfl)]
  by_cases h6:wdS p.Mode=[]
  ·simp [h6,W.ret]
  ·simp [h6,W.ret,show (wdS p.Mode==[])=false by simpa using h6]
 ·simp only [show (!(p.By==[]))=true by simpa using h5,cond_true]
  refine W.call (xZ4R _) ?_
  rintro _ rfl
  cases h6:nm p.By
  ·simp [h5,W.ret]
  ·simp only [Bool.not_true,cond_false]
   by_cases h7:wdS p.Mode=[]
   ·simp [h7,W.ret]
   ·simp [h7,W.ret,show (wdS p.Mode==[])=false by simpa using h7]
end
section
def tG (n:xZ1):Prop:=okN n.Test∧n.Test.length≤700
def tR:RG→Prop
 | .inl _=>True
 | .inr (l,_)=>∀ n∈l,tG n
theorem xZpO:okN []:=fun m h=>by cases h
section
variable {y:List xZ0} {e:Int}
theorem xZrB (hy:y.length≤700) (ht:okT y) (k:Int) (i:Nat):tR (atomS y e k i):=by
 unfold atomS
 split
 ·split
  ·split
   ·split
    ·rename_i h1 h2 h3 h4
     have l4:=xZS (by decide) (xZP h4).1
     cases hq:PAR y (i+4) e with
     | inl x=>trivial
     | inr p=>
       obtain ⟨l,j⟩:=p
       have hl:=xZmI hy (by omega) hq
       have ho:okN l:=by
        have:=(SPP_l ht 51).1 0 (i+4)
        unfold PAR at hq
        cases hs:(SPP y 51).1 0 (i+4) with
        | inl x=>rw [hs] at hq;cases hq
        | inr p=>
          rw [hs] at hq this
          simp only at hq
          split at hq
          ·cases hq;exact this
          ·cases hq
       simp only
       split
       ·intro n hn;rw [List.mem_singleton.1 hn];exact ⟨ho,by show l.length≤700;omega⟩
       ·trivial
    ·intro n hn;rw [List.mem_singleton.1 hn];exact ⟨xZpO,by simp⟩
   ·trivial
  ·trivial
 ·trivial
theorem xZuu {l:List xZ1} (h:∀ n∈l,tG n):∀ (o:(Int×Int)⊕(Option (Int×Int)×Nat)),tR (oftR l o)
 | .inl _=>trivial
 | .inr (none,j)=>h
 | .inr (some (a,b),j)=>fun n hn=>by
   rcases List.mem_cons.1 hn with rfl | hn
   ·exact ⟨xZpO,by simp [repN]⟩
   ·exact h n hn
theorem itS_t (hy:y.length≤700) (ht:okT y) {b:Int→Nat→RG} (hb:∀ d j,tR (b d j)) (d:Int) (i:Nat):tR (itS y e b d i):=by
 unfold itS
 split
 ·exact xZrB hy ht 5 (i+1)
 ·split
  ·split
   ·trivial
   ·have:=hb (d+1) (i+1)
    cases h:b (d+1) (i+1) with
    | inl x=>trivial
    | inr p=>
      obtain ⟨l,j⟩:=p
      rw [h] at this
      simp only
      split
      ·exact xZuu this _
      ·trivial
  ·have:=xZrB (e:=e) hy ht 4 i
   cases h:atomS y e 4 i with
   | inl x=>trivial
   | inr p=>rw [h] at this;exact xZuu this _
theorem hdN_t {k:Int} {s:Int×List xZ1} (h:∀ n∈s.2,tG n):∀ n∈hdN k s,tG n:=fun n hn=>by
 rcases List.mem_cons.1 hn with rfl | hn
 ·exact ⟨xZpO,by simp⟩
 ·exact h n hn
theorem xZuh {k:Int} {s:Int×List xZ1} {l:List xZ1} (h:∀ n∈s.2,tG n) (hl:∀ n∈l,tG n):∀ n∈(addG k s l).2,tG n:=by
 cases l with
 | nil=>exact h
 | cons a r=>
   by_cases hk:a.Kind=k
   ·intro n hn
    rw [addG,if_pos hk] at hn
    rcases List.mem_append.1 hn with hn | hn
    ·exact h n hn
    ·exact hl n (List.mem_cons_of_mem _ hn)
   ·intro n hn
    rw [addG,if_neg hk] at hn
    rcases List.mem_append.1 hn with hn | hn
    ·exact h n hn
    ·exact hl n hn
theorem lpS_t {k:Int} {sep:List UInt8} {f:Nat→RG} (hf:∀ j,tR (f j)):∀ (n:Nat) (s:Int×List xZ1) (j:Nat),(∀ n∈s.2,tG n)→tR (lpS y k sep f n s j)
 | 0,s,j,h=>hdN_t h
 | n+1,s,j,h=>by
   unfold lpS
   split
   ·have:=hf (j+1)
    cases g:f (j+1) with
    | inl x=>trivial
    | inr p=>rw [g] at this;exact lpS_t hf n _ _ (xZuh h this)
   ·exact hdN_t h
theorem lsS_t {k:Int} {sep:List UInt8} {f:Nat→RG} (hf:∀ j,tR (f j)) (i:Nat):tR (lsS y k sep f i):=by
 have:=hf i
 unfold lsS
 cases g:f i with
 | inl x=>trivial
 | inr p=>
   rw [g] at this
   simp only
   split
   ·exact lpS_t hf _ _ _ (xZuh (fun n hn=>by cases hn) this)
   ·exact this
theorem SB_t (hy:y.length≤700) (ht:okT y):∀ (n:Nat) (d:Int) (i:Nat),tR (SB y e n d i)
 | 0,d,i=>trivial
 | n+1,d,i=>lsS_t (fun j=>lsS_t (fun m=>itS_t hy ht (SB_t hy ht n) d m) j) i
end
section
variable (y:List xZ0) (e:Int)
def modS (j:Nat):Int:=if isT' y j 2 (wdS 1)=true then 1 else if isT' y j 2 (wdS 2)=true then 2 else if isT' y j 2 (wdS 3)=true then 3 else 0
def cntP (l:List xZ1) (w:Int) (b:List UInt8) (j:Nat):(Int×Int)⊕xZ5:=if modS y j=0 then .inl (4,plc y e j) else if j+1 < y.length then .inl (4,plc y e (j+1)) else .inr ⟨l,w,b,modS y j⟩
def patS:(Int×Int)⊕xZ5:=match SB y e 17 0 0 with
 | .inl x=>.inl x
 | .inr (l,j)=>if isT' y j 2 [119,105,116,104,105,110]=true then (match numS y (j+1) with
    | none=>.inl (4,plc y e (j+1))
    | some w=>if isT' y (j+2) 2 [98,121]=true then (if (tk y (j+3)).Kind=1 then cntP y e l w (tk y (j+3)).Text (j+4) else .inl (4,plc y e (j+3))) else cntP y e l w [] (j+2))
   else .inl (4,plc y e j)
end
section
variable {y:List xZ0} {e:Int}
theorem xZrh {j:Nat} {m:Int} (h1:1≤m) (h3:m≤3) (hb:∀ a:Int,1≤a→a < m→isT' y j 2 (wdS a)=false) (h:isT' y j 2 (wdS m)=true):modS y j=m:=by
 unfold modS
 rcases (show m=1∨m=2∨m=3 by omega) with rfl | rfl | rfl
 ·rw [if_pos h]
 ·rw [hb 1 (by omega) (by omega),if_neg (by decide),if_pos h]
 ·rw [hb 1 (by omega) (by omega),hb 2 (by omega) (by omega),if_neg (by decide),if_neg (by decide),if_pos h]
theorem xZrF {j:Nat} (hb:∀ a:Int,1≤a→a < 4→isT' y j 2 (wdS a)=false):modS y j=0:=by
 unfold modS
 rw [hb 1 (by omega) (by omega),hb 2 (by omega) (by omega),hb 3 (by omega) (by omega)];rfl
theorem xZt7 {q:Nat} (hq:q≤1000):W (fun N=>xZZ N y q e) (fun r=>if modS y q=0 then ∃ j:Int,r=.inr (4,plc y e q,y,j,e) else r=.inl (modS y q,y,((q+1:Nat):Int),e)):=by
 simp only [xZZ]
 refine W.lp4 (P:=fun v0 v1 v2 v3=>1≤v0∧v0≤4∧v1=y∧v2=(q:Int)∧v3=e∧∀ a:Int,1≤a→a < v0→isT' y q 2 (wdS a)=false) (m:=fun v0 _ _ _=>(4 - v0).toNat) ⟨by omega,by omega,rfl,rfl,rfl,fun a h1 h2=>by omega⟩ ?_
 rintro F v0 v1 v2 v3 ⟨h1,h2,rfl,rfl,rfl,hb⟩ hn
 simp only [xZ2n]
 by_cases h3:v0≤3
 ·simp only [show leB v0 3=true from xZ16.2 h3,cond_true,e_wd,Option.bind_some,xZbl (y:=v1) (i:=q) (e:=v3) (show (2:Int)≠0 by decide) _ (show q≤1000000 by omega)]
  by_cases hs:isT' v1 q 2 (wdS v0)=true
  ·simp only [hs,if_true,cond_true,W.ret]
   have:=xZrh h1 h3 hb hs
   rw [if_neg (by omega),this]
  ·have hs':isT' v1 q 2 (wdS v0)=false:=by simpa using hs
   simp only [hs',Bool.false_eq_true,if_false,cond_false]
   have hw:IntKind.u8.wrap (v0+1)=v0+1:=by
    rcases (show v0=1∨v0=2∨v0=3 by omega) with rfl | rfl | rfl<;>rfl
   rw [hw]
   refine hn _ _ _ _ ⟨by omega,by omega,rfl,rfl,rfl,fun a a1 a2=>?_⟩ (by omega)
   by_cases ha:a=v0
   ·subst ha;exact hs'
   ·exact hb a a1 (by omega)
 ·obtain rfl:v0=4:=by omega
  simp only [show leB (4:Int) 3=false from rfl,cond_false,xZdj (y:=v1) (i:=q) (e:=v3) (show (4:Int)≠0 by decide),Option.bind_some,Sum.elim_inr,W.ret]
  rw [if_pos (xZrF hb)]
  exact ⟨_,rfl⟩
def EP (y:List xZ0) (e:Int):(Int×Int)⊕xZ5→(xZ5×List xZ0×Int×Int)⊕ErG→Prop
 | .inl (c,a),r=>∃ j:Int,r=.inr (c,a,y,j,e)
 | .inr p,r=>∃ j:Int,r=.inl (p,y,j,e)
theorem xZuw {l:List xZ1} {w:Int} {b:List UInt8} {j:Nat} (hj:j≤1000):W (fun N=>(xZZ N y j e).bind fun x=>Sum.elim
 (fun mode=>bif (ltB mode.2.2.1 (List.length mode.2.1:Int)) then
   (xZf N 4 mode.2.1 mode.2.2.1 mode.2.2.2).bind fun x=>Sum.elim
   (fun fail=>some (Sum.inl ((xZ5.mk l w b mode.1),fail.1,fail.2.1,fail.2.2)))
   (fun fail2=>some (Sum.inr (fail2.1,fail2.2.1,fail2.2.2.1,fail2.2.2.2.1,fail2.2.2.2.2))) x
  else some (Sum.inl ((xZ5.mk l w b mode.1),mode.2.1,mode.2.2.1,mode.2.2.2)))
 (fun mode2=>some (Sum.inr (mode2.1,mode2.2.1,mode2.2.2.1,mode2.2.2.2.1,mode2.2.2.2.2))) x) (EP y e (cntP y e l w b j)):=by
 refine W.call (xZt7 (y:=y) (e:=e) hj) fun r hr=>?_
 unfold cntP
 by_cases h0:modS y j=0
 ·rw [if_pos h0] at hr ⊢
  obtain ⟨q,rfl⟩:=hr
  simp only [Sum.elim_inr,W.ret];exact ⟨_,rfl⟩
 ·rw [if_neg h0] at hr ⊢
  subst hr
  simp only [Sum.elim_inl]
  by_cases hl:j+1 < y.length
  ·simp only [show ltB ((j+1:Nat):Int) (y.length:Int)=true from xZv.2 (by omega),cond_true,xZdj (y:=y) (i:=j+1) (e:=e) (show (4:Int)≠0 by decide),Option.bind_some,Sum.elim_inr,W.ret,if_pos hl]
   exact ⟨_,rfl⟩
  ·simp only [show ltB ((j+1:Nat):Int) (y.length:Int)=false from xZL.2 (by omega),cond_false,W.ret,if_neg hl]
   exact ⟨_,rfl⟩
theorem xZvB (hy:y.length≤700):W (fun N=>xZn N y 0 e) (EP y e (patS y e)):=by
 simp only [xZn]
 have ok:=SB_ok (e:=e) hy 17 0 0 (by omega) (by omega) (by omega) (Nat.zero_le _)
 have hg:=g_all (e:=e) hy 17 0 0 (by omega) (by omega) (by omega) (Nat.zero_le _)
 refine W.call (show W (fun N=>xZ2R N 0 y 0 e) _ from hg) fun r hr=>?_
 unfold patS
 cases h:SB y e 17 0 0 with
 | inl x=>
   obtain ⟨c,a⟩:=x
   rw [h] at hr
   obtain ⟨j,rfl⟩:=hr
   simp only [Sum.elim_inr,W.ret];exact ⟨_,rfl⟩
 | inr x=>
   obtain ⟨l,j⟩:=x
   rw [h] at hr ok
   have hj:j≤y.length:=ok.2.1
   have hr:r=.inl (l,y,(j:Int),e):=hr
   subst hr
   simp only [Sum.elim_inl,xZdm (y:=y) (i:=j) (e:=e) (show (2:Int)≠0 by decide) _ (show j≤1000000 by omega),Option.bind_some]
   by_cases h1:isT' y j 2 [119,105,116,104,105,110]=true
   rotate_left
   ·simp only [if_neg h1,Sum.elim_inr,W.ret];exact ⟨_,rfl⟩
   simp only [if_pos h1,Sum.elim_inl,xZs0 (y:=y) (i:=j+1) (e:=e) (show j+1≤1000000 by omega),Option.bind_some]
   cases h2:numS y (j+1) with
   | none=>simp only [Sum.elim_inr,W.ret];exact ⟨_,rfl⟩
   | some w=>
     simp only [Sum.elim_inl,show j+1+1=j+2 from rfl,xZbl (y:=y) (i:=j+2) (e:=e) (show (2:Int)≠0 by decide) _ (show j+2≤1000000 by omega),Option.bind_some]
     by_cases h3:isT' y (j+2) 2 [98,121]=true
     ·simp only [if_pos h3,cond_true,show j+2+1=j+3 from rfl,xZl7 (y:=y) (i:=j+3) (e:=e) (show j+3≤1000000 by omega),Option.bind_some]
      by_cases h4:(tk y (j+3)).Kind=1
      ·simp only [if_pos h4,Sum.elim_inl,show j+3+1=j+4 from rfl]
       exact xZuw (by omega)
      ·simp only [if_neg h4,Sum.elim_inr,W.ret];exact ⟨_,rfl⟩
     ·simp only [if_neg h3,cond_false]
      exact xZuw (by omega)
theorem xZwq (hy:y.length≤700) (ht:okT y) {p:xZ5} (h:patS y e=.inr p):p.Body.length≤2000∧∀ n∈p.Body,tG n:=by
 have ok:=SB_ok (e:=e) hy 17 0 0 (by omega) (by omega) (by omega) (Nat.zero_le _)
 have t:=SB_t (e:=e) hy ht 17 0 0
 unfold patS at h
 cases hs:SB y e 17 0 0 with
 | inl x=>rw [hs] at h;cases h
 | inr x=>
   obtain ⟨l,j⟩:=x
   rw [hs] at h ok t
   have key:∀ w b q,cntP y e l w b q=.inr p→p.Body=l:=fun w b q hq=>by
    unfold cntP at hq
    split at hq
    ·cases hq
    ·split at hq
     ·cases hq
     ·cases hq;rfl
   have hb:p.Body=l:=by
    simp only at h
    split at h
    ·split at h
     ·cases h
     ·split at h
      ·split at h
       ·exact key _ _ _ h
       ·cases h
      ·exact key _ _ _ h
    ·cases h
   rw [hb]
   obtain ⟨a1,a2,n,r,rfl,a4,a5,a6⟩:=ok
   exact ⟨by omega,t⟩
end
def GP (s:List UInt8):(Int×Int)⊕xZ5:=match scan s with
 | .inr x=>.inl x
 | .inl y=>match patS y s.length with
   | .inl x=>.inl x
   | .inr p=>if chkG p=0 then .inr p else .inl (chkG p,0)
def z13:xZ5:=⟨[],0,[],0⟩
theorem xZq0 (s:List UInt8) (hs:s.length≤700):W (fun N=>xZ5I N s) (·=match GP s with
 | .inl (c,a)=>.inr (z13,c,a)
 | .inr p=>.inl p):=by
 simp only [xZ5I]
 refine W.call (xZvT s hs) ?_
 rintro _ rfl
 unfold GP
 cases hq:scan s with
 | inr x=>obtain ⟨c,a⟩:=x;simp only [scanE,Sum.elim_inr,W.ret];rfl
 | inl y=>
   obtain ⟨hy,ht⟩:=xZly hq
   simp only [scanE,Sum.elim_inl,xZ1m]
   refine W.bind (P:=fun r=>match patS y s.length with
    | .inl (c,a)=>∃ j:Int,r=.inr (z13,c,a,y,j,(s.length:Int))
    | .inr p=>∃ j:Int,r=.inl (p,y,j,(s.length:Int))) (W.bind (show W (fun N=>xZn N y 0 (s.length:Int)) _ from xZvB (by omega)) fun r hr=>?_) fun r hr=>?_
   ·cases hp:patS y s.length with
    | inl x=>obtain ⟨c,a⟩:=x;rw [hp] at hr;obtain ⟨j,rfl⟩:=hr;exact W.ret.2 ⟨j,rfl⟩
    | inr p=>rw [hp] at hr;obtain ⟨j,rfl⟩:=hr;exact W.ret.2 ⟨j,rfl⟩
   ·cases hp:patS y s.length with
    | inl x=>obtain ⟨c,a⟩:=x;rw [hp] at hr;obtain ⟨j,rfl⟩:=hr;simp only [Sum.elim_inr];exact W.ret.2 rfl
    | inr p=>
      rw [hp] at hr
      obtain ⟨j,rfl⟩:=hr
      simp only [Sum.elim_inl]
      refine W.call (xZqH p) ?_
      rintro _ rfl
      by_cases hc:chkG p=0
      ·simp only [hc,show ((0:Int) != 0)=false from rfl,cond_false,W.ret,if_true]
      ·simp only [show (chkG p != 0)=true by simpa using hc,cond_true,xZV,show (chkG p==0)=false by simpa using hc,cond_false,Option.bind_some,Sum.elim_inr,W.ret,if_neg hc];rfl
end
end Go.Proofs.YtahklhniofiofaaGreatDoor.P
