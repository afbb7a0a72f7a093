/- What the law is handed, told as what its plain text takes. No premise beyond what each theorem says. -/
import Derived.Test.YtbioikdfpfafaaaGreatDoorTG2
import Derived.Test.YtbioikdfpfafaaaGreatDoorTA2
import Derived.Test.YtbioikdfpfafaaaGreatDoorTA4
import Derived.Test.YtbioikdfpfafaaaGreatDoorTG1
import Derived.Sort.Walk0
set_option linter.all false
set_option linter.unusedSimpArgs false
set_option linter.unusedVariables false
namespace Go.Proofs.YtbioikdfpfafaaaGreatDoor.T
open Go
section
open Go.Proofs.Tryz
set_option maxRecDepth 1000000
def xZbQ (x:xZ7):Prop:=(inK .u8) x.Kind∧(inK .i64) x.N∧(inK .u64) x.Bits∧okS x.Text
def xZ8T (x:xZ2):Prop:=(inK .u8) x.Kind∧(inK .u8) x.Op∧okS x.Var∧okS x.Name∧xZbQ x.Val
def xZ7b (x:xZ0):Prop:=(inK .u8) x.Kind∧(inK .i64) x.Kids∧(inK .i64) x.Lo∧(inK .i64) x.Hi∧okS x.Var∧okS x.Type_∧(okL xZ8T) x.Test
def xZ4A (x:xZ5):Prop:=(okL xZ7b) x.Body∧(inK .i64) x.Within∧okS x.By∧(inK .u8) x.Mode
theorem xZ13 {H:Type} (d:DataW H) (cs:List AV) (h:DAv prog 5 d cs):∃ x:Int,cs=[.v (.int .u8 x)]∧(inK .u8) x:=by
 obtain ⟨x,h,h1,h2⟩:=xZpW (k:=.u8) (by kernel_rfl) h
 exact ⟨x,h,h1,h2⟩
theorem xZ12 {H:Type} (d:DataW H) (cs:List AV) (h:DAv prog 3 d cs):∃ x:Int,cs=[.v (.int .i64 x)]∧(inK .i64) x:=by
 obtain ⟨x,h,h1,h2⟩:=xZpW (k:=.i64) (by kernel_rfl) h
 exact ⟨x,h,h1,h2⟩
theorem xZt {H:Type} (d:DataW H) (cs:List AV) (h:DAv prog 9 d cs):∃ x:List UInt8,cs=[.v (.string (bs x))]∧okS x:=by
 obtain ⟨x,h,h1⟩:=xZon (by kernel_rfl) h
 exact ⟨x,h,h1⟩
theorem xZ9N {H:Type} (d:DataW H) (cs:List AV) (h:DAv prog 53 d cs):∃ x:Int,cs=[.v (.int .u64 x)]∧(inK .u64) x:=by
 obtain ⟨x,h,h1,h2⟩:=xZpW (k:=.u64) (by kernel_rfl) h
 exact ⟨x,h,h1,h2⟩
theorem xZ9z {H:Type} (d:DataW H) (cs:List AV) (h:DAv prog 112 d cs):∃ x:xZ7,cs=[.v (.int .u8 x.Kind),.v (.int .i64 x.N),.v (.int .u64 x.Bits),.v (.string (bs x.Text))]∧xZbQ x:=by
 obtain ⟨_,h⟩:=xZaD (ts:=[5,3,53,9]) (by kernel_rfl) h
 obtain ⟨_,_,_,_,rfl,h0,h⟩:=xZ1y h
 obtain ⟨_,_,_,_,rfl,h1,h⟩:=xZ1y h
 obtain ⟨_,_,_,_,rfl,h2,h⟩:=xZ1y h
 obtain ⟨_,_,_,_,rfl,h3,h⟩:=xZ1y h
 obtain rfl:=xZfQ h
 obtain ⟨x0,rfl,k0⟩:=xZ13 _ _ h0
 obtain ⟨x1,rfl,k1⟩:=xZ12 _ _ h1
 obtain ⟨x2,rfl,k2⟩:=xZ9N _ _ h2
 obtain ⟨x3,rfl,k3⟩:=xZt _ _ h3
 exact ⟨⟨x0,x1,x2,x3⟩,rfl,⟨k0,k1,k2,k3⟩⟩
theorem xZ9y {H:Type} (d:DataW H) (cs:List AV) (h:DAv prog 114 d cs):∃ x:xZ2,cs=[.v (.int .u8 x.Kind),.v (.int .u8 x.Op),.v (.string (bs x.Var)),.v (.string (bs x.Name)),.v (.int .u8 x.Val.Kind),.v (.int .i64 x.Val.N),.v (.int .u64 x.Val.Bits),.v (.string (bs x.Val.Text))]∧xZ8T x:=by
 obtain ⟨_,h⟩:=xZaD (ts:=[5,5,9,9,112]) (by kernel_rfl) h
 obtain ⟨_,_,_,_,rfl,h0,h⟩:=xZ1y h
 obtain ⟨_,_,_,_,rfl,h1,h⟩:=xZ1y h
 obtain ⟨_,_,_,_,rfl,h2,h⟩:=xZ1y h
 obtain ⟨_,_,_,_,rfl,h3,h⟩:=xZ1y h
 obtain ⟨_,_,_,_,rfl,h4,h⟩:=xZ1y h
 obtain rfl:=xZfQ h
 obtain ⟨x0,rfl,k0⟩:=xZ13 _ _ h0
 obtain ⟨x1,rfl,k1⟩:=xZ13 _ _ h1
 obtain ⟨x2,rfl,k2⟩:=xZt _ _ h2
 obtain ⟨x3,rfl,k3⟩:=xZt _ _ h3
 obtain ⟨x4,rfl,k4⟩:=xZ9z _ _ h4
 exact ⟨⟨x0,x1,x2,x3,x4⟩,rfl,⟨k0,k1,k2,k3,k4⟩⟩
theorem xZan {H:Type} (d:DataW H) (cs:List AV) (h:DAv prog 59 d cs):∃ x:List xZ2,cs=[.sl 8 (List.map eA4 x)]∧(okL xZ8T) x:=by
 obtain ⟨x,h,h1,h2⟩:=xZgu (e:=114) (k:=8) eA4 xZ8T (by kernel_rfl) (by kernel_rfl) (fun d cs h=>by obtain ⟨x,h1,h2⟩:=xZ9y d cs h;subst h1;exact ⟨x,xZix (by kernel_rfl),h2⟩) h
 exact ⟨x,h,h1,h2⟩
theorem xZ9V {H:Type} (d:DataW H) (cs:List AV) (h:DAv prog 61 d cs):∃ x:xZ0,cs=[.v (.int .u8 x.Kind),.v (.int .i64 x.Kids),.v (.int .i64 x.Lo),.v (.int .i64 x.Hi),.v (.string (bs x.Var)),.v (.string (bs x.Type_)),.sl 8 (List.map eA4 x.Test)]∧xZ7b x:=by
 obtain ⟨_,h⟩:=xZaD (ts:=[5,3,3,3,9,9,59]) (by kernel_rfl) h
 obtain ⟨_,_,_,_,rfl,h0,h⟩:=xZ1y h
 obtain ⟨_,_,_,_,rfl,h1,h⟩:=xZ1y h
 obtain ⟨_,_,_,_,rfl,h2,h⟩:=xZ1y h
 obtain ⟨_,_,_,_,rfl,h3,h⟩:=xZ1y h
 obtain ⟨_,_,_,_,rfl,h4,h⟩:=xZ1y h
 obtain ⟨_,_,_,_,rfl,h5,h⟩:=xZ1y h
 obtain ⟨_,_,_,_,rfl,h6,h⟩:=xZ1y h
 obtain rfl:=xZfQ h
 obtain ⟨x0,rfl,k0⟩:=xZ13 _ _ h0
 obtain ⟨x1,rfl,k1⟩:=xZ12 _ _ h1
 obtain ⟨x2,rfl,k2⟩:=xZ12 _ _ h2
 obtain ⟨x3,rfl,k3⟩:=xZ12 _ _ h3
 obtain ⟨x4,rfl,k4⟩:=xZt _ _ h4
 obtain ⟨x5,rfl,k5⟩:=xZt _ _ h5
 obtain ⟨x6,rfl,k6⟩:=xZan _ _ h6
 exact ⟨⟨x0,x1,x2,x3,x4,x5,x6⟩,rfl,⟨k0,k1,k2,k3,k4,k5,k6⟩⟩
theorem xZ9Y {H:Type} (d:DataW H) (cs:List AV) (h:DAv prog 22 d cs):∃ x:List xZ0,cs=[.sl 7 (List.map eA5 x)]∧(okL xZ7b) x:=by
 obtain ⟨x,h,h1,h2⟩:=xZgu (e:=61) (k:=7) eA5 xZ7b (by kernel_rfl) (by kernel_rfl) (fun d cs h=>by obtain ⟨x,h1,h2⟩:=xZ9V d cs h;subst h1;exact ⟨x,xZix (by kernel_rfl),h2⟩) h
 exact ⟨x,h,h1,h2⟩
theorem xZad {H:Type} (d:DataW H) (cs:List AV) (h:DAv prog 24 d cs):∃ x:xZ5,cs=[.sl 7 (List.map eA5 x.Body),.v (.int .i64 x.Within),.v (.string (bs x.By)),.v (.int .u8 x.Mode)]∧xZ4A x:=by
 obtain ⟨_,h⟩:=xZaD (ts:=[22,3,9,5]) (by kernel_rfl) h
 obtain ⟨_,_,_,_,rfl,h0,h⟩:=xZ1y h
 obtain ⟨_,_,_,_,rfl,h1,h⟩:=xZ1y h
 obtain ⟨_,_,_,_,rfl,h2,h⟩:=xZ1y h
 obtain ⟨_,_,_,_,rfl,h3,h⟩:=xZ1y h
 obtain rfl:=xZfQ h
 obtain ⟨x0,rfl,k0⟩:=xZ9Y _ _ h0
 obtain ⟨x1,rfl,k1⟩:=xZ12 _ _ h1
 obtain ⟨x2,rfl,k2⟩:=xZt _ _ h2
 obtain ⟨x3,rfl,k3⟩:=xZ13 _ _ h3
 exact ⟨⟨x0,x1,x2,x3⟩,rfl,⟨k0,k1,k2,k3⟩⟩
def xZ5d (x:xZ6):Prop:=okS x.Name∧(inK .u8) x.Kind
def xZ4u (x:xZ1):Prop:=okS x.Name∧(okL xZ5d) x.Fields
theorem xZai {H:Type} (d:DataW H) (cs:List AV) (h:DAv prog 67 d cs):∃ x:xZ6,cs=[.v (.string (bs x.Name)),.v (.int .u8 x.Kind)]∧xZ5d x:=by
 obtain ⟨_,h⟩:=xZaD (ts:=[9,5]) (by kernel_rfl) h
 obtain ⟨_,_,_,_,rfl,h0,h⟩:=xZ1y h
 obtain ⟨_,_,_,_,rfl,h1,h⟩:=xZ1y h
 obtain rfl:=xZfQ h
 obtain ⟨x0,rfl,k0⟩:=xZt _ _ h0
 obtain ⟨x1,rfl,k1⟩:=xZ13 _ _ h1
 exact ⟨⟨x0,x1⟩,rfl,⟨k0,k1⟩⟩
theorem xZa0 {H:Type} (d:DataW H) (cs:List AV) (h:DAv prog 63 d cs):∃ x:List xZ6,cs=[.sl 2 (List.map eA2 x)]∧(okL xZ5d) x:=by
 obtain ⟨x,h,h1,h2⟩:=xZgu (e:=67) (k:=2) eA2 xZ5d (by kernel_rfl) (by kernel_rfl) (fun d cs h=>by obtain ⟨x,h1,h2⟩:=xZai d cs h;subst h1;exact ⟨x,xZix (by kernel_rfl),h2⟩) h
 exact ⟨x,h,h1,h2⟩
theorem xZa8 {H:Type} (d:DataW H) (cs:List AV) (h:DAv prog 65 d cs):∃ x:xZ1,cs=[.v (.string (bs x.Name)),.sl 2 (List.map eA2 x.Fields)]∧xZ4u x:=by
 obtain ⟨_,h⟩:=xZaD (ts:=[9,63]) (by kernel_rfl) h
 obtain ⟨_,_,_,_,rfl,h0,h⟩:=xZ1y h
 obtain ⟨_,_,_,_,rfl,h1,h⟩:=xZ1y h
 obtain rfl:=xZfQ h
 obtain ⟨x0,rfl,k0⟩:=xZt _ _ h0
 obtain ⟨x1,rfl,k1⟩:=xZa0 _ _ h1
 exact ⟨⟨x0,x1⟩,rfl,⟨k0,k1⟩⟩
theorem xZap {H:Type} (d:DataW H) (cs:List AV) (h:DAv prog 25 d cs):∃ x:List xZ1,cs=[.sl 2 (List.map eA3 x)]∧(okL xZ4u) x:=by
 obtain ⟨x,h,h1,h2⟩:=xZgu (e:=65) (k:=2) eA3 xZ4u (by kernel_rfl) (by kernel_rfl) (fun d cs h=>by obtain ⟨x,h1,h2⟩:=xZa8 d cs h;subst h1;exact ⟨x,xZix (by kernel_rfl),h2⟩) h
 exact ⟨x,h,h1,h2⟩
theorem xZcS {H:Type} (ds:List (DataW H)) (xs:List AV) (h:DAvV prog [24,25,3] ds xs):
 ∃ (vp:xZ5) (types:List xZ1) (vat:Int),xs=[.agg [.sl 7 (List.map eA5 vp.Body),.v (.int .i64 vp.Within),.v (.string (bs vp.By)),.v (.int .u8 vp.Mode)],.sl 2 (List.map eA3 types),.v (.int .i64 vat)]∧xZ4A vp∧(okL xZ4u) types∧(inK .i64) vat:=by
 obtain ⟨_,_,_,_,rfl,rfl,h0,h⟩:=xZko h
 obtain ⟨_,_,_,_,rfl,rfl,h1,h⟩:=xZko h
 obtain ⟨_,_,_,_,rfl,rfl,h2,h⟩:=xZko h
 obtain ⟨rfl,rfl⟩:=xZtb h
 obtain ⟨x0,rfl,k0⟩:=xZad _ _ h0
 obtain ⟨x1,rfl,k1⟩:=xZap _ _ h1
 obtain ⟨x2,rfl,k2⟩:=xZ12 _ _ h2
 exact ⟨x0,x1,x2,by rw [xZix (by kernel_rfl),xZpk (by kernel_rfl),xZpk (by kernel_rfl)],k0,k1,k2⟩
end
section
section
section
theorem wall {α:Type} {f:Nat→Option α} {a:α} (h:∀ N,f N=some a):W f (·=a):=⟨a,⟨0,fun N _=>h N⟩,rfl⟩
end
section
theorem ncmp (a:Int):compare a a=.eq:=by simp [compare,compareOfLessAndEq]
theorem bcmp (a:Bool):compare a.toNat a.toNat=.eq:=by simp [compare,compareOfLessAndEq]
theorem xZso (n:Nat):fcmpB .neq .f64 n n=decide (9218868437227405312 < n % 9223372036854775808):=by
 have h:FloatKind.f64.format=Ieee.double:=rfl
 simp only [fcmpB,h,Ieee.Format.order,Ieee.Format.read]
 have e1:Ieee.double.signWeight=9223372036854775808:=by decide
 have e2:Ieee.double.infRung=9218868437227405312:=by decide
 have e3:Ieee.double.binade=4503599627370496:=by decide
 rw [e1,e2,e3]
 by_cases h1:n % 9223372036854775808 < 4503599627370496
 ·rw [if_pos h1,decide_eq_false (by omega)];simp only [Ieee.Datum.order,ncmp];rfl
 ·by_cases h2:n % 9223372036854775808 < 9218868437227405312
  ·rw [if_neg h1,if_pos h2,decide_eq_false (by omega)];simp only [Ieee.Datum.order,ncmp];rfl
  ·by_cases h3:n % 9223372036854775808=9218868437227405312
   ·rw [if_neg h1,if_neg h2,if_pos h3,decide_eq_false (by omega)];simp only [Ieee.Datum.order,bcmp];rfl
   ·rw [if_neg h1,if_neg h2,if_neg h3,decide_eq_true (by omega)];rfl
def cln (u:Int):Int:=if 9218868437227405312 < u.toNat % 9223372036854775808 then 9221120237041090560 else u
theorem xZky (u:Int) (N:Nat):xZ8W N u=some (cln u):=by
 simp only [xZ8W,xZgf,Option.bind_some,xZso,cln,decide_eq_true_eq,Bool.cond_eq_ite]
 split<;>rfl
def vchk (v:xZ7):Int:=if v.Kind=1 then (if v.N < -4611686018427387904∨4611686018427387904 < v.N then 8 else if v.Bits=0∧v.Text=[] then 0 else 2) else if v.Kind=2 then (if v.N < 0∨1 < v.N then 8 else if v.Bits=0∧v.Text=[] then 0 else 2) else if v.Kind=3 then (if cln v.Bits≠v.Bits then 4 else if v.N=0∧v.Text=[] then 0 else 2) else if v.Kind=4 then (if 24 < v.Text.length then 5 else if v.N=0∧v.Bits=0 then 0 else 2) else 11
theorem xZik (v:xZ7) (N:Nat):xZ7j N v=some (vchk v):=by
 have hc:=xZky v.Bits N
 simp only [xZ7j,xZbl,vchk,Bool.cond_eq_ite,xZg8]
 by_cases k1:v.Kind=1
 ·simp [k1,xZ3O,xZ9];repeat' split
  all_goals first | rfl | (exfalso;omega) | simp_all [eq_comm]
 ·by_cases k2:v.Kind=2
  ·simp [k2,xZ38];repeat' split
   all_goals first | rfl | (exfalso;omega) | simp_all [eq_comm]
  ·by_cases k3:v.Kind=3
   ·simp [k3,xZ3J,hc];repeat' split
    all_goals first | rfl | (exfalso;omega) | simp_all [eq_comm]
   ·by_cases k4:v.Kind=4
    ·simp [k4,xZ4y,xZ9];repeat' split
     all_goals first | rfl | (exfalso;omega) | simp_all [eq_comm]
    ·simp [k1,k2,k3,k4]
end
section
theorem xZhh (u:Int) (h0:0≤u) (h1:u≤18446744073709551615) (N:Nat):xZ2K N u=some (cln u):=by
 obtain ⟨n,rfl⟩:∃ n:Nat,u=(n:Int):=⟨u.toNat,by omega⟩
 have d1:Int.tdiv (n:Int) 4503599627370496=((n / 4503599627370496:Nat):Int):=rfl
 have w1:IntKind.u64.wrap ((n / 4503599627370496:Nat):Int)=((n / 4503599627370496:Nat):Int):=by
  rw [IntKind.wrap_u64];omega
 have d2:Int.tmod ((n / 4503599627370496:Nat):Int) 2048=((n / 4503599627370496 % 2048:Nat):Int):=rfl
 have w2:IntKind.i64.wrap ((n / 4503599627370496 % 2048:Nat):Int)=((n / 4503599627370496 % 2048:Nat):Int):=by
  rw [IntKind.wrap_i64];omega
 have d3:Int.tmod (n:Int) 4503599627370496=((n % 4503599627370496:Nat):Int):=rfl
 have hexp:xZ3W N n=some ((n / 4503599627370496 % 2048:Nat):Int):=by simp only [xZ3W,d1,w1,d2,w2]
 have hfrac:xZ4L N n=some ((n % 4503599627370496:Nat):Int):=by simp only [xZ4L,d3]
 have hk:∃ k,xZ99 N n=some k∧(k==5)=decide (9218868437227405312 < n % 9223372036854775808):=by
  simp only [xZ99,hexp,hfrac,Option.bind_some,Bool.cond_eq_ite]
  by_cases c1:n / 4503599627370496 % 2048=2047
  ·have c1':(((n / 4503599627370496 % 2048:Nat):Int)==2047)=true:=by simp;omega
   by_cases c2:n % 4503599627370496=0
   ·have c2':(((n % 4503599627370496:Nat):Int) != 0)=false:=by simp;omega
    simp only [c1',c2',if_true]
    exact ⟨4,rfl,by symm;exact decide_eq_false (by omega)⟩
   ·have c2':(((n % 4503599627370496:Nat):Int) != 0)=true:=by simp;omega
    simp only [c1',c2',if_true]
    exact ⟨5,rfl,by symm;exact decide_eq_true (by omega)⟩
  ·have c1':(((n / 4503599627370496 % 2048:Nat):Int)==2047)=false:=by simp;omega
   simp only [c1',Bool.false_eq_true,if_false]
   have hd:decide (9218868437227405312 < n % 9223372036854775808)=false:=decide_eq_false (by omega)
   rw [hd]
   by_cases c3:(((n / 4503599627370496 % 2048:Nat):Int) != 0)=true
   ·simp only [c3,if_true];exact ⟨3,rfl,rfl⟩
   ·by_cases c4:(((n % 4503599627370496:Nat):Int) != 0)=true
    ·simp only [eq_false_of_ne_true c3,c4,if_true,Bool.false_eq_true,if_false];exact ⟨2,rfl,rfl⟩
    ·simp only [eq_false_of_ne_true c3,eq_false_of_ne_true c4,Bool.false_eq_true,if_false];exact ⟨1,rfl,rfl⟩
 obtain ⟨k,hk1,hk2⟩:=hk
 simp only [xZ2K,hk1,hk2,Option.bind_some,cln,decide_eq_true_eq,Int.toNat_natCast,Bool.cond_eq_ite]
 split<;>rfl
end
section
theorem xZhQ (v:xZ7) (h0:0≤v.Bits) (h1:v.Bits≤18446744073709551615) (N:Nat):xZ5k N v=some (vchk v):=by
 have hc:=xZhh v.Bits h0 h1 N
 simp only [xZ5k,hc,Option.bind_some,vchk,Bool.cond_eq_ite,xZ9]
 by_cases k1:v.Kind=1
 ·simp [k1];repeat' split
  all_goals first | rfl | (exfalso;omega) | simp_all
 ·by_cases k2:v.Kind=2
  ·simp [k2];repeat' split
   all_goals first | rfl | (exfalso;omega) | simp_all
  ·by_cases k3:v.Kind=3
   ·simp [k3];repeat' split
    all_goals first | rfl | (exfalso;omega) | simp_all
   ·by_cases k4:v.Kind=4
    ·simp [k4];repeat' split
     all_goals first | rfl | (exfalso;omega) | simp_all
    ·simp [k1,k2,k3,k4];repeat' split
     all_goals first | rfl | (exfalso;omega) | (intros;omega) | simp_all
end
section
def nResl:List (List UInt8):=[[119,105,116,104,105,110],[98,121],[97,110,100],[111,114],[110,111,116],[97,110,121],[110,101,120,116],[115,116,114,105,99,116],[116,114,117,101],[102,97,108,115,101]]
def nResv (s:List UInt8):Bool:=nResl.any (s==·)
theorem xZjI (s:List UInt8):W (fun N=>xZ1U N s) (·=nResv s):=by
 refine wall fun N=>?_
 have e2:∀ (b r:Bool),(bif b then some true else some r)=some (b || r):=by intro b r;cases b<;>rfl
 unfold xZ1U
 have e3:∀ (b r r':Bool),(bif b then some (b || r') else some r)=some (b || r):=by intro b r r';cases b<;>rfl
 have e4:∀ (b r:Bool),(bif b then some b else some r)=some (b || r):=by intro b r;cases b<;>rfl
 simp only [nResv,nResl,List.any_cons,List.any_nil,e2,e3,e4,Bool.or_false]
theorem xZjf (s:List UInt8):W (fun N=>xZ4q N s) (·=nResv s):=by
 refine wr1 (l:=nResl) (fun _ rest=>rest.any (s==·)) [] nResl rfl rfl (by decide) ?_ ?_
 ·intro F pre e rest hl h1 h2 h3 hn
  simp only [xZ1H]
  rw [show ltB (pre.length:Int) (List.length ([[119,105,116,104,105,110],[98,121],[97,110,100],[111,114],[110,111,116],[97,110,121],[110,101,120,116],[115,116,114,105,99,116],[116,114,117,101],[102,97,108,115,101]]:List (List UInt8)):Int)=true from h1]
  have h2':ix ([[119,105,116,104,105,110],[98,121],[97,110,100],[111,114],[110,111,116],[97,110,121],[110,101,120,116],[115,116,114,105,99,116],[116,114,117,101],[102,97,108,115,101]]:List (List UInt8)) (pre.length:Int)=some e:=h2
  simp only [h2',h3,Option.bind_some,cond_true,List.any_cons,xZn,W.cond,W.ret]
  rw [show (e==s)=(s==e) from BEq.comm]
  refine ⟨fun h=>by simp only [h,Bool.true_or],fun h=>by simp only [h,Bool.false_or];exact hn⟩
 ·intro F h1
  simp only [xZ1H]
  rw [show ltB (nResl.length:Int) (List.length ([[119,105,116,104,105,110],[98,121],[97,110,100],[111,114],[110,111,116],[97,110,121],[110,101,120,116],[115,116,114,105,99,116],[116,114,117,101],[102,97,108,115,101]]:List (List UInt8)):Int)=false from h1]
  exact W.ret.2 rfl
def nLtr (c:UInt8):Bool:=leB 97 (c.toNat:Int)&&leB (c.toNat:Int) 122
def nTl (c:UInt8):Bool:=nLtr c || (leB 48 (c.toNat:Int)&&leB (c.toNat:Int) 57) || ((c.toNat:Int)==95)
def nm:List UInt8→Bool
 | []=>false
 | c::t=>!(ltB 12 ((c::t).length:Int))&&(nLtr c&&(!nResv (c::t)&&t.all nTl))
theorem xZaJ (c:UInt8) (N:Nat):xZ25 N (c.toNat:Int)=some (nLtr c):=by
 simp only [xZ25,nLtr];cases leB 97 (c.toNat:Int)<;>rfl
theorem xZhJ (c:UInt8) (N:Nat):xZ48 N (c.toNat:Int)=some (nTl c):=by
 simp only [xZ48,xZaJ,Option.bind_some,nTl]
 cases nLtr c<;>cases leB 48 (c.toNat:Int)<;>cases leB (c.toNat:Int) 57<;>rfl
theorem xZ3Z (s:List UInt8):W (fun N=>xZN N s) (·=nm s):=by
 cases s with
 | nil=>exact wall fun _=>rfl
 | cons c t=>
   simp only [xZN,show ((c::t)==([]:List UInt8))=false from rfl,cond_false,W.cond,W.ret,show ix (c::t) 0=some c from rfl,Option.bind_some,xZaJ]
   refine ⟨fun h=>by simp only [nm,h,Bool.not_true,Bool.false_and],fun h=>⟨fun h'=>?_,fun h'=>?_⟩⟩
   ·have h':nLtr c=false:=by simpa using h'
    simp only [nm,h',Bool.false_and,Bool.and_false]
   have h':nLtr c=true:=by simpa using h'
   simp only [nm,h,h',Bool.not_false,Bool.true_and]
   refine W.call (xZjI _) ?_
   rintro _ rfl
   simp only [W.cond,W.ret]
   refine ⟨fun h2=>by simp only [h2,Bool.not_true,Bool.false_and],fun h2=>?_⟩
   simp only [h2,Bool.not_false,Bool.true_and]
   have hb:=xZf.1 h
   refine wr1 (l:=c::t) (fun _ rest=>rest.all nTl) [c] t rfl rfl (by omega) ?_ ?_
   ·intro F pre e rest hl h1 h2 h3 hn
    simp only [xZ2y,h1,h2,h3,Option.bind_some,cond_true,xZhJ,W.cond,W.ret,xZn,List.all_cons]
    refine ⟨fun h=>?_,fun h=>?_⟩
    ·have h:nTl e=false:=by simpa using h
     simp only [h,Bool.false_and]
    ·have h:nTl e=true:=by simpa using h
     simp only [h,Bool.true_and];exact hn
   ·intro F h1
    simp only [xZ2y,h1,cond_false,W.ret,List.all_nil]
def nmr:List UInt8→List UInt8→Bool
 | [],c::t=>nLtr c&&t.all nTl
 | [],[]=>true
 | _::_,rest=>rest.all nTl
theorem xZq9 (pre:List UInt8) (e:UInt8) (rest:List UInt8):nmr pre (e::rest)=(if (if pre=[] then nLtr e else nTl e)=true then rest.all nTl else false):=by
 cases pre with
 | nil=>simp only [nmr,if_true];cases nLtr e<;>rfl
 | cons c t=>simp only [nmr,List.all_cons,reduceCtorEq,if_false];cases nTl e<;>rfl
theorem xZqS (pre:List UInt8) (e:UInt8) (rest:List UInt8):nmr (pre++[e]) rest=rest.all nTl:=by
 cases pre<;>rfl
theorem xZ4O (s:List UInt8):W (fun N=>xZ1f N s) (·=nm s):=by
 cases s with
 | nil=>exact wall fun _=>rfl
 | cons c t=>
   have e0:ltB (((c::t).length:Nat):Int) 1=false:=xZf.2 (by simp;omega)
   simp only [xZ1f,e0,cond_false,W.cond,W.ret]
   refine ⟨fun h=>by simp only [nm,h,Bool.not_true,Bool.false_and],fun h=>?_⟩
   simp only [nm,h,Bool.not_false,Bool.true_and]
   refine W.call (xZjf _) ?_
   rintro _ rfl
   simp only [W.cond,W.ret]
   refine ⟨fun h2=>by simp only [h2,Bool.not_true,Bool.false_and,Bool.and_false],fun h2=>?_⟩
   simp only [h2,Bool.not_false,Bool.true_and]
   have hb:=xZf.1 h
   refine wr1 (l:=c::t) nmr [] (c::t) rfl rfl (by omega) ?_ ?_
   ·intro F pre e rest hl h1 h2 h3 hn
    simp only [xZ3b,h1,h2,h3,Option.bind_some,cond_true,xZn]
    rw [xZq9]
    rw [xZqS] at hn
    have hi0:((pre.length:Int)==0)=decide (pre=[]):=by cases pre<;>simp<;>omega
    have e95:(((e.toNat:Int)==95):Bool)=decide (e.toNat=95):=by rw [Bool.eq_iff_iff];simp;omega
    have a1:leB 97 (e.toNat:Int)=decide (97≤e.toNat):=by rw [xZ4g];simp only [decide_eq_decide];omega
    have a2:leB 48 (e.toNat:Int)=decide (48≤e.toNat):=by rw [xZ4g];simp only [decide_eq_decide];omega
    have a3:leB (e.toNat:Int) 57=decide (e.toNat≤57):=by rw [xZ4g];simp only [decide_eq_decide];omega
    have a4:leB (e.toNat:Int) 122=decide (e.toNat≤122):=by rw [xZ4g];simp only [decide_eq_decide];omega
    simp only [hi0,e95,a1,a2,a3,a4,nTl,nLtr]
    generalize rest.all nTl=R at hn ⊢
    by_cases b0:pre=[]<;>by_cases b1:97≤e.toNat<;>by_cases b2:48≤e.toNat<;>by_cases b3:e.toNat≤57<;>by_cases b4:e.toNat≤122<;>by_cases b5:e.toNat=95<;>
     first | (exfalso;omega) | (simp only [b0,b1,b2,b3,b4,b5,decide_true,decide_false,if_true,if_false,cond_true,cond_false,Bool.not_true,Bool.not_false,Bool.true_and,Bool.and_true,Bool.false_and,Bool.and_false,Bool.true_or,Bool.or_true,Bool.false_or,Bool.or_false,reduceCtorEq,Bool.false_eq_true];first | exact hn | (subst b0;exact hn) | exact W.ret.2 rfl)
   ·intro F h1
    simp only [xZ3b,h1,cond_false,W.ret,nmr,List.all_nil]
end
section
def zT:xZ3:=⟨0,0,[],⟨0,0,0,[]⟩⟩
def tk (y:List xZ3) (i:Nat):xZ3:=y[i]?.getD zT
end
section
theorem W.shift {α:Type} {f:Nat→Option α} {Q:α→Prop} (h:W (fun N=>f (N+1)) Q):W f Q:=by
 obtain ⟨a,⟨n,hn⟩,hq⟩:=h
 refine ⟨a,⟨n+1,fun N hN=>?_⟩,hq⟩
 obtain ⟨M,rfl⟩:∃ M,N=M+1:=⟨N - 1,by omega⟩
 exact hn M (by omega)
def bn (k:Int):xZ2:=⟨k,0,[],[],⟨0,0,0,[]⟩⟩
end
section
def sgV (v:Int):List UInt8:=if v=1 then [61] else if v=2 then [33,61] else if v=3 then [60] else if v=4 then [60,61] else if v=5 then [62] else [62,61]
end
section
def bad (n:xZ2):Bool:=bif n.Kind==4 then !(leB 1 n.Op&&leB n.Op 6) else bif n.Kind==7 then !nm n.Name else bif n.Kind==8 then (!nm n.Name) || (!nm n.Var) else bif n.Kind==9 then vchk n.Val != 0 else false
def nds (n:xZ2):Int:=bif bad n then 4 else bif moreB n then 2 else 0
theorem xZrc (v:Int) (N:Nat):∃ s,xZ35 N v=some s∧(s==[])=!(leB 1 v&&leB v 6):=by
 by_cases h:1≤v∧v≤6
 ·have h6:v=1∨v=2∨v=3∨v=4∨v=5∨v=6:=by omega
  rcases h6 with rfl | rfl | rfl | rfl | rfl | rfl<;>exact ⟨_,rfl,rfl⟩
 ·refine ⟨[],?_,?_⟩
  ·have e:∀ k:Int,1≤k∧k≤6→(v==k)=false:=fun k hk=>by
    rw [beq_eq_false_iff_ne];intro he;subst he;exact h hk
   simp only [xZ35,e 1 (by omega),e 2 (by omega),e 3 (by omega),e 4 (by omega),e 5 (by omega),e 6 (by omega),cond_false]
  ·rw [xZ4g,xZ4g]
   have:¬ (1≤v∧v≤6):=h
   by_cases h1:1≤v
   ·have:¬ v≤6:=fun h2=>h ⟨h1,h2⟩
    simp [h1,this]
   ·simp [h1]
theorem xZrW (n:xZ2):W (fun N=>xZ3H N n) (·=bad n):=by
 obtain ⟨k,op,va,na,v⟩:=n
 simp only [xZ3H,bad]
 by_cases h4:k=4
 ·subst h4
  have e:∀ N,((xZ35 N op).bind fun sign=>some (sign==[]))=some (!(leB 1 op&&leB op 6)):=fun N=>by
   obtain ⟨s,hs,h⟩:=xZrc op N
   rw [hs,Option.bind_some,h]
  simp only [show ((4:Int)==4)=true from rfl,cond_true,e,W.ret]
 simp only [show (k==4)=false by simpa using h4,cond_false]
 by_cases h7:k=7
 ·subst h7
  simp only [show ((7:Int)==7)=true from rfl,cond_true]
  refine W.call (xZ3Z na) ?_
  rintro _ rfl
  simp only [W.ret]
 simp only [show (k==7)=false by simpa using h7,cond_false]
 by_cases h8:k=8
 ·subst h8
  simp only [show ((8:Int)==8)=true from rfl,cond_true]
  refine W.call (xZ3Z na) ?_
  rintro _ rfl
  cases hn:nm na with
  | false=>simp [W.ret]
  | true=>
    simp only [Bool.not_true,cond_false]
    refine W.call (xZ3Z va) ?_
    rintro _ rfl
    simp [W.ret]
 simp only [show (k==8)=false by simpa using h8,cond_false]
 by_cases h9:k=9
 ·subst h9
  simp only [show ((9:Int)==9)=true from rfl,cond_true,xZik,Option.bind_some,W.ret]
 simp only [show (k==9)=false by simpa using h9,cond_false,W.ret]
set_option maxHeartbeats 4000000 in
theorem xZtO (n:xZ2) (b0:0≤n.Val.Bits) (b1:n.Val.Bits≤18446744073709551615):W (fun N=>xZ7H N n) (·=nds n):=by
 obtain ⟨k,op,va,na,v⟩:=n
 simp only at b0 b1
 simp only [xZ7H,xZ4l,xZ30,xZ1o,xZ6I,xZ2H,nds,bad,moreB,moreZ]
 by_cases h4:k=4
 ·subst h4
  have l1:ltB op 1=!leB 1 op:=by rw [xZ50,xZ4g];by_cases h:op < 1<;>simp [h]<;>omega
  have l2:ltB 6 op=!leB op 6:=by rw [xZ50,xZ4g];by_cases h:6 < op<;>simp [h]<;>omega
  simp only [l1,l2]
  cases leB 1 op<;>cases leB op 6<;>cases hv:(va==[])<;>cases hn:(na==[])<;>cases hz:((v.Kind==0)&&((v.N==0)&&((v.Bits==0)&&(v.Text==[]))))<;>simp [W.ret]
 by_cases h7:k=7
 ·subst h7
  simp only [show ((7:Int)==4)=false from rfl,show ((7:Int)==7)=true from rfl,cond_false,cond_true]
  refine W.call (xZ4O na) ?_
  rintro _ rfl
  cases nm na<;>cases ho:(op==0)<;>cases hv:(va==[])<;>cases hz:((v.Kind==0)&&((v.N==0)&&((v.Bits==0)&&(v.Text==[]))))<;>simp [W.ret,bne,ho]
 by_cases h8:k=8
 ·subst h8
  simp only [show ((8:Int)==4)=false from rfl,show ((8:Int)==7)=false from rfl,show ((8:Int)==8)=true from rfl,cond_false,cond_true]
  refine W.call (xZ4O na) ?_
  rintro _ rfl
  cases nm na with
  | false=>simp [W.ret]
  | true=>
    simp only [Bool.not_true,cond_false]
    refine W.call (xZ4O va) ?_
    rintro _ rfl
    cases nm va<;>cases ho:(op==0)<;>cases hz:((v.Kind==0)&&((v.N==0)&&((v.Bits==0)&&(v.Text==[]))))<;>simp [W.ret,bne,ho]
 by_cases h9:k=9
 ·subst h9
  simp only [xZhQ v b0 b1,Option.bind_some]
  cases hc:(vchk v==0)<;>cases ho:(op==0)<;>cases hv:(va==[])<;>cases hn:(na==[])<;>simp [W.ret,bne,ho,hc]
 have e4:(k==4)=false:=by simpa using h4
 have e7:(k==7)=false:=by simpa using h7
 have e8:(k==8)=false:=by simpa using h8
 have e9:(k==9)=false:=by simpa using h9
 simp only [e4,e7,e8,e9,bne,cond_false,Bool.not_false,cond_true]
 cases ho:(op==0)<;>cases hv:(va==[])<;>cases hn:(na==[])<;>cases hz:((v.Kind==0)&&((v.N==0)&&((v.Bits==0)&&(v.Text==[]))))<;>simp [W.ret]
end
section
def kdN (k:Int):Int:=if k=1∨k=2∨k=4∨k=5∨k=6 then 2 else if k=3 then 1 else 0
def kdW (k:Int) (x:Int):Int:=if k≤3 then 0 else if k=4 then 1 else if x=0 then 1 else 2
def stB (k w:Int):Bool:=bif w==0 then leB 1 k&&leB k 4 else bif w==1 then leB 5 k&&leB k 9 else leB 7 k&&leB k 9
abbrev TF:=Int→Int→Nat→Int×Nat
def kids (p:TF) (k d:Int) (i:Nat):Int×Nat:=if kdN k=0 then (0,i) else if (p (kdW k 0) (d+1) i).1≠0∨kdN k=1 then p (kdW k 0) (d+1) i else p (kdW k 1) (d+1) (p (kdW k 0) (d+1) i).2
def trS (l:List xZ2) (p:TF):TF:=fun w d i=>
 match l[i]? with
 | none=>(3,i)
 | some n=>if 16≤d then (15,i) else if stB n.Kind w=false then (11,i) else if nds n≠0 then (nds n,i) else kids p n.Kind d (i+1)
def TR (l:List xZ2):Nat→TF
 | 0=>fun _ _ i=>(3,i)
 | n+1=>trS l (TR l n)
theorem xZuS (k:Int) (N:Nat):xZas N k=some (kdN k):=by
 simp only [xZas,kdN]
 by_cases h1:k=1
 ·subst h1;rfl
 by_cases h2:k=2
 ·subst h2;rfl
 by_cases h4:k=4
 ·subst h4;rfl
 by_cases h5:k=5
 ·subst h5;rfl
 by_cases h6:k=6
 ·subst h6;rfl
 simp only [show (k==1)=false by simpa using h1,show (k==2)=false by simpa using h2,show (k==4)=false by simpa using h4,show (k==5)=false by simpa using h5,show (k==6)=false by simpa using h6,cond_false,h1,h2,h4,h5,h6,false_or,if_false]
 by_cases h3:k=3
 ·subst h3;rfl
 ·simp [h3,show (k==3)=false by simpa using h3]
theorem xZtk (k:Int) (N:Nat):xZ98 N k=some (kdN k):=by
 simp only [xZ98,kdN]
 by_cases h1:k=1
 ·subst h1;rfl
 by_cases h2:k=2
 ·subst h2;rfl
 by_cases h4:k=4
 ·subst h4;rfl
 by_cases h5:k=5
 ·subst h5;rfl
 by_cases h6:k=6
 ·subst h6;rfl
 simp only [show (k==1)=false by simpa using h1,show (k==2)=false by simpa using h2,show (k==4)=false by simpa using h4,show (k==5)=false by simpa using h5,show (k==6)=false by simpa using h6,cond_false,h1,h2,h4,h5,h6,false_or,if_false]
 by_cases h3:k=3
 ·subst h3;rfl
 ·simp [h3,show (k==3)=false by simpa using h3]
theorem e_kid (n:xZ2) (x:Int) (N:Nat):xZ5f N n x=some (kdW n.Kind x):=by
 simp only [xZ5f,kdW,xZ4g]
 by_cases h3:n.Kind≤3
 ·simp [h3]
 ·by_cases h4:n.Kind=4
  ·simp [h4]
  ·by_cases hx:x=0
   ·simp [h3,h4,hx,show (n.Kind==4)=false by simpa using h4]
   ·simp [h3,h4,hx,show (x==0)=false by simpa using hx,show (n.Kind==4)=false by simpa using h4]
theorem xZvG (k x:Int) (N:Nat):xZaw N k x=some (kdW k x+1):=by
 simp only [xZaw,kdW,xZ4g]
 by_cases h3:k≤3
 ·simp [h3]
 ·by_cases h4:k=4
  ·simp [h4]
  ·by_cases hx:x=0
   ·simp [h3,h4,hx,show (k==4)=false by simpa using h4]
   ·simp [h3,h4,hx,show (x==0)=false by simpa using hx,show (k==4)=false by simpa using h4]
theorem xZqz (n:xZ2) (w:Int) (N:Nat):xZ36 N n w=some (stB n.Kind w):=by
 simp only [xZ36,stB]
 cases w==0<;>cases w==1<;>cases leB 1 n.Kind<;>cases leB 5 n.Kind<;>cases leB 7 n.Kind<;>simp
theorem e_may (k w:Int) (N:Nat):xZau N k (w+1)=some (stB k w):=by
 simp only [xZau,stB]
 have e1:(w+1==1)=(w==0):=by rw [Bool.eq_iff_iff,beq_iff_eq,beq_iff_eq];omega
 have e2:(w+1==2)=(w==1):=by rw [Bool.eq_iff_iff,beq_iff_eq,beq_iff_eq];omega
 rw [e1,e2]
 cases w==0<;>cases w==1<;>cases leB 1 k<;>cases leB 5 k<;>cases leB 7 k<;>simp
theorem kdN_b (k:Int):0≤kdN k∧kdN k≤2:=by
 unfold kdN
 repeat' split
 all_goals omega
theorem xZou {l:List xZ2} {i:Nat}:(leB (l.length:Int) (i:Int)=(l[i]?).isNone)∧∀ n,l[i]?=some n→ix l (i:Int)=some n:=by
 refine ⟨?_,fun n h=>by rw [ix_nat',h]⟩
 rw [xZ4g,Bool.eq_iff_iff,decide_eq_true_iff,Option.isNone_iff_eq_none,List.getElem?_eq_none_iff]
 omega
theorem xZuR {l:List xZ2} {p:TF} {n:xZ2} {d:Int} {i:Nat} (hl:l.length≤30) (hd0:0≤d) (hd:d < 16) (hp:∀ (w:Int) (j:Nat),W (fun N=>(xZy N) w (d+1) l j) (·=((p w (d+1) j).1,l,((p w (d+1) j).2:Int)))):
 W (fun N=>lp3 (xZ1k N (xZy N) d (kdN n.Kind) n.Kind n.Op n.Var n.Name n.Val.Kind n.Val.N n.Val.Bits n.Val.Text) N 0 l (i:Int)) (·=((kids p n.Kind d i).1,l,((kids p n.Kind d i).2:Int))):=by
 have hb:=kdN_b n.Kind
 refine W.lp3 (N:=fun N=>N) (fun x y j=>y=l∧((x=0∧j=(i:Int))∨(x=1∧kdN n.Kind≠0∧(p (kdW n.Kind 0) (d+1) i).1=0∧j=((p (kdW n.Kind 0) (d+1) i).2:Int))∨
  (x=2∧kdN n.Kind=2∧(p (kdW n.Kind 0) (d+1) i).1=0∧(p (kdW n.Kind 1) (d+1) (p (kdW n.Kind 0) (d+1) i).2).1=0∧j=((p (kdW n.Kind 1) (d+1) (p (kdW n.Kind 0) (d+1) i).2).2:Int)))) (fun x _ _=>(3 - x).toNat) ⟨rfl,.inl ⟨rfl,rfl⟩⟩ ?_
 rintro F x y j ⟨rfl,h⟩ hn
 simp only [xZ1k,e_kid,Option.bind_some,W.cond,W.gd,xZ9,xZf,xZc,W.ret]
 rcases h with ⟨rfl,rfl⟩ | ⟨rfl,h1,h2,rfl⟩ | ⟨rfl,h1,h2,h3,rfl⟩
 ·refine ⟨fun hx=>⟨by omega,?_⟩,fun hx=>?_⟩
  ·refine W.bind (hp _ i).lift ?_
   rintro _ rfl
   simp only [W.cond,W.gd,W.ret,xZc]
   refine ⟨fun h0=>?_,fun h0=>⟨by omega,hn _ _ _ ⟨rfl,.inr (.inl ⟨rfl,by omega,by simpa using h0,rfl⟩)⟩ (by omega)⟩⟩
   have h0:(p (kdW n.Kind 0) (d+1) i).1≠0:=by simpa using h0
   rw [kids,if_neg (by omega),if_pos (.inl h0)]
  ·rw [kids,if_pos (by omega)]
 ·refine ⟨fun hx=>⟨by omega,?_⟩,fun hx=>?_⟩
  ·refine W.bind (hp _ _).lift ?_
   rintro _ rfl
   simp only [W.cond,W.gd,W.ret,xZc]
   refine ⟨fun h0=>?_,fun h0=>⟨by omega,hn _ _ _ ⟨rfl,.inr (.inr ⟨rfl,by omega,h2,by simpa using h0,rfl⟩)⟩ (by omega)⟩⟩
   rw [kids,if_neg (by omega),if_neg (by intro h;rcases h with h | h<;>omega)]
  ·rw [kids,if_neg h1,if_pos (.inr (by omega))]
   rw [h2]
 ·refine ⟨fun hx=>by omega,fun hx=>?_⟩
  rw [kids,if_neg (by omega),if_neg (by intro h;rcases h with h | h<;>omega),h3]
end
section
theorem xZuM {l:List xZ2} {p:TF} {k:Int} {d:Int} {i:Nat} (hl:l.length≤30) (hd0:0≤d) (hd:d < 16) (hp:∀ (w:Int) (j:Nat),W (fun N=>(xZ43 N) l j (w+1) (d+1)) (·=(((p w (d+1) j).2:Int),(p w (d+1) j).1))):
 W (fun N=>lp2 (xZ6b N (xZ43 N) l d k) N (i:Int) 0) (·=(((kids p k d i).2:Int),(kids p k d i).1)):=by
 have hb:=kdN_b k
 refine W.lp2 (N:=fun N=>N) (fun j x=>((x=0∧j=(i:Int))∨(x=1∧kdN k≠0∧(p (kdW k 0) (d+1) i).1=0∧j=((p (kdW k 0) (d+1) i).2:Int))∨
  (x=2∧kdN k=2∧(p (kdW k 0) (d+1) i).1=0∧(p (kdW k 1) (d+1) (p (kdW k 0) (d+1) i).2).1=0∧j=((p (kdW k 1) (d+1) (p (kdW k 0) (d+1) i).2).2:Int)))) (fun _ x=>(3 - x).toNat) (.inl ⟨rfl,rfl⟩) ?_
 rintro F j x h hn
 simp only [xZ6b,xZtk,xZvG,Option.bind_some,W.cond,W.gd,xZ9,xZf,xZc,W.ret]
 rcases h with ⟨rfl,rfl⟩ | ⟨rfl,h1,h2,rfl⟩ | ⟨rfl,h1,h2,h3,rfl⟩
 ·refine ⟨fun hx=>⟨by omega,?_⟩,fun hx=>?_⟩
  ·refine W.bind (hp _ i).lift ?_
   rintro _ rfl
   simp only [W.cond,W.gd,W.ret,xZc]
   refine ⟨fun h0=>?_,fun h0=>⟨by omega,hn _ _ (.inr (.inl ⟨rfl,by omega,by simpa using h0,rfl⟩)) (by omega)⟩⟩
   have h0:(p (kdW k 0) (d+1) i).1≠0:=by simpa using h0
   rw [kids,if_neg (by omega),if_pos (.inl h0)]
  ·rw [kids,if_pos (by omega)]
 ·refine ⟨fun hx=>⟨by omega,?_⟩,fun hx=>?_⟩
  ·refine W.bind (hp _ _).lift ?_
   rintro _ rfl
   simp only [W.cond,W.gd,W.ret,xZc]
   refine ⟨fun h0=>?_,fun h0=>⟨by omega,hn _ _ (.inr (.inr ⟨rfl,by omega,h2,by simpa using h0,rfl⟩)) (by omega)⟩⟩
   rw [kids,if_neg (by omega),if_neg (by intro h;rcases h with h | h<;>omega)]
  ·rw [kids,if_neg h1,if_pos (.inr (by omega))]
   rw [h2]
 ·refine ⟨fun hx=>by omega,fun hx=>?_⟩
  rw [kids,if_neg (by omega),if_neg (by intro h;rcases h with h | h<;>omega),h3]
def okN (l:List xZ2):Prop:=∀ n∈l,0≤n.Val.Bits∧n.Val.Bits≤18446744073709551615
theorem xZvA (n:xZ2):nds n=if bad n=true then 4 else if moreB n=true then 2 else 0:=by
 unfold nds
 cases bad n<;>cases moreB n<;>rfl
theorem xZtP {l:List xZ2} (hl:l.length≤30):∀ (n:Nat) (w d:Int) (i:Nat),0≤d→d≤16→16 - d+1≤n→W (fun N=>(xZy N) w d l i) (·=((TR l n w d i).1,l,((TR l n w d i).2:Int)))
 | 0,w,d,i,h0,h1,h2=>by omega
 | n+1,w,d,i,h0,h1,h2=>by
   refine W.shift ?_
   show W (fun N=>xZ2m N (xZy N) w d l i) _
   simp only [xZ2m,xZou.1]
   show W _ (·=((trS l (TR l n) w d i).1,l,((trS l (TR l n) w d i).2:Int)))
   unfold trS
   cases hg:l[i]? with
   | none=>simp only [Option.isNone_none,cond_true,W.ret]
   | some nd=>
     have hi:i < 30:=by have:=(List.getElem?_eq_some_iff.1 hg).1;omega
     simp only [Option.isNone_some,cond_false,xZou.2 nd hg,Option.bind_some,xZ4g,xZqz]
     by_cases hd:16≤d
     ·simp only [decide_eq_true hd,cond_true,if_pos hd,W.ret]
     simp only [decide_eq_false hd,cond_false,if_neg hd]
     cases hs:stB nd.Kind w with
     | false=>simp only [Bool.not_false,cond_true,W.ret,if_true]
     | true=>
       simp only [Bool.not_true,cond_false,Bool.true_eq_false,if_false,xZ9b,xZ9j,xZ6r]
       refine W.bind (P:=(·=if bad nd=true then (4:Int) else 0)) ?_ ?_
       ·refine W.call (xZrW nd) ?_
        rintro _ rfl
        cases bad nd<;>simp [W.ret]
       rintro _ rfl
       rw [xZvA]
       cases hb:bad nd with
       | true=>simp [W.ret]
       | false=>
         cases hm:moreB nd with
         | true=>simp [W.ret,hm]
         | false=>
           simp only [Bool.false_eq_true,if_false,show ((0:Int) != 0)=false from rfl,cond_false,Option.bind_some,W.gd,xZc,xZuS,ne_eq,not_true_eq_false]
           refine ⟨by omega,?_⟩
           have:=xZuR (l:=l) (p:=TR l n) (n:=nd) (d:=d) (i:=i+1) hl h0 (by omega) fun w j=>xZtP hl n w (d+1) j (by omega) (by omega) (by omega)
           simpa using this
theorem xZtr {l:List xZ2} (hl:l.length≤30) (hk:okN l):∀ (n:Nat) (w d:Int) (i:Nat),0≤d→d≤16→16 - d+1≤n→W (fun N=>(xZ43 N) l i (w+1) d) (·=(((TR l n w d i).2:Int),(TR l n w d i).1))
 | 0,w,d,i,h0,h1,h2=>by omega
 | n+1,w,d,i,h0,h1,h2=>by
   refine W.shift ?_
   show W (fun N=>xZbb N (xZ43 N) l i (w+1) d) _
   simp only [xZbb,xZou.1]
   show W _ (·=(((trS l (TR l n) w d i).2:Int),(trS l (TR l n) w d i).1))
   unfold trS
   cases hg:l[i]? with
   | none=>simp only [Option.isNone_none,cond_true,W.ret]
   | some nd=>
     have hi:i < 30:=by have:=(List.getElem?_eq_some_iff.1 hg).1;omega
     have hmem:nd∈l:=List.mem_of_getElem? hg
     simp only [Option.isNone_some,cond_false,xZou.2 nd hg,Option.bind_some,xZ4g,e_may]
     by_cases hd:16≤d
     ·simp only [decide_eq_true hd,cond_true,if_pos hd,W.ret]
     simp only [decide_eq_false hd,cond_false,if_neg hd]
     cases hs:stB nd.Kind w with
     | false=>simp only [Bool.not_false,cond_true,W.ret,if_true]
     | true=>
       simp only [Bool.not_true,cond_false,Bool.true_eq_false,if_false]
       refine W.call (xZtO nd (hk nd hmem).1 (hk nd hmem).2) ?_
       rintro _ rfl
       by_cases h3:nds nd=0
       ·simp only [h3,show ((0:Int) != 0)=false from rfl,cond_false,W.gd,xZc,ne_eq,not_true_eq_false,if_false]
        refine ⟨by omega,?_⟩
        have:=xZuM (l:=l) (p:=TR l n) (k:=nd.Kind) (d:=d) (i:=i+1) hl h0 (by omega) fun w j=>xZtr hl hk n w (d+1) j (by omega) (by omega) (by omega)
        simpa using this
       ·simp only [show (nds nd != 0)=true by simpa using h3,cond_true,W.ret,ne_eq,h3,not_false_eq_true,if_true]
def chk (l:List xZ2):Int:=if 30 < l.length then 5 else if l.length=0 then 0 else if (TR l 17 0 0 0).1≠0 then (TR l 17 0 0 0).1 else if (TR l 17 0 0 0).2 < l.length then 5 else 0
theorem xZsA (l:List xZ2):W (fun N=>xZ2G N l) (·=chk l):=by
 simp only [xZ2G,chk,W.cond,xZ9,xZf,W.ret]
 refine ⟨fun h=>by rw [if_pos (by omega)],fun h=>?_⟩
 rw [if_neg (by omega)]
 refine ⟨fun h2=>by rw [if_pos (by simpa using h2)],fun h2=>?_⟩
 have h2:¬ l.length=0:=by simpa using h2
 rw [if_neg h2]
 refine W.call (xZtP (l:=l) (by omega) 17 0 0 0 (by omega) (by omega) (by omega)) ?_
 rintro _ rfl
 simp only [W.cond,W.ret,xZ9,xZf]
 refine ⟨fun h3=>by rw [if_pos (by simpa using h3)],fun h3=>?_⟩
 rw [if_neg (by simpa using h3)]
 exact ⟨fun h4=>by rw [if_pos (by omega)],fun h4=>by rw [if_neg (by omega)]⟩
theorem xZra (l:List xZ2) (hk:okN l):W (fun N=>xZ7z N l) (·=chk l):=by
 simp only [xZ7z,chk,W.cond,xZ9,xZf,W.ret]
 refine ⟨fun h=>by rw [if_pos (by omega)],fun h=>?_⟩
 rw [if_neg (by omega)]
 refine ⟨fun h2=>by rw [if_pos (by simpa using h2)],fun h2=>?_⟩
 have h2:¬ l.length=0:=by simpa using h2
 rw [if_neg h2]
 refine W.call (xZtr (l:=l) (by omega) hk 17 0 0 0 (by omega) (by omega) (by omega)) ?_
 rintro _ rfl
 simp only [W.cond,W.ret,xZ9,xZf]
 refine ⟨fun h3=>by rw [if_pos (by simpa using h3)],fun h3=>?_⟩
 rw [if_neg (by simpa using h3)]
 exact ⟨fun h4=>by rw [if_pos (by omega)],fun h4=>by rw [if_neg (by omega)]⟩
end
section
def zv:xZ7:=⟨0,0,0,[]⟩
def isD (c:UInt8):Bool:=leB 48 (c.toNat:Int)&&leB (c.toNat:Int) 57
def hx (c:UInt8):Option Nat:=if isD c then some (c.toNat - 48) else if leB 97 (c.toNat:Int)&&leB (c.toNat:Int) 102 then some (c.toNat - 87) else none
/-! ### Small facts -/
end
section
theorem xZue {α:Type} {l:List α} {k:Nat} {e:α} (h:l[k]?=some e):l.drop k=e::l.drop (k+1):=by
 obtain ⟨h1,h2⟩:=List.getElem?_eq_some_iff.1 h
 rw [List.drop_eq_getElem_cons h1,h2]
end
section
inductive TU where
 | own (n:List UInt8)
 | of (v n:List UInt8)
 | lit (v:xZ7)
inductive TS where
 | u (a:TU)
 | op (k:Bool) (s:TS) (a:TU)
inductive TT where
 | or (a b:TT)
 | and (a b:TT)
 | not (a:TT)
 | test (o:Int) (a b:TS)
def TU.nd:TU→xZ2
 | .own n=>⟨7,0,[],n,zv⟩
 | .of v n=>⟨8,0,v,n,zv⟩
 | .lit v=>⟨9,0,[],[],v⟩
def TS.fl:TS→List xZ2
 | .u a=>[a.nd]
 | .op k s a=>bn (if k then 6 else 5)::(s.fl++[a.nd])
def TT.fl:TT→List xZ2
 | .or a b=>bn 2::(a.fl++b.fl)
 | .and a b=>bn 1::(a.fl++b.fl)
 | .not a=>bn 3::a.fl
 | .test o a b=>⟨4,o,[],[],zv⟩::(a.fl++b.fl)
def TU.ok:TU→Prop
 | .own n=>nm n=true
 | .of v n=>nm v=true∧nm n=true
 | .lit v=>vchk v=0∧0≤v.Bits∧v.Bits < 18446744073709551616
def TS.ok:TS→Prop
 | .u a=>a.ok
 | .op _ s a=>s.ok∧a.ok
def TT.ok:TT→Prop
 | .or a b=>a.ok∧b.ok
 | .and a b=>a.ok∧b.ok
 | .not a=>a.ok
 | .test o a b=>1≤o∧o≤6∧a.ok∧b.ok
def TT.ht:TT→Nat
 | .or a b=>1+max a.ht b.ht
 | .and a b=>1+max a.ht b.ht
 | .not a=>1+a.ht
 | .test _ _ _=>1
theorem xZh2 {v:xZ7} (h:moreZ v=true):v=zv:=by
 obtain ⟨a,b,c,d⟩:=v
 simp only [moreZ,Bool.and_eq_true,beq_iff_eq] at h
 obtain ⟨rfl,rfl,rfl,rfl⟩:=h;rfl
theorem nds_0 {n:xZ2} (h:nds n=0):bad n=false∧moreB n=false:=by
 unfold nds at h
 cases h1:bad n<;>cases h2:moreB n<;>rw [h1,h2] at h<;>first | exact ⟨rfl,rfl⟩ | cases h
theorem xZnr {n:xZ2} (h:nds n=0) (h4:n.Kind≠4) (h7:n.Kind≠7) (h8:n.Kind≠8) (h9:n.Kind≠9):n=bn n.Kind:=by
 obtain ⟨k,o,v,nn,w⟩:=n
 have:=(nds_0 h).2
 simp only [moreB,show (k==4)=false by simpa using h4,show (k==7)=false by simpa using h7,show (k==8)=false by simpa using h8,show (k==9)=false by simpa using h9,cond_false,Bool.not_eq_false',Bool.and_eq_true,beq_iff_eq] at this
 obtain ⟨rfl,rfl,rfl,hz⟩:=this
 rw [xZh2 hz];rfl
theorem xZtG {n:xZ2} (h:nds n=0) (h4:n.Kind=4):n=⟨4,n.Op,[],[],zv⟩∧1≤n.Op∧n.Op≤6:=by
 obtain ⟨k,o,v,nn,w⟩:=n
 obtain ⟨h1,h2⟩:=nds_0 h
 simp only at h4;subst h4
 simp only [moreB,bad,show ((4:Int)==4)=true from rfl,cond_true,Bool.not_eq_false',Bool.and_eq_true,beq_iff_eq,xZI] at h1 h2
 obtain ⟨rfl,rfl,hz⟩:=h2
 rw [xZh2 hz];exact ⟨rfl,h1⟩
theorem xZug {n:xZ2} (h:nds n=0) (hb:0≤n.Val.Bits∧n.Val.Bits≤18446744073709551615) (hk:n.Kind=7∨n.Kind=8∨n.Kind=9):∃ a:TU,a.ok∧n=a.nd:=by
 obtain ⟨k,o,v,nn,w⟩:=n
 obtain ⟨h1,h2⟩:=nds_0 h
 simp only at hk hb
 rcases hk with rfl | rfl | rfl
 ·simp only [moreB,bad,show ((7:Int)==4)=false from rfl,show ((7:Int)==7)=true from rfl,cond_true,cond_false,Bool.not_eq_false',Bool.and_eq_true,beq_iff_eq] at h1 h2
  obtain ⟨rfl,rfl,hz⟩:=h2
  rw [xZh2 hz]
  exact ⟨.own nn,h1,rfl⟩
 ·simp only [moreB,bad,show ((8:Int)==4)=false from rfl,show ((8:Int)==7)=false from rfl,show ((8:Int)==8)=true from rfl,cond_true,cond_false,Bool.not_eq_false',Bool.and_eq_true,Bool.or_eq_false_iff,beq_iff_eq] at h1 h2
  obtain ⟨rfl,hz⟩:=h2
  rw [xZh2 hz]
  exact ⟨.of v nn,⟨h1.2,h1.1⟩,rfl⟩
 ·simp only [moreB,bad,show ((9:Int)==4)=false from rfl,show ((9:Int)==7)=false from rfl,show ((9:Int)==8)=false from rfl,show ((9:Int)==9)=true from rfl,cond_true,cond_false,Bool.not_eq_false',Bool.and_eq_true,beq_iff_eq,bne_eq_false_iff_eq] at h1 h2
  obtain ⟨rfl,rfl,rfl⟩:=h2
  exact ⟨.lit w,⟨h1,hb.1,by omega⟩,rfl⟩
theorem xZs9 {l:List xZ2} {n:Nat} {w d:Int} {i j:Nat} (h:TR l (n+1) w d i=(0,j)):∃ nd,l[i]?=some nd∧d < 16∧stB nd.Kind w=true∧nds nd=0∧kids (TR l n) nd.Kind d (i+1)=(0,j):=by
 simp only [TR,trS] at h
 cases hl:l[i]? with
 | none=>rw [hl] at h;cases h
 | some nd=>
   rw [hl] at h;simp only at h
   by_cases h1:16≤d
   ·rw [if_pos h1] at h;cases h
   rw [if_neg h1] at h
   by_cases h2:stB nd.Kind w=false
   ·rw [if_pos h2] at h;cases h
   rw [if_neg h2] at h
   by_cases h3:nds nd≠0
   ·rw [if_pos h3] at h;exact absurd (Prod.mk.inj h).1 h3
   rw [if_neg h3] at h
   exact ⟨nd,rfl,by omega,by simpa using h2,by simpa using h3,h⟩
theorem kids2 {p:TF} {k d:Int} {i j:Nat} (hk:kdN k=2) (h:kids p k d i=(0,j)):∃ m,p (kdW k 0) (d+1) i=(0,m)∧p (kdW k 1) (d+1) m=(0,j):=by
 rw [kids,if_neg (by omega)] at h
 by_cases h0:(p (kdW k 0) (d+1) i).1≠0
 ·rw [if_pos (.inl h0)] at h;rw [h] at h0;exact absurd rfl h0
 ·rw [if_neg (by intro q;rcases q with q | q<;>omega)] at h
  exact ⟨_,Prod.ext (by simpa using h0) rfl,h⟩
theorem kids1 {p:TF} {k d:Int} {i j:Nat} (hk:kdN k=1) (h:kids p k d i=(0,j)):p (kdW k 0) (d+1) i=(0,j):=by
 rwa [kids,if_neg (by omega),if_pos (.inr hk)] at h
theorem kids0 {p:TF} {k d:Int} {i j:Nat} (hk:kdN k=0) (h:kids p k d i=(0,j)):j=i:=by
 rw [kids,if_pos hk] at h;cases h;rfl
theorem xZdB {l:List xZ2} (ho:okN l):∀ (n:Nat) (w d:Int) (i j:Nat),TR l n w d i=(0,j)→
 (w=2→∃ a:TU,a.ok∧l.drop i=a.nd::l.drop j∧j=i+1)∧
 (w=1→∃ s:TS,s.ok∧l.drop i=s.fl++l.drop j∧j=i+s.fl.length)∧
 (w=0→∃ t:TT,t.ok∧l.drop i=t.fl++l.drop j∧j=i+t.fl.length∧d+t.ht≤16)
 | 0,w,d,i,j,h=>by simp only [TR] at h;cases h
 | n+1,w,d,i,j,h=>by
   obtain ⟨nd,hi,hd,hst,hn,hk⟩:=xZs9 h
   have hdr:=xZue hi
   have hb:=ho nd (List.mem_of_getElem? hi)
   have unit:(nd.Kind=7∨nd.Kind=8∨nd.Kind=9)→∃ a:TU,a.ok∧l.drop i=a.nd::l.drop j∧j=i+1:=fun h3=>by
    obtain ⟨a,h4,h5⟩:=xZug hn hb h3
    obtain rfl:=kids0 (by rcases h3 with h3 | h3 | h3<;>rw [h3]<;>rfl) hk
    exact ⟨a,h4,by rw [hdr,h5],rfl⟩
   refine ⟨?_,?_,?_⟩
   ·rintro rfl
    simp only [stB,show ((2:Int)==0)=false from rfl,show ((2:Int)==1)=false from rfl,cond_false,Bool.and_eq_true,xZI] at hst
    exact unit (by omega)
   ·rintro rfl
    simp only [stB,show ((1:Int)==0)=false from rfl,show ((1:Int)==1)=true from rfl,cond_true,cond_false,Bool.and_eq_true,xZI] at hst
    by_cases h7:7≤nd.Kind
    ·obtain ⟨a,h4,h5,h6⟩:=unit (by omega)
     exact ⟨.u a,h4,h5,h6⟩
    ·have key:∀ b:Bool,nd.Kind=(if b then 6 else 5)→∃ s:TS,s.ok∧l.drop i=s.fl++l.drop j∧j=i+s.fl.length:=fun b hbk=>by
      have h56:nd.Kind=5∨nd.Kind=6:=by cases b<;>simp at hbk<;>omega
      obtain ⟨m,k1,k2⟩:=kids2 (by rcases h56 with h | h<;>rw [h]<;>rfl) hk
      have e0:kdW nd.Kind 0=1:=by rcases h56 with h | h<;>rw [h]<;>rfl
      have e1:kdW nd.Kind 1=2:=by rcases h56 with h | h<;>rw [h]<;>rfl
      rw [e0] at k1;rw [e1] at k2
      obtain ⟨s,s1,s2,s3⟩:=(xZdB ho n 1 (d+1) (i+1) m k1).2.1 rfl
      obtain ⟨a,a1,a2,a3⟩:=(xZdB ho n 2 (d+1) m j k2).1 rfl
      refine ⟨.op b s a,⟨s1,a1⟩,?_,?_⟩
      ·rw [hdr,s2,a2,xZnr hn (by omega) (by omega) (by omega) (by omega),hbk]
       simp [TS.fl]
      ·simp only [TS.fl,List.length_cons,List.length_append,List.length_nil];omega
     by_cases h6:nd.Kind=6
     ·exact key true h6
     ·exact key false (by simp only [Bool.false_eq_true,if_false];omega)
   ·rintro rfl
    simp only [stB,show ((0:Int)==0)=true from rfl,cond_true,Bool.and_eq_true,xZI] at hst
    have two:(nd.Kind=1∨nd.Kind=2)→∃ a b:TT,a.ok∧b.ok∧l.drop i=bn nd.Kind::(a.fl++b.fl)++l.drop j∧j=i+(1+a.fl.length+b.fl.length)∧d+(1+max a.ht b.ht:Nat)≤16:=fun h12=>by
     obtain ⟨m,k1,k2⟩:=kids2 (by rcases h12 with h | h<;>rw [h]<;>rfl) hk
     have e0:kdW nd.Kind 0=0:=by rcases h12 with h | h<;>rw [h]<;>rfl
     have e1:kdW nd.Kind 1=0:=by rcases h12 with h | h<;>rw [h]<;>rfl
     rw [e0] at k1;rw [e1] at k2
     obtain ⟨a,a1,a2,a3,a4⟩:=(xZdB ho n 0 (d+1) (i+1) m k1).2.2 rfl
     obtain ⟨b,b1,b2,b3,b4⟩:=(xZdB ho n 0 (d+1) m j k2).2.2 rfl
     refine ⟨a,b,a1,b1,?_,by omega,by omega⟩
     rw [hdr,a2,b2]
     conv=>lhs;rw [xZnr hn (by omega) (by omega) (by omega) (by omega)]
     simp
    by_cases h1:nd.Kind=1
    ·obtain ⟨a,b,q1,q2,q3,q4,q5⟩:=two (.inl h1)
     rw [h1] at q3
     exact ⟨.and a b,⟨q1,q2⟩,q3,by simp only [TT.fl,List.length_cons,List.length_append];omega,q5⟩
    by_cases h2:nd.Kind=2
    ·obtain ⟨a,b,q1,q2,q3,q4,q5⟩:=two (.inr h2)
     rw [h2] at q3
     exact ⟨.or a b,⟨q1,q2⟩,q3,by simp only [TT.fl,List.length_cons,List.length_append];omega,q5⟩
    by_cases h3:nd.Kind=3
    ·have k1:=kids1 (by rw [h3];rfl) hk
     rw [show kdW nd.Kind 0=0 by rw [h3];rfl] at k1
     obtain ⟨a,a1,a2,a3,a4⟩:=(xZdB ho n 0 (d+1) (i+1) j k1).2.2 rfl
     refine ⟨.not a,a1,?_,by simp only [TT.fl,List.length_cons];omega,by simp only [TT.ht];omega⟩
     rw [hdr,a2,xZnr hn (by omega) (by omega) (by omega) (by omega),h3];rfl
    ·have h4:nd.Kind=4:=by omega
     obtain ⟨m,k1,k2⟩:=kids2 (by rw [h4];rfl) hk
     rw [show kdW nd.Kind 0=1 by rw [h4];rfl] at k1
     rw [show kdW nd.Kind 1=1 by rw [h4];rfl] at k2
     obtain ⟨a,a1,a2,a3⟩:=(xZdB ho n 1 (d+1) (i+1) m k1).2.1 rfl
     obtain ⟨b,b1,b2,b3⟩:=(xZdB ho n 1 (d+1) m j k2).2.1 rfl
     obtain ⟨g1,g2,g3⟩:=xZtG hn h4
     refine ⟨.test nd.Op a b,⟨g2,g3,a1,b1⟩,?_,by simp only [TT.fl,List.length_cons,List.length_append];omega,by simp only [TT.ht];omega⟩
     rw [hdr,a2,b2]
     conv=>lhs;rw [g1]
     simp [TT.fl]
theorem xZqK {l:List xZ2} (ho:okN l) (h:chk l=0) (hl:l≠[]):∃ t:TT,t.ok∧l=t.fl∧t.ht≤16∧l.length≤30:=by
 have h0:¬ l.length=0:=fun h=>hl (List.eq_nil_of_length_eq_zero h)
 unfold chk at h
 by_cases h1:30 < l.length
 ·rw [if_pos h1] at h;cases h
 rw [if_neg h1,if_neg h0] at h
 by_cases h2:(TR l 17 0 0 0).1≠0
 ·rw [if_pos h2] at h;exact absurd h h2
 rw [if_neg h2] at h
 by_cases h3:(TR l 17 0 0 0).2 < l.length
 ·rw [if_pos h3] at h;cases h
 obtain ⟨t,t1,t2,t3,t4⟩:=(xZdB ho 17 0 0 0 (TR l 17 0 0 0).2 (Prod.ext (by simpa using h2) rfl)).2.2 rfl
 refine ⟨t,t1,?_,by omega,by omega⟩
 rw [List.drop_eq_nil_of_le (by omega:l.length≤(TR l 17 0 0 0).2),List.append_nil,List.drop_zero] at t2
 exact t2
end
section
abbrev Tk:=Int×List UInt8×xZ7
def ke (t:xZ3):Tk:=(t.Kind,t.Text,t.Val)
def sg (s:List UInt8):Tk:=(4,s,zv)
def kw (s:List UInt8):Tk:=(2,s,zv)
def M (y:List xZ3):Nat→List Tk→Prop
 | _,[]=>True
 | i,t::ts=>ke (tk y i)=t∧M y (i+1) ts
def TU.tk:TU→List Tk
 | .own n=>[(1,n,zv)]
 | .of v n=>[(1,v,zv),sg [46],(1,n,zv)]
 | .lit v=>if v.Kind=1∧v.N < 0 then [sg [45],(3,[],⟨1,-v.N,0,[]⟩)] else [(3,[],v)]
def TS.tk:TS→List Tk
 | .u a=>a.tk
 | .op k s a=>s.tk++sg (if k then [45] else [43])::a.tk
def TT.bd:TT→Nat
 | .or _ _=>1
 | .and _ _=>2
 | _=>3
def brk (c:Bool) (l:List Tk):List Tk:=if c then sg [40]::(l++[sg [41]]) else l
def TT.tk:TT→List Tk
 | .or a b=>brk (decide (a.bd < 1)) a.tk++kw [111,114]::brk (decide (b.bd < 2)) b.tk
 | .and a b=>brk (decide (a.bd < 2)) a.tk++kw [97,110,100]::brk (decide (b.bd < 3)) b.tk
 | .not a=>kw [110,111,116]::brk (decide (a.bd < 3)) a.tk
 | .test o a b=>a.tk++sg (sgV o)::b.tk
end
section
inductive GT where
 | leaf (neg:Bool) (v t:List UInt8) (o:Option TT)
 | rep (lo hi:Int) (a:GT)
 | lst (alt:Bool) (bs:List GT)
def kA (alt:Bool):Int:=if alt then 2 else 1
def kL (neg:Bool):Int:=if neg then 5 else 4
def oT:Option TT→List xZ2
 | none=>[]
 | some t=>t.fl
def oK:Option TT→Prop
 | none=>True
 | some t=>t.ok∧t.ht≤16∧t.fl.length≤30∧chk t.fl=0
theorem oT_of {l:List xZ2} (ho:okN l) (h:chk l=0):∃ o,oK o∧l=oT o:=by
 by_cases hl:l=[]
 ·exact ⟨none,trivial,hl⟩
 ·obtain ⟨t,h1,h2,h3,h4⟩:=xZqK ho h hl
  exact ⟨some t,⟨h1,h3,h2 ▸ h4,h2 ▸ h⟩,h2⟩
mutual
def GT.fl:GT→List xZ0
 | .leaf neg v t o=>[⟨kL neg,0,0,0,v,t,oT o⟩]
 | .rep lo hi a=>⟨3,1,lo,hi,[],[],[]⟩::GT.fl a
 | .lst alt bs=>⟨kA alt,(bs.length:Int),0,0,[],[],[]⟩::GT.fls bs
def GT.fls:List GT→List xZ0
 | []=>[]
 | a::r=>GT.fl a++GT.fls r
end
mutual
def GT.ok:GT→Int→Prop
 | .leaf neg v t o,w=>(neg=true→w≠3)∧nm v=true∧nm t=true∧oK o
 | .rep lo hi a,w=>(0≤lo∧lo≤8∧0≤hi∧hi≤8∧¬ (lo=1∧hi=1)∧(hi=0∨lo≤hi))∧GT.ok a 3
 | .lst alt bs,w=>kA alt≠w∧2≤bs.length∧bs.length≤40∧GT.oks bs (kA alt)
def GT.oks:List GT→Int→Prop
 | [],_=>True
 | a::r,w=>GT.ok a w∧GT.oks r w
end
mutual
def GT.dp:GT→Nat
 | .leaf ..=>1
 | .rep _ _ a=>GT.dp a+1
 | .lst _ bs=>GT.dps bs+1
def GT.dps:List GT→Nat
 | []=>0
 | a::r=>max (GT.dp a) (GT.dps r)
end
theorem xZfI:∀ (a b:List GT),GT.fls (a++b)=GT.fls a++GT.fls b
 | [],b=>rfl
 | x::a,b=>by simp only [List.cons_append,GT.fls,xZfI a b,List.append_assoc]
section
variable (n:xZ0)
def isLs:Bool:=n.Kind==1 || n.Kind==2
theorem e_ls (N:Nat):xZ1V N n=some (isLs n):=by
 simp only [xZ1V,isLs];cases n.Kind==1<;>rfl
def stG (w:Int):Bool:=!(ltB n.Kind 1)&&(!(ltB 5 n.Kind)&&(if isLs n=true then n.Kind != w else (n.Kind != 5 || w != 3)))
theorem e_stG (w:Int) (N:Nat):xZ2B N n w=some (stG n w):=by
 simp only [xZ2B,e_ls,Option.bind_some,stG]
 cases ltB n.Kind 1<;>cases ltB 5 n.Kind<;>cases isLs n<;>simp
 cases h:(n.Kind != 5)<;>simp_all
def ofG:Bool:=!(ltB n.Lo 0)&&(!(ltB 8 n.Lo)&&(!(ltB n.Hi 0)&&(!(ltB 8 n.Hi)&&(!((n.Lo==1)&&(n.Hi==1))&&((n.Hi==0) || leB n.Lo n.Hi)))))
theorem e_ofG (N:Nat):xZ37 N n=some (ofG n):=by
 simp only [xZ37,ofG]
 cases ltB n.Lo 0<;>cases ltB 8 n.Lo<;>cases ltB n.Hi 0<;>cases ltB 8 n.Hi<;>cases n.Lo==1<;>cases n.Hi==1<;>cases n.Hi==0<;>rfl
def lkG:Bool:=if isLs n=true then (ltB n.Kids 2 || ltB 40 n.Kids) else if n.Kind=3 then (n.Kids != 1 || !ofG n) else (!nm n.Var || (!nm n.Type_ || chk n.Test != 0))
theorem w_lkG:W (fun N=>xZ34 N n) (·=lkG n):=by
 simp only [xZ34,e_ls,Option.bind_some,e_ofG,lkG]
 cases h:isLs n
 ·simp only [cond_false,Bool.false_eq_true,if_false]
  by_cases h3:n.Kind=3
  ·simp only [h3,beq_self_eq_true,cond_true,if_true]
   cases n.Kids != 1<;>simp [W.ret]
  ·simp only [show (n.Kind==3)=false by simpa using h3,cond_false,if_neg h3]
   refine W.call (xZ3Z _) ?_
   rintro _ rfl
   cases nm n.Var
   ·simp [W.ret]
   ·simp only [Bool.not_true,cond_false,Bool.false_or]
    refine W.call (xZ3Z _) ?_
    rintro _ rfl
    cases nm n.Type_
    ·simp [W.ret]
    ·simp only [Bool.not_true,cond_false,Bool.false_or]
     refine W.call (xZsA _) ?_
     rintro _ rfl
     simp only [W.ret]
 ·simp only [cond_true,if_true]
  cases ltB n.Kids 2<;>simp [W.ret]
def lfG:Bool:=n.Kind==4 || n.Kind==5
theorem e_lf (N:Nat):xZJ N n=some (lfG n):=by
 simp only [xZJ,lfG];cases n.Kind==4<;>rfl
def moG:Bool:=if lfG n=true then (n.Lo != 0 || n.Hi != 0 || n.Kids != 0) else ((!(n.Var==[]) || !(n.Type_==[]) || ltB 0 (n.Test.length:Int)) || (n.Lo != 0 || n.Hi != 0)&&n.Kind != 3)
theorem e_moG (N:Nat):xZ3D N n=some (moG n):=by
 simp only [xZ3D,e_lf,Option.bind_some,moG]
 cases n.Lo != 0<;>cases n.Hi != 0<;>cases n.Var==[]<;>cases n.Type_==[]<;>cases lfG n<;>cases ltB 0 (n.Test.length:Int)<;>rfl
def kdG:Int:=if isLs n=true then max 0 (min n.Kids 40) else if n.Kind=3 then 1 else 0
theorem e_kdG (N:Nat):xZ3C N n=some (kdG n):=by
 simp only [xZ3C,e_ls,Option.bind_some,kdG]
 cases isLs n
 ·by_cases h:n.Kind=3
  ·simp [h]
  ·simp [h,show (n.Kind==3)=false by simpa using h]
 ·simp
end
theorem xZsw {n:xZ0} {w:Int} (h1:stG n w=true) (h2:lkG n=false) (h3:moG n=false):
 (∃ neg v t l,n=⟨kL neg,0,0,0,v,t,l⟩∧(neg=true→w≠3)∧nm v=true∧nm t=true∧chk l=0∧kdG n=0)∨
 (∃ lo hi,n=⟨3,1,lo,hi,[],[],[]⟩∧(0≤lo∧lo≤8∧0≤hi∧hi≤8∧¬ (lo=1∧hi=1)∧(hi=0∨lo≤hi))∧kdG n=1)∨
 (∃ alt k,n=⟨kA alt,k,0,0,[],[],[]⟩∧kA alt≠w∧2≤k∧k≤40∧kdG n=k):=by
 obtain ⟨K,k,lo,hi,v,t,l⟩:=n
 simp only [stG,Bool.and_eq_true,Bool.not_eq_true',xZ50,decide_eq_false_iff_not] at h1
 obtain ⟨a1,a2,a3⟩:=h1
 have hK:K=1∨K=2∨K=3∨K=4∨K=5:=by omega
 rcases hK with rfl | rfl | rfl | rfl | rfl
 ·refine .inr (.inr ⟨false,k,?_⟩)
  simp [isLs,lkG,moG,lfG,kA,kdG,xZ50] at a3 h2 h3 ⊢
  obtain ⟨⟨⟨h5,h6⟩,h7⟩,h8,h9⟩:=h3
  exact ⟨⟨h8,h9,h5,h6,h7⟩,a3,h2.1,h2.2,by omega⟩
 ·refine .inr (.inr ⟨true,k,?_⟩)
  simp [isLs,lkG,moG,lfG,kA,kdG,xZ50] at a3 h2 h3 ⊢
  obtain ⟨⟨⟨h5,h6⟩,h7⟩,h8,h9⟩:=h3
  exact ⟨⟨h8,h9,h5,h6,h7⟩,a3,h2.1,h2.2,by omega⟩
 ·refine .inr (.inl ⟨lo,hi,?_⟩)
  simp [isLs,lkG,moG,lfG,kA,kdG,xZ50,xZ4g,ofG] at a3 h2 h3 ⊢
  obtain ⟨⟨h5,h6⟩,h7⟩:=h3
  obtain ⟨q0,q1,q2,q3,q4,q5,q6⟩:=h2
  exact ⟨⟨q0,h5,h6,h7⟩,q1,q2,q3,q4,q5,by omega⟩
 ·refine .inl ⟨false,v,t,l,?_⟩
  simp [isLs,lkG,moG,lfG,kL,kdG] at a3 h2 h3 ⊢
  exact ⟨⟨h3.2,h3.1.1,h3.1.2⟩,h2⟩
 ·refine .inl ⟨true,v,t,l,?_⟩
  simp [isLs,lkG,moG,lfG,kL,kdG] at a3 h2 h3 ⊢
  exact ⟨⟨h3.2,h3.1.1,h3.1.2⟩,a3,h2⟩
abbrev TGF:=List xZ0→Int→Int→List xZ0×Int
def kidsG (f:List xZ0→List xZ0×Int):Nat→List xZ0→List xZ0×Int
 | 0,r=>(r,0)
 | k+1,r=>if (f r).2=0 then kidsG f k (f r).1 else ([],(f r).2)
def TG:Nat→TGF
 | 0=>fun _ _ _=>([],15)
 | n+1=>fun l w d=>match l with
   | []=>([],3)
   | e::r=>if 16≤d then ([],15) else if stG e w=false then ([],11) else if lkG e=true then ([],4) else if moG e=true then ([],2) else kidsG (fun r=>TG n r e.Kind (d+1)) (kdG e).toNat r
theorem xZoy (e:xZ0):0≤kdG e∧kdG e≤40:=by
 unfold kdG
 split
 ·omega
 ·split<;>omega
theorem xZph:∀ (n:Nat) (l:List xZ0) (w d:Int),0≤d→d≤16→17 - d≤n→W (fun N=>(xZ7x N) l w d) (·=TG n l w d)
 | 0,l,w,d,h1,h2,h3=>by omega
 | n+1,l,w,d,h1,h2,h3=>by
   refine W.shift ?_
   show W (fun N=>xZbG N (xZ7x N) l w d) _
   cases l with
   | nil=>exact wall fun _=>rfl
   | cons e r=>
     have e0:ix (e::r) 0=some e:=rfl
     have el:((List.length (e::r):Int)==0)=false:=by simp only [List.length_cons];simpa using (by omega:¬ ((r.length:Int)+1=0))
     have eg:leB 1 (List.length (e::r):Int)=true:=xZI.2 (by simp only [List.length_cons];omega)
     simp only [xZbG,el,cond_false,e0,Option.bind_some,e_stG,e_moG,e_kdG,eg,xZn,TG]
     by_cases hd:16≤d
     ·simp only [show leB 16 d=true from xZI.2 hd,cond_true,if_pos hd,W.ret]
     have hd':leB 16 d=false:=by rw [xZ4g];simpa using hd
     simp only [hd',cond_false,if_neg hd]
     cases hs:stG e w
     ·simp [W.ret]
     simp only [Bool.not_true,cond_false,Bool.true_eq_false,if_false]
     refine W.call (w_lkG e) ?_
     rintro _ rfl
     cases hk:lkG e
     rotate_left
     ·simp [W.ret]
     simp only [cond_false,Bool.false_eq_true,if_false]
     cases hm:moG e
     rotate_left
     ·simp [W.ret]
     simp only [cond_false,Bool.false_eq_true,if_false]
     obtain ⟨k0,k1⟩:=xZoy e
     refine W.lp2 (P:=fun rest x=>0≤x∧x≤kdG e∧kidsG (fun r=>TG n r e.Kind (d+1)) (kdG e - x).toNat rest=kidsG (fun r=>TG n r e.Kind (d+1)) (kdG e).toNat r) (m:=fun _ x=>(kdG e - x).toNat) ⟨by omega,by omega,by simp⟩ ?_
     rintro F rest x ⟨x0,x1,x2⟩ hn
     simp only [xZ93]
     by_cases hx:x < kdG e
     ·obtain ⟨m,hm⟩:∃ m,(kdG e - x).toNat=m+1:=⟨(kdG e - x).toNat - 1,by omega⟩
      simp only [show ltB x (kdG e)=true from xZ9.2 hx,cond_true,W.gd,xZc]
      refine ⟨by omega,W.bind (W.lift (xZph n rest e.Kind (d+1) (by omega) (by omega) (by omega))) ?_⟩
      rintro _ rfl
      rw [hm,kidsG] at x2
      by_cases hc:(TG n rest e.Kind (d+1)).2=0
      ·rw [if_pos hc] at x2
       simp only [show ((TG n rest e.Kind (d+1)).2 != 0)=false by simpa using hc,cond_false,W.gd,xZc]
       refine ⟨by omega,hn _ _ ⟨by omega,by omega,?_⟩ (by omega)⟩
       rw [show (kdG e - (x+1)).toNat=m by omega]
       exact x2
      ·rw [if_neg hc] at x2
       simp only [show ((TG n rest e.Kind (d+1)).2 != 0)=true by simpa using hc,cond_true,W.ret]
       exact x2
     ·obtain rfl:x=kdG e:=by omega
      have:ltB (kdG e) (kdG e)=false:=by rw [xZ50];simp
      simp only [this,cond_false,W.ret]
      rw [Int.sub_self] at x2
      exact x2
def wdS (m:Int):List UInt8:=if m=1 then [97,110,121] else if m=2 then [110,101,120,116] else if m=3 then [115,116,114,105,99,116] else []
theorem e_wd (m:Int) (N:Nat):xZ6O N m=some (wdS m):=by
 simp only [xZ6O,wdS]
 by_cases h1:m=1
 ·subst h1;rfl
 by_cases h2:m=2
 ·subst h2;rfl
 by_cases h3:m=3
 ·subst h3;rfl
 simp [h1,h2,h3,show (m==1)=false by simpa using h1,show (m==2)=false by simpa using h2,show (m==3)=false by simpa using h3]
def chkG (p:xZ5):Int:=if 40 < p.Body.length then 5 else if (TG 17 p.Body 0 0).2≠0 then (TG 17 p.Body 0 0).2 else if 0 < (TG 17 p.Body 0 0).1.length then 5 else if p.Within < 1 then 8 else if 1073741824 < p.Within then 8 else if p.By≠[]∧nm p.By=false then 4 else if wdS p.Mode=[] then 11 else 0
theorem xZc8 (p:xZ5):W (fun N=>xZ5n N p) (·=chkG p):=by
 simp only [xZ5n,e_wd,Option.bind_some]
 unfold chkG
 by_cases h0:40 < p.Body.length
 ·simp only [show ltB 40 (p.Body.length:Int)=true from xZ9.2 (by omega),cond_true,if_pos h0,W.ret]
 have g0:ltB 40 (p.Body.length:Int)=false:=by rw [xZ50];exact decide_eq_false (by omega)
 simp only [g0,cond_false,if_neg h0,xZbj]
 refine W.call (xZph 17 p.Body 0 0 (by omega) (by omega) (by omega)) ?_
 rintro _ rfl
 generalize TG 17 p.Body 0 0=q
 by_cases h1:q.2=0
 rotate_left
 ·simp only [show (q.2 != 0)=true by simpa using h1,cond_true,if_pos h1,W.ret]
 simp only [show (q.2 != 0)=false by simpa using h1,cond_false,if_neg (show ¬ q.2≠0 from fun h=>h h1)]
 by_cases h2:0 < q.1.length
 ·simp only [show ltB 0 (q.1.length:Int)=true from xZ9.2 (by omega),cond_true,if_pos h2,W.ret]
 have g2:ltB 0 (q.1.length:Int)=false:=by rw [xZ50];exact decide_eq_false (by omega)
 simp only [g2,cond_false,if_neg h2]
 by_cases h3:p.Within < 1
 ·simp only [show ltB p.Within 1=true from xZ9.2 h3,cond_true,if_pos h3,W.ret]
 have g3:ltB p.Within 1=false:=by rw [xZ50];exact decide_eq_false h3
 simp only [g3,cond_false,if_neg h3]
 by_cases h4:1073741824 < p.Within
 ·simp only [show ltB 1073741824 p.Within=true from xZ9.2 h4,cond_true,if_pos h4,W.ret]
 have g4:ltB 1073741824 p.Within=false:=by rw [xZ50];exact decide_eq_false h4
 simp only [g4,cond_false,if_neg h4]
 by_cases h5:p.By=[]
 ·simp only [h5,show (!(([]:List UInt8)==[]))=false from rfl,cond_false,if_neg (show ¬ (([]:List UInt8)≠[]∧_) from fun h=>h.1 rfl)]
  by_cases h6:wdS p.Mode=[]
  ·simp [h6,W.ret]
  ·simp [h6,W.ret,show (wdS p.Mode==[])=false by simpa using h6]
 ·simp only [show (!(p.By==[]))=true by simpa using h5,cond_true]
  refine W.call (xZ3Z _) ?_
  rintro _ rfl
  cases h6:nm p.By
  ·simp [h5,W.ret]
  ·simp only [Bool.not_true,cond_false]
   by_cases h7:wdS p.Mode=[]
   ·simp [h7,W.ret]
   ·simp [h7,W.ret,show (wdS p.Mode==[])=false by simpa using h7]
theorem xZiI {w:Int} {f:List xZ0→List xZ0×Int} {D:Nat} (hf:∀ l r,(∀ n∈l,okN n.Test)→f l=(r,0)→∃ t:GT,t.ok w∧t.dp≤D∧l=t.fl++r):∀ (k:Nat) (l r:List xZ0),(∀ n∈l,okN n.Test)→kidsG f k l=(r,0)→∃ bs:List GT,bs.length=k∧GT.oks bs w∧GT.dps bs≤D∧l=GT.fls bs++r
 | 0,l,r,_,h=>by cases h;exact ⟨[],rfl,trivial,Nat.zero_le _,rfl⟩
 | k+1,l,r,hb,h=>by
   rw [kidsG] at h
   split at h
   ·rename_i hc
    obtain ⟨t,q1,q2,q3⟩:=hf l (f l).1 hb (by rw [← hc])
    obtain ⟨bs,p1,p2,p3,p4⟩:=xZiI hf k _ _ (fun n hn=>hb n (by rw [q3];exact List.mem_append_right _ hn)) h
    exact ⟨t::bs,by simp [p1],⟨q1,p2⟩,by simp only [GT.dps];omega,by rw [GT.fls,List.append_assoc,← p4,← q3]⟩
   ·rename_i hc
    exact absurd (Prod.mk.inj h).2 hc
theorem xZnj:∀ (n:Nat) (l r:List xZ0) (w:Int) (d:Nat),(∀ n∈l,okN n.Test)→TG n l w d=(r,0)→∃ t:GT,t.ok w∧t.dp+d≤16∧l=t.fl++r
 | 0,l,r,w,d,_,h=>by cases h
 | n+1,[],r,w,d,_,h=>by cases h
 | n+1,e::l,r,w,d,hb,h=>by
   simp only [TG] at h
   split at h
   ·cases h
   rename_i hd
   split at h
   ·cases h
   rename_i hs
   split at h
   ·cases h
   rename_i hk
   split at h
   ·cases h
   rename_i hm
   have ih:∀ l r,(∀ n∈l,okN n.Test)→TG n l e.Kind ((d:Int)+1)=(r,0)→∃ t:GT,t.ok e.Kind∧t.dp≤15 - d∧l=t.fl++r:=fun l r hb hh=>by
    obtain ⟨t,q1,q2,q3⟩:=xZnj n l r e.Kind (d+1) hb (by rw [← hh];congr 1)
    exact ⟨t,q1,by omega,q3⟩
   obtain ⟨bs,p1,p2,p3,p4⟩:=xZiI ih _ _ _ (fun n hn=>hb n (List.mem_cons_of_mem _ hn)) h
   rcases xZsw (by simpa using hs) (by simpa using hk) (by simpa using hm) with ⟨neg,v,t,l',rfl,g1,g2,g3,g4,g5⟩ | ⟨lo,hi,rfl,g1,g2⟩ | ⟨alt,k,rfl,g1,g2,g3,g4⟩
   ·rw [g5] at p1
    obtain rfl:bs=[]:=List.length_eq_zero_iff.1 p1
    obtain ⟨o,k1,rfl⟩:=oT_of (hb _ (List.mem_cons_self ..)) g4
    exact ⟨.leaf neg v t o,⟨g1,g2,g3,k1⟩,by simp only [GT.dp];omega,by rw [p4];rfl⟩
   ·rw [g2] at p1
    obtain ⟨a,rfl⟩:∃ a,bs=[a]:=List.length_eq_one_iff.1 p1
    exact ⟨.rep lo hi a,⟨g1,p2.1⟩,by simp only [GT.dp,GT.dps] at p3 ⊢;omega,by rw [p4];simp [GT.fl,GT.fls]⟩
   ·rw [g4] at p1
    have hb:(bs.length:Int)=k:=by omega
    exact ⟨.lst alt bs,⟨g1,by omega,by omega,p2⟩,by simp only [GT.dp];omega,by rw [p4,← hb];rfl⟩
theorem xZl4 {p:xZ5} (hb:∀ n∈p.Body,okN n.Test) (h:chkG p=0):p.Body.length≤40∧1≤p.Within∧p.Within≤1073741824∧(p.By=[]∨nm p.By=true)∧(p.Mode=1∨p.Mode=2∨p.Mode=3)∧∃ t:GT,t.ok 0∧t.dp≤16∧p.Body=t.fl:=by
 unfold chkG at h
 split at h
 ·cases h
 split at h
 ·rename_i q;exact absurd h q
 split at h
 ·cases h
 split at h
 ·cases h
 split at h
 ·cases h
 split at h
 ·cases h
 split at h
 ·cases h
 rename_i h1 h2 h3 h4 h5 h6 h7
 have hr:(TG 17 p.Body 0 0).1=[]:=List.length_eq_zero_iff.1 (by omega)
 obtain ⟨t,q1,q2,q3⟩:=xZnj 17 p.Body [] 0 0 hb (Prod.ext hr (by simpa using h2))
 refine ⟨by omega,by omega,by omega,?_,?_,t,q1,q2,by simpa using q3⟩
 ·by_cases hb:p.By=[]
  ·exact .inl hb
  ·exact .inr (by simpa [hb] using h6)
 ·unfold wdS at h7
  by_cases a1:p.Mode=1
  ·exact .inl a1
  by_cases a2:p.Mode=2
  ·exact .inr (.inl a2)
  by_cases a3:p.Mode=3
  ·exact .inr (.inr a3)
  simp [a1,a2,a3] at h7
end
section
theorem xZr2 (n:xZ0) (N:Nat):xZ4S N n=some (kdG n):=by
 simp only [xZ4S,kdG,isLs,Int.min_comm n.Kids 40]
 by_cases h1:n.Kind=1
 ·simp [h1]
 by_cases h2:n.Kind=2
 ·simp [h2]
 by_cases h3:n.Kind=3
 ·simp [h3]
 ·simp [h1,h2,h3,show (n.Kind==1)=false by simpa using h1,show (n.Kind==2)=false by simpa using h2,show (n.Kind==3)=false by simpa using h3]
theorem e_rwd (m:Int) (N:Nat):xZ6D N m=some (wdS m):=by
 simp only [xZ6D,wdS]
 by_cases h1:m=1
 ·subst h1;rfl
 by_cases h2:m=2
 ·subst h2;rfl
 by_cases h3:m=3
 ·subst h3;rfl
 simp [h1,h2,h3,show (m==1)=false by simpa using h1,show (m==2)=false by simpa using h2,show (m==3)=false by simpa using h3]
def ndG (n:xZ0):Int:=if lkG n=true then 4 else if moG n=true then 2 else 0
theorem e_j4 {N:Nat} {leaf:Bool} {k kids lo hi:Int} {v t:List UInt8} {te:List xZ2} (hk:leaf=(k==4 || k==5)) (x:Bool):
 xZ1n N leaf x k kids lo hi v t te=some (if x=true then 4 else if (if leaf=true then (lo != 0 || hi != 0 || kids != 0) else ((!(v==[]) || !(t==[]) || ltB 0 (te.length:Int)) || (lo != 0 || hi != 0)&&k != 3))=true then 2 else 0):=by
 cases x
 rotate_left
 ·rfl
 simp only [xZ1n,xZ6p,xZ2S,cond_false,Bool.false_eq_true,if_false]
 cases leaf
 ·cases h3:k != 3<;>cases h1:lo != 0<;>cases h2:hi != 0<;>cases hv:v==[]<;>cases ht:t==[]<;>cases hz:ltB 0 (te.length:Int)<;>rfl
 ·have h3:(k != 3)=true:=by
   have:k=4∨k=5:=by simpa using hk.symm
   simp;omega
  rw [h3]
  cases h0:kids != 0<;>cases h1:lo != 0<;>cases h2:hi != 0<;>rfl
theorem xZqv {n:xZ0} (h1:1≤n.Kind) (h5:n.Kind≤5) (ho:okN n.Test):W (fun N=>xZ2V N n) (·=ndG n):=by
 obtain ⟨k,kids,lo,hi,v,t,te⟩:=n
 simp only at h1 h5 ho
 have leaf:∀ k:Int,k=4∨k=5→W (fun N=>xZU N true false k kids lo hi v t te) (·=ndG ⟨k,kids,lo,hi,v,t,te⟩):=fun k hk=>by
  have e3:(k==3)=false:=by simp;omega
  have el:(k==4 || k==5)=true:=by simpa using hk
  have e1:(k==1 || k==2)=false:=by simp;omega
  simp only [xZU,cond_false,e3,xZg,cond_true,e_j4 (leaf:=true) (k:=k) el.symm,ndG,lkG,isLs,e1,Bool.false_eq_true,if_false,show ¬ k=3 by omega,moG,lfG,el,if_true]
  refine W.call (xZ4O v) ?_
  rintro _ rfl
  cases nm v
  ·exact W.ret.2 rfl
  refine W.call (xZ4O t) ?_
  rintro _ rfl
  cases nm t
  ·exact W.ret.2 rfl
  refine W.call (xZra te ho) ?_
  rintro _ rfl
  exact W.ret.2 rfl
 have list:∀ k:Int,k=1∨k=2→W (fun N=>xZ2R N false true k kids lo hi v t te) (·=ndG ⟨k,kids,lo,hi,v,t,te⟩):=fun k hk=>by
  have e3:(k==3)=false:=by simp;omega
  have el:(k==4 || k==5)=false:=by simp;omega
  have e1:(k==1 || k==2)=true:=by simpa using hk
  simp only [xZ2R,xZU,cond_true,cond_false,e3,xZg,e_j4 (leaf:=false) (k:=k) el.symm,ndG,lkG,isLs,e1,if_true,moG,lfG,el,Bool.false_eq_true,if_false]
  cases h1:ltB kids 2<;>cases h2:ltB 40 kids<;>exact W.ret.2 rfl
 rcases (show k=1∨k=2∨k=3∨k=4∨k=5 by omega) with rfl | rfl | rfl | rfl | rfl
 ·exact list 1 (.inl rfl)
 ·exact list 2 (.inr rfl)
 ·have e1:ltB hi lo=!leB lo hi:=by
   rw [xZ50,xZ4g]
   by_cases h:hi < lo
   ·rw [decide_eq_true h,decide_eq_false (by omega)];rfl
   ·rw [decide_eq_false h,decide_eq_true (by omega)];rfl
  have e4:∀ N x,xZg N false x 3 kids lo hi v t te=some (if x=true then 4 else if ((!(v==[]) || !(t==[]) || ltB 0 (te.length:Int)) || (lo != 0 || hi != 0)&&(3:Int) != 3)=true then 2 else 0):=fun N x=>by
   cases x
   ·show xZ1n N false false 3 kids lo hi v t te=_
    rw [e_j4 (leaf:=false) (k:=3) rfl];rfl
   ·rfl
  show W (fun N=>xZU N false false 3 kids lo hi v t te) _
  simp only [xZU,cond_false,show ((3:Int)==3)=true from rfl,cond_true,e4,e1,ndG,lkG,isLs,ofG,moG,lfG,show ((3:Int)==1 || (3:Int)==2)=false from rfl,show ((3:Int)==4 || (3:Int)==5)=false from rfl,Bool.false_eq_true,if_false,if_true]
  generalize (if ((!(v==[]) || !(t==[]) || ltB 0 (te.length:Int)) || (lo != 0 || hi != 0)&&(3:Int) != 3)=true then (2:Int) else 0)=z
  cases hk:kids != 1
  rotate_left
  ·exact W.ret.2 rfl
  cases a1:ltB lo 0
  rotate_left
  ·exact W.ret.2 rfl
  cases a2:ltB 8 lo
  rotate_left
  ·exact W.ret.2 rfl
  cases a3:ltB hi 0
  rotate_left
  ·exact W.ret.2 rfl
  cases a4:ltB 8 hi
  rotate_left
  ·exact W.ret.2 rfl
  cases a5:ltB 0 hi
  ·have:(hi==0)=true:=by have:=xZf.1 a3;have:=xZf.1 a5;simp;omega
   have h0:hi=0:=by simpa using this
   subst h0
   cases a6:lo==1<;>exact W.ret.2 (by simp)
  ·have:(hi==0)=false:=by have:=xZ9.1 a5;simp;omega
   rw [this]
   cases a6:lo==1<;>cases a7:leB lo hi<;>cases a8:hi==1<;>exact W.ret.2 (by simp)
 ·exact leaf 4 (.inl rfl)
 ·exact leaf 5 (.inr rfl)
def EG (l:List xZ0) (g:List xZ0×Int) (r:Int×Int):Prop:=r.2=g.2∧(r.2=0→∃ j:Nat,r.1=(j:Int)∧j≤l.length∧l.drop j=g.1)
theorem xZnn {l:List xZ0} (hl:l.length≤1000000) (ho:∀ n∈l,okN n.Test):∀ (n a:Nat) (w d:Int),0≤d→d≤16→17 - d≤n→a≤l.length→W (fun N=>(xZ41 N) l a w d) (EG l (TG n (l.drop a) w d))
 | 0,a,w,d,h1,h2,h3,h4=>by omega
 | n+1,a,w,d,h1,h2,h3,h4=>by
   refine W.shift ?_
   show W (fun N=>xZbA N (xZ41 N) l a w d) _
   simp only [xZbA]
   by_cases ha:a < l.length
   rotate_left
   ·simp only [show leB (l.length:Int) a=true from xZI.2 (by omega),cond_true,W.ret]
    rw [List.drop_eq_nil_of_le (by omega)]
    exact ⟨rfl,fun h=>by cases h⟩
   have e1:l.drop a=l[a]::l.drop (a+1):=List.drop_eq_getElem_cons ha
   have e2:ix l (a:Int)=some l[a]:=by rw [ix_nat'];simp [ha]
   have hm:l[a]∈l:=List.getElem_mem ha
   rw [e1]
   generalize l[a]=e at *
   simp only [show leB (l.length:Int) a=false from xZdG.2 (by omega),cond_false,TG]
   by_cases hd:16≤d
   ·simp only [show leB 16 d=true from xZI.2 hd,cond_true,if_pos hd,W.ret]
    exact ⟨rfl,fun h=>by cases h⟩
   simp only [show leB 16 d=false by rw [xZ4g];simpa using hd,cond_false,if_neg hd,e2,Option.bind_some]
   obtain ⟨k0,k1⟩:=xZoy e
   have kids:stG e w=true→W (fun N=>(xZ2V N e).bind fun need=>bif (need != 0) then some ((a:Int),need) else gd (i64b ((a:Int)+1)) (lp2 (xZ2p N (xZ41 N) l d e.Kind e.Kids e.Lo e.Hi e.Var e.Type_ e.Test) N ((a:Int)+1) 0))
    (EG l (if stG e w=false then ([],11) else if lkG e=true then ([],4) else if moG e=true then ([],2) else kidsG (fun r=>TG n r e.Kind (d+1)) (kdG e).toNat (l.drop (a+1)))):=fun hs=>by
    have hk:1≤e.Kind∧e.Kind≤5:=by
     simp only [stG,Bool.and_eq_true,Bool.not_eq_true',xZf] at hs
     exact ⟨hs.1,hs.2.1⟩
    rw [hs,if_neg (by decide)]
    refine W.call (xZqv hk.1 hk.2 (ho e hm)) ?_
    rintro _ rfl
    unfold ndG
    cases hlk:lkG e
    rotate_left
    ·simp only [if_true,show ((4:Int) != 0)=true from rfl,cond_true,W.ret]
     exact ⟨rfl,fun h=>by cases h⟩
    simp only [Bool.false_eq_true,if_false]
    cases hmo:moG e
    rotate_left
    ·simp only [if_true,show ((2:Int) != 0)=true from rfl,cond_true,W.ret]
     exact ⟨rfl,fun h=>by cases h⟩
    simp only [Bool.false_eq_true,if_false,show ((0:Int) != 0)=false from rfl,cond_false,W.gd,xZc]
    refine ⟨by omega,W.lp2 (P:=fun v x=>∃ j:Nat,v=(j:Int)∧j≤l.length∧0≤x∧x≤kdG e∧kidsG (fun r=>TG n r e.Kind (d+1)) (kdG e - x).toNat (l.drop j)=kidsG (fun r=>TG n r e.Kind (d+1)) (kdG e).toNat (l.drop (a+1))) (m:=fun _ x=>(kdG e - x).toNat) ⟨a+1,by omega,ha,by omega,by omega,by simp⟩ ?_⟩
    rintro F v x ⟨j,rfl,j1,x0,x1,x2⟩ hn
    simp only [xZ2p,xZr2,Option.bind_some]
    by_cases hx:x < kdG e
    ·obtain ⟨m,hm⟩:∃ m,(kdG e - x).toNat=m+1:=⟨(kdG e - x).toNat - 1,by omega⟩
     simp only [show ltB x (kdG e)=true from xZ9.2 hx,cond_true,W.gd,xZc]
     refine ⟨by omega,W.bind (W.lift (xZnn hl ho n j e.Kind (d+1) (by omega) (by omega) (by omega) j1)) ?_⟩
     rintro r ⟨r1,r2⟩
     rw [hm,kidsG] at x2
     by_cases hc:(TG n (l.drop j) e.Kind (d+1)).2=0
     ·rw [if_pos hc] at x2
      have hx1:0≤x+1∧x+1≤kdG e∧(kdG e - (x+1)).toNat < (kdG e - x).toNat∧(-9223372036854775808≤x+1∧x+1≤9223372036854775807):=by clear r2;exact ⟨by omega,by omega,by omega,by omega,by omega⟩
      have hm1:(kdG e - (x+1)).toNat=m:=by clear r2;omega
      obtain ⟨j',q1,q2,q3⟩:=r2 (r1.trans hc)
      simp only [r1,show ((TG n (l.drop j) e.Kind (d+1)).2 != 0)=false by simpa using hc,cond_false,W.gd,xZc]
      refine ⟨hx1.2.2.2,hn r.1 (x+1) ⟨j',q1,q2,hx1.1,hx1.2.1,?_⟩ hx1.2.2.1⟩
      rw [hm1,q3]
      exact x2
     ·rw [if_neg hc] at x2
      simp only [r1,show ((TG n (l.drop j) e.Kind (d+1)).2 != 0)=true by simpa using hc,cond_true,W.ret]
      rw [← x2]
      exact ⟨rfl,fun h=>absurd h hc⟩
    ·obtain rfl:x=kdG e:=by omega
     have:ltB (kdG e) (kdG e)=false:=by rw [xZ50];simp
     simp only [this,cond_false,W.ret]
     rw [Int.sub_self] at x2
     rw [← x2]
     exact ⟨rfl,fun _=>⟨j,rfl,j1,rfl⟩⟩
   have no:stG e w=false→W (fun N:Nat=>some ((a:Int),(11:Int))) (EG l (if stG e w=false then ([],11) else if lkG e=true then ([],4) else if moG e=true then ([],2) else kidsG (fun r=>TG n r e.Kind (d+1)) (kdG e).toNat (l.drop (a+1)))):=fun hs=>by
    rw [if_pos hs]
    exact W.ret.2 ⟨rfl,fun h=>by cases h⟩
   cases g1:ltB e.Kind 1
   rotate_left
   ·simp only [cond_true];exact no (by simp [stG,g1])
   cases g2:ltB 5 e.Kind
   rotate_left
   ·simp only [cond_true,cond_false];exact no (by simp [stG,g2])
   have hk:1≤e.Kind∧e.Kind≤5:=⟨xZf.1 g1,xZf.1 g2⟩
   simp only [cond_false]
   by_cases g3:e.Kind=w
   ·simp only [show (e.Kind==w)=true by simpa using g3,cond_true]
    by_cases g4:w≤2
    ·simp only [show leB w 2=true from xZI.2 g4,cond_true]
     exact no (by
      have:isLs e=true:=by simp [isLs];omega
      simp [stG,this,g3])
    ·simp only [show leB w 2=false by rw [xZ4g];simpa using g4,cond_false]
     have hls:isLs e=false:=by simp [isLs];omega
     by_cases g5:e.Kind=5
     ·simp only [show (e.Kind==5)=true by simpa using g5,cond_true,show (w==3)=false by simp;omega,cond_false]
      exact kids (by simp [stG,g1,g2,hls];omega)
     ·simp only [show (e.Kind==5)=false by simpa using g5,cond_false]
      exact kids (by simp [stG,g1,g2,hls,g5])
   ·simp only [show (e.Kind==w)=false by simpa using g3,cond_false]
    by_cases g5:e.Kind=5
    ·have hls:isLs e=false:=by simp [isLs];omega
     simp only [show (e.Kind==5)=true by simpa using g5,cond_true]
     by_cases g6:w=3
     ·simp only [show (w==3)=true by simpa using g6,cond_true]
      exact no (by simp [stG,hls,g5,g6])
     ·simp only [show (w==3)=false by simpa using g6,cond_false]
      exact kids (by simp [stG,g1,g2,hls,g6])
    ·simp only [show (e.Kind==5)=false by simpa using g5,cond_false]
     exact kids (by
      cases hls:isLs e<;>simp [stG,g1,g2,hls,g5,g3])
theorem xZ9J (p:xZ5) (hl:p.Body.length≤1000000) (ho:∀ n∈p.Body,okN n.Test):W (fun N=>xZ5t N p) (·=chkG p):=by
 simp only [xZ5t,e_rwd,Option.bind_some]
 unfold chkG
 by_cases h0:40 < p.Body.length
 ·simp only [show ltB 40 (p.Body.length:Int)=true from xZ9.2 (by omega),cond_true,if_pos h0,W.ret]
 have g0:ltB 40 (p.Body.length:Int)=false:=by rw [xZ50];exact decide_eq_false (by omega)
 simp only [g0,cond_false,if_neg h0,xZbu]
 refine W.call (f:=fun N=>(xZ41 N) p.Body 0 0 0) (P:=EG p.Body (TG 17 (p.Body.drop 0) 0 0)) (xZnn hl ho 17 0 0 0 (by omega) (by omega) (by omega) (by omega)) ?_
 rintro r ⟨r1,r2⟩
 rw [List.drop_zero] at r1 r2
 generalize TG 17 p.Body 0 0=q at *
 by_cases h1:q.2=0
 rotate_left
 ·simp only [r1,show (q.2 != 0)=true by simpa using h1,cond_true,if_pos h1,W.ret]
 obtain ⟨j,j1,j2,j3⟩:=r2 (r1.trans h1)
 simp only [r1,show (q.2 != 0)=false by simpa using h1,cond_false,if_neg (show ¬ q.2≠0 from fun h=>h h1)]
 have hj:q.1.length=p.Body.length - j:=by rw [← j3,List.length_drop]
 by_cases h2:0 < q.1.length
 ·simp only [show ltB r.1 (p.Body.length:Int)=true from xZ9.2 (by omega),cond_true,if_pos h2,W.ret]
 have g2:ltB r.1 (p.Body.length:Int)=false:=by rw [xZ50];exact decide_eq_false (by omega)
 simp only [g2,cond_false,if_neg h2]
 by_cases h3:p.Within < 1
 ·simp only [show ltB p.Within 1=true from xZ9.2 h3,cond_true,if_pos h3,W.ret]
 have g3:ltB p.Within 1=false:=by rw [xZ50];exact decide_eq_false h3
 simp only [g3,cond_false,if_neg h3]
 by_cases h4:1073741824 < p.Within
 ·simp only [show ltB 1073741824 p.Within=true from xZ9.2 h4,cond_true,if_pos h4,W.ret]
 have g4:ltB 1073741824 p.Within=false:=by rw [xZ50];exact decide_eq_false h4
 simp only [g4,cond_false,if_neg h4]
 by_cases h5:p.By=[]
 ·simp only [h5,show (!(([]:List UInt8)==[]))=false from rfl,cond_false,if_neg (show ¬ (([]:List UInt8)≠[]∧_) from fun h=>h.1 rfl)]
  by_cases h6:wdS p.Mode=[]
  ·simp [h6,W.ret]
  ·simp [h6,W.ret,show (wdS p.Mode==[])=false by simpa using h6]
 ·simp only [show (!(p.By==[]))=true by simpa using h5,cond_true]
  refine W.call (xZ4O _) ?_
  rintro _ rfl
  cases h6:nm p.By
  ·simp [h5,W.ret]
  ·simp only [Bool.not_true,cond_false,h5,Bool.true_eq_false,and_false,if_false]
   by_cases h7:wdS p.Mode=[]
   ·simp [h7,W.ret]
   ·simp [h7,W.ret,show (wdS p.Mode==[])=false by simpa using h7]
end
section
open Go Classical
theorem xZsp (v:xZ7) (hv:okS v.Text):W (fun N=>xZ7F N v) fun r=>¬ 0 < r→v.Text.length≤100:=by
 have:=xZuQ hv
 simp only [xZ7F,W.gd,W.ret,xZc]
 exact ⟨by omega,fun h=>by omega⟩
theorem xZv1 (l:List xZ2) (hl:l.length≤10000):W (fun N=>xZay N l) (·=l):=by
 simp only [xZay]
 refine wf2a (l:=l) (fun pre ys=>ys=pre) [] rfl rfl (by omega) rfl ?_ ?_
 ·rintro F pre e rest ys hl' h1 h2 h3 rfl hn
  simp only [xZ7C,h1,h2,h3,Option.bind_some,cond_true,W.gd,true_and]
  refine ⟨Nat.ble_eq_true_of_le (by rw [hl'] at hl;simp at hl;omega),hn _ rfl⟩
 ·rintro F ys h1 rfl
  simp only [xZ7C,h1,cond_false,W.ret]
theorem xZup (l:List xZ2) (hl:okL (fun n:xZ2=>okS n.Val.Text) l):W (fun N=>xZ9p N l) fun b=>¬ 0 < b→l.length≤40∧∀ n∈l,n.Var.length≤40∧n.Name.length≤40∧n.Val.Text.length≤100:=by
 have hlen:l.length≤9223372036854775807:=hl.2
 simp only [xZ9p,W.cond,W.ret,xZ9,xZf]
 refine ⟨fun h h2=>absurd (by omega) h2,fun h=>?_⟩
 refine wf1 (l:=l) (fun pre=>∀ n∈pre,n.Var.length≤40∧n.Name.length≤40∧n.Val.Text.length≤100) [] rfl rfl (by omega) (by simp) ?_ ?_
 ·intro F pre e rest hl' h1 h2 h3 hp hn
  have he:=hl.1 e (by rw [hl'];simp)
  simp only [xZ5Q,h1,h2,h3,Option.bind_some,cond_true,W.cond,W.ret,xZn,xZ9,xZf]
  refine ⟨fun _ h=>absurd (by omega) h,fun h40=>⟨fun _ h=>absurd (by omega) h,fun h41=>?_⟩⟩
  refine W.call (xZsp e.Val he) fun b hb=>?_
  simp only [W.cond,W.ret,xZ9,xZf]
  refine ⟨fun _ h=>absurd (by omega) h,fun hb0=>hn fun t ht=>?_⟩
  rcases List.mem_append.1 ht with ht | ht
  ·exact hp t ht
  ·rw [List.mem_singleton.1 ht];exact ⟨by omega,by omega,hb (by omega)⟩
 ·intro F h1 hp
  simp only [xZ5Q,h1,cond_false,W.ret]
  exact fun _=>⟨by omega,hp⟩
theorem xZrI (p:xZ5) (hp:xZ4A p):W (fun N=>xZ97 N p) fun b=>¬ 0 < b→p.Body.length≤50∧p.By.length≤40∧∀ n∈p.Body,n.Test.length≤40:=by
 have hlen:p.Body.length≤9223372036854775807:=hp.1.2
 simp only [xZ97,W.cond,W.ret,xZ9,xZf]
 refine ⟨fun h h2=>absurd (by omega) h2,fun h=>⟨fun h' h2=>absurd (by omega) h2,fun h'=>?_⟩⟩
 refine wf1 (l:=p.Body) (fun pre=>∀ n∈pre,n.Test.length≤40) [] rfl rfl (by omega) (by simp) ?_ ?_
 ·intro F pre e rest hl' h1 h2 h3 hq hn
  have he:=hp.1.1 e (by rw [hl'];simp)
  have ht:=he.2.2.2.2.2.2
  simp only [xZ5Z,h1,h2,h3,Option.bind_some,cond_true,W.cond,W.ret,xZn,xZ9,xZf]
  refine ⟨fun _ h=>absurd (by omega) h,fun h40=>⟨fun _ h=>absurd (by omega) h,fun h41=>?_⟩⟩
  refine W.call (xZup e.Test ⟨fun n hn=>(ht.1 n hn).2.2.2.2.2.2.2,ht.2⟩) fun b hb=>?_
  simp only [W.cond,W.ret,xZ9,xZf]
  refine ⟨fun _ h=>absurd (by omega) h,fun hb0=>hn fun t ht=>?_⟩
  rcases List.mem_append.1 ht with ht | ht
  ·exact hq t ht
  ·rw [List.mem_singleton.1 ht];exact (hb (by omega)).1
 ·intro F h1 hq
  simp only [xZ5Z,h1,cond_false,W.ret]
  exact fun _=>⟨by omega,by omega,hq⟩
theorem xZuP (p:xZ5) (h50:p.Body.length≤50) (ht:∀ n∈p.Body,n.Test.length≤40):W (fun N=>xZaz N p) (·=p):=by
 simp only [xZaz]
 refine wf2a (l:=p.Body) (fun pre ys=>ys=pre) [] rfl rfl (by omega) rfl ?_ ?_
 ·rintro F pre e rest ys hl' h1 h2 h3 rfl hn
  simp only [xZ7r,h1,h2,Option.bind_some,cond_true]
  refine W.call (xZv1 e.Test (by have:=ht e (by rw [hl'];simp);omega)) ?_
  rintro _ rfl
  simp only [h3,W.gd,true_and]
  exact ⟨Nat.ble_eq_true_of_le (by rw [hl'] at h50;simp at h50;omega),hn _ rfl⟩
 ·rintro F ys h1 rfl
  simp only [xZ7r,h1,cond_false,W.ret]
end
end
section
structure WS where
 tk:Int
 out:List Int
 en:Bool
def WS.ok (s:WS):Prop:=0≤s.tk∧s.tk≤200∧s.out.length≤100∧(s.en=false→s.out.length < 100)
def cho (cs:List Int) (s:WS):Int×WS:=if s.tk=200 then (0,⟨s.tk,s.out,true⟩) else (max 0 (min 8 (cs.getD s.tk.toNat 0)),⟨s.tk+1,s.out,s.en⟩)
def iterW (f:WS→WS):Nat→WS→WS
 | 0,s=>s
 | n+1,s=>if s.en then s else iterW f n (f s)
def timG (lo hi c:Int):Int:=if 0 < hi then min (lo+c) hi else lo+c
mutual
def GT.wk (cs:List Int):GT→Nat→WS→WS
 | .leaf _ _ _ _,i,s=>if s.en then s else ⟨s.tk,s.out++[(i:Int)],((s.out++[(i:Int)]).length:Int)==100⟩
 | .rep lo hi a,i,s=>if s.en then s else iterW (fun s=>GT.wk cs a (i+1) s) (timG lo hi (cho cs s).1).toNat (cho cs s).2
 | .lst alt bs,i,s=>if s.en then s else if alt then GT.wkp cs bs ((cho cs s).1.toNat % bs.length) (i+1) (cho cs s).2 else GT.wks cs bs (i+1) s
def GT.wkp (cs:List Int):List GT→Nat→Nat→WS→WS
 | [],_,_,s=>s
 | b::bs,k,i,s=>if k=0 then GT.wk cs b i s else GT.wkp cs bs (k - 1) (i+(GT.fl b).length) s
def GT.wks (cs:List Int):List GT→Nat→WS→WS
 | [],_,s=>s
 | b::bs,i,s=>if s.en then s else GT.wks cs bs (i+(GT.fl b).length) (GT.wk cs b i s)
end
section
variable {cs:List Int}
theorem xZnV {s:WS} (h:s.ok):(cho cs s).2.ok∧0≤(cho cs s).1∧(cho cs s).1≤8:=by
 obtain ⟨h1,h2,h3,h4⟩:=h
 unfold cho
 split
 ·exact ⟨⟨h1,h2,h3,fun h=>(by cases h)⟩,by omega,by omega⟩
 ·exact ⟨⟨by show 0≤s.tk+1;omega,by show s.tk+1≤200;omega,h3,h4⟩,by show 0≤max 0 _;omega,by show max 0 (min 8 _)≤8;omega⟩
theorem xZr7 {f:WS→WS} {s:WS} (h:s.en=true):∀ n,iterW f n s=s
 | 0=>rfl
 | n+1=>by simp [iterW,h]
theorem xZuF {s:WS} (h:s.en=true) (bs:List GT) (i:Nat):GT.wks cs bs i s=s:=by
 cases bs with
 | nil=>simp [GT.wks]
 | cons b bs=>simp [GT.wks,h]
theorem xZnl {f:WS→WS} (hf:∀ s,s.ok→(f s).ok):∀ (n:Nat) (s:WS),s.ok→(iterW f n s).ok
 | 0,s,h=>h
 | n+1,s,h=>by
   unfold iterW
   split
   ·exact h
   ·exact xZnl hf n _ (hf s h)
mutual
theorem wk_ok:∀ (t:GT) (i:Nat) (s:WS),s.ok→(GT.wk cs t i s).ok
 | .leaf _ _ _ _,i,s,h=>by
   rw [GT.wk]
   split
   ·exact h
   ·rename_i he
    obtain ⟨h1,h2,h3,h4⟩:=h
    have h5:=h4 (by simpa using he)
    refine ⟨h1,h2,by simp;omega,fun h=>?_⟩
    simp at h ⊢
    omega
 | .rep lo hi a,i,s,h=>by
   rw [GT.wk]
   split
   ·exact h
   ·exact xZnl (fun s hs=>wk_ok a (i+1) s hs) _ _ (xZnV h).1
 | .lst alt bs,i,s,h=>by
   rw [GT.wk]
   split
   ·exact h
   ·split
    ·exact xZrU bs _ _ _ (xZnV h).1
    ·exact xZrj bs _ _ h
theorem xZrU:∀ (bs:List GT) (k i:Nat) (s:WS),s.ok→(GT.wkp cs bs k i s).ok
 | [],k,i,s,h=>by rw [GT.wkp];exact h
 | b::bs,k,i,s,h=>by
   rw [GT.wkp]
   split
   ·exact wk_ok b i s h
   ·exact xZrU bs _ _ s h
theorem xZrj:∀ (bs:List GT) (i:Nat) (s:WS),s.ok→(GT.wks cs bs i s).ok
 | [],i,s,h=>by rw [GT.wks];exact h
 | b::bs,i,s,h=>by
   rw [GT.wks]
   split
   ·exact h
   ·exact xZrj bs _ _ (wk_ok b i s h)
end
theorem xZfX (a b:List GT):(GT.fls (a++b)).length=(GT.fls a).length+(GT.fls b).length:=by rw [xZfI,List.length_append]
theorem xZrt {b:GT} {bs2:List GT}:∀ (bs1:List GT) (i:Nat) (s:WS),GT.wkp cs (bs1++b::bs2) bs1.length i s=GT.wk cs b (i+(GT.fls bs1).length) s
 | [],i,s=>by simp [GT.wkp,GT.fls]
 | a::bs1,i,s=>by
   rw [List.cons_append,GT.wkp,if_neg (by simp),List.length_cons,Nat.add_sub_cancel,xZrt bs1,GT.fls,List.length_append,Nat.add_assoc]
theorem xZoh:∀ t:GT,∃ e r,t.fl=e::r
 | .leaf ..=>⟨_,_,rfl⟩
 | .rep ..=>⟨_,_,rfl⟩
 | .lst ..=>⟨_,_,rfl⟩
theorem xZbf {α:Type} {l pre r:List α} {e:α} (h:l=pre++e::r):ix l (pre.length:Int)=some e:=by
 rw [ix_nat',h];simp
def GT.kd:GT→List GT
 | .leaf ..=>[]
 | .rep _ _ a=>[a]
 | .lst _ bs=>bs
theorem fl_kd (t:GT):∃ e,t.fl=e::GT.fls t.kd∧∀ w,t.ok w→kdG e=(t.kd.length:Int):=by
 cases t with
 | leaf neg v ty o=>exact ⟨_,rfl,fun w h=>by cases neg<;>rfl⟩
 | rep lo hi a=>exact ⟨_,by simp [GT.fl,GT.kd,GT.fls];rfl,fun w h=>rfl⟩
 | lst alt bs=>
   refine ⟨_,rfl,fun w h=>?_⟩
   obtain ⟨_,_,h3,_⟩:=h
   have:isLs (⟨kA alt,(bs.length:Int),0,0,[],[],[]⟩:xZ0)=true:=by cases alt<;>rfl
   simp only [kdG,this,if_true,GT.kd]
   omega
theorem kd_ok {t:GT} {w:Int} (h:t.ok w):∃ w',GT.oks t.kd w':=by
 cases t with
 | leaf=>exact ⟨0,trivial⟩
 | rep lo hi a=>exact ⟨3,h.2,trivial⟩
 | lst alt bs=>exact ⟨_,h.2.2.2⟩
def oksA (ts:List GT):Prop:=∀ t∈ts,∃ w,GT.ok t w
theorem oks_A:∀ {ts:List GT} {w:Int},GT.oks ts w→oksA ts
 | [],w,h=>fun t ht=>by cases ht
 | a::ts,w,h=>fun t ht=>by
   rcases List.mem_cons.1 ht with rfl | ht
   ·exact ⟨w,h.1⟩
   ·exact oks_A h.2 t ht
theorem kdA {t:GT} {ts:List GT} (h:oksA (t::ts)):oksA (t.kd++ts):=fun x hx=>by
 rcases List.mem_append.1 hx with hx | hx
 ·obtain ⟨w,hw⟩:=h t (by simp)
  obtain ⟨w',hw'⟩:=kd_ok hw
  exact oks_A hw' x hx
 ·exact h x (by simp [hx])
theorem xZqQ {pre post:List xZ0} {t:GT} {w:Int} (ht:t.ok w) {l:List xZ0} (hl:l=pre++(t.fl++post)) (hb:l.length≤1000):W (fun N=>xZ9g N l (pre.length:Int)) (·=(t.fl.length:Int)):=by
 have hpos:0 < t.fl.length:=by obtain ⟨e,r,h⟩:=xZoh t;rw [h];simp
 have hlen:l.length=pre.length+(t.fl.length+post.length):=by rw [hl];simp
 simp only [xZ9g,show ltB (pre.length:Int) 0=false from xZf.2 (by omega),cond_false,show leB (l.length:Int) (pre.length:Int)=false from xZdG.2 (by omega)]
 refine W.lp2 (P:=fun o x=>∃ (ts:List GT) (m:Nat),oksA ts∧o=(ts.length:Int)∧x=((pre.length+m:Nat):Int)∧m≤t.fl.length∧l.drop (pre.length+m)=GT.fls ts++post∧m+(GT.fls ts).length=t.fl.length) (m:=fun _ x=>l.length - x.toNat)
  ⟨[t],0,fun x hx=>⟨w,by rw [List.mem_singleton.1 hx];exact ht⟩,rfl,by simp,by omega,by rw [hl];simp [GT.fls],by simp [GT.fls]⟩ ?_
 rintro F o x ⟨ts,m,h1,rfl,rfl,h3,h4,h5⟩ hn
 cases ts with
 | nil=>
   simp only [GT.fls,List.length_nil] at h5
   simp only [xZ5L,List.length_nil,show ltB 0 ((0:Nat):Int)=false from rfl,cond_false,W.gd,xZc,W.ret]
   exact ⟨by omega,by omega⟩
 | cons a ts=>
   obtain ⟨e,he,hk⟩:=fl_kd a
   obtain ⟨wa,ha⟩:=h1 a (by simp)
   have hk:=hk wa ha
   rw [GT.fls,he] at h4 h5
   have hm:m < t.fl.length:=by simp at h5;omega
   have hix:ix l ((pre.length+m:Nat):Int)=some e:=by
    rw [ix_nat',← List.head?_drop,h4];simp
   have hts:ts.length≤100000:=by
    have:∀ us:List GT,us.length≤(GT.fls us).length:=fun us=>by
     induction us with
     | nil=>simp
     | cons u us ih=>
       obtain ⟨e,r,h⟩:=xZoh u
       rw [GT.fls,h];simp;omega
    have:=this ts
    simp at h5;omega
   have hkb:a.kd.length≤100000:=by
    have:=xZoy e
    omega
   simp only [xZ5L,show ltB 0 ((ts.length+1:Nat):Int)=true from xZ9.2 (by omega),show leB (l.length:Int) ((pre.length+m:Nat):Int)=false from xZdG.2 (by omega),cond_true,cond_false,hix,Option.bind_some,xZr2,hk,W.gd,xZc,List.length_cons]
   have hd1:l.drop (pre.length+m+1)=GT.fls (a.kd++ts)++post:=by
    rw [← List.drop_drop,h4,xZfI];simp
   have hs1:m+1+(GT.fls (a.kd++ts)).length=t.fl.length:=by
    rw [xZfI];simp at h5 ⊢;omega
   refine ⟨by omega,by omega,by omega,hn _ _ ⟨a.kd++ts,m+1,kdA h1,by simp;omega,by omega,by omega,hd1,hs1⟩ (by omega)⟩
end
end
section
theorem xZlg (cs:List Int) (s:WS):(cho cs s).2.out=s.out:=by unfold cho;split<;>rfl
end
section
section
variable {body:List xZ0} {cs:List Int}
theorem xZlP {pre post:List xZ0} {e:xZ0} {bs bs1 bs2:List GT} {b:GT} (hb:body=pre++[e]++(GT.fls bs++post)) (hs:bs=bs1++b::bs2):body=(pre++[e]++GT.fls bs1)++(b.fl++(GT.fls bs2++post))∧(pre++[e]++GT.fls bs1).length=pre.length+1+(GT.fls bs1).length∧(GT.fls bs1).length+b.fl.length≤(GT.fls bs).length:=by
 have:GT.fls bs=GT.fls bs1++(b.fl++GT.fls bs2):=by rw [hs,xZfI,GT.fls]
 refine ⟨?_,by simp;omega,by rw [this];simp only [List.length_append];omega⟩
 rw [hb,this]
 simp only [List.append_assoc]
def offs:List GT→Nat→List Int
 | [],_=>[]
 | b::bs,i=>(i:Int)::offs bs (i+b.fl.length)
theorem xZjO:∀ (a b:List GT) (i:Nat),offs (a++b) i=offs a i++offs b (i+(GT.fls a).length)
 | [],b,i=>by simp [offs,GT.fls]
 | x::a,b,i=>by
   simp only [List.cons_append,offs,GT.fls,List.length_append]
   rw [xZjO a b,Nat.add_assoc]
theorem xZba:∀ (a:List GT) (i:Nat),(offs a i).length=a.length
 | [],i=>rfl
 | x::a,i=>by simp [offs,xZba a]
theorem xZn0 {bs bs1 bs2:List GT} {b:GT} (hs:bs=bs1++b::bs2) (i:Nat):ix (offs bs i) (bs1.length:Int)=some ((i+(GT.fls bs1).length:Nat):Int):=by
 rw [hs,xZjO,ix_nat',offs,List.getElem?_append_right (by rw [xZba];omega),xZba];simp
theorem xZnW {t:GT} {w:Int} (ht:t.ok w) {e:xZ0} (hf:t.fl=e::GT.fls t.kd) {pre post:List xZ0} (hb:body=pre++(t.fl++post)) (hlen:body.length≤1000):W (fun N=>xZ2Z N body (pre.length:Int)) (·=offs t.kd (pre.length+1)):=by
 have hb':body=pre++[e]++(GT.fls t.kd++post):=by rw [hb,hf];simp
 have hix:=xZbf (l:=body) (pre:=pre) (e:=e) (r:=GT.fls t.kd++post) (by rw [hb,hf];simp)
 have hpl:pre.length+(GT.fls t.kd).length+1≤1000:=by rw [hb'] at hlen;simp at hlen;omega
 have hk:kdG e=(t.kd.length:Int):=by
  obtain ⟨e',h1,h2⟩:=fl_kd t
  rw [hf] at h1
  cases h1
  exact h2 w ht
 have hkb:t.kd.length≤1000:=by have:=xZoy e;omega
 obtain ⟨w',hw'⟩:=kd_ok ht
 have hoA:=oks_A hw'
 simp only [xZ2Z,W.gd,xZc]
 refine ⟨by omega,?_⟩
 refine W.lp3 (N:=fun N=>N) (P:=fun v i ys=>∃ bs1 bs2:List GT,t.kd=bs1++bs2∧v=((pre.length+1+(GT.fls bs1).length:Nat):Int)∧i=(bs1.length:Int)∧ys=offs bs1 (pre.length+1)) (m:=fun _ i _=>t.kd.length - i.toNat) ⟨[],t.kd,rfl,by simp [GT.fls],rfl,rfl⟩ ?_
 rintro F v i ys ⟨bs1,bs2,hbs,rfl,rfl,rfl⟩ hn
 simp only [xZ9d,hix,Option.bind_some,xZr2,hk]
 cases bs2 with
 | nil=>
   rw [List.append_nil] at hbs
   simp only [show ltB (bs1.length:Int) (t.kd.length:Int)=false from xZf.2 (by rw [hbs];omega),cond_false,W.ret]
   rw [hbs]
 | cons b bs2=>
   have hbl:t.kd.length=bs1.length+(bs2.length+1):=by rw [hbs];simp
   obtain ⟨s1,s2,hfl⟩:=xZlP hb' hbs
   obtain ⟨wb,hwb⟩:=hoA b (by rw [hbs];simp)
   have hsz:=xZqQ hwb s1 hlen
   rw [s2] at hsz
   simp only [show ltB (bs1.length:Int) (t.kd.length:Int)=true from xZ9.2 (by omega),cond_true,W.gd,xZba]
   refine ⟨Nat.ble_eq_true_of_le (by omega),W.call hsz ?_⟩
   rintro _ rfl
   simp only [W.gd,xZc]
   refine ⟨by omega,by omega,hn _ _ _ ⟨bs1++[b],bs2,by rw [hbs];simp,by rw [xZfI];simp only [GT.fls,List.length_append,List.append_nil];omega,by simp,?_⟩ (by omega)⟩
   rw [xZjO];rfl
end
end
section
open Go Classical
theorem xZqT {ι:Type} [Lim ι] (N:ι→Nat):W (fun i=>(xZ42 (N i)).bind fun a=>some a) (·=true):=by
 simp only [xZ42,Option.bind_some,W.ret]
end
section
section
theorem xZsm {α:Type} {l r:List α} {j:Int} {e:α} (h:ix l j=some e) (h0:0≤j):ix (l++r) j=some e:=by
 obtain ⟨n,rfl⟩:=Int.eq_ofNat_of_zero_le h0
 rw [ix_nat'] at h ⊢
 obtain ⟨hn,_⟩:=List.getElem?_eq_some_iff.1 h
 rw [List.getElem?_append_left hn,h]
end
section
def small (l:List xZ1):Prop:=l.length≤12∧∀ t∈l,t.Name.length≤40∧t.Fields.length≤12∧∀ f∈t.Fields,f.Name.length≤40
theorem xZjj (l:List xZ1):W (fun N=>xZ8Z N l) fun r=>¬ 0 < r→small l:=by
 simp only [xZ8Z,W.cond,W.ret,xZ9,xZf]
 refine ⟨by omega,fun hl=>?_⟩
 refine wf1 (l:=l) (fun pre=>∀ t∈pre,t.Name.length≤40∧t.Fields.length≤12∧∀ f∈t.Fields,f.Name.length≤40) [] rfl rfl (by omega) (by simp) ?_ ?_
 ·intro F pre t rest hl h1 h2 h3 hp hn
  simp only [xZ6h,h1,h2,W.some,W.cond,W.ret,xZ9,xZf]
  refine ⟨fun _=>⟨by omega,fun hn1=>⟨by omega,fun hn2=>?_⟩⟩,by simp⟩
  refine wf1 (l:=t.Fields) (fun pre=>∀ f∈pre,f.Name.length≤40) [] rfl rfl (by omega) (by simp) ?_ ?_
  ·intro F' pre' f rest' hl' k1 k2 k3 hp' hn'
   simp only [xZ6e,h1,h2,k1,k2,k3,W.some,W.cond,W.ret,xZn,xZ9,xZf]
   refine ⟨fun _=>⟨by omega,fun hf=>hn' ?_⟩,by simp⟩
   simp only [List.mem_append,List.mem_singleton]
   rintro f (h | rfl)
   ·exact hp' f h
   ·omega
  ·intro F' k1 hp'
   simp only [xZ6e,h1,h2,h3,k1,W.some,W.cond,W.ret,xZn]
   refine ⟨by simp,fun _=>(hn ?_).lift⟩
   simp only [List.mem_append,List.mem_singleton]
   rintro t (h | rfl)
   ·exact hp t h
   ·exact ⟨by omega,by omega,hp'⟩
 ·intro F h1 hp
  simp only [xZ6h,h1,W.some,W.cond,W.ret]
  exact ⟨by simp,fun _ _=>⟨by omega,hp⟩⟩
theorem xZlv (l:List xZ1) (h:small l):W (fun N=>xZd9 N l) fun r=>r=l:=by
 have h12:=h.1
 refine wf2a (l:=l) (fun pre ys=>ys=pre) [] rfl rfl (by omega) rfl ?_ ?_
 ·rintro F pre t rest ys hl h1 h2 h3 rfl hn
  have ht:=(h.2 t (by rw [hl];simp)).2.1
  have hp:ys.length≤12:=by rw [hl,List.length_append] at h12;omega
  simp only [xZ7f,h1,h2,W.some,cond_true]
  refine wf3a (l:=t.Fields) (fun pre' a b=>a=ys∧b=pre') [] rfl rfl (by omega) ⟨rfl,rfl⟩ ?_ ?_
  ·rintro F' pre' f rest' a b hl' k1 k2 k3 ⟨rfl,rfl⟩ hn'
   have:b.length≤12:=by rw [hl',List.length_append] at ht;omega
   simp only [xZ7G,h1,h2,k1,k2,k3,W.some,cond_true,W.gd,Nat.ble_eq,true_and]
   exact ⟨by omega,hn' _ _ ⟨rfl,rfl⟩⟩
  ·rintro F' a b k1 ⟨rfl,rfl⟩
   simp only [xZ7G,h1,h2,h3,k1,W.some,cond_false,W.gd,Nat.ble_eq,true_and]
   exact ⟨by omega,(hn _ rfl).lift⟩
 ·rintro F ys h1 rfl
  simp only [xZ7f,h1,cond_false,W.ret]
end
section
def resl:List (List UInt8):=[[119,105,116,104,105,110],[98,121],[97,110,100],[111,114],[110,111,116],[97,110,121],[110,101,120,116],[115,116,114,105,99,116],[116,114,117,101],[102,97,108,115,101]]
def resv (s:List UInt8):Bool:=resl.any (s==·)
theorem xZdT (s:List UInt8):W (fun N=>xZ1U N s) (·=resv s):=by
 refine wall fun N=>?_
 have e2:∀ (b r:Bool),(bif b then some true else some r)=some (b || r):=by intro b r;cases b<;>rfl
 unfold xZ1U
 have e3:∀ (b r r':Bool),(bif b then some (b || r') else some r)=some (b || r):=by intro b r r';cases b<;>rfl
 have e4:∀ (b r:Bool),(bif b then some b else some r)=some (b || r):=by intro b r;cases b<;>rfl
 simp only [resv,resl,List.any_cons,List.any_nil,e2,e3,e4,Bool.or_false]
theorem xZeQ (s:List UInt8):W (fun N=>xZ4q N s) (·=resv s):=by
 refine wr1 (l:=resl) (fun _ rest=>rest.any (s==·)) [] resl rfl rfl (by decide) ?_ ?_
 ·intro F pre e rest hl h1 h2 h3 hn
  simp only [xZ1H]
  rw [show ltB (pre.length:Int) (List.length ([[119,105,116,104,105,110],[98,121],[97,110,100],[111,114],[110,111,116],[97,110,121],[110,101,120,116],[115,116,114,105,99,116],[116,114,117,101],[102,97,108,115,101]]:List (List UInt8)):Int)=true from h1]
  have h2':ix ([[119,105,116,104,105,110],[98,121],[97,110,100],[111,114],[110,111,116],[97,110,121],[110,101,120,116],[115,116,114,105,99,116],[116,114,117,101],[102,97,108,115,101]]:List (List UInt8)) (pre.length:Int)=some e:=h2
  simp only [h2',h3,Option.bind_some,cond_true,List.any_cons,xZn,W.cond,W.ret]
  rw [show (e==s)=(s==e) from BEq.comm]
  refine ⟨fun h=>by simp only [h,Bool.true_or],fun h=>by simp only [h,Bool.false_or];exact hn⟩
 ·intro F h1
  simp only [xZ1H]
  rw [show ltB (resl.length:Int) (List.length ([[119,105,116,104,105,110],[98,121],[97,110,100],[111,114],[110,111,116],[97,110,121],[110,101,120,116],[115,116,114,105,99,116],[116,114,117,101],[102,97,108,115,101]]:List (List UInt8)):Int)=false from h1]
  exact W.ret.2 rfl
def ltr (c:UInt8):Bool:=leB 97 (c.toNat:Int)&&leB (c.toNat:Int) 122
def tl (c:UInt8):Bool:=ltr c || (leB 48 (c.toNat:Int)&&leB (c.toNat:Int) 57) || ((c.toNat:Int)==95)
def q_nm:List UInt8→Bool
 | []=>false
 | c::t=>!(ltB 12 ((c::t).length:Int))&&(ltr c&&(!resv (c::t)&&t.all tl))
theorem xZ9x (c:UInt8) (N:Nat):xZ25 N (c.toNat:Int)=some (ltr c):=by
 simp only [xZ25,ltr];cases leB 97 (c.toNat:Int)<;>rfl
theorem xZfm (c:UInt8) (N:Nat):xZ48 N (c.toNat:Int)=some (tl c):=by
 simp only [xZ48,xZ9x,Option.bind_some,tl]
 cases ltr c<;>cases leB 48 (c.toNat:Int)<;>cases leB (c.toNat:Int) 57<;>rfl
theorem xZaR (s:List UInt8):W (fun N=>xZN N s) (·=q_nm s):=by
 cases s with
 | nil=>exact wall fun _=>rfl
 | cons c t=>
   simp only [xZN,show ((c::t)==([]:List UInt8))=false from rfl,cond_false,W.cond,W.ret,show ix (c::t) 0=some c from rfl,Option.bind_some,xZ9x]
   refine ⟨fun h=>by simp only [q_nm,h,Bool.not_true,Bool.false_and],fun h=>⟨fun h'=>?_,fun h'=>?_⟩⟩
   ·have h':ltr c=false:=by simpa using h'
    simp only [q_nm,h',Bool.false_and,Bool.and_false]
   have h':ltr c=true:=by simpa using h'
   simp only [q_nm,h,h',Bool.not_false,Bool.true_and]
   refine W.call (xZdT _) ?_
   rintro _ rfl
   simp only [W.cond,W.ret]
   refine ⟨fun h2=>by simp only [h2,Bool.not_true,Bool.false_and],fun h2=>?_⟩
   simp only [h2,Bool.not_false,Bool.true_and]
   have hb:=xZf.1 h
   refine wr1 (l:=c::t) (fun _ rest=>rest.all tl) [c] t rfl rfl (by omega) ?_ ?_
   ·intro F pre e rest hl h1 h2 h3 hn
    simp only [xZ2y,h1,h2,h3,Option.bind_some,cond_true,xZfm,W.cond,W.ret,xZn,List.all_cons]
    refine ⟨fun h=>?_,fun h=>?_⟩
    ·have h:tl e=false:=by simpa using h
     simp only [h,Bool.false_and]
    ·have h:tl e=true:=by simpa using h
     simp only [h,Bool.true_and];exact hn
   ·intro F h1
    simp only [xZ2y,h1,cond_false,W.ret,List.all_nil]
def q_nmr:List UInt8→List UInt8→Bool
 | [],c::t=>ltr c&&t.all tl
 | [],[]=>true
 | _::_,rest=>rest.all tl
theorem xZng (pre:List UInt8) (e:UInt8) (rest:List UInt8):q_nmr pre (e::rest)=(if (if pre=[] then ltr e else tl e)=true then rest.all tl else false):=by
 cases pre with
 | nil=>simp only [q_nmr,if_true];cases ltr e<;>rfl
 | cons c t=>simp only [q_nmr,List.all_cons,reduceCtorEq,if_false];cases tl e<;>rfl
theorem xZmk (pre:List UInt8) (e:UInt8) (rest:List UInt8):q_nmr (pre++[e]) rest=rest.all tl:=by
 cases pre<;>rfl
theorem xZcl (s:List UInt8):W (fun N=>xZ1f N s) (·=q_nm s):=by
 cases s with
 | nil=>exact wall fun _=>rfl
 | cons c t=>
   have e0:ltB (((c::t).length:Nat):Int) 1=false:=xZf.2 (by simp;omega)
   simp only [xZ1f,e0,cond_false,W.cond,W.ret]
   refine ⟨fun h=>by simp only [q_nm,h,Bool.not_true,Bool.false_and],fun h=>?_⟩
   simp only [q_nm,h,Bool.not_false,Bool.true_and]
   refine W.call (xZeQ _) ?_
   rintro _ rfl
   simp only [W.cond,W.ret]
   refine ⟨fun h2=>by simp only [h2,Bool.not_true,Bool.false_and,Bool.and_false],fun h2=>?_⟩
   simp only [h2,Bool.not_false,Bool.true_and]
   have hb:=xZf.1 h
   refine wr1 (l:=c::t) q_nmr [] (c::t) rfl rfl (by omega) ?_ ?_
   ·intro F pre e rest hl h1 h2 h3 hn
    simp only [xZ3b,h1,h2,h3,Option.bind_some,cond_true,xZn]
    rw [xZng]
    rw [xZmk] at hn
    have hi0:((pre.length:Int)==0)=decide (pre=[]):=by cases pre<;>simp<;>omega
    have e95:(((e.toNat:Int)==95):Bool)=decide (e.toNat=95):=by rw [Bool.eq_iff_iff];simp;omega
    have a1:leB 97 (e.toNat:Int)=decide (97≤e.toNat):=by rw [xZ4g];simp only [decide_eq_decide];omega
    have a2:leB 48 (e.toNat:Int)=decide (48≤e.toNat):=by rw [xZ4g];simp only [decide_eq_decide];omega
    have a3:leB (e.toNat:Int) 57=decide (e.toNat≤57):=by rw [xZ4g];simp only [decide_eq_decide];omega
    have a4:leB (e.toNat:Int) 122=decide (e.toNat≤122):=by rw [xZ4g];simp only [decide_eq_decide];omega
    simp only [hi0,e95,a1,a2,a3,a4,tl,ltr]
    generalize rest.all tl=R at hn ⊢
    by_cases b0:pre=[]<;>by_cases b1:97≤e.toNat<;>by_cases b2:48≤e.toNat<;>by_cases b3:e.toNat≤57<;>by_cases b4:e.toNat≤122<;>by_cases b5:e.toNat=95<;>
     first | (exfalso;omega) | (simp only [b0,b1,b2,b3,b4,b5,decide_true,decide_false,if_true,if_false,cond_true,cond_false,Bool.not_true,Bool.not_false,Bool.true_and,Bool.and_true,Bool.false_and,Bool.and_false,Bool.true_or,Bool.or_true,Bool.false_or,Bool.or_false,reduceCtorEq,Bool.false_eq_true];first | exact hn | (subst b0;exact hn) | exact W.ret.2 rfl)
   ·intro F h1
    simp only [xZ3b,h1,cond_false,W.ret,q_nmr,List.all_nil]
end
section
def wordO (k:Int):List UInt8:=(xZ6u 0 k).getD []
theorem xZeM (k:Int) (N:Nat):xZ6u N k=some (wordO k):=by
 unfold wordO xZ6u
 simp only [Bool.cond_eq_ite]
 repeat' split
 all_goals rfl
theorem xZjV (k:Int) (N:Nat):xZbw N k=some (wordO k):=xZeM k N
def fld (name:List UInt8):Nat→List xZ6→Int×Int
 | _,[]=>(-1,0)
 | i,f::r=>if f.Name==name then ((i:Int),f.Kind) else fld name (i+1) r
theorem xZ4d (t:xZ1) (name:List UInt8) (hb:t.Fields.length≤1000):W (fun N=>xZT N t name) (·=fld name 0 t.Fields):=by
 refine wr1 (l:=t.Fields) (fun pre rest=>fld name pre.length rest) [] t.Fields rfl rfl (by omega) ?_ ?_
 ·intro F pre e rest hl h1 h2 h3 hn
  rw [List.length_append,List.length_singleton] at hn
  simp only [xZ2d,h1,h2,h3,Option.bind_some,cond_true,W.cond,W.ret,xZn,fld]
  exact ⟨fun h=>by simp only [h,if_true],fun h=>by simp only [h,Bool.false_eq_true,if_false];exact hn⟩
 ·intro F h1
  simp only [xZ2d,h1,cond_false,W.ret,fld]
theorem xZbP (t:xZ1) (name:List UInt8) (hb:t.Fields.length≤1000):W (fun N=>xZ3v N t name) (·=fld name 0 t.Fields):=by
 refine wr1 (l:=t.Fields) (fun pre rest=>fld name pre.length rest) [] t.Fields rfl rfl (by omega) ?_ ?_
 ·intro F pre e rest hl h1 h2 h3 hn
  rw [List.length_append,List.length_singleton] at hn
  simp only [xZ8Y,h1,h2,h3,Option.bind_some,cond_true,W.cond,W.ret,xZn,fld]
  exact ⟨fun h=>by simp only [h,if_true],fun h=>by simp only [h,Bool.false_eq_true,if_false];exact hn⟩
 ·intro F h1
  simp only [xZ8Y,h1,cond_false,W.ret,fld]
theorem xZsD (e:xZ6) (rest:List xZ6):∀ (pre:List xZ6) (j:Nat),
 ((fld e.Name j (pre++e::rest)).1 != ((j+pre.length:Nat):Int))=pre.any (fun f=>f.Name==e.Name)∧(j:Int)≤(fld e.Name j (pre++e::rest)).1
 | [],j=>by simp [fld]
 | f::pre,j=>by
   obtain ⟨h1,h2⟩:=xZsD e rest pre (j+1)
   by_cases h:(f.Name==e.Name)=true
   ·simp only [List.cons_append,fld,h,if_true,List.any_cons,Bool.true_or,Int.le_refl,and_true,bne_iff_ne,ne_eq,List.length_cons]
    omega
   ·have h:=eq_false_of_ne_true h
    simp only [List.cons_append,fld,h,List.any_cons,Bool.false_or,List.length_cons,Bool.false_eq_true,if_false]
    refine ⟨?_,by omega⟩
    rw [← h1]
    congr 2
    omega
def cf:List xZ6→List xZ6→Int
 | _,[]=>0
 | pre,f::r=>if q_nm f.Name then (if wordO f.Kind==[] then 11 else if pre.any (fun g=>g.Name==f.Name) then 21 else cf (pre++[f]) r) else 4
def one (t:xZ1):Int:=if q_nm t.Name then (if ltB 6 (t.Fields.length:Int) then 5 else cf [] t.Fields) else 4
theorem xZgw (t:xZ1):W (fun N=>xZ2z N t) (·=one t):=by
 simp only [xZ2z,one]
 refine W.call (xZaR _) ?_
 rintro _ rfl
 simp only [W.cond,W.ret]
 refine ⟨fun h=>by have h:q_nm t.Name=false:=by simpa using h
                   simp only [h,Bool.false_eq_true,if_false],fun h=>?_⟩
 have h:q_nm t.Name=true:=by simpa using h
 simp only [h,if_true]
 refine ⟨fun h2=>by simp only [h2,if_true],fun h2=>?_⟩
 have hb:=xZf.1 h2
 simp only [h2,Bool.false_eq_true,if_false]
 refine wr1 (l:=t.Fields) cf [] t.Fields rfl rfl (by omega) ?_ ?_
 ·intro F pre e rest hl h1 h2 h3 hn
  simp only [xZ2e,h1,h2,h3,Option.bind_some,cond_true,xZn,cf]
  refine W.call (xZ4d t e.Name (by omega)) ?_
  rintro _ rfl
  refine W.call (xZaR _) ?_
  rintro _ rfl
  have h5:=(xZsD e rest pre 0).1
  rw [← hl,Nat.zero_add] at h5
  simp only [W.cond,W.ret,xZeM,Option.bind_some,h5]
  refine ⟨fun h=>by have h:q_nm e.Name=false:=by simpa using h
                    simp only [h,Bool.false_eq_true,if_false],fun h=>?_⟩
  have h:q_nm e.Name=true:=by simpa using h
  simp only [h,if_true]
  refine ⟨fun h=>by simp only [h,if_true],fun h=>⟨fun h'=>by simp only [h,h',Bool.false_eq_true,if_false,if_true],fun h'=>?_⟩⟩
  simp only [h,h',Bool.false_eq_true,if_false];exact hn
 ·intro F h1
  simp only [xZ2e,h1,cond_false,W.ret,cf]
theorem xZlK (t:xZ1):W (fun N=>xZaE N t) (·=one t):=by
 simp only [xZaE,one]
 refine W.call (xZcl _) ?_
 rintro _ rfl
 simp only [W.cond,W.ret]
 refine ⟨fun h=>by have h:q_nm t.Name=false:=by simpa using h
                   simp only [h,Bool.false_eq_true,if_false],fun h=>?_⟩
 have h:q_nm t.Name=true:=by simpa using h
 simp only [h,if_true]
 refine ⟨fun h2=>by simp only [h2,if_true],fun h2=>?_⟩
 have hb:=xZf.1 h2
 simp only [h2,Bool.false_eq_true,if_false]
 refine wr1 (l:=t.Fields) cf [] t.Fields rfl rfl (by omega) ?_ ?_
 ·intro F pre e rest hl h1 h2 h3 hn
  have hpl:pre.length≤6:=by have:=xZ9.1 h1;omega
  simp only [xZ7e,h1,h2,Option.bind_some,cond_true,xZn,cf]
  refine W.call (xZcl _) ?_
  rintro _ rfl
  simp only [W.cond,W.ret,xZjV,Option.bind_some]
  refine ⟨fun h=>by have h:q_nm e.Name=false:=by simpa using h
                    simp only [h,Bool.false_eq_true,if_false],fun h=>?_⟩
  have h:q_nm e.Name=true:=by simpa using h
  simp only [h,if_true]
  refine ⟨fun h=>by simp only [h,if_true],fun h=>?_⟩
  simp only [h,Bool.false_eq_true,if_false]
  refine wr1 (l:=pre) (fun _ r=>if (r.any fun f=>f.Name==e.Name)=true then 21 else cf (pre++[e]) rest) [] pre rfl rfl (by omega) ?_ ?_
  ·intro F2 pre2 e2 rest2 hl2 k1 k2 k3 hn2
   have k4:ix t.Fields (pre2.length:Int)=some e2:=by rw [hl];exact xZsm k2 (by omega)
   simp only [xZ7p,k1,k3,k4,Option.bind_some,cond_true,xZn,W.cond,W.ret,List.any_cons]
   exact ⟨fun h=>by simp only [h,Bool.true_or,if_true],fun h=>by simp only [h,Bool.false_or];exact hn2⟩
  ·intro F2 k1
   simp only [xZ7p,k1,h3,cond_false,xZn,List.any_nil,Bool.false_eq_true,if_false]
   exact hn.lift
 ·intro F h1
  simp only [xZ7e,h1,cond_false,W.ret,cf]
def fnd (name:List UInt8):List xZ1→xZ1×Bool
 | []=>(xZ1.mk [] [],false)
 | t::r=>if t.Name==name then (t,true) else fnd name r
theorem xZpt (name:List UInt8):∀ l,(fnd name l).2=l.any fun t=>t.Name==name
 | []=>rfl
 | t::r=>by
   by_cases h:(t.Name==name)=true
   ·simp [fnd,h]
   ·have h:=eq_false_of_ne_true h
    simp [fnd,h,xZpt name r]
theorem xZoD (name:List UInt8) {l:List xZ1} (h:small l):small [(fnd name l).1]:=by
 refine ⟨by simp,fun t ht=>?_⟩
 obtain rfl:=List.mem_singleton.1 ht
 have:∀ l:List xZ1,(∀ t∈l,t.Name.length≤40∧t.Fields.length≤12∧∀ f∈t.Fields,f.Name.length≤40)→(fnd name l).1.Name.length≤40∧(fnd name l).1.Fields.length≤12∧∀ f∈(fnd name l).1.Fields,f.Name.length≤40:=by
  intro l
  induction l with
  | nil=>intro _;simp [fnd]
  | cons t r ih=>
    intro h
    simp only [fnd]
    split
    ·exact h t (by simp)
    ·exact ih fun t ht=>h t (by simp [ht])
 exact this l h.2
theorem xZdr (l:List xZ1) (name:List UInt8) (hb:small l):W (fun N=>xZ7E N l name) (·=fnd name l):=by
 have h12:=hb.1
 refine wr1 (l:=l) (fun _ rest=>fnd name rest) [] l rfl rfl (by omega) ?_ ?_
 ·intro F pre e rest hl h1 h2 h3 hn
  have he:=(hb.2 e (by rw [hl];simp)).2.1
  simp only [xZ51,h1,h2,h3,Option.bind_some,cond_true,W.cond,xZn,fnd]
  refine ⟨fun h=>?_,fun h=>by simp only [h,Bool.false_eq_true,if_false];exact hn⟩
  rw [W.clone (by omega)]
  obtain rfl:=eq_of_beq h
  simp only [BEq.rfl,if_true]
  exact W.ret.2 rfl
 ·intro F h1
  simp only [xZ51,h1,cond_false,W.ret,fnd]
theorem xZ9e (l:List xZ1) (name:List UInt8) (hb:small l):W (fun N=>xZ29 N l name) (·=fnd name l):=by
 have h12:=hb.1
 refine wr1 (l:=l) (fun _ rest=>fnd name rest) [] l rfl rfl (by omega) ?_ ?_
 ·intro F pre e rest hl h1 h2 h3 hn
  simp only [xZ6c,h1,h2,h3,Option.bind_some,cond_true,W.cond,W.ret,xZn,fnd]
  exact ⟨fun h=>by simp only [h,if_true],fun h=>by simp only [h,Bool.false_eq_true,if_false];exact hn⟩
 ·intro F h1
  simp only [xZ6c,h1,cond_false,W.ret,fnd]
def ck:List xZ1→List xZ1→Int
 | _,[]=>0
 | pre,t::r=>if one t != 0 then one t else if pre.any (fun g=>g.Name==t.Name) then 21 else ck (pre++[t]) r
def q_chk (l:List xZ1):Int:=if ltB 8 (l.length:Int) then 5 else ck [] l
theorem xZoR {l pre rest:List xZ1} (h:small l) (hl:l=pre++rest):small pre:=⟨by have:=h.1;rw [hl,List.length_append] at this;omega,fun t ht=>h.2 t (by rw [hl];simp [ht])⟩
theorem xZg2 (l:List xZ1) (hs:small l):W (fun N=>xZ68 N l) (·=q_chk l):=by
 have h12:=hs.1
 simp only [xZ68,q_chk,W.cond,W.ret]
 refine ⟨fun h=>by simp only [h,if_true],fun h=>?_⟩
 simp only [h,Bool.false_eq_true,if_false]
 refine wr1 (l:=l) ck [] l rfl rfl (by omega) ?_ ?_
 ·intro F pre e rest hl h1 h2 h3 hn
  have h4:=xZ9.1 h1
  simp only [xZ4s,h1,h2,h3,Option.bind_some,cond_true,xZn,ck]
  refine W.call (xZgw e) ?_
  rintro _ rfl
  simp only [W.cond,W.ret,W.gd,xZI]
  refine ⟨fun h=>by simp only [h,if_true],fun h=>⟨by omega,by omega,?_⟩⟩
  have ht:List.take ((pre.length:Int)).toNat l=pre:=by rw [hl];simp
  rw [ht]
  simp only [h,Bool.false_eq_true,if_false]
  refine W.call (xZdr _ e.Name (xZoR hs hl)) ?_
  rintro _ rfl
  simp only [W.cond,W.ret,xZpt]
  exact ⟨fun h=>by simp only [h,if_true],fun h=>by simp only [h,Bool.false_eq_true,if_false];exact hn⟩
 ·intro F h1
  simp only [xZ4s,h1,cond_false,W.ret,ck]
theorem xZic (l:List xZ1) (h12:l.length≤1000):W (fun N=>xZ7g N l) (·=q_chk l):=by
 simp only [xZ7g,q_chk,W.cond,W.ret]
 refine ⟨fun h=>by simp only [h,if_true],fun h=>?_⟩
 simp only [h,Bool.false_eq_true,if_false]
 refine wr1 (l:=l) ck [] l rfl rfl (by omega) ?_ ?_
 ·intro F pre e rest hl h1 h2 h3 hn
  have h4:=xZ9.1 h1
  simp only [xZ57,h1,h2,Option.bind_some,cond_true,ck]
  refine W.call (xZlK e) ?_
  rintro _ rfl
  simp only [W.cond,W.ret]
  refine ⟨fun h=>by simp only [h,if_true],fun h=>?_⟩
  simp only [h,Bool.false_eq_true,if_false]
  refine wr1 (l:=pre) (fun _ r=>if (r.any fun g=>g.Name==e.Name)=true then 21 else ck (pre++[e]) rest) [] pre rfl rfl (by omega) ?_ ?_
  ·intro F2 pre2 e2 rest2 hl2 k1 k2 k3 hn2
   have k4:ix l (pre2.length:Int)=some e2:=by rw [hl];exact xZsm k2 (by omega)
   simp only [xZ5e,k1,k3,k4,h2,Option.bind_some,cond_true,xZn,W.cond,W.ret,List.any_cons]
   exact ⟨fun h=>by simp only [h,Bool.true_or,if_true],fun h=>by simp only [h,Bool.false_or];exact hn2⟩
  ·intro F2 k1
   simp only [xZ5e,k1,h3,cond_false,xZn,List.any_nil,Bool.false_eq_true,if_false]
   exact hn.lift
 ·intro F h1
  simp only [xZ57,h1,cond_false,W.ret,ck]
end
end
section
def gb (x:A40 Bool) (k:Nat):Bool:=x.l.getD k false
def gm (x:A40 (A40 Bool)) (j:Nat):Nat→Bool:=gb (x.l.getD j (A40.c false))
def upd {α:Type} (A:Nat→α) (i:Nat) (v:α):Nat→α:=fun k=>if k=i then v else A k
def cset {α:Type} (n:Int) (v:α):Nat→List α→List α
 | _,[]=>[]
 | j,x::l=>cond (ieq n (Int.ofNat j)) v x::cset n v (j+1) l
theorem xZq4 {α:Type} (x:A40 α) (n:Int) (v:α):(A40.set x n v).l=cset n v 0 x.l:=rfl
theorem ieq_t {a b:Int}:ieq a b=true ↔ a=b:=by simp only [ieq,Bool.and_eq_true,xZI];omega
theorem xZoZ {α:Type} (n:Nat) (v:α):∀ (l:List α) (j:Nat),cset (n:Int) v j l=if j≤n then l.set (n - j) v else l
 | [],j=>by simp [cset]
 | x::l,j=>by
   rw [cset,xZoZ n v l (j+1)]
   by_cases h:n=j
   ·subst h
    rw [show ieq (n:Int) (Int.ofNat n)=true from ieq_t.2 rfl,cond_true,if_neg (by omega),if_pos (by omega),Nat.sub_self,List.set_cons_zero]
   ·have hc:ieq (n:Int) (Int.ofNat j)=false:=by
     rw [Bool.eq_false_iff];intro hc;rw [ieq_t] at hc
     have:(Int.ofNat j:Int)=(j:Int):=rfl
     omega
    rw [hc,cond_false]
    by_cases h2:j≤n
    ·rw [if_pos (show j+1≤n by omega),if_pos h2,show n - j=(n - (j+1))+1 by omega,List.set_cons_succ]
    ·rw [if_neg (by omega),if_neg h2]
theorem l_set {α:Type} (x:A40 α) (n:Nat) (v:α):(A40.set x (n:Int) v).l=x.l.set n v:=by rw [xZq4,xZoZ,if_pos (Nat.zero_le _),Nat.sub_zero]
theorem l_len {α:Type} (x:A40 α):x.l.length=40:=rfl
theorem l_c {α:Type} (v:α):(A40.c v).l=List.replicate 40 v:=rfl
theorem ix_l {α:Type} (x:A40 α) {n:Nat} (h:n < 40) (d:α):ix x.l (n:Int)=some (x.l.getD n d):=by
 rw [ix_nat',List.getD,List.getElem?_eq_getElem (by rw [l_len];exact h)];rfl
theorem gb_ge (x:A40 Bool) {k:Nat} (h:40≤k):gb x k=false:=by
 rw [gb,List.getD,List.getElem?_eq_none (by rw [l_len];exact h)];rfl
theorem xZkY {α:Type} (l:List α) (n k:Nat) (v d:α) (hn:n < l.length):(l.set n v).getD k d=if k=n then v else l.getD k d:=by
 by_cases h:k=n
 ·subst h;simp [List.getD,hn]
 ·simp [List.getD,List.getElem?_set,h,Ne.symm h]
theorem xZoT (x:A40 Bool) {n:Nat} (h:n < 40) (v:Bool):gb (A40.set x (n:Int) v)=upd (gb x) n v:=by
 funext k
 rw [gb,l_set,xZkY _ _ _ _ _ (by rw [l_len];exact h)];rfl
theorem xZv0 (x:A40 (A40 Bool)) {n:Nat} (h:n < 40) (v:A40 Bool):gm (A40.set x (n:Int) v)=upd (gm x) n (gb v):=by
 funext k
 rw [gm,l_set,xZkY _ _ _ _ _ (by rw [l_len];exact h),upd]
 split<;>rfl
theorem xZmX {α:Type} (n k:Nat) (v:α):(List.replicate n v).getD k v=v:=by
 simp only [List.getD,List.getElem?_replicate];split<;>rfl
theorem gb_c:gb (A40.c false)=fun _=>false:=by funext k;rw [gb,l_c,xZmX]
theorem gm_c:gm (A40.c (A40.c false))=fun _ _=>false:=by funext j;rw [gm,l_c,xZmX,gb_c]
theorem xZvp (a b:A40 Bool):W (fun N=>xZ2U N a b) (fun r=>gb r=fun k=>gb a k&&gb b k):=by
 simp only [xZ2U]
 refine W.lp2 (P:=fun x y=>∃ n:Nat,x=(n:Int)∧n≤40∧gb y=fun k=>if k < n then gb a k&&gb b k else gb a k) (m:=fun x _=>40 - x.toNat) ⟨0,rfl,by omega,by funext k;simp⟩ ?_
 rintro F x y ⟨n,rfl,hn,hy⟩ next
 simp only [xZ4V]
 by_cases h:n < 40
 ·have hyn:y.l.getD n false=gb a n:=by
   have:=congrFun hy n
   simp only [Nat.lt_irrefl,if_false] at this
   exact this
  simp only [show ltB (n:Int) 40=true from xZ9.2 (by omega),show leB 0 (n:Int)=true from xZI.2 (by omega),cond_true,xZn,ix_l y h false,ix_l b h false,Option.bind_some,show i64b ((n:Int)+1)=true from xZc.2 (by omega)]
  rw [hyn]
  have hstep:∀ v,v=(gb a n&&gb b n)→gb (A40.set y (n:Int) v)=fun k=>if k < n+1 then gb a k&&gb b k else gb a k:=by
   rintro v rfl
   rw [xZoT y h,hy]
   funext k
   unfold upd
   by_cases hk:k=n
   ·subst hk;simp
   ·by_cases hk2:k < n
    ·simp [hk,hk2,show k < n+1 by omega]
    ·simp [hk,hk2,show ¬ k < n+1 by omega]
  cases ha:gb a n
  ·rw [ha] at hstep
   exact next _ _ ⟨n+1,by omega,by omega,hstep false rfl⟩ (by omega)
  ·rw [ha] at hstep
   exact next _ _ ⟨n+1,by omega,by omega,hstep (gb b n) rfl⟩ (by omega)
 ·have:n=40:=by omega
  subst this
  simp only [show ltB ((40:Nat):Int) 40=false from rfl,cond_false,W.ret]
  rw [hy]
  funext k
  split
  ·rfl
  ·rename_i hk;rw [gb_ge a (by omega)];rfl
theorem xZgc (a b:A40 Bool):W (fun N=>xZ1G N a b) (fun r=>gb r=fun k=>gb a k || gb b k):=by
 simp only [xZ1G]
 refine W.lp2 (P:=fun x y=>∃ n:Nat,x=(n:Int)∧n≤40∧gb y=fun k=>if k < n then gb a k || gb b k else gb a k) (m:=fun x _=>40 - x.toNat) ⟨0,rfl,by omega,by funext k;simp⟩ ?_
 rintro F x y ⟨n,rfl,hn,hy⟩ next
 simp only [xZ3S]
 by_cases h:n < 40
 ·have hyn:y.l.getD n false=gb a n:=by
   have:=congrFun hy n
   simp only [Nat.lt_irrefl,if_false] at this
   exact this
  simp only [show ltB (n:Int) 40=true from xZ9.2 (by omega),show leB 0 (n:Int)=true from xZI.2 (by omega),cond_true,xZn,ix_l y h false,ix_l b h false,Option.bind_some,show i64b ((n:Int)+1)=true from xZc.2 (by omega)]
  rw [hyn]
  have hstep:∀ v,v=(gb a n || gb b n)→gb (A40.set y (n:Int) v)=fun k=>if k < n+1 then gb a k || gb b k else gb a k:=by
   rintro v rfl
   rw [xZoT y h,hy]
   funext k
   unfold upd
   by_cases hk:k=n
   ·subst hk;simp
   ·by_cases hk2:k < n
    ·simp [hk,hk2,show k < n+1 by omega]
    ·simp [hk,hk2,show ¬ k < n+1 by omega]
  cases ha:gb a n
  ·rw [ha] at hstep
   exact next _ _ ⟨n+1,by omega,by omega,hstep (gb b n) rfl⟩ (by omega)
  ·rw [ha] at hstep
   exact next _ _ ⟨n+1,by omega,by omega,hstep true rfl⟩ (by omega)
 ·have:n=40:=by omega
  subst this
  simp only [show ltB ((40:Nat):Int) 40=false from rfl,cond_false,W.ret]
  rw [hy]
  funext k
  split
  ·rfl
  ·rename_i hk;rw [gb_ge a (by omega),gb_ge b (by omega)];rfl
def isA (n:xZ0) (v:List UInt8):Bool:=n.Kind==4&&n.Var==v
def idn (v:List UInt8):List xZ0→Nat
 | []=>0
 | n::l=>if isA n v then 0 else idn v l+1
theorem xZqt {v:List UInt8} {e:xZ0} {post:List xZ0} (he:isA e v=true):∀ pre:List xZ0,(∀ n∈pre,isA n v=false)→idn v (pre++e::post)=pre.length
 | [],_=>by simp [idn,he]
 | a::pre,h=>by
   rw [List.cons_append,idn,if_neg (by rw [h a (by simp)];simp),xZqt he pre fun n hn=>h n (by simp [hn])];rfl
theorem xZjM {v:List UInt8}:∀ l:List xZ0,(∃ n∈l,isA n v=true)→idn v l < l.length∧∃ n,l[idn v l]?=some n∧isA n v=true
 | [],h=>by obtain ⟨n,hn,_⟩:=h;cases hn
 | a::l,h=>by
   rw [idn]
   by_cases ha:isA a v=true
   ·rw [if_pos ha];exact ⟨by simp,a,rfl,ha⟩
   ·rw [if_neg ha]
    obtain ⟨n,hn,hv⟩:=h
    rcases List.mem_cons.1 hn with rfl | hn
    ·exact absurd hv ha
    ·obtain ⟨h1,m,h2,h3⟩:=xZjM l ⟨n,hn,hv⟩
     exact ⟨by simp;omega,m,by simpa using h2,h3⟩
theorem w_id (l:List xZ0) (v:List UInt8) (hl:l.length≤1000):W (fun N=>xZab N l v) (fun r=>(r=-1∧∀ n∈l,isA n v=false)∨(r=(idn v l:Int)∧∃ n∈l,isA n v=true)):=by
 simp only [xZab]
 refine W.call (f:=fun N=>xZw N l v) (P:=fun r=>(r.1=-1∧∀ n∈l,isA n v=false)∨(r.1=(idn v l:Int)∧∃ n∈l,isA n v=true)) ?_ fun r hr=>W.ret.2 hr
 simp only [xZw]
 refine W.lp2 (P:=fun x y=>y=v∧∃ pre rest,l=pre++rest∧x=(pre.length:Int)∧∀ n∈pre,isA n v=false) (m:=fun x _=>l.length - x.toNat) ⟨rfl,[],l,rfl,rfl,by simp⟩ ?_
 rintro F x y ⟨rfl,pre,rest,h1,rfl,h2⟩ next
 simp only [xZM]
 cases rest with
 | nil=>
   rw [List.append_nil] at h1
   subst h1
   simp only [show ltB (l.length:Int) (l.length:Int)=false from xZf.2 (by omega),cond_false,W.ret]
   exact .inl ⟨trivial,h2⟩
 | cons e rest=>
   have hlt:pre.length < l.length:=by rw [h1];simp
   have hix:ix l (pre.length:Int)=some e:=by rw [ix_nat',h1];simp
   have he:∀ N,xZ3c N e y=some (isA e y,y):=fun N=>by
    simp only [xZ3c,isA];cases e.Kind==4<;>rfl
   simp only [show ltB (pre.length:Int) (l.length:Int)=true from xZ9.2 (by omega),cond_true,hix,Option.bind_some,he]
   cases hA:isA e y
   ·simp only [cond_false,W.gd,xZc]
    refine ⟨by omega,next _ _ ⟨rfl,pre++[e],rest,by rw [h1];simp,by simp,?_⟩ (by omega)⟩
    intro n hn
    rcases List.mem_append.1 hn with hn | hn
    ·exact h2 n hn
    ·rw [List.mem_singleton.1 hn];exact hA
   ·simp only [cond_true,W.ret]
    refine .inr ⟨?_,e,by rw [h1];simp,hA⟩
    rw [h1,xZqt hA pre h2]
section
variable (body:List xZ0)
mutual
def GT.fA:GT→(Nat→Bool)→Nat→Bool
 | .leaf neg v _ _,A=>if neg then A else upd A (idn v body) true
 | .rep lo _ a,A=>if lo=0 then A else GT.fA a A
 | .lst alt bs,A=>if alt then GT.fAl bs A else GT.fAs bs A
def GT.fAs:List GT→(Nat→Bool)→Nat→Bool
 | [],A=>A
 | b::bs,A=>GT.fAs bs (GT.fA b A)
def GT.fAl:List GT→(Nat→Bool)→Nat→Bool
 | [],_=>fun _=>true
 | b::bs,A=>fun k=>GT.fA b A k&&GT.fAl bs A k
end
mutual
def GT.rw:GT→Nat→(Nat→Bool)→Nat→Nat→Bool
 | .leaf ..,_,A,_=>A
 | .rep _ _ a,i,A,j=>GT.rw a (i+1) A j
 | .lst alt bs,i,A,j=>GT.rws alt bs (i+1) A j
def GT.rws (alt:Bool):List GT→Nat→(Nat→Bool)→Nat→Nat→Bool
 | [],_,A,_=>A
 | b::bs,i,A,j=>if j < i+b.fl.length then GT.rw b i A j else GT.rws alt bs (i+b.fl.length) (if alt then A else GT.fA body b A) j
end
mutual
def GT.lf:GT→Nat→Nat→Prop
 | .leaf ..,i,j=>j=i
 | .rep _ _ a,i,j=>GT.lf a (i+1) j
 | .lst _ bs,i,j=>GT.lfs bs (i+1) j
def GT.lfs:List GT→Nat→Nat→Prop
 | [],_,_=>False
 | b::bs,i,j=>GT.lf b i j∨GT.lfs bs (i+b.fl.length) j
end
end
theorem xZml (t:GT):0 < t.fl.length:=by obtain ⟨e,r,h⟩:=xZoh t;rw [h];simp
mutual
theorem xZh4:∀ (t:GT) (i j:Nat),t.lf i j→i≤j∧j < i+t.fl.length
 | .leaf ..,i,j,h=>by rw [GT.lf] at h;subst h;exact ⟨Nat.le_refl _,Nat.lt_add_of_pos_right (xZml _)⟩
 | .rep _ _ a,i,j,h=>by
   rw [GT.lf] at h
   have:=xZh4 a _ _ h
   simp only [GT.fl,List.length_cons];omega
 | .lst _ bs,i,j,h=>by
   rw [GT.lf] at h
   have:=xZeh bs _ _ h
   simp only [GT.fl,List.length_cons];omega
theorem xZeh:∀ (bs:List GT) (i j:Nat),GT.lfs bs i j→i≤j∧j < i+(GT.fls bs).length
 | [],i,j,h=>by rw [GT.lfs] at h;exact h.elim
 | b::bs,i,j,h=>by
   rw [GT.lfs] at h
   rw [GT.fls,List.length_append]
   rcases h with h | h
   ·have:=xZh4 b _ _ h;omega
   ·have:=xZeh bs _ _ h;omega
end
theorem xZpf (r:List GT):∀ (bs:List GT) (i j:Nat),GT.lfs (bs++r) i j ↔ GT.lfs bs i j∨GT.lfs r (i+(GT.fls bs).length) j
 | [],i,j=>by simp [GT.lfs,GT.fls]
 | b::bs,i,j=>by rw [List.cons_append,GT.lfs,GT.lfs,xZpf r bs,GT.fls,List.length_append,Nat.add_assoc,or_assoc]
section
variable {body:List xZ0}
theorem xZpl (b:GT):∀ (bs:List GT) (A:Nat→Bool),GT.fAs body (bs++[b]) A=GT.fA body b (GT.fAs body bs A)
 | [],A=>by simp [GT.fAs]
 | a::bs,A=>by rw [List.cons_append,GT.fAs,GT.fAs,xZpl b bs]
theorem xZpu (b:GT) (A:Nat→Bool):∀ (bs:List GT),GT.fAl body (bs++[b]) A=fun k=>GT.fA body b A k&&GT.fAl body bs A k
 | []=>by simp [GT.fAl]
 | a::bs=>by
   rw [List.cons_append,GT.fAl,GT.fAl,xZpu b A bs]
   funext k
   simp only [Bool.and_left_comm]
theorem xZpj (alt:Bool) (r:List GT):∀ (bs:List GT) (i:Nat) (A:Nat→Bool) (j:Nat),i≤j→j < i+(GT.fls bs).length→GT.rws body alt (bs++r) i A j=GT.rws body alt bs i A j
 | [],i,A,j,h0,h=>by simp only [GT.fls,List.length_nil,Nat.add_zero] at h;omega
 | b::bs,i,A,j,h0,h=>by
   rw [List.cons_append,GT.rws,GT.rws]
   split
   ·rfl
   ·rw [GT.fls,List.length_append] at h
    exact xZpj alt r bs _ _ j (by omega) (by omega)
theorem xZsH (alt:Bool) (b:GT) (r:List GT):∀ (bs:List GT) (i:Nat) (A:Nat→Bool) (j:Nat),i+(GT.fls bs).length≤j→j < i+(GT.fls bs).length+b.fl.length→GT.rws body alt (bs++b::r) i A j=GT.rw body b (i+(GT.fls bs).length) (if alt then A else GT.fAs body bs A) j
 | [],i,A,j,h0,h=>by
   simp only [GT.fls,List.length_nil,Nat.add_zero] at h h0 ⊢
   rw [List.nil_append,GT.rws,if_pos h]
   cases alt<;>simp [GT.fAs]
 | c::bs,i,A,j,h0,h=>by
   rw [GT.fls,List.length_append] at h0 h ⊢
   rw [List.cons_append,GT.rws,if_neg (by omega),xZsH alt b r bs _ _ j (by omega) (by omega),Nat.add_assoc]
   cases alt<;>simp [GT.fAs]
def FY (t:GT) (i:Nat) (A:Nat→Bool) (Y Y':Nat→Nat→Bool):Prop:=(∀ j,¬ (i≤j∧j < i+t.fl.length)→Y' j=Y j)∧∀ j,t.lf i j→Y' j=t.rw body i A j
def FYs (alt:Bool) (bs:List GT) (i:Nat) (A:Nat→Bool) (Y Y':Nat→Nat→Bool):Prop:=(∀ j,¬ (i≤j∧j < i+(GT.fls bs).length)→Y' j=Y j)∧∀ j,GT.lfs bs i j→Y' j=GT.rws body alt bs i A j
theorem xZnv {alt:Bool} {b:GT} {bs:List GT} {i:Nat} {A:Nat→Bool} {Y Y' Y2:Nat→Nat→Bool} (h:FYs (body:=body) alt bs i A Y Y') (h2:FY (body:=body) b (i+(GT.fls bs).length) (if alt then A else GT.fAs body bs A) Y' Y2):FYs (body:=body) alt (bs++[b]) i A Y Y2:=by
 obtain ⟨p1,p2⟩:=h
 obtain ⟨q1,q2⟩:=h2
 have hl:(GT.fls (bs++[b])).length=(GT.fls bs).length+b.fl.length:=by rw [xZfX];simp [GT.fls]
 refine ⟨fun j hj=>?_,fun j hj=>?_⟩
 ·rw [hl] at hj
  rw [q1 j (by omega),p1 j (by omega)]
 ·rw [xZpf] at hj
  rcases hj with hj | hj
  ·have:=xZeh _ _ _ hj
   rw [q1 j (by omega),p2 j hj,xZpj alt [b] bs i A j this.1 this.2]
  ·rw [GT.lfs,GT.lfs,or_false] at hj
   have:=xZh4 _ _ _ hj
   rw [q2 j hj,xZsH alt b [] bs i A j this.1 this.2]
def PF (t:GT):Prop:=∀ (pre post:List xZ0) (ah:A40 Bool) (Y:A40 (A40 Bool)),body=pre++(t.fl++post)→W (fun N=>(xZv N) (pre.length:Int) ah body Y) (fun r=>gb r.1=t.fA body (gb ah)∧r.2.1=((pre.length+t.fl.length:Nat):Int)∧r.2.2.1=body∧FY (body:=body) t pre.length (gb ah) (gm Y) (gm r.2.2.2))
theorem xZeA (n:xZ0) (N:Nat):xZ2o N n=some (lfG n):=by
 simp only [xZ2o,lfG];cases n.Kind==4<;>rfl
theorem xZt5 (hlen:body.length≤40) {neg:Bool} {v ty:List UInt8} {o:Option TT}:PF (body:=body) (.leaf neg v ty o):=by
 intro pre post ah Y hb
 refine W.shift ?_
 show W (fun N=>xZB N (xZv N) _ _ _ _) _
 have hix:=xZbf (l:=body) (pre:=pre) (e:=⟨kL neg,0,0,0,v,ty,oT o⟩) (r:=post) hb
 have hpl:pre.length < body.length:=by rw [hb];simp [GT.fl]
 have hp:pre.length < 40:=by omega
 have hlf:lfG ⟨kL neg,0,0,0,v,ty,oT o⟩=true:=by cases neg<;>rfl
 simp only [xZB,hix,Option.bind_some,xZeA,hlf,cond_true,show leB 0 (pre.length:Int)=true from xZI.2 (by omega),show ltB (pre.length:Int) 40=true from xZ9.2 (by omega),xZn,ix_l Y hp (A40.c false)]
 have hFY:∀ ah':A40 Bool,gb ah'=gb ah→FY (body:=body) (.leaf neg v ty o) pre.length (gb ah) (gm Y) (gm (A40.set Y (pre.length:Int) ah')):=by
  intro ah' e
  rw [xZv0 Y hp,e]
  refine ⟨fun j hj=>?_,fun j hj=>?_⟩
  ·simp only [GT.fl,List.length_cons,List.length_nil] at hj
   simp only [upd,if_neg (show j≠pre.length by omega)]
  ·rw [GT.lf] at hj
   subst hj
   simp only [upd,if_true,GT.rw]
 cases neg
 ·simp only [kL,Bool.false_eq_true,if_false,show ((4:Int)==4)=true from rfl,cond_true]
  refine W.call (w_id body v (by omega)) ?_
  rintro r (⟨_,h⟩ | ⟨rfl,h⟩)
  ·have:=h ⟨kL false,0,0,0,v,ty,oT o⟩ (by rw [hb];simp [GT.fl])
   simp [isA,kL] at this
  ·have hid:idn v body < 40:=by have:=(xZjM body h).1;omega
   simp only [show leB 0 (idn v body:Int)=true from xZI.2 (by omega),show ltB (idn v body:Int) 40=true from xZ9.2 (by omega),xZn,ix_l ah hid false,Option.bind_some,W.gd,xZc,W.ret]
   refine ⟨by omega,?_,by simp [GT.fl],trivial,hFY ah rfl⟩
   rw [xZoT ah hid,GT.fA];simp
 ·simp only [kL,if_true,show ((5:Int)==4)=false from rfl,cond_false,W.gd,xZc,W.ret]
  exact ⟨by omega,by rw [GT.fA];simp,by simp [GT.fl],trivial,hFY ah rfl⟩
theorem xZpo {lo hi:Int} (N:Nat):xZ4W N ⟨3,1,lo,hi,[],[],[]⟩=some 1:=rfl
theorem xZvq (hlen:body.length≤40) {lo hi:Int} {a:GT} (ih:PF (body:=body) a):PF (body:=body) (.rep lo hi a):=by
 intro pre post ah Y hb
 refine W.shift ?_
 show W (fun N=>xZB N (xZv N) _ _ _ _) _
 have hix:=xZbf (l:=body) (pre:=pre) (e:=⟨3,1,lo,hi,[],[],[]⟩) (r:=a.fl++post) (by rw [hb];simp [GT.fl])
 have hpl:pre.length < body.length:=by rw [hb];simp [GT.fl]
 simp only [xZB,hix,Option.bind_some,xZeA,show lfG ⟨3,1,lo,hi,[],[],[]⟩=false from rfl,cond_false,xZpo,W.gd,xZc]
 refine ⟨by omega,?_⟩
 refine W.lp5 (N:=fun N=>N) (P:=fun vn x y3 y4 y13=>y3=body∧((x=0∧vn=(pre.length:Int)+1∧y4=Y∧y13=ah)∨(x=1∧vn=(pre.length+1+a.fl.length:Nat)∧gb y13=a.fA body (gb ah)∧FY (body:=body) a (pre.length+1) (gb ah) (gm Y) (gm y4)))) (m:=fun _ x _ _ _=>(1 - x).toNat) ⟨rfl,.inl ⟨rfl,rfl,rfl,rfl⟩⟩ ?_
 rintro F vn x y3 y4 y13 ⟨rfl,h⟩ next
 simp only [xZ1x,show ((3:Int)==1)=false from rfl,show ((3:Int)==2)=false from rfl,show ((3:Int)==3)=true from rfl,cond_true,cond_false]
 rcases h with ⟨rfl,rfl,rfl,rfl⟩ | ⟨rfl,rfl,h1,h2⟩
 ·simp only [show ltB 0 1=true from rfl,cond_true]
  have hcall:=ih (pre++[⟨3,1,lo,hi,[],[],[]⟩]) post y13 y4 (by rw [hb];simp [GT.fl])
  have e2:(pre++[(⟨3,1,lo,hi,[],[],[]⟩:xZ0)]).length=pre.length+1:=by simp
  rw [e2] at hcall
  refine W.bind (W.lift hcall) ?_
  rintro r ⟨q1,q2,q3,q4⟩
  simp only [W.gd,xZc]
  exact ⟨by omega,next _ _ _ _ _ ⟨q3,.inr ⟨rfl,q2,q1,q4⟩⟩ (by decide)⟩
 ·simp only [show ltB 1 1=false from rfl,cond_false]
  have hFY:FY (body:=y3) (.rep lo hi a) pre.length (gb ah) (gm Y) (gm y4):=by
   refine ⟨fun j hj=>h2.1 j ?_,fun j hj=>?_⟩
   ·simp only [GT.fl,List.length_cons] at hj;omega
   ·rw [GT.lf] at hj;rw [h2.2 j hj,GT.rw]
  by_cases hz:lo=0
  ·subst hz
   simp only [show ((0:Int)==0)=true from rfl,cond_true,W.ret]
   exact ⟨by rw [GT.fA,if_pos rfl],by simp [GT.fl];omega,trivial,hFY⟩
  ·simp only [show (lo==0)=false by simpa using hz,cond_false,W.ret]
   exact ⟨by rw [GT.fA,if_neg hz];exact h1,by simp [GT.fl];omega,trivial,hFY⟩
theorem xZv3 (hlen:body.length≤40) {alt:Bool} {bs:List GT} {w:Int} (h:(GT.lst alt bs).ok w) (ih:∀ b∈bs,PF (body:=body) b):PF (body:=body) (.lst alt bs):=by
 intro pre post ah Y hb
 refine W.shift ?_
 show W (fun N=>xZB N (xZv N) _ _ _ _) _
 have hb':body=pre++[(⟨kA alt,(bs.length:Int),0,0,[],[],[]⟩:xZ0)]++(GT.fls bs++post):=by rw [hb];simp [GT.fl]
 have hix:=xZbf (l:=body) (pre:=pre) (e:=⟨kA alt,(bs.length:Int),0,0,[],[],[]⟩) (r:=GT.fls bs++post) (by rw [hb];simp [GT.fl])
 have hpl:pre.length < body.length:=by rw [hb];simp [GT.fl]
 have hk:∀ N,xZ4W N ⟨kA alt,(bs.length:Int),0,0,[],[],[]⟩=some (bs.length:Int):=fun N=>by cases alt<;>rfl
 obtain ⟨_,hb2,hb40,_⟩:=h
 simp only [xZB,hix,Option.bind_some,xZeA,show lfG ⟨kA alt,(bs.length:Int),0,0,[],[],[]⟩=false by cases alt<;>rfl,cond_false,hk,W.gd,xZc]
 refine ⟨by omega,?_⟩
 refine W.lp5 (N:=fun N=>N) (P:=fun vn x y3 y4 y13=>y3=body∧∃ bs1 bs2,bs=bs1++bs2∧x=(bs1.length:Int)∧vn=((pre.length+1+(GT.fls bs1).length:Nat):Int)∧FYs (body:=body) alt bs1 (pre.length+1) (gb ah) (gm Y) (gm y4)∧(if alt then (bs1=[]∧y13=ah)∨(bs1≠[]∧gb y13=GT.fAl body bs1 (gb ah)) else gb y13=GT.fAs body bs1 (gb ah))) (m:=fun _ x _ _ _=>bs.length - x.toNat)
  ⟨rfl,[],bs,rfl,rfl,by simp [GT.fls],⟨fun j _=>rfl,fun j hj=>by rw [GT.lfs] at hj;exact hj.elim⟩,by cases alt<;>simp [GT.fAs]⟩ ?_
 rintro F vn x y3 y4 y13 ⟨rfl,bs1,bs2,hbs,rfl,rfl,h1,h2⟩ next
 simp only [xZ1x]
 cases bs2 with
 | nil=>
   rw [List.append_nil] at hbs
   subst hbs
   simp only [show ltB (bs.length:Int) (bs.length:Int)=false from xZf.2 (by omega),cond_false,show ((kA alt)==3)=false by cases alt<;>rfl,W.ret]
   refine ⟨?_,by simp [GT.fl];omega,trivial,⟨fun j hj=>h1.1 j ?_,fun j hj=>?_⟩⟩
   ·cases alt
    ·simp only [Bool.false_eq_true,if_false] at h2;rw [h2,GT.fA];simp
    ·simp only [if_true] at h2
     rcases h2 with ⟨h3,_⟩ | ⟨_,h3⟩
     ·rw [h3] at hb2;simp at hb2
     ·rw [h3,GT.fA];simp
   ·simp only [GT.fl,List.length_cons] at hj;omega
   ·rw [GT.lf] at hj;rw [h1.2 j hj,GT.rw]
 | cons b bs2=>
   have hbl:bs.length=bs1.length+(bs2.length+1):=by rw [hbs];simp
   simp only [show ltB (bs1.length:Int) (bs.length:Int)=true from xZ9.2 (by omega),cond_true]
   obtain ⟨s1,s2,hfl⟩:=xZlP hb' hbs
   cases alt
   ·simp only [kA,Bool.false_eq_true,if_false,show ((1:Int)==1)=true from rfl,show ((1:Int)==2)=false from rfl,cond_true,cond_false] at h2 ⊢
    have hcall:=ih b (by rw [hbs];simp) _ _ y13 y4 s1
    rw [s2] at hcall
    refine W.bind (W.lift hcall) ?_
    rintro r ⟨q1,q2,q3,q4⟩
    simp only [W.gd,xZc]
    refine ⟨by omega,next _ _ _ _ _ ⟨q3,bs1++[b],bs2,by rw [hbs];simp,by simp,?_,xZnv h1 (by simp only [Bool.false_eq_true,if_false];rw [← h2];exact q4),?_⟩ (by omega)⟩
    ·rw [q2,xZfX];simp [GT.fls];omega
    ·simp only [Bool.false_eq_true,if_false];rw [q1,h2,xZpl]
   ·simp only [kA,if_true,show ((2:Int)==1)=false from rfl,show ((2:Int)==2)=true from rfl,cond_true,cond_false] at h2 ⊢
    have hcall:=ih b (by rw [hbs];simp) _ _ ah y4 s1
    rw [s2] at hcall
    refine W.bind (W.lift hcall) ?_
    rintro r ⟨q1,q2,q3,q4⟩
    have hFY:=xZnv h1 (by simp only [if_true];exact q4)
    have hvn:r.2.1=((pre.length+1+(GT.fls (bs1++[b])).length:Nat):Int):=by rw [q2,xZfX];simp [GT.fls];omega
    rcases h2 with ⟨rfl,rfl⟩ | ⟨hne,h2⟩
    ·simp only [List.length_nil,show ltB 0 ((0:Nat):Int)=false from rfl,cond_false,W.gd,xZc]
     refine ⟨by omega,next _ _ _ _ _ ⟨q3,[]++[b],bs2,by rw [hbs];simp,by simp,hvn,hFY,?_⟩ (by simp at hbl ⊢;omega)⟩
     simp only [if_true]
     refine .inr ⟨by simp,?_⟩
     rw [q1]
     funext k;simp [GT.fAl]
    ·have hpos:0 < bs1.length:=List.length_pos_iff.2 hne
     simp only [show ltB 0 (bs1.length:Int)=true from xZ9.2 (by omega),cond_true]
     refine W.call (N:=fun p:Nat×Nat=>p.1) (xZvp r.1 y13) ?_
     rintro z hz
     simp only [W.gd,xZc]
     refine ⟨by omega,next _ _ _ _ _ ⟨q3,bs1++[b],bs2,by rw [hbs];simp,by simp,hvn,hFY,?_⟩ (by omega)⟩
     simp only [if_true]
     refine .inr ⟨by simp,?_⟩
     rw [hz,q1,h2,xZpu]
mutual
theorem pf (hlen:body.length≤40):∀ (t:GT) (w:Int),t.ok w→PF (body:=body) t
 | .leaf neg v ty o,w,h=>xZt5 hlen
 | .rep lo hi a,w,h=>xZvq hlen (pf hlen a 3 h.2)
 | .lst alt bs,w,h=>xZv3 hlen h (pfs hlen bs (kA alt) h.2.2.2)
theorem pfs (hlen:body.length≤40):∀ (bs:List GT) (w:Int),GT.oks bs w→∀ b∈bs,PF (body:=body) b
 | [],w,_,b,hb=>by cases hb
 | a::r,w,h,b,hb=>by
   rcases List.mem_cons.1 hb with e | hb
   ·rw [e];exact pf hlen a w h.1
   ·exact pfs hlen r w h.2 b hb
end
end
end
section
mutual
def GT.hN:GT→Bool
 | .leaf ..=>false
 | .rep lo _ a=>GT.hN a || lo==0
 | .lst alt bs=>if alt then GT.hNo bs else GT.hNs bs
def GT.hNs:List GT→Bool
 | []=>true
 | b::bs=>GT.hN b&&GT.hNs bs
def GT.hNo:List GT→Bool
 | []=>false
 | b::bs=>GT.hN b || GT.hNo bs
end
mutual
def GT.hF:GT→Nat→Nat→Bool
 | .leaf ..,i=>upd (fun _=>false) i true
 | .rep _ _ a,i=>GT.hF a (i+1)
 | .lst alt bs,i=>GT.hFs alt bs (i+1)
def GT.hFs (alt:Bool):List GT→Nat→Nat→Bool
 | [],_=>fun _=>false
 | b::bs,i=>fun k=>GT.hF b i k || ((alt || b.hN)&&GT.hFs alt bs (i+b.fl.length) k)
end
mutual
def GT.hI:GT→Nat→(Nat→Bool)→Nat→Bool
 | .leaf ..,_,J=>J
 | .rep _ _ a,i,J=>fun k=>GT.hI a (i+1) J k || GT.hF a (i+1) k
 | .lst _ bs,i,J=>GT.hIs bs (i+1) J
def GT.hIs:List GT→Nat→(Nat→Bool)→Nat→Bool
 | [],_,J=>J
 | b::bs,i,J=>GT.hIs bs (i+b.fl.length) (GT.hI b i J)
end
theorem xZkG (b:GT):∀ bs,GT.hNs (bs++[b])=(GT.hNs bs&&b.hN)
 | []=>by simp [GT.hNs]
 | a::bs=>by rw [List.cons_append,GT.hNs,GT.hNs,xZkG b bs,Bool.and_assoc]
theorem xZnB (b:GT):∀ bs,GT.hNo (bs++[b])=(GT.hNo bs || b.hN)
 | []=>by simp [GT.hNo]
 | a::bs=>by rw [List.cons_append,GT.hNo,GT.hNo,xZnB b bs,Bool.or_assoc]
theorem xZmm (alt:Bool) (b:GT):∀ (bs:List GT) (i:Nat),GT.hFs alt (bs++[b]) i=fun k=>GT.hFs alt bs i k || ((alt || GT.hNs bs)&&GT.hF b (i+(GT.fls bs).length) k)
 | [],i=>by funext k;simp [GT.hFs,GT.hNs,GT.fls]
 | a::bs,i=>by
   funext k
   rw [List.cons_append,GT.hFs,GT.hFs,xZmm alt b bs,GT.hNs,GT.fls,List.length_append,Nat.add_assoc]
   cases alt<;>cases a.hN<;>simp [Bool.or_assoc]
theorem xZpO (b:GT):∀ (bs:List GT) (i:Nat) (J:Nat→Bool),GT.hIs (bs++[b]) i J=GT.hI b (i+(GT.fls bs).length) (GT.hIs bs i J)
 | [],i,J=>by simp [GT.hIs,GT.fls]
 | a::bs,i,J=>by rw [List.cons_append,GT.hIs,GT.hIs,xZpO b bs,GT.fls,List.length_append,Nat.add_assoc]
section
variable {body:List xZ0}
def PH (t:GT):Prop:=∀ (pre post:List xZ0) (J:A40 Bool),body=pre++(t.fl++post)→W (fun N=>(xZq N) (pre.length:Int) body J) (fun r=>r.1=t.hN∧gb r.2.1=t.hF pre.length∧r.2.2.1=((pre.length+t.fl.length:Nat):Int)∧r.2.2.2.1=body∧gb r.2.2.2.2=t.hI pre.length (gb J))
theorem xZth (hlen:body.length≤40) {neg:Bool} {v ty:List UInt8} {o:Option TT}:PH (body:=body) (.leaf neg v ty o):=by
 intro pre post J hb
 refine W.shift ?_
 show W (fun N=>xZu N (xZq N) _ _ _) _
 have hix:=xZbf (l:=body) (pre:=pre) (e:=⟨kL neg,0,0,0,v,ty,oT o⟩) (r:=post) hb
 have hpl:pre.length < body.length:=by rw [hb];simp [GT.fl]
 have hp:pre.length < 40:=by omega
 have hlf:lfG ⟨kL neg,0,0,0,v,ty,oT o⟩=true:=by cases neg<;>rfl
 simp only [xZu,hix,Option.bind_some,xZeA,hlf,cond_true,show leB 0 (pre.length:Int)=true from xZI.2 (by omega),show ltB (pre.length:Int) 40=true from xZ9.2 (by omega),xZn,ix_l (A40.c false) hp false,W.gd,xZc,W.ret]
 exact ⟨by omega,by rw [GT.hN],by rw [xZoT _ hp,gb_c,GT.hF],by simp [GT.fl],trivial,by rw [GT.hI]⟩
theorem xZvk (hlen:body.length≤40) {lo hi:Int} {a:GT} (ih:PH (body:=body) a):PH (body:=body) (.rep lo hi a):=by
 intro pre post J hb
 refine W.shift ?_
 show W (fun N=>xZu N (xZq N) _ _ _) _
 have hix:=xZbf (l:=body) (pre:=pre) (e:=⟨3,1,lo,hi,[],[],[]⟩) (r:=a.fl++post) (by rw [hb];simp [GT.fl])
 have hpl:pre.length < body.length:=by rw [hb];simp [GT.fl]
 simp only [xZu,hix,Option.bind_some,xZeA,show lfG ⟨3,1,lo,hi,[],[],[]⟩=false from rfl,cond_false,xZpo,W.gd,xZc,show ((3:Int) != 2)=true from rfl]
 refine ⟨by omega,?_⟩
 refine W.lp6 (N:=fun N=>N) (P:=fun vz vn x y3 y4 y13=>y3=body∧((x=0∧vn=(pre.length:Int)+1∧y4=J∧y13=A40.c false∧vz=true)∨(x=1∧vn=(pre.length+1+a.fl.length:Nat)∧gb y13=a.hF (pre.length+1)∧gb y4=a.hI (pre.length+1) (gb J)∧vz=a.hN))) (m:=fun _ _ x _ _ _=>(1 - x).toNat) ⟨rfl,.inl ⟨rfl,rfl,rfl,rfl,rfl⟩⟩ ?_
 rintro F vz vn x y3 y4 y13 ⟨rfl,h⟩ next
 simp only [xZ1w,show ((3:Int)==1)=false from rfl,show ((3:Int)==2)=false from rfl,show ((3:Int)==3)=true from rfl,cond_true,cond_false]
 rcases h with ⟨rfl,rfl,rfl,rfl,rfl⟩ | ⟨rfl,rfl,h1,h2,rfl⟩
 ·simp only [show ltB 0 1=true from rfl,cond_true]
  have hcall:=ih (pre++[⟨3,1,lo,hi,[],[],[]⟩]) post y4 (by rw [hb];simp [GT.fl])
  have e2:(pre++[(⟨3,1,lo,hi,[],[],[]⟩:xZ0)]).length=pre.length+1:=by simp
  rw [e2] at hcall
  refine W.bind (W.lift hcall) ?_
  rintro r ⟨q1,q2,q3,q4,q5⟩
  refine W.call (N:=fun p:Nat×Nat=>p.1) (xZgc (A40.c false) r.2.1) ?_
  rintro z hz
  simp only [W.gd,xZc]
  exact ⟨by omega,next _ _ _ _ _ _ ⟨q4,.inr ⟨rfl,q3,by rw [hz,gb_c,q2];funext k;simp,q5,q1⟩⟩ (by decide)⟩
 ·simp only [show ltB 1 1=false from rfl,cond_false]
  refine W.call (N:=fun p:Nat×Nat=>p.1) (xZgc y4 y13) ?_
  rintro z hz
  have hI:gb z=(GT.rep lo hi a).hI pre.length (gb J):=by rw [hz,h1,h2,GT.hI]
  have hvn:((pre.length+1+a.fl.length:Nat):Int)=((pre.length+(GT.rep lo hi a).fl.length:Nat):Int):=by simp [GT.fl];omega
  cases hn:a.hN
  ·simp only [cond_false,W.ret]
   exact ⟨by rw [GT.hN,hn];simp,by rw [h1,GT.hF],hvn,trivial,hI⟩
  ·simp only [cond_true,W.ret]
   exact ⟨by rw [GT.hN,hn];simp,by rw [h1,GT.hF],hvn,trivial,hI⟩
theorem xZuH (hlen:body.length≤40) {alt:Bool} {bs:List GT} {w:Int} (h:(GT.lst alt bs).ok w) (ih:∀ b∈bs,PH (body:=body) b):PH (body:=body) (.lst alt bs):=by
 intro pre post J hb
 refine W.shift ?_
 show W (fun N=>xZu N (xZq N) _ _ _) _
 have hb':body=pre++[(⟨kA alt,(bs.length:Int),0,0,[],[],[]⟩:xZ0)]++(GT.fls bs++post):=by rw [hb];simp [GT.fl]
 have hix:=xZbf (l:=body) (pre:=pre) (e:=⟨kA alt,(bs.length:Int),0,0,[],[],[]⟩) (r:=GT.fls bs++post) (by rw [hb];simp [GT.fl])
 have hpl:pre.length < body.length:=by rw [hb];simp [GT.fl]
 have hk:∀ N,xZ4W N ⟨kA alt,(bs.length:Int),0,0,[],[],[]⟩=some (bs.length:Int):=fun N=>by cases alt<;>rfl
 obtain ⟨_,hb2,hb40,_⟩:=h
 simp only [xZu,hix,Option.bind_some,xZeA,show lfG ⟨kA alt,(bs.length:Int),0,0,[],[],[]⟩=false by cases alt<;>rfl,cond_false,hk,W.gd,xZc,show ((kA alt) != 2)=!alt by cases alt<;>rfl]
 refine ⟨by omega,?_⟩
 refine W.lp6 (N:=fun N=>N) (P:=fun vz vn x y3 y4 y13=>y3=body∧∃ bs1 bs2,bs=bs1++bs2∧x=(bs1.length:Int)∧vn=((pre.length+1+(GT.fls bs1).length:Nat):Int)∧gb y4=GT.hIs bs1 (pre.length+1) (gb J)∧gb y13=GT.hFs alt bs1 (pre.length+1)∧vz=if alt then GT.hNo bs1 else GT.hNs bs1) (m:=fun _ _ x _ _ _=>bs.length - x.toNat)
  ⟨rfl,[],bs,rfl,rfl,by simp [GT.fls],by rw [GT.hIs],by rw [gb_c,GT.hFs],by cases alt<;>simp [GT.hNo,GT.hNs]⟩ ?_
 rintro F vz vn x y3 y4 y13 ⟨rfl,bs1,bs2,hbs,rfl,rfl,h1,h2,hz⟩ next
 simp only [xZ1w]
 cases bs2 with
 | nil=>
   rw [List.append_nil] at hbs
   subst hbs
   simp only [show ltB (bs.length:Int) (bs.length:Int)=false from xZf.2 (by omega),cond_false,show ((kA alt)==3)=false by cases alt<;>rfl,W.ret]
   exact ⟨by rw [GT.hN];exact hz,by rw [h2,GT.hF],by simp [GT.fl];omega,trivial,by rw [h1,GT.hI]⟩
 | cons b bs2=>
   have hbl:bs.length=bs1.length+(bs2.length+1):=by rw [hbs];simp
   simp only [show ltB (bs1.length:Int) (bs.length:Int)=true from xZ9.2 (by omega),cond_true]
   obtain ⟨s1,s2,hfl⟩:=xZlP hb' hbs
   have hcall:=ih b (by rw [hbs];simp) _ _ y4 s1
   rw [s2] at hcall
   refine W.bind (W.lift hcall) ?_
   rintro r ⟨q1,q2,q3,q4,q5⟩
   have go:∀ (z:Bool) (y:A40 Bool),z=(if alt then vz || r.1 else vz&&r.1)→gb y=(fun k=>gb y13 k || ((alt || vz)&&gb r.2.1 k))→W (fun p=>F p z r.2.2.1 ((bs1.length:Int)+1) r.2.2.2.1 r.2.2.2.2 y) (fun r=>r.1=(GT.lst alt bs).hN∧gb r.2.1=(GT.lst alt bs).hF pre.length∧r.2.2.1=((pre.length+(GT.lst alt bs).fl.length:Nat):Int)∧r.2.2.2.1=y3∧gb r.2.2.2.2=(GT.lst alt bs).hI pre.length (gb J)):=by
    intro z y ez ey
    refine next _ _ _ _ _ _ ⟨q4,bs1++[b],bs2,by rw [hbs];simp,by simp,?_,?_,?_,?_⟩ (by omega)
    ·rw [q3,xZfX];simp [GT.fls];omega
    ·rw [q5,h1,xZpO]
    ·rw [ey,h2,q2,xZmm]
     funext k
     rw [hz]
     cases alt<;>simp
    ·rw [ez,hz,q1]
     cases alt<;>simp [xZkG,xZnB]
   cases alt
   ·simp only [kA,Bool.false_eq_true,if_false,show ((1:Int)==2)=false from rfl,cond_false] at go ⊢
    cases vz
    ·simp only [cond_false,W.gd,xZc]
     exact ⟨by omega,go _ _ rfl (by funext k;simp)⟩
    ·simp only [cond_true]
     refine W.call (N:=fun p:Nat×Nat=>p.1) (xZgc y13 r.2.1) ?_
     rintro z hz2
     simp only [W.gd,xZc]
     exact ⟨by omega,go _ _ (by simp) (by rw [hz2];funext k;simp)⟩
   ·simp only [kA,if_true,show ((2:Int)==2)=true from rfl,cond_true] at go ⊢
    refine W.call (N:=fun p:Nat×Nat=>p.1) (xZgc y13 r.2.1) ?_
    rintro z hz2
    cases vz
    ·simp only [cond_false,W.gd,xZc]
     exact ⟨by omega,go _ _ (by simp) (by rw [hz2];funext k;simp)⟩
    ·simp only [cond_true,W.gd,xZc]
     exact ⟨by omega,go _ _ (by simp) (by rw [hz2];funext k;simp)⟩
mutual
theorem ph (hlen:body.length≤40):∀ (t:GT) (w:Int),t.ok w→PH (body:=body) t
 | .leaf neg v ty o,w,h=>xZth hlen
 | .rep lo hi a,w,h=>xZvk hlen (ph hlen a 3 h.2)
 | .lst alt bs,w,h=>xZuH hlen h (phs hlen bs (kA alt) h.2.2.2)
theorem phs (hlen:body.length≤40):∀ (bs:List GT) (w:Int),GT.oks bs w→∀ b∈bs,PH (body:=body) b
 | [],w,_,b,hb=>by cases hb
 | a::r,w,h,b,hb=>by
   rcases List.mem_cons.1 hb with e | hb
   ·rw [e];exact ph hlen a w h.1
   ·exact phs hlen r w h.2 b hb
end
end
end
section
section
variable (body:List xZ0)
def psd (out:List Int) (v:List UInt8):Prop:=∃ j:Nat,(j:Int)∈out∧∃ n,body[j]?=some n∧isA n v=true
def inv (A:Nat→Bool) (out:List Int):Prop:=∀ k,A k=true→∃ n,body[k]?=some n∧psd body out n.Var
def Good (L:Nat→Prop) (R:Nat→Nat→Bool) (s s':WS):Prop:=∃ new,s'.out=s.out++new∧∀ p j q,new=p++j::q→∃ jn:Nat,j=(jn:Int)∧L jn∧inv body (R jn) (s.out++p)
end
section
variable {body:List xZ0} {cs:List Int}
theorem Good.refl {L R} {s s':WS} (h:s'.out=s.out):Good body L R s s':=⟨[],by rw [h,List.append_nil],fun p j q h=>by cases p<;>cases h⟩
theorem Good.imp {L L':Nat→Prop} {R R':Nat→Nat→Bool} {s s':WS} (h:Good body L R s s') (hi:∀ j,L j→L' j∧R' j=R j):Good body L' R' s s':=by
 obtain ⟨new,h1,h2⟩:=h
 refine ⟨new,h1,fun p j q h=>?_⟩
 obtain ⟨jn,q1,q2,q3⟩:=h2 p j q h
 obtain ⟨r1,r2⟩:=hi jn q2
 exact ⟨jn,q1,r1,by rw [r2];exact q3⟩
theorem Good.from {L R} {s0 s s':WS} (h:Good body L R s s') (h0:s0.out=s.out):Good body L R s0 s':=by
 obtain ⟨new,h1,h2⟩:=h
 exact ⟨new,by rw [h0];exact h1,by rw [h0];exact h2⟩
theorem Good.trans {L R} {s s1 s2:WS} (h:Good body L R s s1) (h':Good body L R s1 s2):Good body L R s s2:=by
 obtain ⟨n1,a1,a2⟩:=h
 obtain ⟨n2,b1,b2⟩:=h'
 refine ⟨n1++n2,by rw [b1,a1,List.append_assoc],fun p j q e=>?_⟩
 rcases List.append_eq_append_iff.1 e with ⟨r,e1,e2⟩ | ⟨r,e1,e2⟩
 ·obtain ⟨jn,q1,q2,q3⟩:=b2 r j q e2
  refine ⟨jn,q1,q2,?_⟩
  rw [e1,← List.append_assoc,← a1];exact q3
 ·cases r with
  | nil=>
    rw [List.append_nil] at e1
    obtain ⟨jn,q1,q2,q3⟩:=b2 [] j q (by simpa using e2.symm)
    refine ⟨jn,q1,q2,?_⟩
    rw [List.append_nil,a1,e1] at q3;exact q3
  | cons x r=>
    rw [List.cons_append] at e2
    cases e2
    exact a2 p j r e1
theorem wk_en {s:WS} (h:s.en=true) (t:GT) (i:Nat):t.wk cs i s=s:=by cases t<;>rw [GT.wk,if_pos h]
def Fst (F:Nat→Bool) (Z:Prop) (s s':WS):Prop:=∃ new,s'.out=s.out++new∧(∀ j q,new=j::q→∃ jn:Nat,j=(jn:Int)∧F jn=true)∧(new=[]→s'.en=false→Z)
theorem Fst.refl {F Z} {s s':WS} (h:s'.out=s.out) (hz:s'.en=false→Z):Fst F Z s s':=⟨[],by rw [h,List.append_nil],fun j q h=>(by cases h),fun _=>hz⟩
theorem Fst.imp {F F' Z Z'} {s s':WS} (h:Fst F Z s s') (h1:∀ k,F k=true→F' k=true) (h2:Z→Z'):Fst F' Z' s s':=by
 obtain ⟨new,a,b,c⟩:=h
 exact ⟨new,a,fun j q e=>(by obtain ⟨jn,p1,p2⟩:=b j q e;exact ⟨jn,p1,h1 _ p2⟩),fun e1 e2=>h2 (c e1 e2)⟩
theorem Fst.from {F Z} {s0 s s':WS} (h:Fst F Z s s') (h0:s0.out=s.out):Fst F Z s0 s':=by
 obtain ⟨new,a,b,c⟩:=h
 exact ⟨new,by rw [h0];exact a,b,c⟩
theorem Fst.trans {F Z F' Z'} {s s1 s2:WS} (h:Fst F Z s s1) (h1:∀ k,F k=true→F' k=true) (h2:∃ new,s2.out=s1.out++new) (h3:s1.en=true→s2=s1) (h4:s1.en=false→Z→Fst F' Z' s1 s2):Fst F' Z' s s2:=by
 obtain ⟨n1,a,b,c⟩:=h
 obtain ⟨n2,a2⟩:=h2
 cases n1 with
 | cons x n1=>
   refine ⟨(x::n1)++n2,by rw [a2,a,List.append_assoc],fun j q e=>?_,fun e=>(by cases e)⟩
   simp only [List.cons_append,List.cons.injEq] at e
   obtain ⟨jn,p1,p2⟩:=b x n1 rfl
   exact ⟨jn,by rw [← e.1];exact p1,h1 _ p2⟩
 | nil=>
   rw [List.append_nil] at a
   cases he:s1.en
   ·obtain ⟨m,q1,q2,q3⟩:=h4 he (c rfl he)
    exact ⟨m,by rw [q1,a],q2,q3⟩
   ·have:=h3 he
    exact Fst.refl (by rw [this,a]) (fun h=>by rw [this,he] at h;cases h)
mutual
theorem wk_gr:∀ (t:GT) (i:Nat) (s:WS),∃ new,(t.wk cs i s).out=s.out++new
 | .leaf neg v ty o,i,s=>by
   rw [GT.wk];split
   ·exact ⟨[],by simp⟩
   ·exact ⟨[(i:Int)],rfl⟩
 | .rep lo hi a,i,s=>by
   rw [GT.wk];split
   ·exact ⟨[],by simp⟩
   ·have key:∀ (n:Nat) (u:WS),∃ new,(iterW (fun s=>a.wk cs (i+1) s) n u).out=u.out++new:=by
     intro n
     induction n with
     | zero=>intro u;exact ⟨[],by simp [iterW]⟩
     | succ n ihn=>
       intro u
       rw [iterW];split
       ·exact ⟨[],by simp⟩
       ·obtain ⟨n1,e1⟩:=wk_gr a (i+1) u
        obtain ⟨n2,e2⟩:=ihn (a.wk cs (i+1) u)
        exact ⟨n1++n2,by rw [e2,e1,List.append_assoc]⟩
    obtain ⟨n1,e1⟩:=key (timG lo hi (cho cs s).1).toNat (cho cs s).2
    exact ⟨n1,by rw [e1,xZlg]⟩
 | .lst alt bs,i,s=>by
   rw [GT.wk];split
   ·exact ⟨[],by simp⟩
   ·split
    ·obtain ⟨n1,e1⟩:=xZu2 bs ((cho cs s).1.toNat % bs.length) (i+1) (cho cs s).2
     exact ⟨n1,by rw [e1,xZlg]⟩
    ·exact xZr1 bs (i+1) s
theorem xZu2:∀ (bs:List GT) (k i:Nat) (s:WS),∃ new,(GT.wkp cs bs k i s).out=s.out++new
 | [],k,i,s=>⟨[],by rw [GT.wkp];simp⟩
 | b::bs,k,i,s=>by
   rw [GT.wkp];split
   ·exact wk_gr b i s
   ·exact xZu2 bs _ _ s
theorem xZr1:∀ (bs:List GT) (i:Nat) (s:WS),∃ new,(GT.wks cs bs i s).out=s.out++new
 | [],i,s=>⟨[],by rw [GT.wks];simp⟩
 | b::bs,i,s=>by
   rw [GT.wks];split
   ·exact ⟨[],by simp⟩
   ·obtain ⟨n1,e1⟩:=wk_gr b i s
    obtain ⟨n2,e2⟩:=xZr1 bs (i+b.fl.length) (b.wk cs i s)
    exact ⟨n1++n2,by rw [e2,e1,List.append_assoc]⟩
end
def HD (cs:List Int) (t:GT):Prop:=∀ (i:Nat) (s:WS),s.ok→Fst (t.hF i) (t.hN=true) s (t.wk cs i s)
theorem xZmY {a:GT} {i:Nat}:∀ (n:Nat) (u:WS),∃ new,(iterW (fun s=>a.wk cs i s) n u).out=u.out++new
 | 0,u=>⟨[],by simp [iterW]⟩
 | n+1,u=>by
   rw [iterW];split
   ·exact ⟨[],by simp⟩
   ·obtain ⟨n1,e1⟩:=wk_gr (cs:=cs) a i u
    obtain ⟨n2,e2⟩:=xZmY n (a.wk cs i u)
    exact ⟨n1++n2,by rw [e2,e1,List.append_assoc]⟩
theorem xZpS {a:GT} {i:Nat} (ih:HD cs a):∀ (n:Nat) (u:WS),u.ok→Fst (a.hF i) (n=0∨a.hN=true) u (iterW (fun s=>a.wk cs i s) n u)
 | 0,u,hu=>Fst.refl rfl fun _=>.inl rfl
 | n+1,u,hu=>by
   rw [iterW]
   cases he:u.en
   ·simp only [Bool.false_eq_true,if_false]
    exact (ih i u hu).trans (fun _ h=>h) (xZmY n _) (fun h=>xZr7 h n) fun _ hz=>(xZpS ih n _ (wk_ok a i u hu)).imp (fun _ h=>h) fun _=>.inr hz
   ·simp only [if_true]
    exact Fst.refl rfl fun h=>by rw [he] at h;cases h
theorem xZuO {lo hi:Int} {a:GT} {w:Int} (h:(GT.rep lo hi a).ok w) (ih:HD cs a):HD cs (.rep lo hi a):=by
 intro i s hs
 cases he:s.en
 rotate_left
 ·rw [wk_en he];exact Fst.refl rfl fun h=>by rw [he] at h;cases h
 rw [GT.wk,if_neg (by rw [he];simp)]
 obtain ⟨c1,c2,c3⟩:=xZnV (cs:=cs) hs
 obtain ⟨⟨l1,l2,l3,l4,l5,l6⟩,_⟩:=h
 refine ((xZpS (i:=i+1) ih (timG lo hi (cho cs s).1).toNat (cho cs s).2 c1).from (xZlg cs s).symm).imp (fun k hk=>by rw [GT.hF];exact hk) ?_
 rw [GT.hN]
 rintro (h0 | h0)
 ·have:lo=0:=by
   revert h0;unfold timG;split<;>omega
  rw [this];simp
 ·rw [h0];rfl
theorem xZpQ {alt:Bool} {b:GT} {bs2:List GT} {k:Nat} (h:alt=true):∀ (bs1:List GT) (i:Nat),b.hF (i+(GT.fls bs1).length) k=true→GT.hFs alt (bs1++b::bs2) i k=true
 | [],i,hk=>by simp only [GT.fls,List.length_nil,Nat.add_zero] at hk;simp [GT.hFs,hk]
 | a::bs1,i,hk=>by
   rw [GT.fls,List.length_append,← Nat.add_assoc] at hk
   have:=xZpQ (bs2:=bs2) h bs1 _ hk
   rw [h] at this ⊢
   simp only [List.cons_append,GT.hFs,this];simp
theorem xZp2 {b:GT} (hb:b.hN=true):∀ {bs:List GT},b∈bs→GT.hNo bs=true
 | a::bs,h=>by
   rw [GT.hNo]
   rcases List.mem_cons.1 h with rfl | h
   ·rw [hb];rfl
   ·rw [xZp2 hb h];simp
theorem xZtv:∀ (bs:List GT) (_:∀ b∈bs,HD cs b) (i:Nat) (s:WS),s.ok→Fst (GT.hFs false bs i) (GT.hNs bs=true) s (GT.wks cs bs i s)
 | [],_,i,s,hs=>by rw [GT.wks];exact Fst.refl rfl fun _=>by rw [GT.hNs]
 | b::bs,ih,i,s,hs=>by
   rw [GT.wks]
   cases he:s.en
   rotate_left
   ·simp only [if_true];exact Fst.refl rfl fun h=>by rw [he] at h;cases h
   simp only [Bool.false_eq_true,if_false]
   refine (ih b (by simp) i s hs).trans (fun k hk=>by simp only [GT.hFs,hk,Bool.true_or]) (xZr1 bs _ _) (fun h=>xZuF h _ _) fun _ hz=>(xZtv bs (fun x hx=>ih x (by simp [hx])) (i+b.fl.length) _ (wk_ok b i s hs)).imp (fun k hk=>?_) fun h=>?_
   ·simp only [GT.hFs,hk,hz];simp
   ·rw [GT.hNs,hz,h];rfl
theorem xZvv {alt:Bool} {bs:List GT} {w:Int} (h:(GT.lst alt bs).ok w) (ih:∀ b∈bs,HD cs b):HD cs (.lst alt bs):=by
 intro i s hs
 cases he:s.en
 rotate_left
 ·rw [wk_en he];exact Fst.refl rfl fun h=>by rw [he] at h;cases h
 rw [GT.wk,if_neg (by rw [he];simp)]
 cases alt
 ·simp only [Bool.false_eq_true,if_false]
  exact (xZtv bs ih (i+1) s hs).imp (fun k hk=>by rw [GT.hF];exact hk) fun h=>by rw [GT.hN];simpa using h
 ·simp only [if_true]
  obtain ⟨_,k1,k2,k3⟩:=h
  obtain ⟨c1,c2,c3⟩:=xZnV (cs:=cs) hs
  have hkl:(cho cs s).1.toNat % bs.length < bs.length:=Nat.mod_lt _ (by omega)
  generalize (cho cs s).1.toNat % bs.length=k at hkl ⊢
  obtain ⟨bs1,b,bs2,hbs,rfl⟩:∃ bs1 b bs2,bs=bs1++b::bs2∧k=bs1.length:=⟨bs.take k,bs[k],bs.drop (k+1),by simp,by simp;omega⟩
  have hbm:b∈bs:=by rw [hbs];simp
  have hwk:=xZrt (cs:=cs) (b:=b) (bs2:=bs2) bs1 (i+1) (cho cs s).2
  rw [← hbs] at hwk
  rw [hwk]
  refine ((ih b hbm _ _ c1).from (xZlg cs s).symm).imp (fun k hk=>?_) fun h=>?_
  ·rw [GT.hF,hbs];exact xZpQ rfl bs1 _ hk
  ·rw [GT.hN,if_pos rfl];exact xZp2 h hbm
theorem xZt4 {neg:Bool} {v ty:List UInt8} {o:Option TT}:HD cs (.leaf neg v ty o):=by
 intro i s hs
 cases he:s.en
 ·rw [GT.wk,if_neg (by rw [he];simp)]
  refine ⟨[(i:Int)],rfl,fun j q e=>?_,fun e=>(by cases e)⟩
  simp only [List.cons.injEq] at e
  exact ⟨i,e.1.symm,by rw [GT.hF];simp [upd]⟩
 ·rw [wk_en he];exact Fst.refl rfl fun h=>by rw [he] at h;cases h
mutual
theorem hd:∀ (t:GT) (w:Int),t.ok w→HD cs t
 | .leaf neg v ty o,w,h=>xZt4
 | .rep lo hi a,w,h=>xZuO h (hd a 3 h.2)
 | .lst alt bs,w,h=>xZvv h (hds bs (kA alt) h.2.2.2)
theorem hds:∀ (bs:List GT) (w:Int),GT.oks bs w→∀ b∈bs,HD cs b
 | [],w,_,b,hb=>by cases hb
 | a::r,w,h,b,hb=>by
   rcases List.mem_cons.1 hb with e | hb
   ·rw [e];exact hd a w h.1
   ·exact hds r w h.2 b hb
end
end
end
section
theorem e_num (k:Int) (N:Nat):xZ2t N k=some (k==1 || k==3):=by
 simp only [xZ2t];cases k==1<;>rfl
def cl:List xZ2→Prop
 | []=>True
 | x::post=>((x.Kind=4→∃ (a b:TS) (r:List xZ2),post=a.fl++(b.fl++r))∧(x.Kind=5∨x.Kind=6→∃ (s:TS) (r:List xZ2),x::post=s.fl++r))∧cl post
theorem cl_u (a:TU) {R:List xZ2} (h:cl R):cl (a.nd::R):=by
 refine ⟨?_,h⟩
 cases a<;>simp [TU.nd]
theorem cl_s:∀ (s:TS) {R:List xZ2},cl R→cl (s.fl++R)
 | .u a,R,h=>cl_u a h
 | .op k s a,R,h=>by
   have e:(TS.op k s a).fl++R=bn (if k then 6 else 5)::(s.fl++(a.nd::R)):=by simp [TS.fl]
   have h2:=cl_s s (cl_u a h)
   rw [e]
   refine ⟨⟨fun h4=>?_,fun _=>⟨.op k s a,R,e.symm⟩⟩,h2⟩
   cases k<;>simp [bn] at h4
theorem cl_t:∀ (t:TT) {R:List xZ2},cl R→cl (t.fl++R)
 | .or a b,R,h=>by
   have h2:=cl_t a (cl_t b h)
   rw [TT.fl,List.cons_append,List.append_assoc]
   exact ⟨⟨fun h4=>by simp [bn] at h4,fun h5=>by simp [bn] at h5⟩,h2⟩
 | .and a b,R,h=>by
   have h2:=cl_t a (cl_t b h)
   rw [TT.fl,List.cons_append,List.append_assoc]
   exact ⟨⟨fun h4=>by simp [bn] at h4,fun h5=>by simp [bn] at h5⟩,h2⟩
 | .not a,R,h=>by
   have h2:=cl_t a h
   rw [TT.fl,List.cons_append]
   exact ⟨⟨fun h4=>by simp [bn] at h4,fun h5=>by simp [bn] at h5⟩,h2⟩
 | .test o a b,R,h=>by
   have h2:=cl_s a (cl_s b h)
   rw [TT.fl,List.cons_append,List.append_assoc]
   exact ⟨⟨fun _=>⟨a,b,R,rfl⟩,fun h5=>by simp at h5⟩,h2⟩
theorem cl_o (o:Option TT):cl (oT o):=by
 cases o with
 | none=>trivial
 | some t=>have:=cl_t t (R:=[]) trivial;rwa [List.append_nil] at this
theorem cl_at {x:xZ2} {post:List xZ2}:∀ {pre:List xZ2},cl (pre++x::post)→(x.Kind=4→∃ (a b:TS) (r:List xZ2),post=a.fl++(b.fl++r))∧(x.Kind=5∨x.Kind=6→∃ (s:TS) (r:List xZ2),x::post=s.fl++r)
 | [],h=>h.1
 | _::pre,h=>cl_at (pre:=pre) h.2
mutual
theorem xZgQ:∀ (t:GT),∀ e∈t.fl,(∃ o,e.Test=oT o)∧(lfG e=false→e.Test=[])
 | .leaf neg v ty o,e,he=>by
   rw [GT.fl,List.mem_singleton] at he
   subst he
   exact ⟨⟨o,rfl⟩,fun h=>by cases neg<;>simp [lfG,kL] at h⟩
 | .rep lo hi a,e,he=>by
   rw [GT.fl] at he
   rcases List.mem_cons.1 he with rfl | he
   ·exact ⟨⟨none,rfl⟩,fun _=>rfl⟩
   ·exact xZgQ a e he
 | .lst alt bs,e,he=>by
   rw [GT.fl] at he
   rcases List.mem_cons.1 he with rfl | he
   ·exact ⟨⟨none,rfl⟩,fun _=>rfl⟩
   ·exact xZi2 bs e he
theorem xZi2:∀ (bs:List GT),∀ e∈GT.fls bs,(∃ o,e.Test=oT o)∧(lfG e=false→e.Test=[])
 | [],e,he=>by rw [GT.fls] at he;cases he
 | b::bs,e,he=>by
   rw [GT.fls] at he
   rcases List.mem_append.1 he with he | he
   ·exact xZgQ b e he
   ·exact xZi2 bs e he
end
section
variable {body y6:List xZ0} {y2 y4:Int} {y3:List UInt8} {y5:List xZ1} {y7:A40 (A40 Bool)}
theorem xZkO (hs:small y5) {at_:Nat} {e:xZ0} (he:body[at_]?=some e):W (fun N=>xZl N (at_:Int) body y2 y3 y4 y5 y6 y7) (·=((fnd e.Type_ y5).1,(fnd e.Type_ y5).2,body,y2,y3,y4,y5,y6,y7)):=by
 simp only [xZl,ix_nat',he,Option.bind_some]
 refine W.call (N:=fun N=>N) (xZdr y5 e.Type_ hs) ?_
 rintro _ rfl
 simp only [W.ret]
theorem xZdi (hs:small y5) (name:List UInt8):(fnd name y5).1.Fields.length≤1000:=by
 have:=(xZoD name hs).2 _ (List.mem_singleton.2 rfl)
 omega
end
end
section
def A0:Nat→Bool:=fun _=>false
def Y0:Nat→Nat→Bool:=fun _ _=>false
theorem xZs4 {t:GT} (ht:t.ok 0) {body:List xZ0} (hb:body=t.fl) (hlen:body.length≤40):W (fun N=>xZ6n N body) (fun r=>r.1=body∧FY (body:=body) t 0 A0 Y0 (gm r.2)):=by
 simp only [xZ6n]
 have h:=pf (body:=body) hlen t 0 ht [] [] (A40.c false) (A40.c (A40.c false)) (by rw [hb];simp)
 refine W.call (f:=fun N=>(xZv N) 0 (A40.c false) body (A40.c (A40.c false))) (N:=fun N=>N) h ?_
 rintro r ⟨_,_,h3,h4⟩
 refine W.ret.2 ⟨h3,?_⟩
 rw [gb_c,gm_c] at h4
 exact h4
end
section
open Go Classical
mutual
theorem lf_at:∀ (t:GT) (pre post:List xZ0) (body:List xZ0) (j:Nat),body=pre++(t.fl++post)→t.lf pre.length j→∃ n,body[j]?=some n∧lfG n=true
 | .leaf neg v ty o,pre,post,body,j,hb,h=>by
   rw [GT.lf] at h
   subst h
   exact ⟨⟨kL neg,0,0,0,v,ty,oT o⟩,by rw [hb];simp [GT.fl],by cases neg<;>rfl⟩
 | .rep lo hi a,pre,post,body,j,hb,h=>by
   rw [GT.lf] at h
   refine lf_at a (pre++[⟨3,1,lo,hi,[],[],[]⟩]) post body j (by rw [hb];simp [GT.fl]) ?_
   rw [List.length_append];exact h
 | .lst alt bs,pre,post,body,j,hb,h=>by
   rw [GT.lf] at h
   refine xZsQ bs (pre++[⟨kA alt,(bs.length:Int),0,0,[],[],[]⟩]) post body j (by rw [hb];simp [GT.fl]) ?_
   rw [List.length_append];exact h
theorem xZsQ:∀ (bs:List GT) (pre post:List xZ0) (body:List xZ0) (j:Nat),body=pre++(GT.fls bs++post)→GT.lfs bs pre.length j→∃ n,body[j]?=some n∧lfG n=true
 | [],pre,post,body,j,hb,h=>by rw [GT.lfs] at h;exact h.elim
 | b::bs,pre,post,body,j,hb,h=>by
   rw [GT.lfs] at h
   rw [GT.fls,List.append_assoc] at hb
   rcases h with h | h
   ·exact lf_at b pre (GT.fls bs++post) body j hb h
   ·refine xZsQ bs (pre++b.fl) post body j (by rw [hb];simp) ?_
    rw [List.length_append];exact h
end
end
section
open Go Classical
section
variable (body:List xZ0)
def bdn (A:Nat→Bool):Prop:=∀ k,A k=true→∃ n,body[k]?=some n
def vrn (k:Nat):List UInt8:=match body[k]? with
 | some n=>n.Var
 | none=>[]
def bnl (A:Nat→Bool) (n:Nat):List (List UInt8):=((List.range n).filter A).map (vrn body)
end
section
variable {body:List xZ0}
mutual
theorem bd_t:∀ (t:GT) (w:Int) (_:t.ok w) (pre post:List xZ0) (A:Nat→Bool),body=pre++(t.fl++post)→bdn body A→bdn body (t.fA body A)∧∀ j,bdn body (t.rw body pre.length A j)
 | .leaf neg v ty o,w,hw,pre,post,A,hb,h=>by
   refine ⟨?_,fun j=>by rw [GT.rw];exact h⟩
   rw [GT.fA]
   cases neg
   ·simp only [Bool.false_eq_true,if_false]
    intro k hk
    by_cases hk2:k=idn v body
    ·subst hk2
     obtain ⟨_,n,h2,_⟩:=xZjM (v:=v) body ⟨⟨kL false,0,0,0,v,ty,oT o⟩,by rw [hb];simp [GT.fl],by simp [isA,kL]⟩
     exact ⟨n,h2⟩
    ·rw [upd,if_neg hk2] at hk;exact h k hk
   ·simp only [if_true];exact h
 | .rep lo hi a,w,hw,pre,post,A,hb,h=>by
   obtain ⟨h1,h2⟩:=bd_t a 3 hw.2 (pre++[⟨3,1,lo,hi,[],[],[]⟩]) post A (by rw [hb];simp [GT.fl]) h
   rw [List.length_append] at h2
   refine ⟨?_,fun j=>by rw [GT.rw];exact h2 j⟩
   rw [GT.fA]
   split
   ·exact h
   ·exact h1
 | .lst alt bs,w,hw,pre,post,A,hb,h=>by
   obtain ⟨h1,h2,h3⟩:=bds_t bs (kA alt) hw.2.2.2 (pre++[⟨kA alt,(bs.length:Int),0,0,[],[],[]⟩]) post A (by rw [hb];simp [GT.fl]) h
   rw [List.length_append] at h3
   refine ⟨?_,fun j=>by rw [GT.rw];exact h3 alt j⟩
   rw [GT.fA]
   cases alt
   ·simpa using h1
   ·simp only [if_true]
    exact h2 (fun e=>by have:=hw.2.1;rw [e] at this;simp at this)
theorem bds_t:∀ (bs:List GT) (w:Int) (_:GT.oks bs w) (pre post:List xZ0) (A:Nat→Bool),body=pre++(GT.fls bs++post)→bdn body A→bdn body (GT.fAs body bs A)∧(bs≠[]→bdn body (GT.fAl body bs A))∧∀ alt j,bdn body (GT.rws body alt bs pre.length A j)
 | [],w,hw,pre,post,A,hb,h=>⟨by rw [GT.fAs];exact h,fun h=>absurd rfl h,fun alt j=>by rw [GT.rws];exact h⟩
 | b::bs,w,hw,pre,post,A,hb,h=>by
   rw [GT.fls,List.append_assoc] at hb
   obtain ⟨h1,h2⟩:=bd_t b w hw.1 pre (GT.fls bs++post) A hb h
   obtain ⟨k1,_,k3⟩:=bds_t bs w hw.2 (pre++b.fl) post (b.fA body A) (by rw [hb];simp) h1
   obtain ⟨_,_,m3⟩:=bds_t bs w hw.2 (pre++b.fl) post A (by rw [hb];simp) h
   rw [List.length_append] at k3 m3
   refine ⟨by rw [GT.fAs];exact k1,fun _=>?_,fun alt j=>?_⟩
   ·intro k hk
    simp only [GT.fAl,Bool.and_eq_true] at hk
    exact h1 k hk.1
   ·rw [GT.rws]
    split
    ·exact h2 j
    ·cases alt
     ·exact k3 false j
     ·exact m3 true j
end
theorem xZqB (A:Nat→Bool) (n:Nat):bnl body A (n+1)=if A n=true then bnl body A n++[vrn body n] else bnl body A n:=by
 unfold bnl
 rw [List.range_succ,List.filter_append,List.map_append]
 cases h:A n<;>simp [List.filter,h]
theorem xZkI (A:Nat→Bool) (n:Nat):(bnl body A n).length≤n:=by
 unfold bnl
 rw [List.length_map]
 exact Nat.le_trans (List.length_filter_le _ _) (by simp)
theorem xZs0 {p:xZ5} {t:GT} (hck:chkG p=0) (ht:t.ok 0) (hb:p.Body=t.fl) (hlen:p.Body.length≤40) {jn:Nat} (hl:t.lf 0 jn):W (fun N=>xZ1F N p (jn:Int)) (·=sortS (bnl p.Body (t.rw p.Body 0 A0 jn) 40)):=by
 have hb0:p.Body=[]++(t.fl++[]):=by rw [hb];simp
 obtain ⟨n,hn,hlf⟩:=lf_at t [] [] p.Body jn hb0 hl
 have hj:jn < p.Body.length:=(List.getElem?_eq_some_iff.1 hn).1
 have hj':jn < 40:=by omega
 have hbd:=(bd_t t 0 ht [] [] A0 hb0 (fun k hk=>by cases hk)).2 jn
 simp only [xZ1F]
 refine W.call (N:=fun N=>N) (xZc8 p) ?_
 rintro _ rfl
 simp only [hck,show ((0:Int) != 0)=false from rfl,cond_false,show ltB (jn:Int) 0=false from xZf.2 (by omega),show leB (p.Body.length:Int) (jn:Int)=false from xZdG.2 (by omega),ix_nat' p.Body,hn,Option.bind_some,xZeA,hlf,Bool.not_true]
 refine W.call (N:=fun N=>N) (xZs4 ht hb hlen) ?_
 rintro ⟨b0,Y⟩ ⟨e1,hY⟩
 dsimp only at e1 hY
 subst e1
 simp only [show leB 0 (jn:Int)=true from xZI.2 (by omega),show ltB (jn:Int) 40=true from xZ9.2 (by omega),xZn,ix_l Y hj' (A40.c false),Option.bind_some]
 have hrow:gb (Y.l.getD jn (A40.c false))=t.rw p.Body 0 A0 jn:=hY.2 jn hl
 generalize Y.l.getD jn (A40.c false)=e2 at hrow
 refine W.lp2 (N:=fun N=>N) (P:=fun x ys=>∃ n:Nat,x=(n:Int)∧n≤40∧ys=bnl p.Body (t.rw p.Body 0 A0 jn) n) (m:=fun x _=>40 - x.toNat) ⟨0,rfl,by omega,rfl⟩ ?_
 rintro F x ys ⟨n,rfl,hn40,rfl⟩ next
 simp only [xZ7Q]
 by_cases h:n < 40
 ·have hA:e2.l.getD n false=t.rw p.Body 0 A0 jn n:=congrFun hrow n
  simp only [show ltB (n:Int) 40=true from xZ9.2 (by omega),cond_true,ix_l e2 h false,Option.bind_some,hA]
  have hs:=xZqB (body:=p.Body) (t.rw p.Body 0 A0 jn) n
  refine W.cond.2 ⟨fun hA=>?_,fun hA=>?_⟩
  ·obtain ⟨nk,hnk⟩:=hbd n hA
   have hlen2:=xZkI (body:=p.Body) (t.rw p.Body 0 A0 jn) n
   simp only [ix_nat' p.Body,hnk,Option.bind_some,W.gd,xZc]
   refine ⟨Nat.ble_eq_true_of_le (by omega),by omega,next _ _ ⟨n+1,by omega,by omega,?_⟩ (by omega)⟩
   rw [hs,if_pos hA]
   simp [vrn,hnk]
  ·simp only [W.gd,xZc]
   exact ⟨by omega,next _ _ ⟨n+1,by omega,by omega,by rw [hs,if_neg (by rw [hA];simp)]⟩ (by omega)⟩
 ·have:n=40:=by omega
  subst this
  have hlen2:=xZkI (body:=p.Body) (t.rw p.Body 0 A0 jn) 40
  simp only [show ltB ((40:Nat):Int) 40=false from rfl,cond_false,xZP,show Nat.ble (bnl p.Body (t.rw p.Body 0 A0 jn) 40).length 4611686018427387903=true from Nat.ble_eq_true_of_le (by omega),xZn,Option.bind_some,W.ret]
end
end
end
abbrev Nm:=List UInt8
def Up:List Nm→Prop
 | []=>True
 | x::l=>(∀ y∈l,x < y)∧Up l
theorem xZqm (x:Nm):¬ x < x:=List.lt_irrefl x
theorem lt_tr {x y z:Nm} (h:x < y) (h':y < z):x < z:=List.lt_trans h h'
theorem xZsf (x y:Nm):x < y∨x=y∨y < x:=by
 rcases Decidable.em (x < y) with h | h
 ·exact .inl h
 ·rcases Decidable.em (y < x) with h' | h'
  ·exact .inr (.inr h')
  ·exact .inr (.inl (List.le_antisymm (List.not_lt.1 h') (List.not_lt.1 h)))
theorem xZpR:∀ {a b:List Nm},Up a→Up b→(∀ v,v∈a ↔ v∈b)→a=b
 | [],[],_,_,_=>rfl
 | [],y::b,_,_,h=>by have:=(h y).2 (by simp);cases this
 | x::a,[],_,_,h=>by have:=(h x).1 (by simp);cases this
 | x::a,y::b,ha,hb,h=>by
   have hxy:x=y:=by
    rcases List.mem_cons.1 ((h x).1 (by simp)) with e | e
    ·exact e
    ·rcases List.mem_cons.1 ((h y).2 (by simp)) with e' | e'
     ·exact e'.symm
     ·exact absurd (lt_tr (ha.1 y e') (hb.1 x e)) (xZqm _)
   subst hxy
   rw [xZpR ha.2 hb.2 fun v=>?_]
   constructor
   ·intro hv
    rcases List.mem_cons.1 ((h v).1 (by simp [hv])) with e | e
    ·subst e;exact absurd (ha.1 v hv) (xZqm _)
    ·exact e
   ·intro hv
    rcases List.mem_cons.1 ((h v).2 (by simp [hv])) with e | e
    ·subst e;exact absurd (hb.1 v hv) (xZqm _)
    ·exact e
def ins (s:Nm):List Nm→List Nm
 | []=>[s]
 | x::l=>if x < s then x::ins s l else if x=s then x::l else s::x::l
theorem xZfN {s v:Nm}:∀ {l:List Nm},v∈ins s l ↔ v=s∨v∈l
 | []=>by simp [ins]
 | x::l=>by
   rw [ins]
   split
   ·simp only [List.mem_cons,xZfN (l:=l)]
    constructor
    ·rintro (h | h | h)
     ·exact .inr (.inl h)
     ·exact .inl h
     ·exact .inr (.inr h)
    ·rintro (h | h | h)
     ·exact .inr (.inl h)
     ·exact .inl h
     ·exact .inr (.inr h)
   ·split
    ·rename_i h1 h2
     subst h2
     simp only [List.mem_cons]
     constructor
     ·exact .inr
     ·rintro (h | h)
      ·exact .inl h
      ·exact h
    ·simp only [List.mem_cons]
theorem xZrJ {s:Nm}:∀ {l:List Nm},Up l→Up (ins s l)
 | [],_=>⟨fun y hy=>(by cases hy),trivial⟩
 | x::l,h=>by
   rw [ins]
   split
   ·rename_i h1
    refine ⟨fun y hy=>?_,xZrJ h.2⟩
    rcases xZfN.1 hy with rfl | hy
    ·exact h1
    ·exact h.1 y hy
   ·split
    ·exact h
    ·rename_i h1 h2
     have h3:s < x:=by
      rcases xZsf x s with q | q | q
      ·exact absurd q h1
      ·exact absurd q h2
      ·exact q
     refine ⟨fun y hy=>?_,h⟩
     rcases List.mem_cons.1 hy with rfl | hy
     ·exact h3
     ·exact lt_tr h3 (h.1 y hy)
theorem xZp5 (s:Nm):∀ l:List Nm,(ins s l).length≤l.length+1
 | []=>by simp [ins]
 | x::l=>by
   rw [ins]
   split
   ·have:=xZp5 s l;simp;omega
   ·split<;>simp
theorem xZrY {s:Nm}:∀ (pre rest:List Nm),(∀ y∈pre,y < s)→ins s (pre++rest)=pre++ins s rest
 | [],rest,_=>rfl
 | x::pre,rest,h=>by
   rw [List.cons_append,ins,if_pos (h x (by simp)),xZrY pre rest fun y hy=>h y (by simp [hy])];rfl
theorem xZqd {x y:Nm}:Op.bytesLess x y=true ↔ x < y:=by rw [bytesLess_eq];simp
theorem xZqI {x y:Nm}:Op.bytesLess x y=false ↔ ¬ x < y:=by rw [bytesLess_eq];simp
theorem xZvl (l:List Nm) (s:Nm) (hl:l.length≤1000):W (fun N=>xZ95 N l s) (·=ins s l):=by
 simp only [xZ95]
 have fin:∀ (pre rest:List Nm),l=pre++rest→(∀ y∈pre,y < s)→(∀ x r,rest=x::r→¬ x < s)→∀ {ι:Type} [Lim ι] (N:ι→Nat) (next0:ι→Int→Option (List Nm)),W (fun i:ι=>
  gd (leB 0 (pre.length:Int)) (gd (leB (pre.length:Int) (List.length l:Int)) (gd (Nat.ble ((0+List.length (List.take (Int.toNat (pre.length:Int)) l)) * 16) 140737488355328) (
   bif ((pre.length:Int)==(List.length l:Int)) then
    gd (Nat.ble ((List.length (List.take (Int.toNat (pre.length:Int)) l)+1) * 16) 140737488355328) (gd (leB 0 (pre.length:Int)) (gd (leB (pre.length:Int) (List.length l:Int)) (
    gd (Nat.ble ((List.length ((List.take (Int.toNat (pre.length:Int)) l)++[s])+List.length (List.drop (Int.toNat (pre.length:Int)) l)) * 16) 140737488355328) (
    some (((List.take (Int.toNat (pre.length:Int)) l)++[s])++(List.drop (Int.toNat (pre.length:Int)) l))))))
   else
    (rest.head?).bind fun e2=>
    bif (!(e2==s)) then
     gd (Nat.ble ((List.length (List.take (Int.toNat (pre.length:Int)) l)+1) * 16) 140737488355328) (gd (leB 0 (pre.length:Int)) (gd (leB (pre.length:Int) (List.length l:Int)) (
     gd (Nat.ble ((List.length ((List.take (Int.toNat (pre.length:Int)) l)++[s])+List.length (List.drop (Int.toNat (pre.length:Int)) l)) * 16) 140737488355328) (
     some (((List.take (Int.toNat (pre.length:Int)) l)++[s])++(List.drop (Int.toNat (pre.length:Int)) l))))))
    else
     gd (leB 0 (pre.length:Int)) (gd (leB (pre.length:Int) (List.length l:Int)) (
     gd (Nat.ble ((List.length (List.take (Int.toNat (pre.length:Int)) l)+List.length (List.drop (Int.toNat (pre.length:Int)) l)) * 16) 140737488355328) (
     some ((List.take (Int.toNat (pre.length:Int)) l)++(List.drop (Int.toNat (pre.length:Int)) l))))))))) (·=ins s l):=by
  intro pre rest h1 h2 h3 ι _ N next0
  have hlen:l.length=pre.length+rest.length:=by rw [h1];simp
  have e1:List.take (Int.toNat (pre.length:Int)) l=pre:=by rw [h1];simp
  have e2:List.drop (Int.toNat (pre.length:Int)) l=rest:=by rw [h1];simp
  simp only [e1,e2,show leB 0 (pre.length:Int)=true from xZI.2 (by omega),show leB (pre.length:Int) (l.length:Int)=true from xZI.2 (by omega),xZn,List.length_append,List.length_singleton,show Nat.ble ((0+pre.length) * 16) 140737488355328=true from Nat.ble_eq_true_of_le (by omega),show Nat.ble ((pre.length+1) * 16) 140737488355328=true from Nat.ble_eq_true_of_le (by omega),show Nat.ble ((pre.length+1+rest.length) * 16) 140737488355328=true from Nat.ble_eq_true_of_le (by omega),show Nat.ble ((pre.length+rest.length) * 16) 140737488355328=true from Nat.ble_eq_true_of_le (by omega)]
  have e3:ins s l=pre++ins s rest:=by rw [h1];exact xZrY pre rest h2
  cases rest with
  | nil=>
    rw [show ((pre.length:Int)==(l.length:Int))=true by rw [hlen];simp]
    simp only [cond_true,W.ret]
    rw [e3];simp [ins]
  | cons x r=>
    have hix:ix l (pre.length:Int)=some x:=by rw [ix_nat',h1];simp
    rw [show ((pre.length:Int)==(l.length:Int))=false from beq_eq_false_iff_ne.2 (by rw [hlen];simp;omega)]
    simp only [cond_false,List.head?_cons,Option.bind_some]
    have h4:=h3 x r rfl
    refine W.cond.2 ⟨fun hne=>W.ret.2 ?_,fun heq=>W.ret.2 ?_⟩
    ·have hne:x≠s:=by simpa using hne
     rw [e3,ins,if_neg h4,if_neg hne];simp
    ·have heq:x=s:=by simpa using heq
     rw [e3,ins,if_neg h4,if_pos heq]
 refine wf1 (l:=l) (fun pre=>∀ y∈pre,y < s) [] rfl rfl (by omega) (by simp) ?_ ?_
 ·intro F pre x rest h1 k1 k2 k3 hp hn
  simp only [xZ5P,k1,cond_true,k2,Option.bind_some]
  refine W.cond.2 ⟨fun hb=>?_,fun hb=>?_⟩
  ·simp only [k3,xZn]
   refine hn fun y hy=>?_
   rcases List.mem_append.1 hy with hy | hy
   ·exact hp y hy
   ·rw [List.mem_singleton.1 hy];exact xZqd.1 hb
  ·exact fin pre (x::rest) h1 hp (fun x' r e=>by cases e;exact xZqI.1 hb) (fun p:Nat×Nat=>p.1) F
 ·intro F k1 hp
  have hnone:ix l (l.length:Int)=none:=by rw [ix_nat'];simp
  simp only [xZ5P,k1,cond_false,hnone,Option.bind_none]
  exact fin l [] (by simp) hp (fun x' r e=>by cases e) (fun p:Nat×Nat=>p.1) F
theorem w_has (l:List Nm) (s:Nm) (hl:l.length≤1000):W (fun N=>xZ8C N l s) (·=decide (s∈l)):=by
 simp only [xZ8C]
 refine wf1 (l:=l) (fun pre=>s ∉ pre) [] rfl rfl (by omega) (by simp) ?_ ?_
 ·intro F pre x rest h1 k1 k2 k3 hp hn
  simp only [xZ7D,k1,k2,cond_true,Option.bind_some,k3,xZn]
  refine W.cond.2 ⟨fun hb=>W.ret.2 ?_,fun hb=>hn ?_⟩
  ·have hb:x=s:=by simpa using hb
   rw [h1,hb];simp
  ·have hb:¬ x=s:=by simpa using hb
   simp only [List.mem_append,List.mem_singleton]
   rintro (h | h)
   ·exact hp h
   ·exact hb h.symm
 ·intro F k1 hp
  simp only [xZ7D,k1,cond_false,W.ret]
  simp [hp]
theorem xZpK (a b:List Nm) (ha:a.length≤1000) (hb:b.length≤1000):W (fun N=>xZ3K N a b) (·=a.filter fun x=>decide (x∈b)):=by
 simp only [xZ3K]
 refine wf2a (l:=a) (fun pre ys=>ys=pre.filter fun x=>decide (x∈b)) [] rfl rfl (by omega) rfl ?_ ?_
 ·rintro F pre x rest ys h1 k1 k2 k3 rfl hn
  have hpl:pre.length < a.length:=by rw [h1];simp
  have hfl:=List.length_filter_le (fun x=>decide (x∈b)) pre
  simp only [xZ5O,k1,k2,cond_true,Option.bind_some,k3,xZn]
  refine W.call (N:=fun p:Nat×Nat=>p.1) (w_has b x hb) ?_
  rintro _ rfl
  refine W.cond.2 ⟨fun hx=>?_,fun hx=>hn _ ?_⟩
  ·simp only [W.gd]
   refine ⟨Nat.ble_eq_true_of_le (by omega),hn _ ?_⟩
   rw [List.filter_append];simp [List.filter,hx]
  ·rw [List.filter_append];simp [List.filter,hx]
 ·rintro F ys k1 rfl
  simp only [xZ5O,k1,cond_false,W.ret]
theorem xZg3 (f:Nm→Bool):∀ {l:List Nm},Up l→Up (l.filter f)
 | [],_=>trivial
 | x::l,h=>by
   rw [List.filter]
   split
   ·exact ⟨fun y hy=>h.1 y (List.mem_filter.1 hy).1,xZg3 f h.2⟩
   ·exact xZg3 f h.2
section
mutual
def GT.bL:GT→List Nm→List Nm
 | .leaf neg v _ _,L=>if neg then L else ins v L
 | .rep lo _ a,L=>if lo=0 then L else GT.bL a L
 | .lst alt bs,L=>if alt then GT.bLa bs L true L else GT.bLs bs L
def GT.bLs:List GT→List Nm→List Nm
 | [],L=>L
 | b::bs,L=>GT.bLs bs (GT.bL b L)
def GT.bLa:List GT→List Nm→Bool→List Nm→List Nm
 | [],_,_,acc=>acc
 | b::bs,L,fst,acc=>GT.bLa bs L false (if fst then GT.bL b L else acc.filter fun x=>decide (x∈GT.bL b L))
end
mutual
def GT.rL:GT→Nat→List Nm→Nat→Option (List Nm)
 | .leaf ..,i,L,j=>if j=i then some L else none
 | .rep _ _ a,i,L,j=>GT.rL a (i+1) L j
 | .lst alt bs,i,L,j=>GT.rLs alt bs (i+1) L j
def GT.rLs (alt:Bool):List GT→Nat→List Nm→Nat→Option (List Nm)
 | [],_,_,_=>none
 | b::bs,i,L,j=>match GT.rLs alt bs (i+b.fl.length) (if alt then L else GT.bL b L) j with
   | some x=>some x
   | none=>GT.rL b i L j
end
theorem xZp8 (b:GT):∀ (bs:List GT) (L:List Nm),GT.bLs (bs++[b]) L=b.bL (GT.bLs bs L)
 | [],L=>by simp [GT.bLs]
 | a::bs,L=>by rw [List.cons_append,GT.bLs,GT.bLs,xZp8 b bs]
theorem xZpn (b:GT) (L:List Nm):∀ (bs:List GT) (fst:Bool) (acc:List Nm),GT.bLa (bs++[b]) L fst acc=if (fst&&bs.isEmpty)=true then b.bL L else (GT.bLa bs L fst acc).filter fun x=>decide (x∈b.bL L)
 | [],fst,acc=>by cases fst<;>simp [GT.bLa]
 | a::bs,fst,acc=>by rw [List.cons_append,GT.bLa,GT.bLa,xZpn b L bs];simp
theorem xZmG (alt:Bool) (b:GT) (j:Nat):∀ (bs:List GT) (i:Nat) (L:List Nm),GT.rLs alt (bs++[b]) i L j=(match b.rL (i+(GT.fls bs).length) (if alt then L else GT.bLs bs L) j with | some x=>some x | none=>GT.rLs alt bs i L j)
 | [],i,L=>by
   simp only [List.nil_append,GT.rLs,GT.fls,List.length_nil,Nat.add_zero,GT.bLs]
   cases alt<;>simp<;>cases GT.rL b i L j<;>rfl
 | a::bs,i,L=>by
   rw [List.cons_append,GT.rLs,xZmG alt b j bs,GT.rLs,GT.fls,List.length_append,Nat.add_assoc]
   have e:(if alt=true then (if alt=true then L else a.bL L) else GT.bLs bs (if alt=true then L else a.bL L))=(if alt=true then L else GT.bLs (a::bs) L):=by cases alt<;>simp [GT.bLs]
   rw [e]
   cases GT.rL b (i+(a.fl.length+(GT.fls bs).length)) (if alt=true then L else GT.bLs (a::bs) L) j<;>rfl
mutual
theorem xZoN:∀ (t:GT) (L:List Nm),(t.bL L).length≤L.length+t.fl.length
 | .leaf neg v ty o,L=>by
   rw [GT.bL]
   have:=xZp5 v L
   cases neg<;>simp [GT.fl]<;>omega
 | .rep lo hi a,L=>by
   rw [GT.bL]
   have:=xZoN a L
   split<;>simp [GT.fl]<;>omega
 | .lst alt bs,L=>by
   rw [GT.bL]
   cases alt
   ·have:=xZma bs L
    simp [GT.fl];omega
   ·have:=xZnt bs L true L
    simp [GT.fl];omega
theorem xZma:∀ (bs:List GT) (L:List Nm),(GT.bLs bs L).length≤L.length+(GT.fls bs).length
 | [],L=>by simp [GT.bLs,GT.fls]
 | b::bs,L=>by
   rw [GT.bLs,GT.fls,List.length_append]
   have:=xZoN b L
   have:=xZma bs (b.bL L)
   omega
theorem xZnt:∀ (bs:List GT) (L:List Nm) (fst:Bool) (acc:List Nm),(GT.bLa bs L fst acc).length≤max acc.length (L.length+(GT.fls bs).length)
 | [],L,fst,acc=>by simp [GT.bLa,GT.fls];omega
 | b::bs,L,fst,acc=>by
   rw [GT.bLa,GT.fls,List.length_append]
   have h1:=xZoN b L
   have h2:=xZnt bs L false (if fst then b.bL L else acc.filter fun x=>decide (x∈b.bL L))
   have h3:=List.length_filter_le (fun x=>decide (x∈b.bL L)) acc
   cases fst
   ·simp only [Bool.false_eq_true,if_false] at h2 ⊢;omega
   ·simp only [if_true] at h2 ⊢;omega
end
section
variable {body:List xZ0}
def PTh (body:List xZ0) (j:Nat) (t:GT):Prop:=∀ (pre post:List xZ0) (L:List Nm),body=pre++(t.fl++post)→L.length+t.fl.length≤900→W (fun N=>(xZ2i N) body (pre.length:Int) L (j:Int)) (fun r=>r.1=t.bL L∧r.2.2=(t.rL pre.length L j).isSome∧∀ x,t.rL pre.length L j=some x→r.2.1=x)
theorem xZ8E (n:xZ0) (N:Nat):xZ1Z N n=some (lfG n):=by
 simp only [xZ1Z,lfG];cases n.Kind==4<;>rfl
theorem xZtX {j:Nat} {neg:Bool} {v ty:Nm} {o:Option TT}:PTh body j (.leaf neg v ty o):=by
 intro pre post L hb hL
 refine W.shift ?_
 show W (fun N=>xZ26 N (xZ2i N) _ _ _ _) _
 have hix:=xZbf (l:=body) (pre:=pre) (e:=⟨kL neg,0,0,0,v,ty,oT o⟩) (r:=post) hb
 have hlf:lfG ⟨kL neg,0,0,0,v,ty,oT o⟩=true:=by cases neg<;>rfl
 simp only [xZ26,hix,Option.bind_some,xZ8E,hlf,cond_true]
 have hh:((pre.length:Int)==(j:Int))=((GT.leaf neg v ty o).rL pre.length L j).isSome:=by
  rw [GT.rL]
  by_cases h:j=pre.length
  ·rw [if_pos h,h];simp
  ·rw [if_neg h]
   rw [beq_eq_false_iff_ne.2 (by omega)];rfl
 have hx:∀ x,(GT.leaf neg v ty o).rL pre.length L j=some x→L=x:=by
  intro x h
  rw [GT.rL] at h
  split at h
  ·exact Option.some.inj h
  ·cases h
 cases neg
 ·simp only [kL,Bool.false_eq_true,if_false,show ((4:Int)==4)=true from rfl,cond_true]
  refine W.call (N:=fun N=>N) (xZvl L v (by omega)) ?_
  rintro _ rfl
  exact W.ret.2 ⟨by rw [GT.bL];simp,hh,hx⟩
 ·simp only [kL,if_true,show ((5:Int)==4)=false from rfl,cond_false]
  exact W.ret.2 ⟨by rw [GT.bL];simp,hh,hx⟩
theorem xZve {j:Nat} {lo hi:Int} {a:GT} {w:Int} (h:(GT.rep lo hi a).ok w) (hlen:body.length≤1000) (ih:PTh body j a):PTh body j (.rep lo hi a):=by
 intro pre post L hb hL
 have hkids:=xZnW (body:=body) h (e:=⟨3,1,lo,hi,[],[],[]⟩) (by simp [GT.fl,GT.kd,GT.fls]) hb hlen
 refine W.shift ?_
 show W (fun N=>xZ26 N (xZ2i N) _ _ _ _) _
 have hix:=xZbf (l:=body) (pre:=pre) (e:=⟨3,1,lo,hi,[],[],[]⟩) (r:=a.fl++post) (by rw [hb];simp [GT.fl])
 simp only [xZ26,hix,Option.bind_some,xZ8E,show lfG ⟨3,1,lo,hi,[],[],[]⟩=false from rfl,cond_false]
 refine W.call (N:=fun N=>N) hkids ?_
 rintro _ rfl
 have hk:offs (GT.rep lo hi a).kd (pre.length+1)=[((pre.length+1:Nat):Int)]:=rfl
 rw [hk]
 have hL':L.length+a.fl.length≤900:=by simp [GT.fl] at hL;omega
 have hcall:=ih (pre++[⟨3,1,lo,hi,[],[],[]⟩]) post L (by rw [hb];simp [GT.fl]) hL'
 have e2:(pre++[(⟨3,1,lo,hi,[],[],[]⟩:xZ0)]).length=pre.length+1:=by simp
 rw [e2] at hcall
 have hfin:∀ out fnd is,(out=(GT.rep lo hi a).bL L∧is=((GT.rep lo hi a).rL pre.length L j).isSome∧∀ x,(GT.rep lo hi a).rL pre.length L j=some x→fnd=x)→W (fun p:Nat×Nat=>some (out,fnd,is)) (fun r:List Nm×List Nm×Bool=>r.1=(GT.rep lo hi a).bL L∧r.2.2=((GT.rep lo hi a).rL pre.length L j).isSome∧∀ x,(GT.rep lo hi a).rL pre.length L j=some x→r.2.1=x):=fun out fnd is h=>W.ret.2 h
 refine W.lp4 (N:=fun N=>N) (P:=fun out fnd is i=>(i=0∧out=L∧fnd=[]∧is=false)∨(i=1∧out=(GT.rep lo hi a).bL L∧is=((GT.rep lo hi a).rL pre.length L j).isSome∧∀ x,(GT.rep lo hi a).rL pre.length L j=some x→fnd=x)) (m:=fun _ _ _ i=>(1 - i).toNat) (.inl ⟨rfl,rfl,rfl,rfl⟩) ?_
 rintro F out fnd is i h next
 rcases h with ⟨rfl,rfl,rfl,rfl⟩ | ⟨rfl,h1,h2,h3⟩
 ·simp only [xZ2v,List.length_singleton,show ltB 0 ((1:Nat):Int)=true from rfl,show ((3:Int)==1)=false from rfl,show ((3:Int)==2)=false from rfl,show ((3:Int)==3)=true from rfl,cond_true,cond_false,show ix [((pre.length+1:Nat):Int)] 0=some ((pre.length+1:Nat):Int) from rfl,Option.bind_some]
  refine W.bind (W.lift hcall) ?_
  rintro ⟨r1,r2,r3⟩ ⟨q1,q2,q3⟩
  dsimp only at q1 q2 q3 ⊢
  have go:∀ out' fnd',out'=(GT.rep lo hi a).bL out→(∀ x,(GT.rep lo hi a).rL pre.length out j=some x→fnd'=x)→W (fun p=>F p out' fnd' r3 ((0:Int)+1)) (fun r=>r.1=(GT.rep lo hi a).bL out∧r.2.2=((GT.rep lo hi a).rL pre.length out j).isSome∧∀ x,(GT.rep lo hi a).rL pre.length out j=some x→r.2.1=x):=fun out' fnd' h1 h2=>next _ _ _ _ (.inr ⟨rfl,h1,by rw [q2,GT.rL],h2⟩) (by decide)
  have hr2:∀ x,(GT.rep lo hi a).rL pre.length out j=some x→r2=x:=fun x hx=>by rw [GT.rL] at hx;exact q3 x hx
  have hno:r3=false→∀ x,(GT.rep lo hi a).rL pre.length out j=some x→([]:List Nm)=x:=fun h x hx=>by
   rw [GT.rL] at hx
   rw [h,hx] at q2;cases q2
  by_cases hz:lo=0
  ·subst hz
   have e:out=(GT.rep 0 hi a).bL out:=by rw [GT.bL,if_pos rfl]
   simp only [show ((0:Int)==0)=true from rfl,cond_true,show i64b ((0:Int)+1)=true from rfl,xZn]
   cases r3
   ·exact go _ _ e (hno rfl)
   ·exact go _ _ e hr2
  ·have e:r1=(GT.rep lo hi a).bL out:=by rw [GT.bL,if_neg hz];exact q1
   simp only [show (lo==0)=false by simpa using hz,cond_false,show i64b ((0:Int)+1)=true from rfl,xZn]
   cases r3
   ·exact go _ _ e (hno rfl)
   ·exact go _ _ e hr2
 ·simp only [xZ2v,List.length_singleton,show ltB 1 ((1:Nat):Int)=false from rfl,cond_false,W.ret]
  exact ⟨h1,h2,h3⟩
end
end
section
section
variable {body:List xZ0}
theorem xZuN {j:Nat} {alt:Bool} {bs:List GT} {w:Int} (h:(GT.lst alt bs).ok w) (hlen:body.length≤1000) (ih:∀ b∈bs,PTh body j b):PTh body j (.lst alt bs):=by
 intro pre post L hb hL
 have hkids:=xZnW (body:=body) h (e:=⟨kA alt,(bs.length:Int),0,0,[],[],[]⟩) rfl hb hlen
 have hkids:W (fun N=>xZ2Z N body (pre.length:Int)) (·=offs bs (pre.length+1)):=hkids
 refine W.shift ?_
 show W (fun N=>xZ26 N (xZ2i N) _ _ _ _) _
 have hb':body=pre++[(⟨kA alt,(bs.length:Int),0,0,[],[],[]⟩:xZ0)]++(GT.fls bs++post):=by rw [hb];simp [GT.fl]
 have hix:=xZbf (l:=body) (pre:=pre) (e:=⟨kA alt,(bs.length:Int),0,0,[],[],[]⟩) (r:=GT.fls bs++post) (by rw [hb];simp [GT.fl])
 obtain ⟨_,hb2,hb40,_⟩:=h
 have hLl:L.length+(GT.fls bs).length≤900:=by simp [GT.fl] at hL;omega
 simp only [xZ26,hix,Option.bind_some,xZ8E,show lfG ⟨kA alt,(bs.length:Int),0,0,[],[],[]⟩=false by cases alt<;>rfl,cond_false]
 refine W.call (N:=fun N=>N) hkids ?_
 rintro _ rfl
 refine W.lp4 (N:=fun N=>N) (P:=fun out fnd is i=>∃ bs1 bs2,bs=bs1++bs2∧i=(bs1.length:Int)∧out=(if alt then GT.bLa bs1 L true L else GT.bLs bs1 L)∧is=(GT.rLs alt bs1 (pre.length+1) L j).isSome∧∀ x,GT.rLs alt bs1 (pre.length+1) L j=some x→fnd=x) (m:=fun _ _ _ i=>bs.length - i.toNat)
  ⟨[],bs,rfl,rfl,by cases alt<;>simp [GT.bLa,GT.bLs],by rw [GT.rLs];rfl,fun x hx=>by rw [GT.rLs] at hx;cases hx⟩ ?_
 rintro F out fnd is i ⟨bs1,bs2,hbs,rfl,rfl,rfl,hf⟩ next
 simp only [xZ2v,xZba]
 cases bs2 with
 | nil=>
   rw [List.append_nil] at hbs
   subst hbs
   simp only [show ltB (bs.length:Int) (bs.length:Int)=false from xZf.2 (by omega),cond_false,W.ret]
   exact ⟨by rw [GT.bL],by rw [GT.rL],fun x hx=>hf x (by rw [GT.rL] at hx;exact hx)⟩
 | cons b bs2=>
   have hbl:bs.length=bs1.length+(bs2.length+1):=by rw [hbs];simp
   obtain ⟨s1,s2,hfl⟩:=xZlP hb' hbs
   have hfb:(GT.fls bs).length=(GT.fls bs1).length+(b.fl.length+(GT.fls bs2).length):=by rw [hbs,xZfX,GT.fls,List.length_append]
   simp only [show ltB (bs1.length:Int) (bs.length:Int)=true from xZ9.2 (by omega),cond_true,xZn0 hbs,Option.bind_some,show i64b ((bs1.length:Int)+1)=true from xZc.2 (by omega),xZn]
   have hout:∀ fs,(if alt=true then GT.bLa bs1 L true L else GT.bLs bs1 L)=fs→fs.length≤L.length+(GT.fls bs1).length:=by
    rintro fs rfl
    have h1:=xZnt bs1 L true L
    have h2:=xZma bs1 L
    cases alt<;>simp only [Bool.false_eq_true,if_true,if_false]<;>omega
   have hold:=hout _ rfl
   have go:∀ (r:List Nm×List Nm×Bool) (out' fnd':List Nm) (is':Bool),
    r.1=b.bL (if alt=true then L else GT.bLs bs1 L)→r.2.2=(b.rL (pre.length+1+(GT.fls bs1).length) (if alt=true then L else GT.bLs bs1 L) j).isSome→(∀ x,b.rL (pre.length+1+(GT.fls bs1).length) (if alt=true then L else GT.bLs bs1 L) j=some x→r.2.1=x)→
    out'=(if alt=true then (if bs1=[] then r.1 else (GT.bLa bs1 L true L).filter fun x=>decide (x∈r.1)) else r.1)→(r.2.2=true→fnd'=r.2.1∧is'=true)→(r.2.2=false→fnd'=fnd∧is'=(GT.rLs alt bs1 (pre.length+1) L j).isSome)→
    W (fun p=>F p out' fnd' is' ((bs1.length:Int)+1)) (fun r=>r.1=(GT.lst alt bs).bL L∧r.2.2=((GT.lst alt bs).rL pre.length L j).isSome∧∀ x,(GT.lst alt bs).rL pre.length L j=some x→r.2.1=x):=by
    intro r out' fnd' is' q1 q2 q3 e1 e2 e3
    refine next _ _ _ _ ⟨bs1++[b],bs2,by rw [hbs];simp,by simp,?_,?_,?_⟩ (by omega)
    ·rw [e1]
     cases alt
     ·simp only [Bool.false_eq_true,if_false] at q1 ⊢
      rw [q1,xZp8]
     ·simp only [if_true] at q1 ⊢
      rw [xZpn,q1]
      cases bs1<;>simp
    ·rw [xZmG]
     cases hr:b.rL (pre.length+1+(GT.fls bs1).length) (if alt=true then L else GT.bLs bs1 L) j with
     | some x=>rw [hr] at q2;rw [(e2 q2).2];rfl
     | none=>rw [hr] at q2;rw [(e3 q2).2]
    ·intro x hx
     rw [xZmG] at hx
     cases hr:b.rL (pre.length+1+(GT.fls bs1).length) (if alt=true then L else GT.bLs bs1 L) j with
     | some y=>
       rw [hr] at hx q2
       rw [(e2 q2).1,q3 y hr]
       exact Option.some.inj hx
     | none=>
       rw [hr] at hx q2
       rw [(e3 q2).1]
       exact hf x hx
   have hcall:=fun LL (hLL:LL.length+b.fl.length≤900)=>ih b (by rw [hbs];simp) _ _ LL s1 hLL
   rw [s2] at hcall
   cases alt
   ·simp only [kA,Bool.false_eq_true,if_false,show ((1:Int)==1)=true from rfl,show ((1:Int)==2)=false from rfl,show ((1:Int)==3)=false from rfl,cond_true,cond_false] at go hold ⊢
    refine W.bind (W.lift (hcall (GT.bLs bs1 L) (by omega))) ?_
    rintro ⟨r1,r2,r3⟩ ⟨q1,q2,q3⟩
    dsimp only at q1 q2 q3 ⊢
    cases r3
    ·exact go (r1,r2,false) _ _ _ q1 q2 q3 rfl (fun h=>by cases h) (fun _=>⟨rfl,rfl⟩)
    ·exact go (r1,r2,true) _ _ _ q1 q2 q3 rfl (fun _=>⟨rfl,rfl⟩) (fun h=>by cases h)
   ·simp only [kA,if_true,show ((2:Int)==1)=false from rfl,show ((2:Int)==2)=true from rfl,show ((2:Int)==3)=false from rfl,cond_true,cond_false] at go hold ⊢
    refine W.bind (W.lift (hcall L (by omega))) ?_
    rintro ⟨r1,r2,r3⟩ ⟨q1,q2,q3⟩
    dsimp only at q1 q2 q3 ⊢
    have hr1:r1.length≤1000:=by rw [q1];have:=xZoN b L;omega
    cases bs1 with
    | nil=>
      simp only [List.length_nil,show ltB 0 ((0:Nat):Int)=false from rfl,cond_false] at go ⊢
      cases r3
      ·exact go (r1,r2,false) _ _ _ q1 q2 q3 (by simp) (fun h=>by cases h) (fun _=>⟨rfl,rfl⟩)
      ·exact go (r1,r2,true) _ _ _ q1 q2 q3 (by simp) (fun _=>⟨rfl,rfl⟩) (fun h=>by cases h)
    | cons c bs1=>
      simp only [show ltB 0 ((c::bs1).length:Int)=true from xZ9.2 (by simp),cond_true]
      cases r3
      ·refine W.call (N:=fun p:Nat×Nat=>p.1) (xZpK (GT.bLa (c::bs1) L true L) r1 (by omega) hr1) ?_
       rintro _ rfl
       exact go (r1,r2,false) _ _ _ q1 q2 q3 (by simp) (fun h=>by cases h) (fun _=>⟨rfl,rfl⟩)
      ·refine W.call (N:=fun p:Nat×Nat=>p.1) (xZpK (GT.bLa (c::bs1) L true L) r1 (by omega) hr1) ?_
       rintro _ rfl
       exact go (r1,r2,true) _ _ _ q1 q2 q3 (by simp) (fun _=>⟨rfl,rfl⟩) (fun h=>by cases h)
mutual
theorem pth {j:Nat} (hlen:body.length≤1000):∀ (t:GT) (w:Int),t.ok w→PTh body j t
 | .leaf neg v ty o,w,h=>xZtX
 | .rep lo hi a,w,h=>xZve h hlen (pth hlen a 3 h.2)
 | .lst alt bs,w,h=>xZuN h hlen (pths hlen bs (kA alt) h.2.2.2)
theorem pths {j:Nat} (hlen:body.length≤1000):∀ (bs:List GT) (w:Int),GT.oks bs w→∀ b∈bs,PTh body j b
 | [],w,_,b,hb=>by cases hb
 | a::r,w,h,b,hb=>by
   rcases List.mem_cons.1 hb with e | hb
   ·rw [e];exact pth hlen a w h.1
   ·exact pths hlen r w h.2 b hb
end
mutual
theorem xZsa:∀ (t:GT) (i:Nat) (L:List Nm) (j:Nat),j < i→t.rL i L j=none
 | .leaf ..,i,L,j,h=>by rw [GT.rL,if_neg (by omega)]
 | .rep _ _ a,i,L,j,h=>by rw [GT.rL];exact xZsa a _ _ _ (by omega)
 | .lst alt bs,i,L,j,h=>by rw [GT.rL];exact xZnz alt bs _ _ _ (by omega)
theorem xZnz (alt:Bool):∀ (bs:List GT) (i:Nat) (L:List Nm) (j:Nat),j < i→GT.rLs alt bs i L j=none
 | [],i,L,j,h=>by rw [GT.rLs]
 | b::bs,i,L,j,h=>by rw [GT.rLs,xZnz alt bs _ _ _ (by omega),xZsa b _ _ _ h]
end
structure Rel (body:List xZ0) (A:Nat→Bool) (L:List Nm):Prop where
 up:Up L
 at_:∀ v∈L,∃ n∈body,isA n v=true
 eq:∀ k,A k=true ↔ ∃ v∈L,k=idn v body
theorem xZmC {v v':Nm} (h:∃ n∈body,isA n v=true) (h':∃ n∈body,isA n v'=true) (e:idn v body=idn v' body):v=v':=by
 obtain ⟨_,n,h1,h2⟩:=xZjM body h
 obtain ⟨_,m,h3,h4⟩:=xZjM body h'
 rw [e,h3] at h1
 cases h1
 simp only [isA,Bool.and_eq_true,beq_iff_eq] at h2 h4
 rw [← h2.2,← h4.2]
theorem Rel.mem {A:Nat→Bool} {L:List Nm} (h:Rel body A L) {v:Nm} (hv:∃ n∈body,isA n v=true):v∈L ↔ A (idn v body)=true:=by
 rw [h.eq]
 constructor
 ·intro q;exact ⟨v,q,rfl⟩
 ·rintro ⟨v',q,e⟩
  rw [xZmC hv (h.at_ v' q) e];exact q
theorem Rel.ins {A:Nat→Bool} {L:List Nm} (h:Rel body A L) {v:Nm} (hv:∃ n∈body,isA n v=true):Rel body (upd A (idn v body) true) (ins v L):=by
 refine ⟨xZrJ h.up,fun u hu=>?_,fun k=>?_⟩
 ·rcases xZfN.1 hu with rfl | hu
  ·exact hv
  ·exact h.at_ u hu
 ·unfold upd
  constructor
  ·intro hk
   by_cases he:k=idn v body
   ·exact ⟨v,xZfN.2 (.inl rfl),he⟩
   ·rw [if_neg he] at hk
    obtain ⟨u,hu,e⟩:=(h.eq k).1 hk
    exact ⟨u,xZfN.2 (.inr hu),e⟩
  ·rintro ⟨u,hu,e⟩
   rcases xZfN.1 hu with rfl | hu
   ·rw [if_pos e]
   ·have:=(h.eq k).2 ⟨u,hu,e⟩
    split
    ·rfl
    ·exact this
theorem Rel.both {A1 A2:Nat→Bool} {L1 L2:List Nm} (h1:Rel body A1 L1) (h2:Rel body A2 L2):Rel body (fun k=>A1 k&&A2 k) (L1.filter fun x=>decide (x∈L2)):=by
 refine ⟨xZg3 _ h1.up,fun v hv=>h1.at_ v (List.mem_filter.1 hv).1,fun k=>?_⟩
 simp only [Bool.and_eq_true,List.mem_filter,decide_eq_true_eq]
 constructor
 ·rintro ⟨a,b⟩
  obtain ⟨v,hv,e⟩:=(h1.eq k).1 a
  obtain ⟨u,hu,e'⟩:=(h2.eq k).1 b
  have:v=u:=xZmC (h1.at_ v hv) (h2.at_ u hu) (by rw [← e,← e'])
  subst this
  exact ⟨v,⟨hv,hu⟩,e⟩
 ·rintro ⟨v,⟨a,b⟩,e⟩
  exact ⟨(h1.eq k).2 ⟨v,a,e⟩,(h2.eq k).2 ⟨v,b,e⟩⟩
theorem xZpa {A:Nat→Bool} {L:List Nm}:∀ (bs:List GT) (_:∀ b∈bs,Rel body (b.fA body A) (b.bL L)) (Aa:Nat→Bool) (acc:List Nm),Rel body Aa acc→Rel body (fun k=>Aa k&&GT.fAl body bs A k) (GT.bLa bs L false acc)
 | [],_,Aa,acc,h=>by simpa [GT.fAl,GT.bLa] using h
 | b::bs,hb,Aa,acc,h=>by
   have:=xZpa bs (fun x hx=>hb x (by simp [hx])) _ _ (h.both (hb b (by simp)))
   have e:(fun k=>Aa k&&GT.fAl body (b::bs) A k)=fun k=>(Aa k&&b.fA body A k)&&GT.fAl body bs A k:=by
    funext k;simp [GT.fAl,Bool.and_assoc]
   rw [e,GT.bLa]
   simpa using this
mutual
theorem rel_t:∀ (t:GT) (w:Int) (_:t.ok w) (pre post:List xZ0) (A:Nat→Bool) (L:List Nm),body=pre++(t.fl++post)→Rel body A L→Rel body (t.fA body A) (t.bL L)∧∀ j,t.lf pre.length j→∃ x,t.rL pre.length L j=some x∧Rel body (t.rw body pre.length A j) x
 | .leaf neg v ty o,w,hw,pre,post,A,L,hb,h=>by
   refine ⟨?_,fun j hj=>⟨L,by rw [GT.lf] at hj;rw [GT.rL,if_pos hj],by rw [GT.rw];exact h⟩⟩
   rw [GT.fA,GT.bL]
   cases neg
   ·simp only [Bool.false_eq_true,if_false]
    exact h.ins ⟨⟨kL false,0,0,0,v,ty,oT o⟩,by rw [hb];simp [GT.fl],by simp [isA,kL]⟩
   ·simp only [if_true];exact h
 | .rep lo hi a,w,hw,pre,post,A,L,hb,h=>by
   obtain ⟨h1,h2⟩:=rel_t a 3 hw.2 (pre++[⟨3,1,lo,hi,[],[],[]⟩]) post A L (by rw [hb];simp [GT.fl]) h
   rw [List.length_append] at h2
   refine ⟨?_,fun j hj=>?_⟩
   ·rw [GT.fA,GT.bL]
    split
    ·exact h
    ·exact h1
   ·rw [GT.lf] at hj
    obtain ⟨x,q1,q2⟩:=h2 j hj
    exact ⟨x,by rw [GT.rL];exact q1,by rw [GT.rw];exact q2⟩
 | .lst alt bs,w,hw,pre,post,A,L,hb,h=>by
   obtain ⟨h1,h2,h3⟩:=xZr0 bs (kA alt) hw.2.2.2 (pre++[⟨kA alt,(bs.length:Int),0,0,[],[],[]⟩]) post A L (by rw [hb];simp [GT.fl]) h
   rw [List.length_append] at h3
   refine ⟨?_,fun j hj=>?_⟩
   ·rw [GT.fA,GT.bL]
    cases alt
    ·simpa using h1
    ·simp only [if_true]
     cases bs with
     | nil=>have:=hw.2.1;simp at this
     | cons b bs=>
       have:=xZpa bs (fun x hx=>h2 x (by simp [hx])) _ _ (h2 b (by simp))
       rw [GT.bLa]
       simpa [GT.fAl] using this
   ·rw [GT.lf] at hj
    obtain ⟨x,q1,q2⟩:=h3 alt j hj
    exact ⟨x,by rw [GT.rL];exact q1,by rw [GT.rw];exact q2⟩
theorem xZr0:∀ (bs:List GT) (w:Int) (_:GT.oks bs w) (pre post:List xZ0) (A:Nat→Bool) (L:List Nm),body=pre++(GT.fls bs++post)→Rel body A L→Rel body (GT.fAs body bs A) (GT.bLs bs L)∧(∀ b∈bs,Rel body (b.fA body A) (b.bL L))∧∀ alt j,GT.lfs bs pre.length j→∃ x,GT.rLs alt bs pre.length L j=some x∧Rel body (GT.rws body alt bs pre.length A j) x
 | [],w,hw,pre,post,A,L,hb,h=>⟨by rw [GT.fAs,GT.bLs];exact h,fun b hb=>(by cases hb),fun alt j hj=>by rw [GT.lfs] at hj;exact hj.elim⟩
 | b::bs,w,hw,pre,post,A,L,hb,h=>by
   rw [GT.fls,List.append_assoc] at hb
   obtain ⟨h1,h2⟩:=rel_t b w hw.1 pre (GT.fls bs++post) A L hb h
   obtain ⟨k1,_,k3⟩:=xZr0 bs w hw.2 (pre++b.fl) post (b.fA body A) (b.bL L) (by rw [hb];simp) h1
   obtain ⟨_,m2,m3⟩:=xZr0 bs w hw.2 (pre++b.fl) post A L (by rw [hb];simp) h
   rw [List.length_append] at k3 m3
   refine ⟨by rw [GT.fAs,GT.bLs];exact k1,fun c hc=>?_,fun alt j hj=>?_⟩
   ·rcases List.mem_cons.1 hc with e | hc
    ·rw [e];exact h1
    ·exact m2 c hc
   ·rw [GT.lfs] at hj
    rcases hj with hj | hj
    ·obtain ⟨x,q1,q2⟩:=h2 j hj
     have hr:=xZh4 _ _ _ hj
     refine ⟨x,?_,by rw [GT.rws,if_pos hr.2];exact q2⟩
     rw [GT.rLs]
     have:GT.rLs alt bs (pre.length+b.fl.length) (if alt=true then L else b.bL L) j=none:=xZnz alt bs _ _ j (by omega)
     rw [this];exact q1
    ·have hr:=xZeh _ _ _ hj
     obtain ⟨x,q1,q2⟩:∃ x,GT.rLs alt bs (pre.length+b.fl.length) (if alt=true then L else b.bL L) j=some x∧Rel body (GT.rws body alt bs (pre.length+b.fl.length) (if alt=true then A else b.fA body A) j) x:=by
      cases alt
      ·exact k3 false j hj
      ·exact m3 true j hj
     refine ⟨x,by rw [GT.rLs,q1],?_⟩
     rw [GT.rws,if_neg (by omega)];exact q2
end
end
end
section
section
variable {body:List xZ0}
def PEm (body:List xZ0) (t:GT):Prop:=∀ (pre post:List xZ0),body=pre++(t.fl++post)→W (fun N=>(xZ33 N) body (pre.length:Int)) (·=t.hN)
theorem xZsz {neg:Bool} {v ty:Nm} {o:Option TT}:PEm body (.leaf neg v ty o):=by
 intro pre post hb
 refine W.shift ?_
 show W (fun N=>xZ2Y N (xZ33 N) _ _) _
 have hix:=xZbf (l:=body) (pre:=pre) (e:=⟨kL neg,0,0,0,v,ty,oT o⟩) (r:=post) hb
 have hlf:lfG ⟨kL neg,0,0,0,v,ty,oT o⟩=true:=by cases neg<;>rfl
 simp only [xZ2Y,hix,Option.bind_some,xZ8E,hlf,cond_true,W.ret,GT.hN]
theorem xZuy {lo hi:Int} {a:GT} (hlen:body.length≤1000) (ih:PEm body a):PEm body (.rep lo hi a):=by
 intro pre post hb
 refine W.shift ?_
 show W (fun N=>xZ2Y N (xZ33 N) _ _) _
 have hix:=xZbf (l:=body) (pre:=pre) (e:=⟨3,1,lo,hi,[],[],[]⟩) (r:=a.fl++post) (by rw [hb];simp [GT.fl])
 have hpl:pre.length < body.length:=by rw [hb];simp [GT.fl]
 have hcall:=ih (pre++[⟨3,1,lo,hi,[],[],[]⟩]) post (by rw [hb];simp [GT.fl])
 have e2:(((pre++[(⟨3,1,lo,hi,[],[],[]⟩:xZ0)]).length:Nat):Int)=(pre.length:Int)+1:=by simp
 rw [e2] at hcall
 simp only [xZ2Y,hix,Option.bind_some,xZ8E,show lfG ⟨3,1,lo,hi,[],[],[]⟩=false from rfl,cond_false,show ((3:Int)==3)=true from rfl,cond_true]
 refine W.cond.2 ⟨fun h=>W.ret.2 ?_,fun h=>?_⟩
 ·rw [GT.hN,h];simp
 ·simp only [W.gd,xZc]
  refine ⟨by omega,W.bind hcall ?_⟩
  rintro _ rfl
  refine W.ret.2 ?_
  rw [GT.hN,h];simp
theorem xZvr {alt:Bool} {bs:List GT} {w:Int} (h:(GT.lst alt bs).ok w) (hlen:body.length≤1000) (ih:∀ b∈bs,PEm body b):PEm body (.lst alt bs):=by
 intro pre post hb
 have hkids:=xZnW (body:=body) h (e:=⟨kA alt,(bs.length:Int),0,0,[],[],[]⟩) rfl hb hlen
 have hkids:W (fun N=>xZ2Z N body (pre.length:Int)) (·=offs bs (pre.length+1)):=hkids
 refine W.shift ?_
 show W (fun N=>xZ2Y N (xZ33 N) _ _) _
 have hb':body=pre++[(⟨kA alt,(bs.length:Int),0,0,[],[],[]⟩:xZ0)]++(GT.fls bs++post):=by rw [hb];simp [GT.fl]
 have hix:=xZbf (l:=body) (pre:=pre) (e:=⟨kA alt,(bs.length:Int),0,0,[],[],[]⟩) (r:=GT.fls bs++post) (by rw [hb];simp [GT.fl])
 obtain ⟨_,hb2,hb40,_⟩:=h
 simp only [xZ2Y,hix,Option.bind_some,xZ8E,show lfG ⟨kA alt,(bs.length:Int),0,0,[],[],[]⟩=false by cases alt<;>rfl,show (kA alt==3)=false by cases alt<;>rfl,cond_false]
 refine W.call (N:=fun N=>N) hkids ?_
 rintro _ rfl
 refine W.lp3 (N:=fun N=>N) (P:=fun so al i=>∃ bs1 bs2,bs=bs1++bs2∧i=(bs1.length:Int)∧so=GT.hNo bs1∧al=GT.hNs bs1) (m:=fun _ _ i=>bs.length - i.toNat) ⟨[],bs,rfl,rfl,by rw [GT.hNo],by rw [GT.hNs]⟩ ?_
 rintro F so al i ⟨bs1,bs2,hbs,rfl,rfl,rfl⟩ next
 simp only [xZ7R,xZba]
 cases bs2 with
 | nil=>
   rw [List.append_nil] at hbs
   subst hbs
   simp only [show ltB (bs.length:Int) (bs.length:Int)=false from xZf.2 (by omega),cond_false,W.ret]
   cases alt
   ·simp only [kA,GT.hN,Bool.false_eq_true,if_false];exact W.ret.2 rfl
   ·simp only [kA,GT.hN,if_true];exact W.ret.2 rfl
 | cons b bs2=>
   have hbl:bs.length=bs1.length+(bs2.length+1):=by rw [hbs];simp
   obtain ⟨s1,s2,hfl⟩:=xZlP hb' hbs
   have hcall:=ih b (by rw [hbs];simp) _ _ s1
   rw [s2] at hcall
   simp only [show ltB (bs1.length:Int) (bs.length:Int)=true from xZ9.2 (by omega),cond_true,xZn0 hbs,Option.bind_some,show i64b ((bs1.length:Int)+1)=true from xZc.2 (by omega),xZn]
   refine W.bind (W.lift hcall) ?_
   rintro _ rfl
   have go:∀ s a,s=(GT.hNo bs1 || b.hN)→a=(GT.hNs bs1&&b.hN)→W (fun p=>F p s a ((bs1.length:Int)+1)) (·=(GT.lst alt bs).hN):=fun s a e1 e2=>next _ _ _ ⟨bs1++[b],bs2,by rw [hbs];simp,by simp,by rw [e1,xZnB],by rw [e2,xZkG]⟩ (by omega)
   cases h1:GT.hNo bs1<;>cases h2:GT.hNs bs1<;>simp only [cond_true,cond_false]<;>exact go _ _ (by rw [h1];simp) (by rw [h2];simp)
mutual
theorem pe (hlen:body.length≤1000):∀ (t:GT) (w:Int),t.ok w→PEm body t
 | .leaf neg v ty o,w,h=>xZsz
 | .rep lo hi a,w,h=>xZuy hlen (pe hlen a 3 h.2)
 | .lst alt bs,w,h=>xZvr h hlen (pes hlen bs (kA alt) h.2.2.2)
theorem pes (hlen:body.length≤1000):∀ (bs:List GT) (w:Int),GT.oks bs w→∀ b∈bs,PEm body b
 | [],w,_,b,hb=>by cases hb
 | a::r,w,h,b,hb=>by
   rcases List.mem_cons.1 hb with e | hb
   ·rw [e];exact pe hlen a w h.1
   ·exact pes hlen r w h.2 b hb
end
def PFi (body:List xZ0) (t:GT):Prop:=∀ (pre post:List xZ0),body=pre++(t.fl++post)→W (fun N=>(xZ4w N) body (pre.length:Int)) (fun r=>r.length≤t.fl.length∧∀ k:Nat,(k:Int)∈r ↔ t.hF pre.length k=true)
theorem xZnI {b:GT} (h:b.hN=false):∀ (bs1 bs2:List GT) (i:Nat),GT.hFs false (bs1++b::bs2) i=GT.hFs false (bs1++[b]) i
 | [],bs2,i=>by funext k;simp [GT.hFs,h]
 | a::bs1,bs2,i=>by
   funext k
   rw [List.cons_append,List.cons_append,GT.hFs,GT.hFs,xZnI h bs1 bs2]
theorem xZqW {neg:Bool} {v ty:Nm} {o:Option TT}:PFi body (.leaf neg v ty o):=by
 intro pre post hb
 refine W.shift ?_
 show W (fun N=>xZ5u N (xZ4w N) _ _) _
 have hix:=xZbf (l:=body) (pre:=pre) (e:=⟨kL neg,0,0,0,v,ty,oT o⟩) (r:=post) hb
 have hlf:lfG ⟨kL neg,0,0,0,v,ty,oT o⟩=true:=by cases neg<;>rfl
 simp only [xZ5u,hix,Option.bind_some,xZ8E,hlf,cond_true,W.ret]
 refine ⟨by simp [GT.fl],fun k=>?_⟩
 rw [GT.hF,upd,List.mem_singleton]
 by_cases h:k=pre.length
 ·simp [h]
 ·simp [h];omega
theorem xZu0 {t:GT} {w:Int} (h:t.ok w) {e:xZ0} (he:t.fl=e::GT.fls t.kd) (hl:lfG e=false) {alt:Bool} (hy:alt=false ↔ e.Kind=1) (hF:∀ i,t.hF i=GT.hFs alt t.kd (i+1)) (hlen:body.length≤1000) (ih:∀ b∈t.kd,PFi body b) (ihe:∀ b∈t.kd,PEm body b):PFi body t:=by
 intro pre post hb
 have hkids:=xZnW (body:=body) h he hb hlen
 have hb':body=pre++[e]++(GT.fls t.kd++post):=by rw [hb,he];simp
 have hix:=xZbf (l:=body) (pre:=pre) (e:=e) (r:=GT.fls t.kd++post) (by rw [hb,he];simp)
 have hkl:t.kd.length≤1000:=by
  have:∀ us:List GT,us.length≤(GT.fls us).length:=fun us=>by
   induction us with
   | nil=>simp
   | cons u us ih=>
     obtain ⟨e,r,h⟩:=xZoh u
     rw [GT.fls,h];simp;omega
  have:=this t.kd
  rw [hb'] at hlen;simp at hlen;omega
 have htl:t.fl.length=(GT.fls t.kd).length+1:=by rw [he];simp
 have htb:t.fl.length≤1000:=by rw [hb] at hlen;simp at hlen;omega
 refine W.shift ?_
 show W (fun N=>xZ5u N (xZ4w N) _ _) _
 simp only [xZ5u,hix,Option.bind_some,xZ8E,hl,cond_false]
 refine W.call (N:=fun N=>N) hkids ?_
 rintro _ rfl
 refine W.lp2 (N:=fun N=>N) (P:=fun i ys=>∃ bs1 bs2,t.kd=bs1++bs2∧i=(bs1.length:Int)∧ys.length≤(GT.fls bs1).length∧(alt=false→GT.hNs bs1=true)∧∀ k:Nat,(k:Int)∈ys ↔ GT.hFs alt bs1 (pre.length+1) k=true) (m:=fun i _=>t.kd.length - i.toNat) ⟨[],t.kd,rfl,rfl,by simp,fun _=>by rw [GT.hNs],fun k=>by rw [GT.hFs];simp⟩ ?_
 rintro F i ys ⟨bs1,bs2,hbs,rfl,hyl,hns,hm⟩ next
 simp only [xZ7T,xZba]
 cases bs2 with
 | nil=>
   rw [List.append_nil] at hbs
   simp only [show ltB (bs1.length:Int) (t.kd.length:Int)=false from xZf.2 (by rw [hbs];omega),cond_false,W.ret]
   refine ⟨by rw [htl,hbs];omega,fun k=>?_⟩
   rw [hm k,hF,hbs]
 | cons b bs2=>
   have hbl:t.kd.length=bs1.length+(bs2.length+1):=by rw [hbs];simp
   obtain ⟨s1,s2,hfl⟩:=xZlP hb' hbs
   have hcall:=ih b (by rw [hbs];simp) _ _ s1
   have hcal2:=ihe b (by rw [hbs];simp) _ _ s1
   rw [s2] at hcall hcal2
   simp only [show ltB (bs1.length:Int) (t.kd.length:Int)=true from xZ9.2 (by omega),cond_true,xZn0 hbs,Option.bind_some,show i64b ((bs1.length:Int)+1)=true from xZc.2 (by omega),xZn]
   refine W.bind (W.lift hcall) ?_
   rintro r ⟨q1,q2⟩
   have hmem:∀ k:Nat,(k:Int)∈ys++r ↔ GT.hFs alt (bs1++[b]) (pre.length+1) k=true:=by
    intro k
    rw [List.mem_append,hm k,q2 k,xZmm]
    cases alt
    ·rw [hns rfl];simp
    ·simp
   have hlen2:(ys++r).length≤(GT.fls (bs1++[b])).length:=by
    rw [xZfX,List.length_append]
    have:(GT.fls [b]).length=b.fl.length:=by simp [GT.fls]
    omega
   have hlen3:ys.length+r.length≤2000:=by omega
   have go:(alt=false→b.hN=true)→W (fun p=>F p ((bs1.length:Int)+1) (ys++r)) (fun r=>r.length≤t.fl.length∧∀ k:Nat,(k:Int)∈r ↔ t.hF pre.length k=true):=by
    intro hb1
    refine next _ _ ⟨bs1++[b],bs2,by rw [hbs];simp,by simp,hlen2,fun ha=>?_,hmem⟩ (by omega)
    rw [xZkG,hns ha,hb1 ha];rfl
   simp only [W.gd]
   refine ⟨Nat.ble_eq_true_of_le (by omega),W.cond.2 ⟨fun hk=>?_,fun hk=>go fun ha=>?_⟩⟩
   ·have ha:alt=false:=hy.2 (by simpa using hk)
    subst ha
    refine W.bind (W.lift (f:=fun N=>xZ5s N body ((pre.length+1+(GT.fls bs1).length:Nat):Int)) hcal2) ?_
    rintro _ rfl
    refine W.cond.2 ⟨fun hn=>W.ret.2 ⟨?_,fun k=>?_⟩,fun hn=>go fun _=>by simpa using hn⟩
    ·rw [htl,List.length_append];omega
    ·rw [hmem k,hF,hbs,xZnI (by simpa using hn) bs1 bs2]
   ·rw [hy.1 ha] at hk;cases hk
mutual
theorem pfi (hlen:body.length≤1000):∀ (t:GT) (w:Int),t.ok w→PFi body t
 | .leaf neg v ty o,w,h=>xZqW
 | .rep lo hi a,w,h=>by
   refine xZu0 (t:=.rep lo hi a) (e:=⟨3,1,lo,hi,[],[],[]⟩) h (by simp [GT.fl,GT.kd,GT.fls]) rfl (alt:=true) ⟨fun h=>(by cases h),fun h=>(by simp at h)⟩ ?_ hlen ?_ ?_
   ·intro i;funext k;simp [GT.hF,GT.kd,GT.hFs]
   ·intro b hb;rw [List.mem_singleton.1 hb];exact pfi hlen a 3 h.2
   ·intro b hb;rw [List.mem_singleton.1 hb];exact pe hlen a 3 h.2
 | .lst alt bs,w,h=>by
   refine xZu0 (t:=.lst alt bs) (e:=⟨kA alt,(bs.length:Int),0,0,[],[],[]⟩) h rfl (by cases alt<;>rfl) (alt:=alt) (by cases alt<;>simp [kA]) ?_ hlen (pfis hlen bs (kA alt) h.2.2.2) (pes hlen bs (kA alt) h.2.2.2)
   intro i;rw [GT.hF];rfl
theorem pfis (hlen:body.length≤1000):∀ (bs:List GT) (w:Int),GT.oks bs w→∀ b∈bs,PFi body b
 | [],w,_,b,hb=>by cases hb
 | a::r,w,h,b,hb=>by
   rcases List.mem_cons.1 hb with e | hb
   ·rw [e];exact pfi hlen a w h.1
   ·exact pfis hlen r w h.2 b hb
end
theorem w_in (l:List Int) (n:Int) (hl:l.length≤10000):W (fun N=>xZ9I N l n) (·=decide (n∈l)):=by
 simp only [xZ9I]
 refine wf1 (l:=l) (fun pre=>n ∉ pre) [] rfl rfl (by omega) (by simp) ?_ ?_
 ·intro F pre x rest h1 k1 k2 k3 hp hn
  simp only [xZ9i,k1,k2,cond_true,Option.bind_some,k3,xZn]
  refine W.cond.2 ⟨fun hb=>W.ret.2 ?_,fun hb=>hn ?_⟩
  ·have hb:x=n:=by simpa using hb
   rw [h1,hb];simp
  ·have hb:¬ x=n:=by simpa using hb
   simp only [List.mem_append,List.mem_singleton]
   rintro (h | h)
   ·exact hp h
   ·exact hb h.symm
 ·intro F k1 hp
  simp only [xZ9i,k1,cond_false,W.ret]
  simp [hp]
end
mutual
def GT.sub:GT→Nat→Nat→Option GT
 | .leaf ..,_,_=>none
 | .rep _ _ a,i,j=>if j=i then some a else GT.sub a (i+1) j
 | .lst _ bs,i,j=>if j=i then none else GT.subs bs (i+1) j
def GT.subs:List GT→Nat→Nat→Option GT
 | [],_,_=>none
 | b::bs,i,j=>if j < i+b.fl.length then GT.sub b i j else GT.subs bs (i+b.fl.length) j
end
mutual
theorem xZnM:∀ (t:GT) (i j:Nat) (n:xZ0),i≤j→t.fl[j - i]?=some n→n.Kind=3→∃ a,t.sub i j=some a
 | .leaf neg v ty o,i,j,n,h0,h1,h2=>by
   rw [GT.fl] at h1
   obtain ⟨h3,h4⟩:=List.getElem?_eq_some_iff.1 h1
   have:n∈[(⟨kL neg,0,0,0,v,ty,oT o⟩:xZ0)]:=List.mem_of_getElem? h1
   rw [List.mem_singleton.1 this] at h2
   cases neg<;>simp [kL] at h2
 | .rep lo hi a,i,j,n,h0,h1,h2=>by
   rw [GT.sub]
   by_cases h:j=i
   ·exact ⟨a,by rw [if_pos h]⟩
   ·rw [if_neg h]
    refine xZnM a (i+1) j n (by omega) ?_ h2
    rw [GT.fl,show j - i=(j - (i+1))+1 by omega,List.getElem?_cons_succ] at h1
    exact h1
 | .lst alt bs,i,j,n,h0,h1,h2=>by
   rw [GT.sub]
   by_cases h:j=i
   ·subst h
    rw [GT.fl,Nat.sub_self,List.getElem?_cons_zero] at h1
    cases h1
    cases alt<;>simp [kA] at h2
   ·rw [if_neg h]
    refine xZmj bs (i+1) j n (by omega) ?_ h2
    rw [GT.fl,show j - i=(j - (i+1))+1 by omega,List.getElem?_cons_succ] at h1
    exact h1
theorem xZmj:∀ (bs:List GT) (i j:Nat) (n:xZ0),i≤j→(GT.fls bs)[j - i]?=some n→n.Kind=3→∃ a,GT.subs bs i j=some a
 | [],i,j,n,h0,h1,h2=>by rw [GT.fls] at h1;simp at h1
 | b::bs,i,j,n,h0,h1,h2=>by
   rw [GT.subs]
   rw [GT.fls] at h1
   by_cases h:j < i+b.fl.length
   ·rw [if_pos h]
    rw [List.getElem?_append_left (by omega)] at h1
    exact xZnM b i j n h0 h1 h2
   ·rw [if_neg h]
    rw [List.getElem?_append_right (by omega),show j - i - b.fl.length=j - (i+b.fl.length) by omega] at h1
    exact xZmj bs _ j n (by omega) h1 h2
end
section
variable {body:List xZ0}
mutual
theorem xZoQ:∀ (t:GT) (w:Int) (_:t.ok w) (pre post:List xZ0) (j:Nat) (a:GT),body=pre++(t.fl++post)→t.sub pre.length j=some a→pre.length≤j∧(∃ n,body[j]?=some n∧n.Kind=3)∧∃ p q w',a.ok w'∧body=p++(a.fl++q)∧p.length=j+1
 | .leaf ..,w,hw,pre,post,j,a,hb,h=>by rw [GT.sub] at h;cases h
 | .rep lo hi b,w,hw,pre,post,j,a,hb,h=>by
   rw [GT.sub] at h
   by_cases hj:j=pre.length
   ·rw [if_pos hj] at h
    cases h
    refine ⟨by omega,⟨⟨3,1,lo,hi,[],[],[]⟩,by rw [hb,hj];simp [GT.fl],rfl⟩,pre++[⟨3,1,lo,hi,[],[],[]⟩],post,3,hw.2,by rw [hb];simp [GT.fl],by simp;omega⟩
   ·rw [if_neg hj] at h
    obtain ⟨h1,h2⟩:=xZoQ b 3 hw.2 (pre++[⟨3,1,lo,hi,[],[],[]⟩]) post j a (by rw [hb];simp [GT.fl]) (by rw [List.length_append];exact h)
    rw [List.length_append] at h1
    exact ⟨by omega,h2⟩
 | .lst alt bs,w,hw,pre,post,j,a,hb,h=>by
   rw [GT.sub] at h
   split at h
   ·cases h
   ·obtain ⟨h1,h2⟩:=xZp4 bs (kA alt) hw.2.2.2 (pre++[⟨kA alt,(bs.length:Int),0,0,[],[],[]⟩]) post j a (by rw [hb];simp [GT.fl]) (by rw [List.length_append];exact h)
    rw [List.length_append] at h1
    exact ⟨by omega,h2⟩
theorem xZp4:∀ (bs:List GT) (w:Int) (_:GT.oks bs w) (pre post:List xZ0) (j:Nat) (a:GT),body=pre++(GT.fls bs++post)→GT.subs bs pre.length j=some a→pre.length≤j∧(∃ n,body[j]?=some n∧n.Kind=3)∧∃ p q w',a.ok w'∧body=p++(a.fl++q)∧p.length=j+1
 | [],w,hw,pre,post,j,a,hb,h=>by rw [GT.subs] at h;cases h
 | b::bs,w,hw,pre,post,j,a,hb,h=>by
   rw [GT.fls,List.append_assoc] at hb
   rw [GT.subs] at h
   split at h
   ·exact xZoQ b w hw.1 pre (GT.fls bs++post) j a hb h
   ·obtain ⟨h1,h2⟩:=xZp4 bs w hw.2 (pre++b.fl) post j a (by rw [hb];simp) (by rw [List.length_append];exact h)
    rw [List.length_append] at h1
    exact ⟨by omega,h2⟩
end
end
mutual
theorem xZl0:∀ (t:GT) (i j:Nat) (a:GT),t.sub i j=some a→i≤j∧j < i+t.fl.length
 | .leaf ..,i,j,a,h=>by rw [GT.sub] at h;cases h
 | .rep lo hi b,i,j,a,h=>by
   rw [GT.sub] at h
   rw [GT.fl,List.length_cons]
   split at h
   ·omega
   ·have:=xZl0 b _ _ _ h;omega
 | .lst alt bs,i,j,a,h=>by
   rw [GT.sub] at h
   rw [GT.fl,List.length_cons]
   split at h
   ·cases h
   ·have:=xZgg bs _ _ _ h;omega
theorem xZgg:∀ (bs:List GT) (i j:Nat) (a:GT),GT.subs bs i j=some a→i≤j∧j < i+(GT.fls bs).length
 | [],i,j,a,h=>by rw [GT.subs] at h;cases h
 | b::bs,i,j,a,h=>by
   rw [GT.subs] at h
   rw [GT.fls,List.length_append]
   split at h
   ·have:=xZl0 b _ _ _ h;omega
   ·have:=xZgg bs _ _ _ h;omega
end
mutual
theorem xZpY:∀ (t:GT) (i k:Nat),t.hF i k=true→i≤k∧k < i+t.fl.length
 | .leaf ..,i,k,h=>by
   rw [GT.hF,upd] at h
   split at h
   ·rw [GT.fl];simp;omega
   ·cases h
 | .rep lo hi a,i,k,h=>by
   rw [GT.hF] at h
   have:=xZpY a _ _ h
   rw [GT.fl,List.length_cons];omega
 | .lst alt bs,i,k,h=>by
   rw [GT.hF] at h
   have:=xZp1 alt bs _ _ h
   rw [GT.fl,List.length_cons];omega
theorem xZp1 (alt:Bool):∀ (bs:List GT) (i k:Nat),GT.hFs alt bs i k=true→i≤k∧k < i+(GT.fls bs).length
 | [],i,k,h=>by rw [GT.hFs] at h;cases h
 | b::bs,i,k,h=>by
   rw [GT.hFs] at h
   simp only [Bool.or_eq_true,Bool.and_eq_true] at h
   rw [GT.fls,List.length_append]
   rcases h with h | ⟨_,h⟩
   ·have:=xZpY b _ _ h;omega
   ·have:=xZp1 alt bs _ _ h;omega
end
mutual
theorem xZoi:∀ (t:GT) (i:Nat) (J:Nat→Bool) (k:Nat),t.hI i J k=true ↔ J k=true∨∃ j a,t.sub i j=some a∧a.hF (j+1) k=true
 | .leaf neg v ty o,i,J,k=>by
   rw [GT.hI]
   constructor
   ·exact .inl
   ·rintro (h | ⟨j,a,h,_⟩)
    ·exact h
    ·rw [GT.sub] at h;cases h
 | .rep lo hi b,i,J,k=>by
   simp only [GT.hI,Bool.or_eq_true,xZoi b]
   constructor
   ·rintro ((h | ⟨j,a,h1,h2⟩) | h)
    ·exact .inl h
    ·refine .inr ⟨j,a,?_,h2⟩
     have:=xZl0 b _ _ _ h1
     rw [GT.sub,if_neg (by omega)];exact h1
    ·exact .inr ⟨i,b,by rw [GT.sub,if_pos rfl],h⟩
   ·rintro (h | ⟨j,a,h1,h2⟩)
    ·exact .inl (.inl h)
    ·rw [GT.sub] at h1
     split at h1
     ·rename_i e
      cases h1
      subst e
      exact .inr h2
     ·exact .inl (.inr ⟨j,a,h1,h2⟩)
 | .lst alt bs,i,J,k=>by
   simp only [GT.hI,xZp9 bs]
   constructor
   ·rintro (h | ⟨j,a,h1,h2⟩)
    ·exact .inl h
    ·refine .inr ⟨j,a,?_,h2⟩
     have:=xZgg bs _ _ _ h1
     rw [GT.sub,if_neg (by omega)];exact h1
   ·rintro (h | ⟨j,a,h1,h2⟩)
    ·exact .inl h
    ·rw [GT.sub] at h1
     split at h1
     ·cases h1
     ·exact .inr ⟨j,a,h1,h2⟩
theorem xZp9:∀ (bs:List GT) (i:Nat) (J:Nat→Bool) (k:Nat),GT.hIs bs i J k=true ↔ J k=true∨∃ j a,GT.subs bs i j=some a∧a.hF (j+1) k=true
 | [],i,J,k=>by
   rw [GT.hIs]
   constructor
   ·exact .inl
   ·rintro (h | ⟨j,a,h,_⟩)
    ·exact h
    ·rw [GT.subs] at h;cases h
 | b::bs,i,J,k=>by
   rw [GT.hIs,xZp9 bs,xZoi b]
   constructor
   ·rintro ((h | ⟨j,a,h1,h2⟩) | ⟨j,a,h1,h2⟩)
    ·exact .inl h
    ·refine .inr ⟨j,a,?_,h2⟩
     have:=xZl0 b _ _ _ h1
     rw [GT.subs,if_pos (by omega)];exact h1
    ·refine .inr ⟨j,a,?_,h2⟩
     have:=xZgg bs _ _ _ h1
     rw [GT.subs,if_neg (by omega)];exact h1
   ·rintro (h | ⟨j,a,h1,h2⟩)
    ·exact .inl (.inl h)
    ·rw [GT.subs] at h1
     split at h1
     ·exact .inl (.inr ⟨j,a,h1,h2⟩)
     ·exact .inr ⟨j,a,h1,h2⟩
end
section
variable {body:List xZ0}
theorem w_mis {t:GT} (ht:t.ok 0) (hb:body=t.fl) (hlen:body.length≤1000) {k:Nat} (hk:k < body.length):W (fun N=>xZ3E N body (k:Int)) (·=(t.hF 0 k || t.hI 0 (fun _=>false) k)):=by
 have hb0:body=[]++(t.fl++[]):=by rw [hb];simp
 have h0:=pfi (body:=body) hlen t 0 ht [] [] hb0
 simp only [xZ3E]
 refine W.call (f:=fun N=>xZ5p N body 0) (N:=fun N=>N) h0 ?_
 rintro r ⟨q1,q2⟩
 have q2:∀ k:Nat,(k:Int)∈r ↔ t.hF 0 k=true:=q2
 have hrl:r.length≤10000:=by rw [← hb] at q1;omega
 refine W.call (N:=fun N=>N) (w_in r (k:Int) hrl) ?_
 rintro _ rfl
 refine W.cond.2 ⟨fun hx=>W.ret.2 ?_,fun hx=>?_⟩
 ·have:=(q2 k).1 (by simpa using hx)
  rw [this];rfl
 have hf:t.hF 0 k=false:=by
  cases h:t.hF 0 k with
  | false=>rfl
  | true=>
    have:=(q2 k).2 h
    simp [this] at hx
 rw [hf,Bool.false_or]
 refine W.lp1 (N:=fun N=>N) (P:=fun i=>∃ n:Nat,i=(n:Int)∧n≤k∧∀ j a,j < n→t.sub 0 j=some a→a.hF (j+1) k=false) (m:=fun i=>k - i.toNat) ⟨0,rfl,by omega,fun j a h=>by omega⟩ ?_
 rintro F i ⟨n,rfl,hn,hp⟩ next
 simp only [xZ4f]
 by_cases hlt:n < k
 ·have he:body[n]?=some body[n]:=by simp [show n < body.length by omega]
  generalize body[n]=e at he
  simp only [show ltB (n:Int) (k:Int)=true from xZ9.2 (by omega),cond_true,ix_nat',he,Option.bind_some]
  have go:(∀ a,t.sub 0 n=some a→a.hF (n+1) k=false)→W (fun p=>F p ((n:Int)+1)) (·=t.hI 0 (fun _=>false) k):=by
   intro h
   refine next _ ⟨n+1,by omega,by omega,fun j a hj hs=>?_⟩ (by omega)
   rcases Nat.lt_or_ge j n with h' | h'
   ·exact hp j a h' hs
   ·have:j=n:=by omega
    subst this
    exact h a hs
  refine W.cond.2 ⟨fun k3=>?_,fun k3=>?_⟩
  ·have k3:e.Kind=3:=by simpa using k3
   obtain ⟨a,ha⟩:=xZnM t 0 n e (by omega) (by rw [← hb];exact he) k3
   obtain ⟨_,_,p,q,w',a1,a2,a3⟩:=xZoQ t 0 ht [] [] n a hb0 ha
   have hc:=pfi hlen a w' a1 p q a2
   rw [a3] at hc
   simp only [W.gd,xZc]
   refine ⟨by omega,W.call (f:=fun N=>xZ5p N body ((n+1:Nat):Int)) (N:=fun p:Nat×Nat=>p.1) hc ?_⟩
   rintro z ⟨z1,z2⟩
   have hzl:z.length≤10000:=by
    have:a.fl.length≤body.length:=by rw [a2];simp;omega
    omega
   refine W.call (N:=fun p:Nat×Nat=>p.1) (w_in z (k:Int) hzl) ?_
   rintro _ rfl
   refine W.cond.2 ⟨fun hx=>W.ret.2 ?_,fun hx=>?_⟩
   ·exact ((xZoi t 0 _ k).2 (.inr ⟨n,a,ha,(z2 k).1 (by simpa using hx)⟩)).symm
   ·simp only [W.gd,xZc]
    refine ⟨by omega,go fun a' ha'=>?_⟩
    rw [ha] at ha'
    cases ha'
    cases h:a.hF (n+1) k with
    | false=>rfl
    | true=>
      have:=(z2 k).2 h
      simp [this] at hx
  ·simp only [W.gd,xZc]
   refine ⟨by omega,go fun a ha=>?_⟩
   obtain ⟨_,⟨n',c1,c2⟩,_⟩:=xZoQ t 0 ht [] [] n a hb0 ha
   rw [he] at c1
   cases c1
   rw [c2] at k3;cases k3
 ·have:n=k:=by omega
  subst this
  simp only [show ltB (n:Int) (n:Int)=false from xZf.2 (by omega),cond_false,W.ret]
  cases h:t.hI 0 (fun _=>false) n with
  | false=>rfl
  | true=>
    rcases (xZoi t 0 _ n).1 h with h' | ⟨j,a,h1,h2⟩
    ·cases h'
    ·have:=xZpY a _ _ h2
     have:=hp j a (by omega) h1
     rw [this] at h2;cases h2
end
end
section
mutual
theorem at_lf:∀ (t:GT) (i j:Nat) (n:xZ0),i≤j→t.fl[j - i]?=some n→lfG n=true→t.lf i j
 | .leaf neg v ty o,i,j,n,h0,h1,h2=>by
   rw [GT.fl] at h1
   obtain ⟨h3,h4⟩:=List.getElem?_eq_some_iff.1 h1
   rw [GT.lf]
   simp at h3;omega
 | .rep lo hi a,i,j,n,h0,h1,h2=>by
   rw [GT.lf]
   by_cases h:j=i
   ·subst h
    rw [GT.fl,Nat.sub_self,List.getElem?_cons_zero] at h1
    cases h1
    cases h2
   ·refine at_lf a (i+1) j n (by omega) ?_ h2
    rw [GT.fl,show j - i=(j - (i+1))+1 by omega,List.getElem?_cons_succ] at h1
    exact h1
 | .lst alt bs,i,j,n,h0,h1,h2=>by
   rw [GT.lf]
   by_cases h:j=i
   ·subst h
    rw [GT.fl,Nat.sub_self,List.getElem?_cons_zero] at h1
    cases h1
    cases alt<;>cases h2
   ·refine xZtJ bs (i+1) j n (by omega) ?_ h2
    rw [GT.fl,show j - i=(j - (i+1))+1 by omega,List.getElem?_cons_succ] at h1
    exact h1
theorem xZtJ:∀ (bs:List GT) (i j:Nat) (n:xZ0),i≤j→(GT.fls bs)[j - i]?=some n→lfG n=true→GT.lfs bs i j
 | [],i,j,n,h0,h1,h2=>by rw [GT.fls] at h1;simp at h1
 | b::bs,i,j,n,h0,h1,h2=>by
   rw [GT.lfs]
   rw [GT.fls] at h1
   by_cases h:j < i+b.fl.length
   ·rw [List.getElem?_append_left (by omega)] at h1
    exact .inl (at_lf b i j n h0 h1 h2)
   ·rw [List.getElem?_append_right (by omega),show j - i - b.fl.length=j - (i+b.fl.length) by omega] at h1
    exact .inr (xZtJ bs _ j n (by omega) h1 h2)
end
section
variable {body:List xZ0}
theorem up_of:∀ {l:List Nm},l.Pairwise (fun x y=>decide (x≤y)=true)→l.Nodup→Up l
 | [],_,_=>trivial
 | x::l,h,hn=>by
   rw [List.pairwise_cons] at h
   rw [List.nodup_cons] at hn
   refine ⟨fun y hy=>?_,up_of h.2 hn.2⟩
   have h1:x≤y:=by simpa using h.1 y hy
   rcases xZsf x y with q | q | q
   ·exact q
   ·subst q;exact absurd hy hn.1
   ·exact absurd q (List.not_lt.2 h1)
theorem xZmU {A:Nat→Bool} {L:List Nm} (h:Rel body A L) (hl:body.length≤40):sortS (bnl body A 40)=L:=by
 have hv:∀ k,A k=true→k < 40∧∃ v∈L,k=idn v body∧vrn body k=v:=by
  intro k hk
  obtain ⟨v,hv,rfl⟩:=(h.eq k).1 hk
  obtain ⟨h1,n,h2,h3⟩:=xZjM body (h.at_ v hv)
  refine ⟨by omega,v,hv,rfl,?_⟩
  simp only [isA,Bool.and_eq_true,beq_iff_eq] at h3
  simp only [vrn,h2]
  exact h3.2
 refine xZpR (up_of ?_ ?_) h.up fun v=>?_
 ·unfold sortS
  refine List.pairwise_mergeSort (fun a b c h1 h2=>?_) (fun a b=>?_) _
  ·simp only [decide_eq_true_eq] at h1 h2 ⊢
   exact List.le_trans h1 h2
  ·simp only [Bool.or_eq_true,decide_eq_true_eq]
   exact List.le_total a b
 ·unfold sortS
  refine (List.mergeSort_perm _ _).nodup_iff.2 ?_
  unfold bnl
  refine List.Pairwise.map _ (R:=fun a b=>a≠b∧A a=true∧A b=true) ?_ ?_
  ·rintro a b ⟨h1,h2,h3⟩ h4
   obtain ⟨_,v,hv1,e1,e2⟩:=hv a h2
   obtain ⟨_,u,hu1,e3,e4⟩:=hv b h3
   rw [e2,e4] at h4
   subst h4
   exact h1 (by rw [e1,e3])
  ·have:((List.range 40).filter A).Nodup:=List.Nodup.sublist List.filter_sublist List.nodup_range
   refine List.Pairwise.imp_of_mem ?_ this
   intro a b ha hb hne
   exact ⟨hne,(List.mem_filter.1 ha).2,(List.mem_filter.1 hb).2⟩
 ·unfold sortS
  rw [List.mem_mergeSort]
  unfold bnl
  rw [List.mem_map]
  constructor
  ·rintro ⟨k,hk,rfl⟩
   obtain ⟨_,u,hu,_,e⟩:=hv k (List.mem_filter.1 hk).2
   rw [e];exact hu
  ·intro hvL
   have hA:=(h.eq (idn v body)).2 ⟨v,hvL,rfl⟩
   obtain ⟨h40,u,hu,e1,e2⟩:=hv _ hA
   refine ⟨idn v body,List.mem_filter.2 ⟨by simp [h40],hA⟩,?_⟩
   rw [e2]
   exact (xZmC (h.at_ v hvL) (h.at_ u hu) e1).symm
theorem rel0:Rel body A0 []:=⟨trivial,fun v h=>(by cases h),fun k=>⟨fun h=>(by cases h),fun ⟨v,h,_⟩=>(by cases h)⟩⟩
theorem xZnk {p:xZ5} {t:GT} (hck:chkG p=0) (ho:∀ n∈p.Body,okN n.Test) (ht:t.ok 0) (hb:p.Body=t.fl) (hlen:p.Body.length≤40) {jn:Nat} (hl:t.lf 0 jn):W (fun N=>xZO N p (jn:Int)) (fun r=>Rel p.Body (t.rw p.Body 0 A0 jn) r):=by
 have hb0:p.Body=[]++(t.fl++[]):=by rw [hb];simp
 obtain ⟨n,hn,hlf⟩:=lf_at t [] [] p.Body jn hb0 hl
 have hj:jn < p.Body.length:=(List.getElem?_eq_some_iff.1 hn).1
 simp only [xZO]
 refine W.call (xZ9J p (by omega) ho) ?_
 rintro _ rfl
 simp only [hck,show ((0:Int) != 0)=false from rfl,cond_false,show ltB (jn:Int) 0=false from xZf.2 (by omega),show leB (p.Body.length:Int) (jn:Int)=false from xZdG.2 (by omega),ix_nat' p.Body,hn,Option.bind_some,xZ8E,hlf,Bool.not_true]
 have hth:=pth (j:=jn) (body:=p.Body) (by omega) t 0 ht [] [] [] hb0 (by rw [← hb];simp;omega)
 refine W.call (f:=fun N=>xZ81 N p.Body 0 [] (jn:Int)) (N:=fun N=>N) hth ?_
 rintro r ⟨_,_,h3⟩
 obtain ⟨x,x1,x2⟩:=(rel_t t 0 ht [] [] A0 [] hb0 rel0).2 jn hl
 refine W.ret.2 ?_
 rw [h3 x x1];exact x2
end
theorem w_B0 {p:xZ5} {t:GT} (hck:chkG p=0) (ho:∀ n∈p.Body,okN n.Test) (hlen:p.Body.length≤40) {j:Int} (hl:∀ n,ix p.Body j=some n→lfG n=false):W (fun N=>xZ1F N p j) (·=[])∧W (fun N=>xZO N p j) (·=[]):=by
 constructor
 ·simp only [xZ1F]
  refine W.call (N:=fun N=>N) (xZc8 p) ?_
  rintro _ rfl
  simp only [hck,show ((0:Int) != 0)=false from rfl,cond_false]
  refine W.cond.2 ⟨fun _=>W.ret.2 rfl,fun h0=>W.cond.2 ⟨fun _=>W.ret.2 rfl,fun h1=>?_⟩⟩
  obtain ⟨e,he,_⟩:=ix_lt (l:=p.Body) (xZf.1 h0) (xZdG.1 h1)
  simp only [he,Option.bind_some,xZeA,hl e he,Bool.not_false,cond_true,W.ret]
 ·simp only [xZO]
  refine W.call (xZ9J p (by omega) ho) ?_
  rintro _ rfl
  simp only [hck,show ((0:Int) != 0)=false from rfl,cond_false]
  refine W.cond.2 ⟨fun _=>W.ret.2 rfl,fun h0=>W.cond.2 ⟨fun _=>W.ret.2 rfl,fun h1=>?_⟩⟩
  obtain ⟨e,he,_⟩:=ix_lt (l:=p.Body) (xZf.1 h0) (xZdG.1 h1)
  simp only [he,Option.bind_some,xZ8E,hl e he,Bool.not_false,cond_true,W.ret]
theorem w_B1 {p:xZ5} (hck:chkG p≠0) (ho:∀ n∈p.Body,okN n.Test) (hlen:p.Body.length≤1000) (j:Int):W (fun N=>xZ1F N p j) (·=[])∧W (fun N=>xZO N p j) (·=[]):=by
 have hz:(chkG p != 0)=true:=by simpa using hck
 constructor
 ·simp only [xZ1F]
  refine W.call (N:=fun N=>N) (xZc8 p) ?_
  rintro _ rfl
  simp only [hz,cond_true,W.ret]
 ·simp only [xZO]
  refine W.call (xZ9J p (by omega) ho) ?_
  rintro _ rfl
  simp only [hz,cond_true,W.ret]
theorem w_BB (p:xZ5) (ho:∀ n∈p.Body,okN n.Test) (hlen:p.Body.length≤50) (j:Int):∃ x:List Nm,x.length≤40∧W (fun N=>xZ1F N p j) (·=x)∧W (fun N=>xZO N p j) (·=x):=by
 by_cases hck:chkG p=0
 ·obtain ⟨q1,q2,q3,q4,q5,t,q6,q7,q8⟩:=xZl4 ho hck
  by_cases hl:∃ n,ix p.Body j=some n∧lfG n=true
  ·obtain ⟨n,h1,h2⟩:=hl
   have hj:0≤j:=by
    rcases Int.lt_or_le j 0 with h | h
    ·have:ix p.Body j=none:=by simp only [ix];rw [if_neg (by omega)]
     rw [this] at h1;cases h1
    ·exact h
   obtain ⟨jn,rfl⟩:=Int.eq_ofNat_of_zero_le hj
   have hlf:t.lf 0 jn:=at_lf t 0 jn n (by omega) (by rw [← q8,Nat.sub_zero,← ix_nat'];exact h1) h2
   have hB:=xZs0 hck q6 q8 q1 hlf
   have hR:=xZnk hck ho q6 q8 q1 hlf
   refine ⟨_,?_,hB,hR.mp fun x hx=>(xZmU hx q1).symm⟩
   rw [sortS,List.length_mergeSort]
   exact xZkI _ _
  ·have:=w_B0 (t:=t) hck ho q1 (j:=j) fun n hn=>by
    cases h:lfG n with
    | false=>rfl
    | true=>exact absurd ⟨n,hn,h⟩ hl
   exact ⟨[],by simp,this.1,this.2⟩
 ·have:=w_B1 hck ho (by omega) j
  exact ⟨[],by simp,this.1,this.2⟩
theorem xZtu (a:List Nm) (ha:a.length≤1000):W (fun N=>xZ2x N a a) (·=true):=by
 simp only [xZ2x,show ((a.length:Int) != (a.length:Int))=false by simp,cond_false]
 refine wf1 (l:=a) (fun pre=>True) [] rfl rfl (by omega) trivial ?_ ?_
 ·intro F pre x rest h1 k1 k2 k3 hp hn
  simp only [xZ2F,k1,k2,cond_true,Option.bind_some,k3,xZn,beq_self_eq_true,Bool.not_true,cond_false]
  exact hn trivial
 ·intro F k1 hp
  simp only [xZ2F,k1,cond_false,W.ret]
end
section
def ffi:List xZ0→Nat
 | []=>0
 | n::l=>if lfG n then 0 else ffi l+1
theorem xZqx:∀ {l:List xZ0} {k:Nat} {n:xZ0},l[k]?=some n→lfG n=true→ffi l≤k
 | [],k,n,h,_=>by simp at h
 | a::l,k,n,h,hl=>by
   rw [ffi]
   split
   ·omega
   ·cases k with
    | zero=>rw [List.getElem?_cons_zero] at h;cases h;contradiction
    | succ k=>
      rw [List.getElem?_cons_succ] at h
      have:=xZqx h hl;omega
theorem xZoG:∀ {l:List xZ0} {k:Nat} {n:xZ0},l[k]?=some n→lfG n=true→∃ m,l[ffi l]?=some m∧lfG m=true
 | [],k,n,h,_=>by simp at h
 | a::l,k,n,h,hl=>by
   rw [ffi]
   split
   ·rename_i ha;exact ⟨a,rfl,ha⟩
   ·cases k with
    | zero=>rw [List.getElem?_cons_zero] at h;cases h;contradiction
    | succ k=>
      rw [List.getElem?_cons_succ] at h
      obtain ⟨m,h1,h2⟩:=xZoG h hl
      exact ⟨m,by rw [List.getElem?_cons_succ];exact h1,h2⟩
theorem xZpb {e:xZ0} {post:List xZ0} (he:lfG e=true):∀ pre:List xZ0,(∀ n∈pre,lfG n=false)→ffi (pre++e::post)=pre.length
 | [],_=>by simp [ffi,he]
 | a::pre,h=>by
   rw [List.cons_append,ffi,if_neg (by rw [h a (by simp)];simp),xZpb he pre fun n hn=>h n (by simp [hn])];rfl
theorem xZqA (l:List xZ0) (hl:l.length≤1000):W (fun N=>xZx N l) (fun r=>(∃ n∈l,lfG n=true)→r=(ffi l:Int)):=by
 simp only [xZx]
 refine wf1 (l:=l) (fun pre=>∀ n∈pre,lfG n=false) [] rfl rfl (by omega) (by simp) ?_ ?_
 ·intro F pre e rest h1 k1 k2 k3 hp hn
  simp only [xZr,k1,k2,Option.bind_some,cond_true,xZeA,k3,xZn]
  refine W.cond.2 ⟨fun he=>W.ret.2 fun _=>?_,fun hf=>hn fun n h=>?_⟩
  ·rw [h1,xZpb he pre hp]
  ·rcases List.mem_append.1 h with h | h
   ·exact hp n h
   ·rw [List.mem_singleton.1 h];exact hf
 ·intro F k1 hp
  simp only [xZr,k1,cond_false,W.ret]
  rintro ⟨n,h1,h2⟩
  rw [hp n h1] at h2;cases h2
def nmT (types:List xZ1) (By:Nm) (e ef:xZ0):Int:=bif !(fnd e.Type_ types).2 then 6 else bif By==[] then 0 else bif ltB (fld By 0 (fnd e.Type_ types).1.Fields).1 0 then 19 else bif (fld By 0 (fnd e.Type_ types).1.Fields).2 != (fld By 0 (fnd ef.Type_ types).1.Fields).2 then 19 else 0
def nmE (types:List xZ1) (By:Nm) (body:List xZ0) (at_:Nat) (e ef:xZ0):Int:=bif (body.take at_).any fun m=>lfG m&&m.Var==e.Var then 21 else nmT types By e ef
section
variable {body y6:List xZ0} {y2 y4:Int} {y3:List UInt8} {y5:List xZ1} {y7:A40 (A40 Bool)}
theorem xZqh (hs:small y5) (hlen:body.length≤40) {at_ fi:Nat} {e ef:xZ0} (he:body[at_]?=some e) (hf:body[fi]?=some ef):W (fun N=>xZ1i N (at_:Int) (fi:Int) body y2 y3 y4 y5 y6 y7) (·=(nmE y5 y3 body at_ e ef,body,y2,y3,y4,y5,y6,y7)):=by
 have hat:at_ < body.length:=(List.getElem?_eq_some_iff.1 he).1
 simp only [xZ1i,ix_nat',he,Option.bind_some,W.gd,xZI,Int.toNat_natCast]
 refine ⟨by omega,by omega,?_⟩
 have hl:(List.take at_ body).length=at_:=by rw [List.length_take];omega
 refine wf1 (l:=List.take at_ body) (fun pre=>(pre.any fun m=>lfG m&&m.Var==e.Var)=false) [] rfl rfl (by omega) (by simp) ?_ ?_
 ·intro F pre m rest h1 k1 k2 k3 hp hn
  simp only [xZ10,k1,k2,Option.bind_some,cond_true,xZeA,k3,xZn]
  have hn':(lfG m&&m.Var==e.Var)=false→((pre++[m]).any fun m=>lfG m&&m.Var==e.Var)=false:=fun hm=>by
   rw [List.any_append,hp];simp only [List.any_cons,List.any_nil,hm];rfl
  refine W.cond.2 ⟨fun hlf=>W.cond.2 ⟨fun hv=>W.ret.2 ?_,fun hv=>hn (hn' (by rw [hv,Bool.and_false]))⟩,fun hlf=>hn (hn' (by rw [hlf,Bool.false_and]))⟩
  have:((List.take at_ body).any fun m=>lfG m&&m.Var==e.Var)=true:=by
   rw [h1,List.any_append];simp only [List.any_cons,hlf,hv];simp
  rw [nmE,this];rfl
 ·intro F k1 hp
  rw [nmE,hp,cond_false,nmT]
  simp only [xZ10,k1,cond_false]
  refine W.call (N:=fun p:Nat×Nat=>p.1) (xZkO hs he) ?_
  rintro _ rfl
  refine W.cond.2 ⟨fun h=>W.ret.2 (by simp only [h,cond_true]),fun h=>W.cond.2 ⟨fun h2=>W.ret.2 (by simp only [h,h2,cond_true,cond_false]),fun h2=>?_⟩⟩
  simp only [h,h2,cond_false]
  refine W.call (N:=fun p:Nat×Nat=>p.1) (xZkO hs hf) ?_
  rintro _ rfl
  refine W.call (N:=fun p:Nat×Nat=>p.1) (xZ4d _ _ (xZdi hs _)) ?_
  rintro _ rfl
  refine W.call (N:=fun p:Nat×Nat=>p.1) (xZ4d _ _ (xZdi hs _)) ?_
  rintro _ rfl
  refine W.cond.2 ⟨fun h3=>W.ret.2 (by simp only [h3,cond_true]),fun h3=>W.cond.2 ⟨fun h4=>W.ret.2 (by simp only [h3,h4,cond_true,cond_false]),fun h4=>W.ret.2 (by simp only [h3,h4,cond_false])⟩⟩
theorem w_rnT {ι:Type} [Lim ι] (N:ι→Nat) [Tends N] (hs:small y5) {e ef:xZ0}:W (fun i=>(xZ29 (N i) y5 e.Type_).bind fun find=>bif !find.2 then some 6 else (xZ29 (N i) y5 ef.Type_).bind fun find2=>(xZ3v (N i) find.1 y3).bind fun vat2=>(xZ3v (N i) find2.1 y3).bind fun vat3=>bif (!(y3==[])) then bif (ltB vat2.1 0) then some 19 else bif (vat2.2 != vat3.2) then some 19 else some (0:Int) else some 0) (·=nmT y5 y3 e ef):=by
 refine W.call (N:=N) (xZ9e y5 _ hs) ?_
 rintro _ rfl
 rw [nmT]
 refine W.cond.2 ⟨fun h=>W.ret.2 (by simp only [h,cond_true]),fun h=>?_⟩
 simp only [h,cond_false]
 refine W.call (N:=N) (xZ9e y5 _ hs) ?_
 rintro _ rfl
 refine W.call (N:=N) (xZbP _ _ (xZdi hs _)) ?_
 rintro _ rfl
 refine W.call (N:=N) (xZbP _ _ (xZdi hs _)) ?_
 rintro _ rfl
 refine W.cond.2 ⟨fun h2=>?_,fun h2=>W.ret.2 ?_⟩
 ·have h2:(y3==[])=false:=by simpa using h2
  simp only [h2,cond_false]
  refine W.cond.2 ⟨fun h3=>W.ret.2 (by simp only [h3,cond_true]),fun h3=>W.cond.2 ⟨fun h4=>W.ret.2 (by simp only [h3,h4,cond_true,cond_false]),fun h4=>W.ret.2 (by simp only [h3,h4,cond_false])⟩⟩
 ·have h2:(y3==[])=true:=by simpa using h2
  simp only [h2,cond_true]
theorem xZrd {f:xZ0→Bool} {at_ n:Nat} {m:xZ0} (h:n < at_) (hm:body[n]?=some m) (hf:f m=true):(body.take at_).any f=true:=by
 rw [List.any_eq_true]
 exact ⟨m,List.mem_of_getElem? (i:=n) (by rw [List.getElem?_take_of_lt h];exact hm),hf⟩
theorem xZhw {f:xZ0→Bool} {n:Nat} {m:xZ0} (hm:body[n]?=some m) (h:(body.take n).any f=false) (hf:f m=false):(body.take (n+1)).any f=false:=by
 rw [List.take_add_one,hm,List.any_append,h];simp [hf]
theorem xZq5 {p:xZ5} (hs:small y5) (hlen:p.Body.length≤40) {at_:Nat} {e ef:xZ0} (he:p.Body[at_]?=some e) (hl:lfG e=true) (hf:p.Body[ffi p.Body]?=some ef):W (fun N=>xZ7s N p y5 (at_:Int)) (·=nmE y5 p.By p.Body at_ e ef):=by
 have hat:at_ < p.Body.length:=(List.getElem?_eq_some_iff.1 he).1
 have hfi:=xZqx he hl
 obtain ⟨ef',hf',hfl⟩:=xZoG he hl
 rw [hf] at hf'
 cases hf'
 simp only [xZ7s]
 refine W.lp2 (N:=fun N=>N) (P:=fun first i=>∃ n:Nat,i=(n:Int)∧n≤at_∧((p.Body.take n).any fun m=>lfG m&&m.Var==e.Var)=false∧first=if ffi p.Body < n then (ffi p.Body:Int) else -1) (m:=fun _ i=>at_ - i.toNat) ⟨0,rfl,by omega,by simp,by simp⟩ ?_
 rintro F first i ⟨n,rfl,hn,hp,rfl⟩ next
 simp only [xZ88]
 by_cases hlt:n < at_
 ·have hb:p.Body[n]?=some p.Body[n]:=by simp [show n < p.Body.length by omega]
  generalize p.Body[n]=m at hb
  have hi:i64b ((n:Int)+1)=true:=xZc.2 (by omega)
  simp only [show ltB (n:Int) (at_:Int)=true from xZ9.2 (by omega),cond_true,ix_nat',hb,he,Option.bind_some,xZ8E,hi,xZn]
  have hit:lfG m=true→(m.Var==e.Var)=true→nmE y5 p.By p.Body at_ e ef=21:=fun h1 h2=>by
   rw [nmE,xZrd hlt hb (by rw [h1,h2];rfl)];rfl
  have no:(lfG m&&m.Var==e.Var)=false→((p.Body.take (n+1)).any fun m=>lfG m&&m.Var==e.Var)=false:=fun h=>xZhw hb hp h
  refine W.cond.2 ⟨fun hm=>?_,fun hm=>?_⟩
  ·have hle:=xZqx hb hm
   by_cases hff:ffi p.Body < n
   ·simp only [if_pos hff,show ltB (ffi p.Body:Int) 0=false from xZf.2 (by omega),cond_false]
    refine W.cond.2 ⟨fun hv=>W.ret.2 (hit hm hv).symm,fun hv=>next _ _ ⟨n+1,by omega,by omega,no (by rw [hv,Bool.and_false]),by rw [if_pos (by omega)]⟩ (by omega)⟩
   ·simp only [if_neg hff,show ltB (-1) 0=true from rfl,cond_true]
    refine W.cond.2 ⟨fun hv=>W.ret.2 (hit hm hv).symm,fun hv=>next _ _ ⟨n+1,by omega,by omega,no (by rw [hv,Bool.and_false]),by rw [if_pos (by omega)];omega⟩ (by omega)⟩
  ·refine next _ _ ⟨n+1,by omega,by omega,no (by rw [hm,Bool.false_and]),?_⟩ (by omega)
   have:ffi p.Body≠n:=fun h=>by
    rw [h,hb] at hf
    cases hf
    rw [hm] at hfl;cases hfl
   by_cases hff:ffi p.Body < n
   ·rw [if_pos hff,if_pos (by omega)]
   ·rw [if_neg hff,if_neg (by omega)]
 ·have:n=at_:=by omega
  subst this
  rw [nmE,hp,cond_false]
  simp only [show ltB (n:Int) (n:Int)=false from xZf.2 (by omega),cond_false,ix_nat',he,Option.bind_some]
  by_cases hff:ffi p.Body < n
  ·simp only [if_pos hff,show ltB (ffi p.Body:Int) 0=false from xZf.2 (by omega),cond_false,ix_nat',hf,Option.bind_some]
   exact w_rnT (fun p:Nat×Nat=>p.1) hs
  ·have:ffi p.Body=n:=by omega
   rw [this,he] at hf
   cases hf
   simp only [if_neg hff,show ltB (-1) 0=true from rfl,cond_true]
   exact w_rnT (fun p:Nat×Nat=>p.1) hs
def tyO (types:List xZ1) (body:List xZ0) (v:Nm):xZ1:=match body[idn v body]? with
 | some m=>(fnd m.Type_ types).1
 | none=>⟨[],[]⟩
def kdE (types:List xZ1) (body:List xZ0) (e:xZ0) (n:xZ2):Int:=bif n.Kind==8 then (fld n.Name 0 (tyO types body n.Var).Fields).2 else (fld n.Name 0 (fnd e.Type_ types).1.Fields).2
theorem xZnK {v:Nm}:∀ {l:List xZ0},(∀ n∈l,isA n v=false)→idn v l=l.length
 | [],_=>rfl
 | a::l,h=>by
   rw [idn,if_neg (by rw [h a (by simp)];simp),xZnK fun n hn=>h n (by simp [hn])];rfl
theorem xZri (hs:small y5) (v:Nm):(tyO y5 body v).Fields.length≤1000:=by
 unfold tyO
 split
 ·exact xZdi hs _
 ·simp
theorem xZqb {p:xZ5} (hs:small y5) (hlen:p.Body.length≤40) (v:Nm):W (fun N=>xZ66 N p y5 v) (·=tyO y5 p.Body v):=by
 simp only [xZ66]
 refine wf1 (l:=p.Body) (fun pre=>∀ n∈pre,isA n v=false) [] rfl rfl (by omega) (by simp) ?_ ?_
 ·intro F pre m rest h1 k1 k2 k3 hp hn
  simp only [xZ4b,k1,k2,Option.bind_some,cond_true,k3,xZn]
  have go:isA m v=false→∀ n∈pre++[m],isA n v=false:=fun h n hn=>by
   rcases List.mem_append.1 hn with hn | hn
   ·exact hp n hn
   ·rw [List.mem_singleton.1 hn];exact h
  refine W.cond.2 ⟨fun hk=>W.cond.2 ⟨fun hv=>?_,fun hv=>hn (go (by rw [isA,hv,Bool.and_false]))⟩,fun hk=>hn (go (by rw [isA,hk,Bool.false_and]))⟩
  have hA:isA m v=true:=by rw [isA,hk,hv];rfl
  refine W.call (N:=fun p:Nat×Nat=>p.1) (xZ9e y5 _ hs) ?_
  rintro _ rfl
  refine W.ret.2 ?_
  have:p.Body[idn v p.Body]?=some m:=by rw [h1,xZqt hA pre hp];simp
  rw [tyO,this]
 ·intro F k1 hp
  simp only [xZ4b,k1,cond_false,W.ret]
  have:p.Body[idn v p.Body]?=none:=by rw [xZnK hp];simp
  rw [tyO,this]
theorem xZjc {p:xZ5} (hs:small y5) (hlen:p.Body.length≤40) {at_:Nat} {e:xZ0} (he:p.Body[at_]?=some e) (n:xZ2):W (fun N=>xZ1D N p y5 (at_:Int) n) (·=kdE y5 p.Body e n):=by
 simp only [xZ1D,ix_nat',he,Option.bind_some]
 refine W.call (N:=fun N=>N) (xZ9e y5 _ hs) ?_
 rintro _ rfl
 rw [kdE]
 refine W.cond.2 ⟨fun hk=>?_,fun hk=>?_⟩
 ·refine W.call (N:=fun N=>N) (xZqb hs hlen n.Var) ?_
  rintro _ rfl
  refine W.call (N:=fun N=>N) (xZbP _ _ (xZri hs _)) ?_
  rintro _ rfl
  refine W.ret.2 ?_
  rw [hk];rfl
 ·refine W.call (N:=fun N=>N) (xZbP _ _ (xZdi hs _)) ?_
  rintro _ rfl
  refine W.ret.2 ?_
  rw [hk];rfl
def scE (body:List xZ0) (A:Nat→Bool) (v:Nm):Bool:=(body.any fun m=>isA m v)&&A (idn v body)
def fdE (types:List xZ1) (body:List xZ0) (A:Nat→Bool) (e:xZ0) (n:xZ2):Int×Int:=bif n.Kind==8&&!(scE body A n.Var) then (0,14) else bif kdE types body e n==0 then (0,19) else (kdE types body e n,0)
theorem xZkx (hs:small y5) (hlen:body.length≤40) {at_:Nat} {e:xZ0} (he:body[at_]?=some e) (n:xZ2):W (fun N=>xZd N (at_:Int) n body y2 y3 y4 y5 y6 y7) (·=((fdE y5 body (gm y7 at_) e n).1,(fdE y5 body (gm y7 at_) e n).2,body,y2,y3,y4,y5,y6,y7)):=by
 have hat:at_ < body.length:=(List.getElem?_eq_some_iff.1 he).1
 have hat':at_ < 40:=by omega
 simp only [xZd]
 refine W.cond.2 ⟨fun hk=>?_,fun hk=>?_⟩
 ·refine W.call (N:=fun N=>N) (w_id body n.Var (by omega)) ?_
  rintro r (⟨rfl,h⟩ | ⟨rfl,h⟩)
  ·simp only [show ltB (-1) 0=true from rfl,cond_true,W.ret]
   have:(body.any fun m=>isA m n.Var)=false:=by
    rw [List.any_eq_false];intro x hx;rw [h x hx];simp
   rw [fdE,scE,hk,this];rfl
  ·obtain ⟨i1,m,i2,i3⟩:=xZjM body h
   have hid:idn n.Var body < 40:=by omega
   have hany:(body.any fun m=>isA m n.Var)=true:=by
    obtain ⟨x,hx,hx'⟩:=h
    rw [List.any_eq_true];exact ⟨x,hx,hx'⟩
   simp only [show ltB (idn n.Var body:Int) 0=false from xZf.2 (by omega),cond_false,show leB 0 (at_:Int)=true from xZI.2 (by omega),show ltB (at_:Int) 40=true from xZ9.2 (by omega),show leB 0 (idn n.Var body:Int)=true from xZI.2 (by omega),show ltB (idn n.Var body:Int) 40=true from xZ9.2 (by omega),xZn,ix_l y7 hat' (A40.c false),Option.bind_some,ix_l _ hid false]
   have hS:scE body (gm y7 at_) n.Var=(y7.l.getD at_ (A40.c false)).l.getD (idn n.Var body) false:=by rw [scE,hany];rfl
   rw [fdE,hS,hk]
   refine W.cond.2 ⟨fun hy=>W.ret.2 ?_,fun hy=>?_⟩
   ·rw [hy];rfl
   rw [hy]
   simp only [Bool.and_false,cond_false]
   refine W.call (N:=fun N=>N) (xZkO hs i2) ?_
   rintro _ rfl
   refine W.call (N:=fun N=>N) (xZ4d _ _ (xZdi hs _)) ?_
   rintro _ rfl
   have hkd:kdE y5 body e n=(fld n.Name 0 (fnd m.Type_ y5).1.Fields).2:=by
    rw [kdE,hk,tyO,i2];rfl
   rw [hkd]
   refine W.cond.2 ⟨fun h=>W.ret.2 (by simp only [h,cond_true]),fun h=>W.ret.2 (by simp only [h,cond_false])⟩
 ·refine W.call (N:=fun N=>N) (xZkO hs he) ?_
  rintro _ rfl
  refine W.call (N:=fun N=>N) (xZ4d _ _ (xZdi hs _)) ?_
  rintro _ rfl
  have hkd:kdE y5 body e n=(fld n.Name 0 (fnd e.Type_ y5).1.Fields).2:=by
   rw [kdE,hk];rfl
  rw [fdE,hk,hkd]
  simp only [Bool.false_and,cond_false]
  refine W.cond.2 ⟨fun h=>W.ret.2 (by simp only [h,cond_true]),fun h=>W.ret.2 (by simp only [h,cond_false])⟩
end
end
end Go.Proofs.YtbioikdfpfafaaaGreatDoor.T
