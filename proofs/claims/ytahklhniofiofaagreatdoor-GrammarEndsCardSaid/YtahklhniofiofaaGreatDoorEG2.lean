/- fault.New, walked. No premise beyond what each theorem says. -/
import Derived.Test.YtahklhniofiofaaGreatDoorEG1
import Derived.WalkKit
import Derived.LaidEql
import Derived.Stop.Asserts
import Derived.RowKitTokens
import Derived.Lib.Walk
import Derived.Lib.SliceRun
import Derived.Lib.AppendZerosOnto
import Derived.WalkLawsBesides
import Derived.Deep.RegionHeld3
set_option linter.all false
set_option linter.unusedSimpArgs false
set_option linter.unusedVariables false
namespace Go.Proofs.YtahklhniofiofaaGreatDoor.E
open Go
open Go.Proofs.Tryz
set_option maxRecDepth 1000000
set_option linter.unusedSimpArgs false
set_option linter.unusedVariables false
noncomputable section
theorem hm:prog.follows .mixedOrders=true:=by kernel_rfl
def eA0 (x:xZ0):AV:=.agg [.v (.int .u8 x.Kind),.v (.int .i64 x.At),.v (.string (bs x.Text)),.v (.int .u8 x.Val.Kind),.v (.int .i64 x.Val.N),.v (.int .u64 x.Val.Bits),.v (.string (bs x.Val.Text))]
def eA1 (x:xZ4):AV:=.agg [.v (.int .u8 x.Kind),.v (.int .i64 x.N),.v (.int .u64 x.Bits),.v (.string (bs x.Text))]
def eA2 (x:Int):AV:=.v (.int .u8 x)
def eA3 (x:xZ2):AV:=.agg [.v (.int .u8 x.Kind),.v (.int .u8 x.Op),.v (.string (bs x.Var)),.v (.string (bs x.Name)),.v (.int .u8 x.Val.Kind),.v (.int .i64 x.Val.N),.v (.int .u64 x.Val.Bits),.v (.string (bs x.Val.Text))]
def eA4 (x:List xZ2):AV:=.sl 8 (List.map eA3 x)
def eA5 (x:xZ1):AV:=.agg [.v (.int .u8 x.Kind),.v (.int .i64 x.Kids),.v (.int .i64 x.Lo),.v (.int .i64 x.Hi),.v (.string (bs x.Var)),.v (.string (bs x.Type_)),.sl 8 (List.map eA3 x.Test)]
def eA6 (x:xZ5):AV:=.agg [.sl 7 (List.map eA5 x.Body),.v (.int .i64 x.Within),.v (.string (bs x.By)),.v (.int .u8 x.Mode)]
def eA7 (x:xZ3s):AV:=.agg [.v (.int .i64 x.E),.v (.int .i64 x.At)]
def eA8 (x:List UInt8):AV:=.v (.string (bs x))
def eA9 (x:xZ62):AV:=.agg [.sl 7 (List.map eA0 x.l),.v (.int .i64 x.at_),.v (.int .i64 x.end_),.v (.int .i64 x.f.E),.v (.int .i64 x.f.At)]
def eA10 (x:xZ60):AV:=.agg [.sl 7 (List.map eA0 x.L),.v (.int .i64 x.At),.v (.int .i64 x.End),.v (.int .i64 x.F.E),.v (.int .i64 x.F.At)]
def eA11 (x:List xZ1):AV:=.sl 7 (List.map eA5 x)
abbrev T:Nat→Type
 | 0=>xZ0
 | 1=>xZ4
 | 2=>Int
 | 3=>xZ2
 | 4=>List xZ2
 | 5=>xZ1
 | 6=>xZ5
 | 7=>xZ3s
 | 8=>List UInt8
 | 9=>xZ62
 | 10=>xZ60
 | 11=>List xZ1
 | _=>Unit
def enc:(i:Nat)→T i→List (BV T)
 | 0=>fun (x:xZ0)=>[.int .u8 x.Kind,.int .i64 x.At,.str x.Text,.int .u8 x.Val.Kind,.int .i64 x.Val.N,.int .u64 x.Val.Bits,.str x.Val.Text]
 | 1=>fun (x:xZ4)=>[.int .u8 x.Kind,.int .i64 x.N,.int .u64 x.Bits,.str x.Text]
 | 2=>fun (x:Int)=>[.int .u8 x]
 | 3=>fun (x:xZ2)=>[.int .u8 x.Kind,.int .u8 x.Op,.str x.Var,.str x.Name,.int .u8 x.Val.Kind,.int .i64 x.Val.N,.int .u64 x.Val.Bits,.str x.Val.Text]
 | 4=>fun (x:List xZ2)=>[.sl 3 x]
 | 5=>fun (x:xZ1)=>[.int .u8 x.Kind,.int .i64 x.Kids,.int .i64 x.Lo,.int .i64 x.Hi,.str x.Var,.str x.Type_,.sl 3 x.Test]
 | 6=>fun (x:xZ5)=>[.sl 5 x.Body,.int .i64 x.Within,.str x.By,.int .u8 x.Mode]
 | 7=>fun (x:xZ3s)=>[.int .i64 x.E,.int .i64 x.At]
 | 8=>fun (x:List UInt8)=>[.str x]
 | 9=>fun (x:xZ62)=>[.sl 0 x.l,.int .i64 x.at_,.int .i64 x.end_,.int .i64 x.f.E,.int .i64 x.f.At]
 | 10=>fun (x:xZ60)=>[.sl 0 x.L,.int .i64 x.At,.int .i64 x.End,.int .i64 x.F.E,.int .i64 x.F.At]
 | 11=>fun (x:List xZ1)=>[.sl 5 x]
 | _=>fun _=>[]
def dec0:List (BV T)→Option xZ0:=P1 (asInt .u8) fun a0=>P1 (asInt .i64) fun a1=>P1 asStr fun a2=>P1 (asInt .u8) fun a3=>P1 (asInt .i64) fun a4=>P1 (asInt .u64) fun a5=>P1 asStr fun a6=>P0 (⟨a0,a1,a2,⟨a3,a4,a5,a6⟩⟩:xZ0)
def dec1:List (BV T)→Option xZ4:=P1 (asInt .u8) fun a0=>P1 (asInt .i64) fun a1=>P1 (asInt .u64) fun a2=>P1 asStr fun a3=>P0 (⟨a0,a1,a2,a3⟩:xZ4)
def dec2:List (BV T)→Option Int:=P1 (asInt .u8) fun a0=>P0 (a0:Int)
def dec3:List (BV T)→Option xZ2:=P1 (asInt .u8) fun a0=>P1 (asInt .u8) fun a1=>P1 asStr fun a2=>P1 asStr fun a3=>P1 (asInt .u8) fun a4=>P1 (asInt .i64) fun a5=>P1 (asInt .u64) fun a6=>P1 asStr fun a7=>P0 (⟨a0,a1,a2,a3,⟨a4,a5,a6,a7⟩⟩:xZ2)
def dec4:List (BV T)→Option (List xZ2):=P1 (asRow 3) fun a0=>P0 (a0:List xZ2)
def dec5:List (BV T)→Option xZ1:=P1 (asInt .u8) fun a0=>P1 (asInt .i64) fun a1=>P1 (asInt .i64) fun a2=>P1 (asInt .i64) fun a3=>P1 asStr fun a4=>P1 asStr fun a5=>P1 (asRow 3) fun a6=>P0 (⟨a0,a1,a2,a3,a4,a5,a6⟩:xZ1)
def dec6:List (BV T)→Option xZ5:=P1 (asRow 5) fun a0=>P1 (asInt .i64) fun a1=>P1 asStr fun a2=>P1 (asInt .u8) fun a3=>P0 (⟨a0,a1,a2,a3⟩:xZ5)
def dec7:List (BV T)→Option xZ3s:=P1 (asInt .i64) fun a0=>P1 (asInt .i64) fun a1=>P0 (⟨a0,a1⟩:xZ3s)
def dec8:List (BV T)→Option (List UInt8):=P1 asStr fun a0=>P0 (a0:List UInt8)
def dec9:List (BV T)→Option xZ62:=P1 (asRow 0) fun a0=>P1 (asInt .i64) fun a1=>P1 (asInt .i64) fun a2=>P1 (asInt .i64) fun a3=>P1 (asInt .i64) fun a4=>P0 (⟨a0,a1,a2,⟨a3,a4⟩⟩:xZ62)
def dec10:List (BV T)→Option xZ60:=P1 (asRow 0) fun a0=>P1 (asInt .i64) fun a1=>P1 (asInt .i64) fun a2=>P1 (asInt .i64) fun a3=>P1 (asInt .i64) fun a4=>P0 (⟨a0,a1,a2,⟨a3,a4⟩⟩:xZ60)
def dec11:List (BV T)→Option (List xZ1):=P1 (asRow 5) fun a0=>P0 (a0:List xZ1)
def dec:(i:Nat)→List (BV T)→Option (T i)
 | 0=>dec0
 | 1=>dec1
 | 2=>dec2
 | 3=>dec3
 | 4=>dec4
 | 5=>dec5
 | 6=>dec6
 | 7=>dec7
 | 8=>dec8
 | 9=>dec9
 | 10=>dec10
 | 11=>dec11
 | _=>fun _=>none
def eA:(i:Nat)→T i→AV
 | 0=>eA0
 | 1=>eA1
 | 2=>eA2
 | 3=>eA3
 | 4=>eA4
 | 5=>eA5
 | 6=>eA6
 | 7=>eA7
 | 8=>eA8
 | 9=>eA9
 | 10=>eA10
 | 11=>eA11
 | _=>fun _=>.agg []
def tb:Tb T:={k:=fun i=>[7,4,1,8,1,7,4,2,1,5,5,1].getD i 0,ag:=fun i=>[true,true,false,true,false,true,true,true,false,true,true,false].getD i true,eA,enc,dec}
def sbf (k:Nat):Option (List UInt8→(i:Nat)×List (T i)):=match Nat.beq k 1 with
 | true=>some fun s=>⟨2,bints s⟩
 | false=>none
theorem sb_ok (k:Nat) (f:List UInt8→(i:Nat)×List (T i)) (s:List UInt8) (h:sbf k=some f):k=1∧tb.k (f s).1=1∧(f s).2.map (tb.eA (f s).1)=s.map byteV:=by
 unfold sbf at h
 split at h
 ·rename_i hk;cases h;exact ⟨Nat.eq_of_beq_eq_true hk,rfl,(xZk6 s).symm⟩
 ·cases h
def bof:(i:Nat)→List (T i)→Option (List UInt8)
 | 2=>fun (l:List Int)=>some (byS l)
 | _=>fun _=>none
theorem bo_ok (i:Nat) (l:List (T i)) (s:List UInt8) (h:bof i l=some s):tb.k i=1∧∃ m:List Int,l.map (tb.eA i)=m.map u8V∧s=byS m:=by
 unfold bof at h
 split at h
 ·cases h;exact ⟨rfl,_,rfl,rfl⟩
 ·cases h
theorem xZnQ (cs:List (BV T)) (x:xZ0) (h:dec0 cs=some x):LWs (BV.avs tb cs) (eA0 x).cells:=by
 obtain ⟨c0,r0,a0,rfl,h0,h⟩:=xZ19 h
 obtain ⟨c1,r1,a1,rfl,h1,h⟩:=xZ19 h
 obtain ⟨c2,r2,a2,rfl,h2,h⟩:=xZ19 h
 obtain ⟨c3,r3,a3,rfl,h3,h⟩:=xZ19 h
 obtain ⟨c4,r4,a4,rfl,h4,h⟩:=xZ19 h
 obtain ⟨c5,r5,a5,rfl,h5,h⟩:=xZ19 h
 obtain ⟨c6,r6,a6,rfl,h6,h⟩:=xZ19 h
 obtain ⟨rfl,rfl⟩:=xZ9a h
 exact .cons (xZ1v h0) (.cons (xZ1v h1) (.cons (xZ7x h2) (.cons (xZ1v h3) (.cons (xZ1v h4) (.cons (xZ1v h5) (.cons (xZ7x h6) (.nil)))))))
theorem xZpl (cs:List (BV T)) (x:xZ4) (h:dec1 cs=some x):LWs (BV.avs tb cs) (eA1 x).cells:=by
 obtain ⟨c0,r0,a0,rfl,h0,h⟩:=xZ19 h
 obtain ⟨c1,r1,a1,rfl,h1,h⟩:=xZ19 h
 obtain ⟨c2,r2,a2,rfl,h2,h⟩:=xZ19 h
 obtain ⟨c3,r3,a3,rfl,h3,h⟩:=xZ19 h
 obtain ⟨rfl,rfl⟩:=xZ9a h
 exact .cons (xZ1v h0) (.cons (xZ1v h1) (.cons (xZ1v h2) (.cons (xZ7x h3) (.nil))))
theorem xZnL (cs:List (BV T)) (x:Int) (h:dec2 cs=some x):LWs (BV.avs tb cs) (eA2 x).cells:=by
 obtain ⟨c0,r0,a0,rfl,h0,h⟩:=xZ19 h
 obtain ⟨rfl,rfl⟩:=xZ9a h
 exact .cons (xZ1v h0) (.nil)
theorem xZpj (cs:List (BV T)) (x:xZ2) (h:dec3 cs=some x):LWs (BV.avs tb cs) (eA3 x).cells:=by
 obtain ⟨c0,r0,a0,rfl,h0,h⟩:=xZ19 h
 obtain ⟨c1,r1,a1,rfl,h1,h⟩:=xZ19 h
 obtain ⟨c2,r2,a2,rfl,h2,h⟩:=xZ19 h
 obtain ⟨c3,r3,a3,rfl,h3,h⟩:=xZ19 h
 obtain ⟨c4,r4,a4,rfl,h4,h⟩:=xZ19 h
 obtain ⟨c5,r5,a5,rfl,h5,h⟩:=xZ19 h
 obtain ⟨c6,r6,a6,rfl,h6,h⟩:=xZ19 h
 obtain ⟨c7,r7,a7,rfl,h7,h⟩:=xZ19 h
 obtain ⟨rfl,rfl⟩:=xZ9a h
 exact .cons (xZ1v h0) (.cons (xZ1v h1) (.cons (xZ7x h2) (.cons (xZ7x h3) (.cons (xZ1v h4) (.cons (xZ1v h5) (.cons (xZ1v h6) (.cons (xZ7x h7) (.nil))))))))
theorem xZot (cs:List (BV T)) (x:List xZ2) (h:dec4 cs=some x):LWs (BV.avs tb cs) (eA4 x).cells:=by
 obtain ⟨c0,r0,a0,rfl,h0,h⟩:=xZ19 h
 obtain ⟨rfl,rfl⟩:=xZ9a h
 exact .cons (xZap h0) (.nil)
theorem xZpz (cs:List (BV T)) (x:xZ1) (h:dec5 cs=some x):LWs (BV.avs tb cs) (eA5 x).cells:=by
 obtain ⟨c0,r0,a0,rfl,h0,h⟩:=xZ19 h
 obtain ⟨c1,r1,a1,rfl,h1,h⟩:=xZ19 h
 obtain ⟨c2,r2,a2,rfl,h2,h⟩:=xZ19 h
 obtain ⟨c3,r3,a3,rfl,h3,h⟩:=xZ19 h
 obtain ⟨c4,r4,a4,rfl,h4,h⟩:=xZ19 h
 obtain ⟨c5,r5,a5,rfl,h5,h⟩:=xZ19 h
 obtain ⟨c6,r6,a6,rfl,h6,h⟩:=xZ19 h
 obtain ⟨rfl,rfl⟩:=xZ9a h
 exact .cons (xZ1v h0) (.cons (xZ1v h1) (.cons (xZ1v h2) (.cons (xZ1v h3) (.cons (xZ7x h4) (.cons (xZ7x h5) (.cons (xZap h6) (.nil)))))))
theorem xZoD (cs:List (BV T)) (x:xZ5) (h:dec6 cs=some x):LWs (BV.avs tb cs) (eA6 x).cells:=by
 obtain ⟨c0,r0,a0,rfl,h0,h⟩:=xZ19 h
 obtain ⟨c1,r1,a1,rfl,h1,h⟩:=xZ19 h
 obtain ⟨c2,r2,a2,rfl,h2,h⟩:=xZ19 h
 obtain ⟨c3,r3,a3,rfl,h3,h⟩:=xZ19 h
 obtain ⟨rfl,rfl⟩:=xZ9a h
 exact .cons (xZap h0) (.cons (xZ1v h1) (.cons (xZ7x h2) (.cons (xZ1v h3) (.nil))))
theorem xZnV (cs:List (BV T)) (x:xZ3s) (h:dec7 cs=some x):LWs (BV.avs tb cs) (eA7 x).cells:=by
 obtain ⟨c0,r0,a0,rfl,h0,h⟩:=xZ19 h
 obtain ⟨c1,r1,a1,rfl,h1,h⟩:=xZ19 h
 obtain ⟨rfl,rfl⟩:=xZ9a h
 exact .cons (xZ1v h0) (.cons (xZ1v h1) (.nil))
theorem xZnz (cs:List (BV T)) (x:List UInt8) (h:dec8 cs=some x):LWs (BV.avs tb cs) (eA8 x).cells:=by
 obtain ⟨c0,r0,a0,rfl,h0,h⟩:=xZ19 h
 obtain ⟨rfl,rfl⟩:=xZ9a h
 exact .cons (xZ7x h0) (.nil)
theorem xZpB (cs:List (BV T)) (x:xZ62) (h:dec9 cs=some x):LWs (BV.avs tb cs) (eA9 x).cells:=by
 obtain ⟨c0,r0,a0,rfl,h0,h⟩:=xZ19 h
 obtain ⟨c1,r1,a1,rfl,h1,h⟩:=xZ19 h
 obtain ⟨c2,r2,a2,rfl,h2,h⟩:=xZ19 h
 obtain ⟨c3,r3,a3,rfl,h3,h⟩:=xZ19 h
 obtain ⟨c4,r4,a4,rfl,h4,h⟩:=xZ19 h
 obtain ⟨rfl,rfl⟩:=xZ9a h
 exact .cons (xZap h0) (.cons (xZ1v h1) (.cons (xZ1v h2) (.cons (xZ1v h3) (.cons (xZ1v h4) (.nil)))))
theorem xZmG (cs:List (BV T)) (x:xZ60) (h:dec10 cs=some x):LWs (BV.avs tb cs) (eA10 x).cells:=by
 obtain ⟨c0,r0,a0,rfl,h0,h⟩:=xZ19 h
 obtain ⟨c1,r1,a1,rfl,h1,h⟩:=xZ19 h
 obtain ⟨c2,r2,a2,rfl,h2,h⟩:=xZ19 h
 obtain ⟨c3,r3,a3,rfl,h3,h⟩:=xZ19 h
 obtain ⟨c4,r4,a4,rfl,h4,h⟩:=xZ19 h
 obtain ⟨rfl,rfl⟩:=xZ9a h
 exact .cons (xZap h0) (.cons (xZ1v h1) (.cons (xZ1v h2) (.cons (xZ1v h3) (.cons (xZ1v h4) (.nil)))))
theorem xZmD (cs:List (BV T)) (x:List xZ1) (h:dec11 cs=some x):LWs (BV.avs tb cs) (eA11 x).cells:=by
 obtain ⟨c0,r0,a0,rfl,h0,h⟩:=xZ19 h
 obtain ⟨rfl,rfl⟩:=xZ9a h
 exact .cons (xZap h0) (.nil)
theorem tb_ok:tb.Ok where
 enc:=fun i x=>match i with | 0=>(by kernel_rfl) | 1=>(by kernel_rfl) | 2=>(by kernel_rfl) | 3=>(by kernel_rfl) | 4=>(by kernel_rfl) | 5=>(by kernel_rfl) | 6=>(by kernel_rfl) | 7=>(by kernel_rfl) | 8=>(by kernel_rfl) | 9=>(by kernel_rfl) | 10=>(by kernel_rfl) | 11=>(by kernel_rfl) | n+12=>(by kernel_rfl)
 len:=fun i x=>match i with | 0=>(by kernel_rfl) | 1=>(by kernel_rfl) | 2=>(by kernel_rfl) | 3=>(by kernel_rfl) | 4=>(by kernel_rfl) | 5=>(by kernel_rfl) | 6=>(by kernel_rfl) | 7=>(by kernel_rfl) | 8=>(by kernel_rfl) | 9=>(by kernel_rfl) | 10=>(by kernel_rfl) | 11=>(by kernel_rfl) | n+12=>(by kernel_rfl)
 one:=fun i x=>match i with | 0=>(by kernel_rfl) | 1=>(by kernel_rfl) | 2=>(by kernel_rfl) | 3=>(by kernel_rfl) | 4=>(by kernel_rfl) | 5=>(by kernel_rfl) | 6=>(by kernel_rfl) | 7=>(by kernel_rfl) | 8=>(by kernel_rfl) | 9=>(by kernel_rfl) | 10=>(by kernel_rfl) | 11=>(by kernel_rfl) | n+12=>(by kernel_rfl)
 dat:=fun i x=>match i with | 0=>(by kernel_rfl) | 1=>(by kernel_rfl) | 2=>(by kernel_rfl) | 3=>(by kernel_rfl) | 4=>(by kernel_rfl) | 5=>(by kernel_rfl) | 6=>(by kernel_rfl) | 7=>(by kernel_rfl) | 8=>(by kernel_rfl) | 9=>(by kernel_rfl) | 10=>(by kernel_rfl) | 11=>(by kernel_rfl) | n+12=>(by kernel_rfl)
 sg:=fun i x h=>match i with | 0=>(by cases h) | 1=>(by cases h) | 2=>(by kernel_rfl) | 3=>(by cases h) | 4=>(by kernel_rfl) | 5=>(by cases h) | 6=>(by cases h) | 7=>(by cases h) | 8=>(by kernel_rfl) | 9=>(by cases h) | 10=>(by cases h) | 11=>(by kernel_rfl) | n+12=>(by cases h)
 ag:=fun i x h=>match i with | 0=>(by kernel_rfl) | 1=>(by kernel_rfl) | 2=>(by cases h) | 3=>(by kernel_rfl) | 4=>(by cases h) | 5=>(by kernel_rfl) | 6=>(by kernel_rfl) | 7=>(by kernel_rfl) | 8=>(by cases h) | 9=>(by kernel_rfl) | 10=>(by kernel_rfl) | 11=>(by cases h) | n+12=>(by kernel_rfl)
 dec:=fun i=>match i with | 0=>xZnQ | 1=>xZpl | 2=>xZnL | 3=>xZpj | 4=>xZot | 5=>xZpz | 6=>xZoD | 7=>xZnV | 8=>xZnz | 9=>xZpB | 10=>xZmG | 11=>xZmD | n+12=>fun cs x h=>(by cases h)
 el:=fun i x R K r h=>by cases h
 fd:=fun i ty v x h=>by cases h
def dropD:Code→Code
 | .seq a (.seq _ r)=>.seq a r
 | c=>c
def fB22:Func:={ f22 with body:=f22.body.map dropD }
def xZ63:Con tb:=.p 23 [true,true] (.c (.i .i64) (.c (.i .i64) .n)) (fun N a=>xZR N a.1 a.2.1) (R:=Unit⊕(Int×Int)) (.or (.p .ni) (.m (R:=Int×Int) (.ifc 84 (.dp (.c (.i .i64) (.c (.i .i64) .n)))) .n .n (fun z=>(z.1.1,z.1.2.1)) (fun r=>((r.1,r.2,()),(),())) (fun _=>rfl))) (fun r=>by rcases r with _ | _<;>exact rfl)
def xZ9V:Con tb:=.s 86 [true] (.c (.i .u8) .n) (fun N a=>xZ3t N a.1) (R:=Bool) (.p .b) (fun _=>⟨rfl,(by kernel_rfl)⟩)
def xZ11:Con tb:=.m 89 [false,true] (.c (.ptr 0 0) (.c (.i .i64) .n)) (.c (.c .s (.c (.i .i64) (.c (.own 0) .n))) .n) (.l 0 .n) (fun N a=>xZ8 N a.1.2.1 a.2.1.1.1 a.2.1.1.2.1 a.2.2.1) (R:=(List UInt8×Int×List xZ0)⊕(Int×Int×List UInt8×Int×List xZ0)) (.or (.m (R:=List UInt8×Int×List xZ0) .ni (.c (.c .s (.c (.i .i64) (.c (.own 0) .n))) .n) (.l 0 .n) (fun z=>(z.2.1.1.1,z.2.1.1.2.1,z.2.2.1)) (fun r=>((),((r.1,r.2.1,(),()),()),r.2.2,())) (fun _=>rfl)) (.m (R:=Int×Int×List UInt8×Int×List xZ0) (.ifc 84 (.dp (.c (.i .i64) (.c (.i .i64) .n)))) (.c (.c .s (.c (.i .i64) (.c (.own 0) .n))) .n) (.l 0 .n) (fun z=>(z.1.1,z.1.2.1,z.2.1.1.1,z.2.1.1.2.1,z.2.2.1)) (fun r=>((r.1,r.2.1,()),((r.2.2.1,r.2.2.2.1,(),()),()),r.2.2.2.2,())) (fun _=>rfl)))
def xZ89:Con tb:=.s 87 [true] (.c (.i .u8) .n) (fun N a=>xZ3a N a.1) (R:=Bool) (.p .b) (fun _=>⟨rfl,(by kernel_rfl)⟩)
def xZch:Con tb:=.s 120 [true] (.c (.i .u8) .n) (fun N a=>xZb0 N a.1) (R:=Bool) (.p .b) (fun _=>⟨rfl,(by kernel_rfl)⟩)
def xZ38:Con tb:=.m 119 [false,false] (.c (.ptr 0 0) (.c (.fn 120 .n .n) .n)) (.c (.c .s (.c (.i .i64) (.c (.own 0) .n))) .n) (.l 0 .n) (fun N a=>xZ2b N a.2.1.1.1 a.2.1.1.2.1 a.2.2.1) (R:=Int×List UInt8×Int×List xZ0) (.m (R:=Int×List UInt8×Int×List xZ0) (.i .i64) (.c (.c .s (.c (.i .i64) (.c (.own 0) .n))) .n) (.l 0 .n) (fun z=>(z.1,z.2.1.1.1,z.2.1.1.2.1,z.2.2.1)) (fun r=>(r.1,((r.2.1,r.2.2.1,(),()),()),r.2.2.2,())) (fun _=>rfl))
def xZ1Q:LQ tb (((List UInt8)×Int×(List xZ0))×(Int)):=(LQ.m [] [0,1,5] (.c 0 (.ptr 0 0) (.c 1 (.fn 120 .n .n) (.c 5 (.i .i64) .n))) (.c (.c .s (.c (.i .i64) (.c (.own 0) .n))) .n) (.l 0 .n)).re (fun a=>((a.2.1.1.1,a.2.1.1.2.1,a.2.2.1),a.1.2.2.1)) (fun x=>(((),((),()),x.2,()),((x.1.1,x.1.2.1,(),()),()),x.1.2.2,())) (fun _=>rfl)
def xZ46 (N:Nat) (c:(List UInt8)×Int×(List xZ0)) (next:Int→Option (Int×List UInt8×Int×List xZ0)) (v:Int):Option (Int×List UInt8×Int×List xZ0):=xZ2C N c.1 c.2.1 c.2.2 (fun u0=>next u0) v
abbrev xZ6L (N:Nat):((List UInt8)×Int×(List xZ0))×(Int)→Option (Int×List UInt8×Int×List xZ0):=fun a=>loopV (xZ46 N a.1) N a.2
def xZ8W:Con tb:=.s 122 [true] (.c .b .n) (fun N a=>xZ8y N a.1) (R:=xZ4) (.p (.el tb_ok 1)) (fun _=>⟨rfl,(by kernel_rfl)⟩)
def xZ16:Con tb:=.m 121 [false,true,true,true,true] (.c (.ptr 0 0) (.c (.i .i64) (.c (.i .u8) (.c .s (.c (.el tb_ok 1) .n))))) (.c (.c .s (.c (.i .i64) (.c (.own 0) .n))) .n) (.l 0 .n) (fun N a=>xZc N a.1.2.1 a.1.2.2.1 a.1.2.2.2.1 a.1.2.2.2.2.1 a.2.1.1.1 a.2.1.1.2.1 a.2.2.1) (R:=List UInt8×Int×List xZ0) (.m (R:=List UInt8×Int×List xZ0) .ni (.c (.c .s (.c (.i .i64) (.c (.own 1) .n))) .n) (.d (.l 0 .n)) (fun z=>(z.2.1.1.1,z.2.1.1.2.1,z.2.2.1)) (fun r=>((),((r.1,r.2.1,(),()),()),r.2.2,())) (fun _=>rfl))
def xZ4p:Con tb:=.s 83 [true] (.c .s .n) (fun N a=>xZ2g N a.1) (R:=Bool) (.p .b) (fun _=>⟨rfl,(by kernel_rfl)⟩)
def xZ3y:Con tb:=.m 90 [false] (.c (.ptr 0 0) .n) (.c (.c .s (.c (.i .i64) (.c (.own 0) .n))) .n) (.l 0 .n) (fun N a=>xZO N a.2.1.1.1 a.2.1.1.2.1 a.2.2.1) (R:=(List UInt8×Int×List xZ0)⊕(List UInt8×Int×List xZ0)⊕(Int×Int×List UInt8×Int×List xZ0)) (.or (.m (R:=List UInt8×Int×List xZ0) .ni (.c (.c .s (.c (.i .i64) (.c (.own 1) .n))) .n) (.d (.l 0 .n)) (fun z=>(z.2.1.1.1,z.2.1.1.2.1,z.2.2.1)) (fun r=>((),((r.1,r.2.1,(),()),()),r.2.2,())) (fun _=>rfl)) (.or (.m (R:=List UInt8×Int×List xZ0) .ni (.c (.c .s (.c (.i .i64) (.c (.own 0) .n))) .n) (.l 0 .n) (fun z=>(z.2.1.1.1,z.2.1.1.2.1,z.2.2.1)) (fun r=>((),((r.1,r.2.1,(),()),()),r.2.2,())) (fun _=>rfl)) (.m (R:=Int×Int×List UInt8×Int×List xZ0) (.ifc 84 (.dp (.c (.i .i64) (.c (.i .i64) .n)))) (.c (.c .s (.c (.i .i64) (.c (.own 0) .n))) .n) (.l 0 .n) (fun z=>(z.1.1,z.1.2.1,z.2.1.1.1,z.2.1.1.2.1,z.2.2.1)) (fun r=>((r.1,r.2.1,()),((r.2.2.1,r.2.2.2.1,(),()),()),r.2.2.2.2,())) (fun _=>rfl))))
def xZ3b:Con tb:=.m 119 [false,false] (.c (.ptr 0 0) (.c (.fn 87 .n .n) .n)) (.c (.c .s (.c (.i .i64) (.c (.own 0) .n))) .n) (.l 0 .n) (fun N a=>xZ2e N a.2.1.1.1 a.2.1.1.2.1 a.2.2.1) (R:=Int×List UInt8×Int×List xZ0) (.m (R:=Int×List UInt8×Int×List xZ0) (.i .i64) (.c (.c .s (.c (.i .i64) (.c (.own 0) .n))) .n) (.l 0 .n) (fun z=>(z.1,z.2.1.1.1,z.2.1.1.2.1,z.2.2.1)) (fun r=>(r.1,((r.2.1,r.2.2.1,(),()),()),r.2.2.2,())) (fun _=>rfl))
def xZ1U:LQ tb (((List UInt8)×Int×(List xZ0))×(Int)):=(LQ.m [] [0,1,5] (.c 0 (.ptr 0 0) (.c 1 (.fn 87 .n .n) (.c 5 (.i .i64) .n))) (.c (.c .s (.c (.i .i64) (.c (.own 0) .n))) .n) (.l 0 .n)).re (fun a=>((a.2.1.1.1,a.2.1.1.2.1,a.2.2.1),a.1.2.2.1)) (fun x=>(((),((),()),x.2,()),((x.1.1,x.1.2.1,(),()),()),x.1.2.2,())) (fun _=>rfl)
def xZ43 (N:Nat) (c:(List UInt8)×Int×(List xZ0)) (next:Int→Option (Int×List UInt8×Int×List xZ0)) (v:Int):Option (Int×List UInt8×Int×List xZ0):=xZ2I N c.1 c.2.1 c.2.2 (fun u0=>next u0) v
abbrev xZ6X (N:Nat):((List UInt8)×Int×(List xZ0))×(Int)→Option (Int×List UInt8×Int×List xZ0):=fun a=>loopV (xZ43 N a.1) N a.2
def xZ7b:Con tb:=.s 78 [true] (.c (.i .i64) .n) (fun N a=>xZ5p N a.1) (R:=xZ4) (.p (.el tb_ok 1)) (fun _=>⟨rfl,(by kernel_rfl)⟩)
def xZ3d:Con tb:=.m 91 [false] (.c (.ptr 0 0) .n) (.c (.c .s (.c (.i .i64) (.c (.own 0) .n))) .n) (.l 0 .n) (fun N a=>xZD N a.2.1.1.1 a.2.1.1.2.1 a.2.2.1) (R:=(List UInt8×Int×List xZ0)⊕(Int×Int×List UInt8×Int×List xZ0)⊕(List UInt8×Int×List xZ0)) (.or (.m (R:=List UInt8×Int×List xZ0) .ni (.c (.c .s (.c (.i .i64) (.c (.own 0) .n))) .n) (.l 0 .n) (fun z=>(z.2.1.1.1,z.2.1.1.2.1,z.2.2.1)) (fun r=>((),((r.1,r.2.1,(),()),()),r.2.2,())) (fun _=>rfl)) (.or (.m (R:=Int×Int×List UInt8×Int×List xZ0) (.ifc 84 (.dp (.c (.i .i64) (.c (.i .i64) .n)))) (.c (.c .s (.c (.i .i64) (.c (.own 0) .n))) .n) (.l 0 .n) (fun z=>(z.1.1,z.1.2.1,z.2.1.1.1,z.2.1.1.2.1,z.2.2.1)) (fun r=>((r.1,r.2.1,()),((r.2.2.1,r.2.2.2.1,(),()),()),r.2.2.2.2,())) (fun _=>rfl)) (.m (R:=List UInt8×Int×List xZ0) .ni (.c (.c .s (.c (.i .i64) (.c (.own 1) .n))) .n) (.d (.l 0 .n)) (fun z=>(z.2.1.1.1,z.2.1.1.2.1,z.2.2.1)) (fun r=>((),((r.1,r.2.1,(),()),()),r.2.2,())) (fun _=>rfl))))
def xZ1T:LQ tb ((Int×Int×(List UInt8)×Int×(List xZ0))×(Int×Int)):=(LQ.m [] [0,3,4,25,26] (.c 0 (.ptr 0 0) (.c 3 (.i .i64) (.c 4 (.i .i64) (.c 25 (.i .i64) (.c 26 (.i .i64) .n))))) (.c (.c .s (.c (.i .i64) (.c (.own 0) .n))) .n) (.l 0 .n)).re (fun a=>((a.1.2.1,a.1.2.2.2.1,a.2.1.1.1,a.2.1.1.2.1,a.2.2.1),(a.1.2.2.1,a.1.2.2.2.2.1))) (fun x=>(((),x.1.1,x.2.1,x.1.2.1,x.2.2,()),((x.1.2.2.1,x.1.2.2.2.1,(),()),()),x.1.2.2.2.2,())) (fun _=>rfl)
def xZ3V (N:Nat) (c:Int×Int×(List UInt8)×Int×(List xZ0)) (next:(Int×Int)→Option ((List UInt8×Int×List xZ0)⊕(Int×Int×List UInt8×Int×List xZ0)⊕(List UInt8×Int×List xZ0))) (v:Int×Int):Option ((List UInt8×Int×List xZ0)⊕(Int×Int×List UInt8×Int×List xZ0)⊕(List UInt8×Int×List xZ0)):=xZ1b N c.1 c.2.1 c.2.2.1 c.2.2.2.1 c.2.2.2.2 (fun u0 u1=>next (u0,u1)) v.1 v.2
abbrev xZ6t (N:Nat):(Int×Int×(List UInt8)×Int×(List xZ0))×(Int×Int)→Option ((List UInt8×Int×List xZ0)⊕(Int×Int×List UInt8×Int×List xZ0)⊕(List UInt8×Int×List xZ0)):=fun a=>loopV (xZ3V N a.1) N a.2
def xZ3u:Con tb:=.s 118 [true,true] (.c .s (.c (.i .u8) .n)) (fun N a=>xZ2y N a.1 a.2.1) (R:=Int) (.p (.i .i64)) (fun _=>⟨rfl,(by kernel_rfl)⟩)
def xZ2R:Con tb:=.s 88 [true,true] (.c .s (.c (.i .u8) .n)) (fun N a=>xZ1y N a.1 a.2.1) (R:=Int) (.p (.i .i64)) (fun _=>⟨rfl,(by kernel_rfl)⟩)
def xZ8L:Con tb:=.s 123 [true] (.c (.i .u8) .n) (fun N a=>xZ58 N a.1) (R:=Int) (.p (.i .i64)) (fun _=>⟨rfl,(by kernel_rfl)⟩)
def xZem:Con tb:=.s 149 [true] (.c (.i .u64) .n) (fun N a=>xZe0 N a.1) (R:=Nat) (.p (.f .f64)) (fun _=>⟨rfl,(by kernel_rfl)⟩)
def xZ6d:Con tb:=.s 124 [true] (.c (.i .u64) .n) (fun N a=>xZ5b N a.1) (R:=Int) (.p (.i .u64)) (fun _=>⟨rfl,(by kernel_rfl)⟩)
def xZ8J:Con tb:=.s 125 [true] (.c (.i .u64) .n) (fun N a=>xZ8D N a.1) (R:=xZ4) (.p (.el tb_ok 1)) (fun _=>⟨rfl,(by kernel_rfl)⟩)
def xZ3c:Con tb:=.m 92 [false] (.c (.ptr 0 0) .n) (.c (.c .s (.c (.i .i64) (.c (.own 0) .n))) .n) (.l 0 .n) (fun N a=>xZC N a.2.1.1.1 a.2.1.1.2.1 a.2.2.1) (R:=(List UInt8×Int×List xZ0)⊕(Int×Int×List UInt8×Int×List xZ0)⊕(List UInt8×Int×List xZ0)) (.or (.m (R:=List UInt8×Int×List xZ0) .ni (.c (.c .s (.c (.i .i64) (.c (.own 0) .n))) .n) (.l 0 .n) (fun z=>(z.2.1.1.1,z.2.1.1.2.1,z.2.2.1)) (fun r=>((),((r.1,r.2.1,(),()),()),r.2.2,())) (fun _=>rfl)) (.or (.m (R:=Int×Int×List UInt8×Int×List xZ0) (.ifc 84 (.dp (.c (.i .i64) (.c (.i .i64) .n)))) (.c (.c .s (.c (.i .i64) (.c (.own 0) .n))) .n) (.l 0 .n) (fun z=>(z.1.1,z.1.2.1,z.2.1.1.1,z.2.1.1.2.1,z.2.2.1)) (fun r=>((r.1,r.2.1,()),((r.2.2.1,r.2.2.2.1,(),()),()),r.2.2.2.2,())) (fun _=>rfl)) (.m (R:=List UInt8×Int×List xZ0) .ni (.c (.c .s (.c (.i .i64) (.c (.own 1) .n))) .n) (.d (.l 0 .n)) (fun z=>(z.2.1.1.1,z.2.1.1.2.1,z.2.2.1)) (fun r=>((),((r.1,r.2.1,(),()),()),r.2.2,())) (fun _=>rfl))))
def xZ1N:LQ tb (((List UInt8)×Int×(List xZ0))×(Int×Int)):=(LQ.m [] [0,3,19] (.c 0 (.ptr 0 0) (.c 3 (.i .u64) (.c 19 (.i .i64) .n))) (.c (.c .s (.c (.i .i64) (.c (.own 0) .n))) .n) (.l 0 .n)).re (fun a=>((a.2.1.1.1,a.2.1.1.2.1,a.2.2.1),(a.1.2.1,a.1.2.2.1))) (fun x=>(((),x.2.1,x.2.2,()),((x.1.1,x.1.2.1,(),()),()),x.1.2.2,())) (fun _=>rfl)
def xZ42 (N:Nat) (c:(List UInt8)×Int×(List xZ0)) (next:(Int×Int)→Option ((List UInt8×Int×List xZ0)⊕(Int×Int×List UInt8×Int×List xZ0)⊕(List UInt8×Int×List xZ0))) (v:Int×Int):Option ((List UInt8×Int×List xZ0)⊕(Int×Int×List UInt8×Int×List xZ0)⊕(List UInt8×Int×List xZ0)):=xZ2G N c.1 c.2.1 c.2.2 (fun u0 u1=>next (u0,u1)) v.1 v.2
abbrev xZ6p (N:Nat):((List UInt8)×Int×(List xZ0))×(Int×Int)→Option ((List UInt8×Int×List xZ0)⊕(Int×Int×List UInt8×Int×List xZ0)⊕(List UInt8×Int×List xZ0)):=fun a=>loopV (xZ42 N a.1) N a.2
def xZ31:Con tb:=.m 126 [false,true] (.c (.ptr 0 0) (.c (.i .i64) .n)) (.c (.c .s (.c (.i .i64) (.c (.own 0) .n))) .n) (.l 0 .n) (fun N a=>xZ22 N a.1.2.1 a.2.1.1.1 a.2.1.1.2.1 a.2.2.1) (R:=Int×Bool×List UInt8×Int×List xZ0) (.m (R:=Int×Bool×List UInt8×Int×List xZ0) (.tu (.c (.i .u8) (.o .b))) (.c (.c .s (.c (.i .i64) (.c (.own 0) .n))) .n) (.l 0 .n) (fun z=>(z.1.1,z.1.2,z.2.1.1.1,z.2.1.1.2.1,z.2.2.1)) (fun r=>((r.1,r.2.1),((r.2.2.1,r.2.2.2.1,(),()),()),r.2.2.2.2,())) (fun _=>rfl))
def xZ8H:Con tb:=.s 127 [true] (.c .s .n) (fun N a=>xZ4V N a.1) (R:=xZ4) (.p (.el tb_ok 1)) (fun _=>⟨rfl,(by kernel_rfl)⟩)
def xZ3f:Con tb:=.m 93 [false] (.c (.ptr 0 0) .n) (.c (.c .s (.c (.i .i64) (.c (.own 0) .n))) .n) (.l 0 .n) (fun N a=>xZB N a.2.1.1.1 a.2.1.1.2.1 a.2.2.1) (R:=(List UInt8×Int×List xZ0)⊕(Int×Int×List UInt8×Int×List xZ0)⊕(List UInt8×Int×List xZ0)) (.or (.m (R:=List UInt8×Int×List xZ0) .ni (.c (.c .s (.c (.i .i64) (.c (.own 0) .n))) .n) (.l 0 .n) (fun z=>(z.2.1.1.1,z.2.1.1.2.1,z.2.2.1)) (fun r=>((),((r.1,r.2.1,(),()),()),r.2.2,())) (fun _=>rfl)) (.or (.m (R:=Int×Int×List UInt8×Int×List xZ0) (.ifc 84 (.dp (.c (.i .i64) (.c (.i .i64) .n)))) (.c (.c .s (.c (.i .i64) (.c (.own 0) .n))) .n) (.l 0 .n) (fun z=>(z.1.1,z.1.2.1,z.2.1.1.1,z.2.1.1.2.1,z.2.2.1)) (fun r=>((r.1,r.2.1,()),((r.2.2.1,r.2.2.2.1,(),()),()),r.2.2.2.2,())) (fun _=>rfl)) (.m (R:=List UInt8×Int×List xZ0) .ni (.c (.c .s (.c (.i .i64) (.c (.own 1) .n))) .n) (.d (.l 0 .n)) (fun z=>(z.2.1.1.1,z.2.1.1.2.1,z.2.2.1)) (fun r=>((),((r.1,r.2.1,(),()),()),r.2.2,())) (fun _=>rfl))))
def xZ1R:LQ tb ((Unit)×(Int×(List UInt8)×Int×(List xZ0)×(List Int))):=(LQ.m [(3,none,2)] [0,3,4,5] (.c 0 (.ptr 0 0) (.c 3 (.own 1) (.c 4 (.i .i64) (.c 5 (.lb false) .n)))) (.c (.c .s (.c (.i .i64) (.c (.own 0) .n))) .n) (.l 0 (.l 2 .n))).re (fun a=>((),(a.1.2.2.1,a.2.1.1.1,a.2.1.1.2.1,a.2.2.1,a.2.2.2.1))) (fun x=>(((),(),x.2.1,(),()),((x.2.2.1,x.2.2.2.1,(),()),()),x.2.2.2.2.1,x.2.2.2.2.2,())) (fun _=>rfl)
def xZ47 (N:Nat) (c:Unit) (next:(Int×(List UInt8)×Int×(List xZ0)×(List Int))→Option ((List UInt8×Int×List xZ0)⊕(Int×Int×List UInt8×Int×List xZ0)⊕(List UInt8×Int×List xZ0))) (v:Int×(List UInt8)×Int×(List xZ0)×(List Int)):Option ((List UInt8×Int×List xZ0)⊕(Int×Int×List UInt8×Int×List xZ0)⊕(List UInt8×Int×List xZ0)):=xZ2B N (fun u0 u1 u2 u3 u4=>next (u0,u1,u2,u3,u4)) v.1 v.2.1 v.2.2.1 v.2.2.2.1 v.2.2.2.2
abbrev xZ6V (N:Nat):(Unit)×(Int×(List UInt8)×Int×(List xZ0)×(List Int))→Option ((List UInt8×Int×List xZ0)⊕(Int×Int×List UInt8×Int×List xZ0)⊕(List UInt8×Int×List xZ0)):=fun a=>loopV (xZ47 N a.1) N a.2
def xZ3z:Con tb:=.m 94 [false] (.c (.ptr 0 0) .n) (.c (.c .s (.c (.i .i64) (.c (.own 0) .n))) .n) (.l 0 .n) (fun N a=>xZP N a.2.1.1.1 a.2.1.1.2.1 a.2.2.1) (R:=List UInt8×Int×List xZ0) (.m (R:=List UInt8×Int×List xZ0) .ni (.c (.c .s (.c (.i .i64) (.c (.own 1) .n))) .n) (.d (.l 0 .n)) (fun z=>(z.2.1.1.1,z.2.1.1.2.1,z.2.2.1)) (fun r=>((),((r.1,r.2.1,(),()),()),r.2.2,())) (fun _=>rfl))
def xZ3l:Con tb:=.m 51 [false] (.c (.ptr 0 0) .n) (.c (.c .s (.c (.i .i64) (.c (.own 0) .n))) .n) (.l 0 .n) (fun N a=>xZ2i N a.2.1.1.1 a.2.1.1.2.1 a.2.2.1) (R:=(List UInt8×Int×List xZ0)⊕(Int×Int×List UInt8×Int×List xZ0)⊕(List UInt8×Int×List xZ0)) (.or (.m (R:=List UInt8×Int×List xZ0) .ni (.c (.c .s (.c (.i .i64) (.c (.own 0) .n))) .n) (.l 0 .n) (fun z=>(z.2.1.1.1,z.2.1.1.2.1,z.2.2.1)) (fun r=>((),((r.1,r.2.1,(),()),()),r.2.2,())) (fun _=>rfl)) (.or (.m (R:=Int×Int×List UInt8×Int×List xZ0) (.ifc 84 (.dp (.c (.i .i64) (.c (.i .i64) .n)))) (.c (.c .s (.c (.i .i64) (.c (.own 0) .n))) .n) (.l 0 .n) (fun z=>(z.1.1,z.1.2.1,z.2.1.1.1,z.2.1.1.2.1,z.2.2.1)) (fun r=>((r.1,r.2.1,()),((r.2.2.1,r.2.2.2.1,(),()),()),r.2.2.2.2,())) (fun _=>rfl)) (.m (R:=List UInt8×Int×List xZ0) .ni (.c (.c .s (.c (.i .i64) (.c (.own 1) .n))) .n) (.d (.l 0 .n)) (fun z=>(z.2.1.1.1,z.2.1.1.2.1,z.2.2.1)) (fun r=>((),((r.1,r.2.1,(),()),()),r.2.2,())) (fun _=>rfl))))
def xZcK:Con tb:=.p 21 [true] (.c .s .n) (fun N a=>xZ9B N a.1) (R:=(List xZ0)⊕(List xZ0×Int×Int)) (.or (.m (R:=List xZ0) (.tu (.c (.r 0) (.c .ni .n))) .n .n (fun z=>z.1.1) (fun r=>((r,(),()),(),())) (fun _=>rfl)) (.m (R:=List xZ0×Int×Int) (.tu (.c (.r 0) (.o (.ifc 84 (.dp (.c (.i .i64) (.c (.i .i64) .n))))))) .n .n (fun z=>(z.1.1,z.1.2.1,z.1.2.2.1)) (fun r=>((r.1,r.2.1,r.2.2,()),(),())) (fun _=>rfl))) (fun r=>by rcases r with _ | _<;>exact rfl)
def xZ8Q:LQ tb (((List UInt8))×((List UInt8)×Int×(List xZ0))):=(LQ.m [(4,some 2,0)] [0,4] (.c 0 .s (.c 4 (.ptr 0 0) .n)) (.c (.c .s (.c (.i .i64) (.c (.own 0) .n))) .n) (.l 0 .n)).re (fun a=>(a.1.1,(a.2.1.1.1,a.2.1.1.2.1,a.2.2.1))) (fun x=>((x.1,(),()),((x.2.1,x.2.2.1,(),()),()),x.2.2.2,())) (fun _=>rfl)
def xZcE (N:Nat) (c:(List UInt8)) (next:((List UInt8)×Int×(List xZ0))→Option ((List xZ0)⊕(List xZ0×Int×Int))) (v:(List UInt8)×Int×(List xZ0)):Option ((List xZ0)⊕(List xZ0×Int×Int)):=xZat N c (fun u0 u1 u2=>next (u0,u1,u2)) v.1 v.2.1 v.2.2
abbrev xZgp (N:Nat):((List UInt8))×((List UInt8)×Int×(List xZ0))→Option ((List xZ0)⊕(List xZ0×Int×Int)):=fun a=>loopV (xZcE N a.1) N a.2
def xZK:Con tb:=.m 97 [false,true,true] (.c (.ptr 0 0) (.c (.i .u8) (.c .s .n))) (.c (.c (.r 0) (.c (.i .i64) (.c (.i .i64) .n))) .n) .n (fun N a=>xZq N a.1.2.1 a.1.2.2.1 a.2.1.1.1 a.2.1.1.2.1 a.2.1.1.2.2.1) (R:=Bool×List xZ0×Int×Int) (.m (R:=Bool×List xZ0×Int×Int) .b (.c (.c (.r 0) (.c (.i .i64) (.c (.i .i64) .n))) .n) .n (fun z=>(z.1,z.2.1.1.1,z.2.1.1.2.1,z.2.1.1.2.2.1)) (fun r=>(r.1,((r.2.1,r.2.2.1,r.2.2.2,()),()),())) (fun _=>rfl))
def xZm:Con tb:=.m 56 [false,true,true] (.c (.ptr 0 0) (.c (.i .u8) (.c .s .n))) (.c (.c (.r 0) (.c (.i .i64) (.c (.i .i64) .n))) .n) .n (fun N a=>xZa N a.1.2.1 a.1.2.2.1 a.2.1.1.1 a.2.1.1.2.1 a.2.1.1.2.2.1) (R:=Bool×List xZ0×Int×Int) (.m (R:=Bool×List xZ0×Int×Int) .b (.c (.c (.r 0) (.c (.i .i64) (.c (.i .i64) .n))) .n) .n (fun z=>(z.1,z.2.1.1.1,z.2.1.1.2.1,z.2.1.1.2.2.1)) (fun r=>(r.1,((r.2.1,r.2.2.1,r.2.2.2,()),()),())) (fun _=>rfl))
def xZ4I:Con tb:=.s 98 [false] (.c .ni .n) (fun N a=>xZ3N N) (R:=Unit) (.p (.tu .n)) (fun _=>⟨rfl,(by kernel_rfl)⟩)
def xZ4T:Con tb:=.p 98 [false] (.c (.ifc 84 (.dp (.c (.i .i64) (.c (.i .i64) .n)))) .n) (fun N a=>xZ2r N a.1.1 a.1.2.1) (R:=Int×Int) (.m (R:=Int×Int) (.ifc 16777300 (.dp (.c (.i .i64) (.c (.i .i64) .n)))) .n .n (fun z=>(z.1.1,z.1.2.1)) (fun r=>((r.1,r.2,()),(),())) (fun _=>rfl)) (fun _=>rfl)
def xZx:Con tb:=.m 59 [false,true] (.c (.ptr 0 0) (.c (.i .i64) .n)) (.c (.c (.r 0) (.c (.i .i64) (.c (.i .i64) .n))) .n) .n (fun N a=>xZd N a.1.2.1 a.2.1.1.1 a.2.1.1.2.1 a.2.1.1.2.2.1) (R:=(List xZ0×Int×Int)⊕(Int×Int×List xZ0×Int×Int)) (.or (.m (R:=List xZ0×Int×Int) (.tu .n) (.c (.c (.r 0) (.c (.i .i64) (.c (.i .i64) .n))) .n) .n (fun z=>(z.2.1.1.1,z.2.1.1.2.1,z.2.1.1.2.2.1)) (fun r=>((),((r.1,r.2.1,r.2.2,()),()),())) (fun _=>rfl)) (.m (R:=Int×Int×List xZ0×Int×Int) (.ifc 16777300 (.dp (.c (.i .i64) (.c (.i .i64) .n)))) (.c (.c (.r 0) (.c (.i .i64) (.c (.i .i64) .n))) .n) .n (fun z=>(z.1.1,z.1.2.1,z.2.1.1.1,z.2.1.1.2.1,z.2.1.1.2.2.1)) (fun r=>((r.1,r.2.1,()),((r.2.2.1,r.2.2.2.1,r.2.2.2.2,()),()),())) (fun _=>rfl)))
def xZ26:Con tb:=.m 57 [false] (.c (.ptr 0 0) .n) (.c (.c (.r 0) (.c (.i .i64) (.c (.i .i64) .n))) .n) .n (fun N a=>xZZ N a.2.1.1.1 a.2.1.1.2.1 a.2.1.1.2.2.1) (R:=(List UInt8×List xZ0×Int×Int)⊕(Int×Int×List xZ0×Int×Int)) (.or (.m (R:=List UInt8×List xZ0×Int×Int) .s (.c (.c (.r 0) (.c (.i .i64) (.c (.i .i64) .n))) .n) .n (fun z=>(z.1,z.2.1.1.1,z.2.1.1.2.1,z.2.1.1.2.2.1)) (fun r=>(r.1,((r.2.1,r.2.2.1,r.2.2.2,()),()),())) (fun _=>rfl)) (.m (R:=Int×Int×List xZ0×Int×Int) (.ifc 16777300 (.dp (.c (.i .i64) (.c (.i .i64) .n)))) (.c (.c (.r 0) (.c (.i .i64) (.c (.i .i64) .n))) .n) .n (fun z=>(z.1.1,z.1.2.1,z.2.1.1.1,z.2.1.1.2.1,z.2.1.1.2.2.1)) (fun r=>((r.1,r.2.1,()),((r.2.2.1,r.2.2.2.1,r.2.2.2.2,()),()),())) (fun _=>rfl)))
def xZ10:Con tb:=.m 54 [false,true,true] (.c (.ptr 0 0) (.c (.i .u8) (.c .s .n))) (.c (.c (.r 0) (.c (.i .i64) (.c (.i .i64) .n))) .n) .n (fun N a=>xZi N a.1.2.1 a.1.2.2.1 a.2.1.1.1 a.2.1.1.2.1 a.2.1.1.2.2.1) (R:=(List xZ0×Int×Int)⊕(Int×Int×List xZ0×Int×Int)) (.or (.m (R:=List xZ0×Int×Int) (.tu .n) (.c (.c (.r 0) (.c (.i .i64) (.c (.i .i64) .n))) .n) .n (fun z=>(z.2.1.1.1,z.2.1.1.2.1,z.2.1.1.2.2.1)) (fun r=>((),((r.1,r.2.1,r.2.2,()),()),())) (fun _=>rfl)) (.m (R:=Int×Int×List xZ0×Int×Int) (.ifc 16777300 (.dp (.c (.i .i64) (.c (.i .i64) .n)))) (.c (.c (.r 0) (.c (.i .i64) (.c (.i .i64) .n))) .n) .n (fun z=>(z.1.1,z.1.2.1,z.2.1.1.1,z.2.1.1.2.1,z.2.1.1.2.2.1)) (fun r=>((r.1,r.2.1,()),((r.2.2.1,r.2.2.2.1,r.2.2.2.2,()),()),())) (fun _=>rfl)))
def xZF:Con tb:=.m 188 [false] (.c (.ptr 0 0) .n) (.c (.c (.r 0) (.c (.i .i64) (.c (.i .i64) .n))) .n) .n (fun N a=>xZo N a.2.1.1.1 a.2.1.1.2.1 a.2.1.1.2.2.1) (R:=xZ0×List xZ0×Int×Int) (.m (R:=xZ0×List xZ0×Int×Int) (.el tb_ok 0) (.c (.c (.r 0) (.c (.i .i64) (.c (.i .i64) .n))) .n) .n (fun z=>(z.1,z.2.1.1.1,z.2.1.1.2.1,z.2.1.1.2.2.1)) (fun r=>(r.1,((r.2.1,r.2.2.1,r.2.2.2,()),()),())) (fun _=>rfl))
def xZ2u:Con tb:=.m 175 [false] (.c (.ptr 0 0) .n) (.c (.c (.r 0) (.c (.i .i64) (.c (.i .i64) .n))) .n) .n (fun N a=>xZj N a.2.1.1.1 a.2.1.1.2.1 a.2.1.1.2.2.1) (R:=Int×List xZ0×Int×Int) (.m (R:=Int×List xZ0×Int×Int) (.i .i64) (.c (.c (.r 0) (.c (.i .i64) (.c (.i .i64) .n))) .n) .n (fun z=>(z.1,z.2.1.1.1,z.2.1.1.2.1,z.2.1.1.2.2.1)) (fun r=>(r.1,((r.2.1,r.2.2.1,r.2.2.2,()),()),())) (fun _=>rfl))
def xZV:Con tb:=.m 195 [false,true] (.c (.ptr 0 0) (.c (.i .i64) .n)) (.c (.c (.r 0) (.c (.i .i64) (.c (.i .i64) .n))) .n) .n (fun N a=>xZl N a.1.2.1 a.2.1.1.1 a.2.1.1.2.1 a.2.1.1.2.2.1) (R:=Int×Int×List xZ0×Int×Int) (.m (R:=Int×Int×List xZ0×Int×Int) (.ifc 16777468 (.ag (.c (.i .i64) (.c (.i .i64) .n)))) (.c (.c (.r 0) (.c (.i .i64) (.c (.i .i64) .n))) .n) .n (fun z=>(z.1.1,z.1.2.1,z.2.1.1.1,z.2.1.1.2.1,z.2.1.1.2.2.1)) (fun r=>((r.1,r.2.1,()),((r.2.2.1,r.2.2.2.1,r.2.2.2.2,()),()),())) (fun _=>rfl))
def xZ2j:Con tb:=.m 194 [false,true] (.c (.ptr 0 0) (.c (.i .i64) .n)) (.c (.c (.r 0) (.c (.i .i64) (.c (.i .i64) .n))) .n) .n (fun N a=>xZ1s N a.1.2.1 a.2.1.1.1 a.2.1.1.2.1 a.2.1.1.2.2.1) (R:=(Int×Int×List xZ0×Int×Int)⊕(List xZ0×Int×Int)) (.or (.m (R:=Int×Int×List xZ0×Int×Int) (.ifc 16777468 (.ag (.c (.i .i64) (.c (.i .i64) .n)))) (.c (.c (.r 0) (.c (.i .i64) (.c (.i .i64) .n))) .n) .n (fun z=>(z.1.1,z.1.2.1,z.2.1.1.1,z.2.1.1.2.1,z.2.1.1.2.2.1)) (fun r=>((r.1,r.2.1,()),((r.2.2.1,r.2.2.2.1,r.2.2.2.2,()),()),())) (fun _=>rfl)) (.m (R:=List xZ0×Int×Int) (.tu .n) (.c (.c (.r 0) (.c (.i .i64) (.c (.i .i64) .n))) .n) .n (fun z=>(z.2.1.1.1,z.2.1.1.2.1,z.2.1.1.2.2.1)) (fun r=>((),((r.1,r.2.1,r.2.2,()),()),())) (fun _=>rfl)))
def xZM:Con tb:=.m 184 [false,true,true] (.c (.ptr 0 0) (.c (.i .u8) (.c .s .n))) (.c (.c (.r 0) (.c (.i .i64) (.c (.i .i64) .n))) .n) .n (fun N a=>xZg N a.1.2.1 a.1.2.2.1 a.2.1.1.1 a.2.1.1.2.1 a.2.1.1.2.2.1) (R:=Bool×List xZ0×Int×Int) (.m (R:=Bool×List xZ0×Int×Int) .b (.c (.c (.r 0) (.c (.i .i64) (.c (.i .i64) .n))) .n) .n (fun z=>(z.1,z.2.1.1.1,z.2.1.1.2.1,z.2.1.1.2.2.1)) (fun r=>(r.1,((r.2.1,r.2.2.1,r.2.2.2,()),()),())) (fun _=>rfl))
def xZ44:Con tb:=.m 199 [false,true] (.c .e (.c (.i .i64) .n)) .n .n (fun N a=>xZ1a N a.1.2.1) (R:=List xZ2) (.m (R:=List xZ2) (.own 0) .n (.l 3 .n) (fun z=>z.2.2.1) (fun r=>((),(),r,())) (fun _=>rfl))
def xZ39:Con tb:=.p 189 [true] (.c (.r 4) .n) (fun N a=>xZ2d N a.1) (R:=(List UInt8)⊕(List xZ2)) (.or (.p (.ifc 16777225 .s)) (.p (.r 3))) (fun r=>by rcases r with _ | _<;>exact rfl)
def xZ1K:LQ tb (((List (List xZ2))×(List (List xZ2))×Int)×(Int×Int)):=(LQ.m [] [0,3,9,10,11] (.c 0 (.r 4) (.c 3 (.i .i64) (.c 9 (.r 4) (.c 10 (.i .i64) (.c 11 (.i .i64) .n))))) .n .n).re (fun a=>((a.1.1,a.1.2.2.1,a.1.2.2.2.1),(a.1.2.1,a.1.2.2.2.2.1))) (fun x=>((x.1.1,x.2.1,x.1.2.1,x.1.2.2,x.2.2,()),(),())) (fun _=>rfl)
def xZ1J:LQ tb (((List (List xZ2))×Int)×(Int×(List xZ2))):=(LQ.m [] [6,25,26,27] (.c 6 (.own 0) (.c 25 (.r 4) (.c 26 (.i .i64) (.c 27 (.i .i64) .n)))) .n (.l 3 .n)).re (fun a=>((a.1.2.1,a.1.2.2.1),(a.1.2.2.2.1,a.2.2.1))) (fun x=>(((),x.1.1,x.1.2,x.2.1,()),(),x.2.2,())) (fun _=>rfl)
def xZ40 (N:Nat) (c:(List (List xZ2))×Int) (next:(Int×(List xZ2))→Option ((List UInt8)⊕(List xZ2))) (v:Int×(List xZ2)):Option ((List UInt8)⊕(List xZ2)):=xZ1M N c.1 c.2 (fun u0 u1=>next (u0,u1)) v.1 v.2
abbrev xZ6I (N:Nat):((List (List xZ2))×Int)×(Int×(List xZ2))→Option ((List UInt8)⊕(List xZ2)):=fun a=>loopV (xZ40 N a.1) N a.2
def xZ41 (N:Nat) (c:(List (List xZ2))×(List (List xZ2))×Int) (next:(Int×Int)→Option ((List UInt8)⊕(List xZ2))) (v:Int×Int):Option ((List UInt8)⊕(List xZ2)):=xZ1O N c.1 c.2.1 c.2.2 (fun u0 u1=>next (u0,u1)) v.1 v.2
abbrev xZ6T (N:Nat):((List (List xZ2))×(List (List xZ2))×Int)×(Int×Int)→Option ((List UInt8)⊕(List xZ2)):=fun a=>loopV (xZ41 N a.1) N a.2
def xZ3g:Con tb:=.p 185 [true,true] (.c (.el tb_ok 3) (.c (.r 4) .n)) (fun N a=>xZ15 N a.1 a.2.1) (R:=List xZ2) (.p (.r 3)) (fun _=>rfl)
def xZ1P:Con tb:=.m 198 [false,true] (.c (.ptr 0 0) (.c (.i .u8) .n)) (.c (.c (.r 0) (.c (.i .i64) (.c (.i .i64) .n))) .n) .n (fun N a=>xZG N a.1.2.1 a.2.1.1.1 a.2.1.1.2.1 a.2.1.1.2.2.1) (R:=(Int×Int×List xZ0×Int×Int)⊕(xZ0×List xZ0×Int×Int)) (.or (.m (R:=Int×Int×List xZ0×Int×Int) (.ifc 16777468 (.ag (.c (.i .i64) (.c (.i .i64) .n)))) (.c (.c (.r 0) (.c (.i .i64) (.c (.i .i64) .n))) .n) .n (fun z=>(z.1.1,z.1.2.1,z.2.1.1.1,z.2.1.1.2.1,z.2.1.1.2.2.1)) (fun r=>((r.1,r.2.1,()),((r.2.2.1,r.2.2.2.1,r.2.2.2.2,()),()),())) (fun _=>rfl)) (.m (R:=xZ0×List xZ0×Int×Int) (.el tb_ok 0) (.c (.c (.r 0) (.c (.i .i64) (.c (.i .i64) .n))) .n) .n (fun z=>(z.1,z.2.1.1.1,z.2.1.1.2.1,z.2.1.1.2.2.1)) (fun r=>(r.1,((r.2.1,r.2.2.1,r.2.2.2,()),()),())) (fun _=>rfl)))
def xZ2J:Con tb:=.m 202 [false] (.c (.ptr 0 0) .n) (.c (.c (.r 0) (.c (.i .i64) (.c (.i .i64) .n))) .n) .n (fun N a=>xZs N a.2.1.1.1 a.2.1.1.2.1 a.2.1.1.2.2.1) (R:=(Int×Int×List xZ0×Int×Int)⊕(List xZ2×List xZ0×Int×Int)) (.or (.m (R:=Int×Int×List xZ0×Int×Int) (.ifc 16777468 (.ag (.c (.i .i64) (.c (.i .i64) .n)))) (.c (.c (.r 0) (.c (.i .i64) (.c (.i .i64) .n))) .n) .n (fun z=>(z.1.1,z.1.2.1,z.2.1.1.1,z.2.1.1.2.1,z.2.1.1.2.2.1)) (fun r=>((r.1,r.2.1,()),((r.2.2.1,r.2.2.2.1,r.2.2.2.2,()),()),())) (fun _=>rfl)) (.m (R:=List xZ2×List xZ0×Int×Int) (.r 3) (.c (.c (.r 0) (.c (.i .i64) (.c (.i .i64) .n))) .n) .n (fun z=>(z.1,z.2.1.1.1,z.2.1.1.2.1,z.2.1.1.2.2.1)) (fun r=>(r.1,((r.2.1,r.2.2.1,r.2.2.2,()),()),())) (fun _=>rfl)))
def xZ34:Con tb:=.m 196 [false] (.c (.ptr 0 0) .n) (.c (.c (.r 0) (.c (.i .i64) (.c (.i .i64) .n))) .n) .n (fun N a=>xZ1g N a.2.1.1.1 a.2.1.1.2.1 a.2.1.1.2.2.1) (R:=(Int×Int×List xZ0×Int×Int)⊕(List xZ2×List xZ0×Int×Int)) (.or (.m (R:=Int×Int×List xZ0×Int×Int) (.ifc 16777468 (.ag (.c (.i .i64) (.c (.i .i64) .n)))) (.c (.c (.r 0) (.c (.i .i64) (.c (.i .i64) .n))) .n) .n (fun z=>(z.1.1,z.1.2.1,z.2.1.1.1,z.2.1.1.2.1,z.2.1.1.2.2.1)) (fun r=>((r.1,r.2.1,()),((r.2.2.1,r.2.2.2.1,r.2.2.2.2,()),()),())) (fun _=>rfl)) (.m (R:=List xZ2×List xZ0×Int×Int) (.r 3) (.c (.c (.r 0) (.c (.i .i64) (.c (.i .i64) .n))) .n) .n (fun z=>(z.1,z.2.1.1.1,z.2.1.1.2.1,z.2.1.1.2.2.1)) (fun r=>(r.1,((r.2.1,r.2.2.1,r.2.2.2,()),()),())) (fun _=>rfl)))
def xZ1E:LQ tb ((Unit)×((List xZ2)×(List xZ0)×Int×Int)):=(LQ.m [] [0,3] (.c 0 (.ptr 0 0) (.c 3 (.r 3) .n)) (.c (.c (.r 0) (.c (.i .i64) (.c (.i .i64) .n))) .n) .n).re (fun a=>((),(a.1.2.1,a.2.1.1.1,a.2.1.1.2.1,a.2.1.1.2.2.1))) (fun x=>(((),x.2.1,()),((x.2.2.1,x.2.2.2.1,x.2.2.2.2,()),()),())) (fun _=>rfl)
def xZ3I (N:Nat) (c:Unit) (next:((List xZ2)×(List xZ0)×Int×Int)→Option ((Int×Int×List xZ0×Int×Int)⊕(List xZ2×List xZ0×Int×Int))) (v:(List xZ2)×(List xZ0)×Int×Int):Option ((Int×Int×List xZ0×Int×Int)⊕(List xZ2×List xZ0×Int×Int)):=xZ2s N (fun u0 u1 u2 u3=>next (u0,u1,u2,u3)) v.1 v.2.1 v.2.2.1 v.2.2.2
abbrev xZ6g (N:Nat):(Unit)×((List xZ2)×(List xZ0)×Int×Int)→Option ((Int×Int×List xZ0×Int×Int)⊕(List xZ2×List xZ0×Int×Int)):=fun a=>loopV (xZ3I N a.1) N a.2
def xZ4X:Con tb:=.s 143 [true] (.c (.i .u8) .n) (fun N a=>xZ2m N a.1) (R:=List UInt8) (.p .s) (fun _=>⟨rfl,(by kernel_rfl)⟩)
def xZa7:Con tb:=.s 197 [true] (.c .s .n) (fun N a=>xZ8R N a.1) (R:=Int) (.p (.i .u8)) (fun _=>⟨rfl,(by kernel_rfl)⟩)
def xZ5Y:LQ tb (((List UInt8))×(Int)):=(LQ.m [] [0,3] (.c 0 .s (.c 3 (.i .u8) .n)) .n .n).re (fun a=>(a.1.1,a.1.2.1)) (fun x=>((x.1,x.2,()),(),())) (fun _=>rfl)
def xZaL (N:Nat) (c:(List UInt8)) (next:Int→Option Int) (v:Int):Option Int:=xZ5V N c (fun u0=>next u0) v
abbrev xZdW (N:Nat):((List UInt8))×(Int)→Option Int:=fun a=>loopV (xZaL N a.1) N a.2
def xZ2c:Con tb:=.m 177 [false,true] (.c (.ptr 0 0) (.c (.i .i64) .n)) (.c (.c (.r 0) (.c (.i .i64) (.c (.i .i64) .n))) .n) .n (fun N a=>xZS N a.1.2.1 a.2.1.1.1 a.2.1.1.2.1 a.2.1.1.2.2.1) (R:=(Int×Int×List xZ0×Int×Int)⊕(List xZ2×List xZ0×Int×Int)) (.or (.m (R:=Int×Int×List xZ0×Int×Int) (.ifc 16777468 (.ag (.c (.i .i64) (.c (.i .i64) .n)))) (.c (.c (.r 0) (.c (.i .i64) (.c (.i .i64) .n))) .n) .n (fun z=>(z.1.1,z.1.2.1,z.2.1.1.1,z.2.1.1.2.1,z.2.1.1.2.2.1)) (fun r=>((r.1,r.2.1,()),((r.2.2.1,r.2.2.2.1,r.2.2.2.2,()),()),())) (fun _=>rfl)) (.m (R:=List xZ2×List xZ0×Int×Int) (.r 3) (.c (.c (.r 0) (.c (.i .i64) (.c (.i .i64) .n))) .n) .n (fun z=>(z.1,z.2.1.1.1,z.2.1.1.2.1,z.2.1.1.2.2.1)) (fun r=>(r.1,((r.2.1,r.2.2.1,r.2.2.2,()),()),())) (fun _=>rfl)))
def xZ1V:LQ tb ((Int)×((List xZ2)×(List xZ0)×Int×Int)):=(LQ.m [] [0,1,5] (.c 0 (.ptr 0 0) (.c 1 (.i .i64) (.c 5 (.r 3) .n))) (.c (.c (.r 0) (.c (.i .i64) (.c (.i .i64) .n))) .n) .n).re (fun a=>(a.1.2.1,(a.1.2.2.1,a.2.1.1.1,a.2.1.1.2.1,a.2.1.1.2.2.1))) (fun x=>(((),x.1,x.2.1,()),((x.2.2.1,x.2.2.2.1,x.2.2.2.2,()),()),())) (fun _=>rfl)
def xZ3W (N:Nat) (c:Int) (next:((List xZ2)×(List xZ0)×Int×Int)→Option ((Int×Int×List xZ0×Int×Int)⊕(List xZ2×List xZ0×Int×Int))) (v:(List xZ2)×(List xZ0)×Int×Int):Option ((Int×Int×List xZ0×Int×Int)⊕(List xZ2×List xZ0×Int×Int)):=xZ2L N (xZb N) c (fun u0 u1 u2 u3=>next (u0,u1,u2,u3)) v.1 v.2.1 v.2.2.1 v.2.2.2
abbrev xZ6G (N:Nat):(Int)×((List xZ2)×(List xZ0)×Int×Int)→Option ((Int×Int×List xZ0×Int×Int)⊕(List xZ2×List xZ0×Int×Int)):=fun a=>loopV (xZ3W N a.1) N a.2
def xZ2X:Con tb:=.m 183 [false,true] (.c (.ptr 0 0) (.c (.i .i64) .n)) (.c (.c (.r 0) (.c (.i .i64) (.c (.i .i64) .n))) .n) .n (fun N a=>xZ7v N a.1.2.1 a.2.1.1.1 a.2.1.1.2.1 a.2.1.1.2.2.1) (R:=(Int×Int×List xZ0×Int×Int)⊕(List xZ2×List xZ0×Int×Int)) (.or (.m (R:=Int×Int×List xZ0×Int×Int) (.ifc 16777468 (.ag (.c (.i .i64) (.c (.i .i64) .n)))) (.c (.c (.r 0) (.c (.i .i64) (.c (.i .i64) .n))) .n) .n (fun z=>(z.1.1,z.1.2.1,z.2.1.1.1,z.2.1.1.2.1,z.2.1.1.2.2.1)) (fun r=>((r.1,r.2.1,()),((r.2.2.1,r.2.2.2.1,r.2.2.2.2,()),()),())) (fun _=>rfl)) (.m (R:=List xZ2×List xZ0×Int×Int) (.r 3) (.c (.c (.r 0) (.c (.i .i64) (.c (.i .i64) .n))) .n) .n (fun z=>(z.1,z.2.1.1.1,z.2.1.1.2.1,z.2.1.1.2.2.1)) (fun r=>(r.1,((r.2.1,r.2.2.1,r.2.2.2,()),()),())) (fun _=>rfl)))
def xZ1A:LQ tb ((Int)×((List xZ2)×(List xZ0)×Int×Int)):=(LQ.m [] [0,1,5] (.c 0 (.ptr 0 0) (.c 1 (.i .i64) (.c 5 (.r 3) .n))) (.c (.c (.r 0) (.c (.i .i64) (.c (.i .i64) .n))) .n) .n).re (fun a=>(a.1.2.1,(a.1.2.2.1,a.2.1.1.1,a.2.1.1.2.1,a.2.1.1.2.2.1))) (fun x=>(((),x.1,x.2.1,()),((x.2.2.1,x.2.2.2.1,x.2.2.2.2,()),()),())) (fun _=>rfl)
def xZ3H (N:Nat) (c:Int) (next:((List xZ2)×(List xZ0)×Int×Int)→Option ((Int×Int×List xZ0×Int×Int)⊕(List xZ2×List xZ0×Int×Int))) (v:(List xZ2)×(List xZ0)×Int×Int):Option ((Int×Int×List xZ0×Int×Int)⊕(List xZ2×List xZ0×Int×Int)):=xZ2w N (xZb N) c (fun u0 u1 u2 u3=>next (u0,u1,u2,u3)) v.1 v.2.1 v.2.2.1 v.2.2.2
abbrev xZ65 (N:Nat):(Int)×((List xZ2)×(List xZ0)×Int×Int)→Option ((Int×Int×List xZ0×Int×Int)⊕(List xZ2×List xZ0×Int×Int)):=fun a=>loopV (xZ3H N a.1) N a.2
def xZ1S:Con tb:=.m 187 [false,true] (.c (.ptr 0 0) (.c (.i .i64) .n)) (.c (.c (.r 0) (.c (.i .i64) (.c (.i .i64) .n))) .n) .n (fun N a=>xZ6J N a.1.2.1 a.2.1.1.1 a.2.1.1.2.1 a.2.1.1.2.2.1) (R:=(Int×Int×List xZ0×Int×Int)⊕(List xZ2×List xZ0×Int×Int)) (.or (.m (R:=Int×Int×List xZ0×Int×Int) (.ifc 16777468 (.ag (.c (.i .i64) (.c (.i .i64) .n)))) (.c (.c (.r 0) (.c (.i .i64) (.c (.i .i64) .n))) .n) .n (fun z=>(z.1.1,z.1.2.1,z.2.1.1.1,z.2.1.1.2.1,z.2.1.1.2.2.1)) (fun r=>((r.1,r.2.1,()),((r.2.2.1,r.2.2.2.1,r.2.2.2.2,()),()),())) (fun _=>rfl)) (.m (R:=List xZ2×List xZ0×Int×Int) (.r 3) (.c (.c (.r 0) (.c (.i .i64) (.c (.i .i64) .n))) .n) .n (fun z=>(z.1,z.2.1.1.1,z.2.1.1.2.1,z.2.1.1.2.2.1)) (fun r=>(r.1,((r.2.1,r.2.2.1,r.2.2.2,()),()),())) (fun _=>rfl)))
def xZ56:Con tb:=.s 155 [true,true] (.c (.el tb_ok 3) (.c (.i .i64) .n)) (fun N a=>xZ3Q N a.1 a.2.1) (R:=Bool) (.p .b) (fun _=>⟨rfl,(by kernel_rfl)⟩)
def xZ5d:Con tb:=.s 82 [true] (.c (.i .u8) .n) (fun N a=>xZ4k N a.1) (R:=Bool) (.p .b) (fun _=>⟨rfl,(by kernel_rfl)⟩)
def xZ9y:Con tb:=.s 84 [true] (.c (.i .u8) .n) (fun N a=>xZ75 N a.1) (R:=Bool) (.p .b) (fun _=>⟨rfl,(by kernel_rfl)⟩)
def xZ5x:Con tb:=.s 48 [true] (.c .s .n) (fun N a=>xZ2T N a.1) (R:=Bool) (.p .b) (fun _=>⟨rfl,(by kernel_rfl)⟩)
def xZ5i:LQ tb (((List UInt8))×(Int)):=(LQ.m [] [0,3] (.c 0 .s (.c 3 (.i .i64) .n)) .n .n).re (fun a=>(a.1.1,a.1.2.1)) (fun x=>((x.1,x.2,()),(),())) (fun _=>rfl)
def xZa1 (N:Nat) (c:(List UInt8)) (next:Int→Option Bool) (v:Int):Option Bool:=xZ5h N c (fun u0=>next u0) v
abbrev xZd1 (N:Nat):((List UInt8))×(Int)→Option Bool:=fun a=>loopV (xZa1 N a.1) N a.2
def xZag:Con tb:=.p 144 [true] (.c (.el tb_ok 1) .n) (fun N a=>xZa8 N a.1) (R:=Int⊕Int⊕Int⊕(List UInt8)⊕Unit) (.or (.p (.ifc 209 (.i .i64))) (.or (.p (.ifc 210 (.i .i64))) (.or (.p (.ifc 211 (.i .u64))) (.or (.p (.ifc 212 .s)) (.p .ni))))) (fun r=>by rcases r with _ | _ | _ | _ | _<;>exact rfl)
def xZ4t:Con tb:=.s 237 [true] (.c (.i .i64) .n) (fun N a=>xZ4v N a.1) (R:=xZ4) (.p (.el tb_ok 1)) (fun _=>⟨rfl,(by kernel_rfl)⟩)
def xZ53:Con tb:=.s 238 [true] (.c (.i .i64) .n) (fun N a=>xZ3T N a.1) (R:=xZ4) (.p (.el tb_ok 1)) (fun _=>⟨rfl,(by kernel_rfl)⟩)
def xZ4u:Con tb:=.s 239 [true] (.c (.i .u64) .n) (fun N a=>xZ4s N a.1) (R:=xZ4) (.p (.el tb_ok 1)) (fun _=>⟨rfl,(by kernel_rfl)⟩)
def xZ4K:Con tb:=.s 240 [true] (.c .s .n) (fun N a=>xZ4S N a.1) (R:=xZ4) (.p (.el tb_ok 1)) (fun _=>⟨rfl,(by kernel_rfl)⟩)
def xZ7d:Con tb:=.s 112 [true] (.c (.el tb_ok 1) .n) (fun N a=>xZ5A N a.1) (R:=Int) (.p (.i .i64)) (fun _=>⟨rfl,(by kernel_rfl)⟩)
def xZ5D:Con tb:=.s 157 [true] (.c (.el tb_ok 3) .n) (fun N a=>xZ4n N a.1) (R:=Bool) (.p .b) (fun _=>⟨rfl,(by kernel_rfl)⟩)
def xZ8V:Con tb:=.s 156 [true,false,true] (.c (.el tb_ok 3) (.c (.fn 157 .n .n) (.c (.i .i64) .n))) (fun N a=>xZ8U N a.1 a.2.2.1) (R:=Int) (.p (.i .i64)) (fun _=>⟨rfl,(by kernel_rfl)⟩)
def xZ9t:Con tb:=.s 158 [true] (.c (.el tb_ok 3) .n) (fun N a=>xZ68 N a.1) (R:=Bool) (.p .b) (fun _=>⟨rfl,(by kernel_rfl)⟩)
def xZ8x:Con tb:=.s 156 [true,false,true] (.c (.el tb_ok 3) (.c (.fn 158 .n .n) (.c (.i .i64) .n))) (fun N a=>xZ93 N a.1 a.2.2.1) (R:=Int) (.p (.i .i64)) (fun _=>⟨rfl,(by kernel_rfl)⟩)
def xZbz:Con tb:=.s 159 [true] (.c (.i .u8) .n) (fun N a=>xZ9W N a.1) (R:=Int) (.p (.i .i64)) (fun _=>⟨rfl,(by kernel_rfl)⟩)
def xZ7m:Con tb:=.s 160 [true,true] (.c (.el tb_ok 3) (.c (.i .i64) .n)) (fun N a=>xZ5e N a.1 a.2.1) (R:=Int) (.p (.i .i64)) (fun _=>⟨rfl,(by kernel_rfl)⟩)
def xZ1C:Con tb:=.m 140 [false,true,true] (.c (.ptr 0 0) (.c (.i .i64) (.c (.i .i64) .n))) (.c (.c (.r 3) (.c (.i .i64) .n)) .n) .n (fun N a=>xZ4U N a.1.2.1 a.1.2.2.1 a.2.1.1.1 a.2.1.1.2.1) (R:=Int×List xZ2×Int) (.m (R:=Int×List xZ2×Int) (.i .i64) (.c (.c (.r 3) (.c (.i .i64) .n)) .n) .n (fun z=>(z.1,z.2.1.1.1,z.2.1.1.2.1)) (fun r=>(r.1,((r.2.1,r.2.2,()),()),())) (fun _=>rfl))
def xZ20:LQ tb ((Int×Int×Int×Int×(List UInt8)×(List UInt8)×Int×Int×Int×(List UInt8))×(Int×(List xZ2)×Int)):=(LQ.m [] [0,2,7,57,58] (.c 0 (.ptr 0 0) (.c 2 (.i .i64) (.c 7 (.ptr 1 0) (.c 57 (.i .i64) (.c 58 (.i .i64) .n))))) (.c (.c (.r 3) (.c (.i .i64) .n)) (.c (.c (.i .u8) (.c (.i .u8) (.c .s (.c .s (.c (.i .u8) (.c (.i .i64) (.c (.i .u64) (.c .s .n)))))))) .n)) .n).re (fun a=>((a.1.2.1,a.1.2.2.2.1,a.2.1.2.1.1,a.2.1.2.1.2.1,a.2.1.2.1.2.2.1,a.2.1.2.1.2.2.2.1,a.2.1.2.1.2.2.2.2.1,a.2.1.2.1.2.2.2.2.2.1,a.2.1.2.1.2.2.2.2.2.2.1,a.2.1.2.1.2.2.2.2.2.2.2.1),(a.1.2.2.2.2.1,a.2.1.1.1,a.2.1.1.2.1))) (fun x=>(((),x.1.1,(),x.1.2.1,x.2.1,()),((x.2.2.1,x.2.2.2,()),(x.1.2.2.1,x.1.2.2.2.1,x.1.2.2.2.2.1,x.1.2.2.2.2.2.1,x.1.2.2.2.2.2.2.1,x.1.2.2.2.2.2.2.2.1,x.1.2.2.2.2.2.2.2.2.1,x.1.2.2.2.2.2.2.2.2.2,()),()),())) (fun _=>rfl)
def xZ4i (N:Nat) (c:Int×Int×Int×Int×(List UInt8)×(List UInt8)×Int×Int×Int×(List UInt8)) (next:(Int×(List xZ2)×Int)→Option (Int×List xZ2×Int)) (v:Int×(List xZ2)×Int):Option (Int×List xZ2×Int):=xZ25 N (xZ14 N) c.1 c.2.1 c.2.2.1 c.2.2.2.1 c.2.2.2.2.1 c.2.2.2.2.2.1 c.2.2.2.2.2.2.1 c.2.2.2.2.2.2.2.1 c.2.2.2.2.2.2.2.2.1 c.2.2.2.2.2.2.2.2.2 (fun u0 u1 u2=>next (u0,u1,u2)) v.1 v.2.1 v.2.2
abbrev xZ7t (N:Nat):(Int×Int×Int×Int×(List UInt8)×(List UInt8)×Int×Int×Int×(List UInt8))×(Int×(List xZ2)×Int)→Option (Int×List xZ2×Int):=fun a=>loopV (xZ4i N a.1) N a.2
def xZ8M:Con tb:=.s 110 [true] (.c (.r 3) .n) (fun N a=>xZ3k N a.1) (R:=Int) (.p (.i .i64)) (fun _=>⟨rfl,(by kernel_rfl)⟩)
def xZ9H:Con tb:=.p 164 [true,true,true] (.c (.r 0) (.c (.i .i64) (.c (.i .i64) .n))) (fun N a=>xZ3e N a.1 a.2.1 a.2.2.1) (R:=(List xZ2×Int)⊕(List xZ2×Int×Int×Int)) (.or (.m (R:=List xZ2×Int) (.tu (.c (.r 3) (.c (.i .i64) (.c .ni .n)))) .n .n (fun z=>(z.1.1,z.1.2.1)) (fun r=>((r.1,r.2,(),()),(),())) (fun _=>rfl)) (.m (R:=List xZ2×Int×Int×Int) (.tu (.c (.r 3) (.c (.i .i64) (.o (.ifc 84 (.dp (.c (.i .i64) (.c (.i .i64) .n)))))))) .n .n (fun z=>(z.1.1,z.1.2.1,z.1.2.2.1,z.1.2.2.2.1)) (fun r=>((r.1,r.2.1,r.2.2.1,r.2.2.2,()),(),())) (fun _=>rfl))) (fun r=>by rcases r with _ | _<;>exact rfl)
def xZ30:Con tb:=.m 150 [false,true] (.c (.ptr 0 0) (.c (.i .u8) .n)) (.c (.c (.r 0) (.c (.i .i64) (.c (.i .i64) .n))) .n) .n (fun N a=>xZ1k N a.1.2.1 a.2.1.1.1 a.2.1.1.2.1 a.2.1.1.2.2.1) (R:=(List xZ1×List xZ0×Int×Int)⊕(Int×Int×List xZ0×Int×Int)) (.or (.m (R:=List xZ1×List xZ0×Int×Int) (.r 5) (.c (.c (.r 0) (.c (.i .i64) (.c (.i .i64) .n))) .n) .n (fun z=>(z.1,z.2.1.1.1,z.2.1.1.2.1,z.2.1.1.2.2.1)) (fun r=>(r.1,((r.2.1,r.2.2.1,r.2.2.2,()),()),())) (fun _=>rfl)) (.m (R:=Int×Int×List xZ0×Int×Int) (.ifc 16777300 (.dp (.c (.i .i64) (.c (.i .i64) .n)))) (.c (.c (.r 0) (.c (.i .i64) (.c (.i .i64) .n))) .n) .n (fun z=>(z.1.1,z.1.2.1,z.2.1.1.1,z.2.1.1.2.1,z.2.1.1.2.2.1)) (fun r=>((r.1,r.2.1,()),((r.2.2.1,r.2.2.2.1,r.2.2.2.2,()),()),())) (fun _=>rfl)))
def xZ1F:Con tb:=.m 55 [false] (.c (.ptr 0 0) .n) (.c (.c (.r 0) (.c (.i .i64) (.c (.i .i64) .n))) .n) .n (fun N a=>xZy N a.2.1.1.1 a.2.1.1.2.1 a.2.1.1.2.2.1) (R:=(Int×List xZ0×Int×Int)⊕(Int×Int×List xZ0×Int×Int)) (.or (.m (R:=Int×List xZ0×Int×Int) (.i .i64) (.c (.c (.r 0) (.c (.i .i64) (.c (.i .i64) .n))) .n) .n (fun z=>(z.1,z.2.1.1.1,z.2.1.1.2.1,z.2.1.1.2.2.1)) (fun r=>(r.1,((r.2.1,r.2.2.1,r.2.2.2,()),()),())) (fun _=>rfl)) (.m (R:=Int×Int×List xZ0×Int×Int) (.ifc 16777300 (.dp (.c (.i .i64) (.c (.i .i64) .n)))) (.c (.c (.r 0) (.c (.i .i64) (.c (.i .i64) .n))) .n) .n (fun z=>(z.1.1,z.1.2.1,z.2.1.1.1,z.2.1.1.2.1,z.2.1.1.2.2.1)) (fun r=>((r.1,r.2.1,()),((r.2.2.1,r.2.2.2.1,r.2.2.2.2,()),()),())) (fun _=>rfl)))
def xZ2n:Con tb:=.m 165 [false] (.c (.ptr 0 0) .n) (.c (.c (.r 0) (.c (.i .i64) (.c (.i .i64) .n))) .n) .n (fun N a=>xZ1u N a.2.1.1.1 a.2.1.1.2.1 a.2.1.1.2.2.1) (R:=(Int×Int×List xZ0×Int×Int)⊕(Int×Int×List xZ0×Int×Int)) (.or (.m (R:=Int×Int×List xZ0×Int×Int) (.tu (.c (.i .i64) (.o (.i .i64)))) (.c (.c (.r 0) (.c (.i .i64) (.c (.i .i64) .n))) .n) .n (fun z=>(z.1.1,z.1.2,z.2.1.1.1,z.2.1.1.2.1,z.2.1.1.2.2.1)) (fun r=>((r.1,r.2.1),((r.2.2.1,r.2.2.2.1,r.2.2.2.2,()),()),())) (fun _=>rfl)) (.m (R:=Int×Int×List xZ0×Int×Int) (.ifc 16777300 (.dp (.c (.i .i64) (.c (.i .i64) .n)))) (.c (.c (.r 0) (.c (.i .i64) (.c (.i .i64) .n))) .n) .n (fun z=>(z.1.1,z.1.2.1,z.2.1.1.1,z.2.1.1.2.1,z.2.1.1.2.2.1)) (fun r=>((r.1,r.2.1,()),((r.2.2.1,r.2.2.2.1,r.2.2.2.2,()),()),())) (fun _=>rfl)))
def xZ2H:Con tb:=.m 151 [false,true] (.c (.ptr 0 0) (.c (.r 5) .n)) (.c (.c (.r 0) (.c (.i .i64) (.c (.i .i64) .n))) .n) .n (fun N a=>xZU N a.1.2.1 a.2.1.1.1 a.2.1.1.2.1 a.2.1.1.2.2.1) (R:=(List xZ1×List xZ0×Int×Int)⊕(Int×Int×List xZ0×Int×Int)) (.or (.m (R:=List xZ1×List xZ0×Int×Int) (.r 5) (.c (.c (.r 0) (.c (.i .i64) (.c (.i .i64) .n))) .n) .n (fun z=>(z.1,z.2.1.1.1,z.2.1.1.2.1,z.2.1.1.2.2.1)) (fun r=>(r.1,((r.2.1,r.2.2.1,r.2.2.2,()),()),())) (fun _=>rfl)) (.m (R:=Int×Int×List xZ0×Int×Int) (.ifc 16777300 (.dp (.c (.i .i64) (.c (.i .i64) .n)))) (.c (.c (.r 0) (.c (.i .i64) (.c (.i .i64) .n))) .n) .n (fun z=>(z.1.1,z.1.2.1,z.2.1.1.1,z.2.1.1.2.1,z.2.1.1.2.2.1)) (fun r=>((r.1,r.2.1,()),((r.2.2.1,r.2.2.2.1,r.2.2.2.2,()),()),())) (fun _=>rfl)))
def xZ1t:Con tb:=.m 128 [true,false,false] (.c (.r 5) (.c (.ptr 0 0) (.c (.ptr 1 0) .n))) (.c (.c (.i .u8) .n) (.c (.c (.own 0) .n) .n)) (.l 5 .n) (fun N a=>xZh N a.1.1 a.2.1.1.1 a.2.2.1) (R:=Int×List xZ1) (.m (R:=Int×List xZ1) (.tu .n) (.c (.c (.i .u8) .n) (.c (.c (.own 1) .n) .n)) (.d (.l 5 .n)) (fun z=>(z.2.1.1.1,z.2.2.1)) (fun r=>((),((r.1,()),((),()),()),r.2,())) (fun _=>rfl))
def xZ1l:Con tb:=.m 53 [false,true] (.c (.ptr 0 0) (.c (.i .i64) .n)) (.c (.c (.r 0) (.c (.i .i64) (.c (.i .i64) .n))) .n) .n (fun N a=>xZ21 N a.1.2.1 a.2.1.1.1 a.2.1.1.2.1 a.2.1.1.2.2.1) (R:=(List xZ1×List xZ0×Int×Int)⊕(Int×Int×List xZ0×Int×Int)) (.or (.m (R:=List xZ1×List xZ0×Int×Int) (.r 5) (.c (.c (.r 0) (.c (.i .i64) (.c (.i .i64) .n))) .n) .n (fun z=>(z.1,z.2.1.1.1,z.2.1.1.2.1,z.2.1.1.2.2.1)) (fun r=>(r.1,((r.2.1,r.2.2.1,r.2.2.2,()),()),())) (fun _=>rfl)) (.m (R:=Int×Int×List xZ0×Int×Int) (.ifc 16777300 (.dp (.c (.i .i64) (.c (.i .i64) .n)))) (.c (.c (.r 0) (.c (.i .i64) (.c (.i .i64) .n))) .n) .n (fun z=>(z.1.1,z.1.2.1,z.2.1.1.1,z.2.1.1.2.1,z.2.1.1.2.2.1)) (fun r=>((r.1,r.2.1,()),((r.2.2.1,r.2.2.2.1,r.2.2.2.2,()),()),())) (fun _=>rfl)))
def xZ2Y:Con tb:=.m 95 [false,true,true,false,true] (.c (.ptr 0 0) (.c (.i .u8) (.c .s (.c (.fn 96 (.c (.ptr 0 0) .n) .n) (.c (.i .i64) .n))))) (.c (.c (.r 0) (.c (.i .i64) (.c (.i .i64) .n))) .n) .n (fun N a=>xZ7K N a.1.2.1 a.1.2.2.1 a.1.2.2.2.2.1 a.2.1.1.1 a.2.1.1.2.1 a.2.1.1.2.2.1) (R:=(List xZ1×List xZ0×Int×Int)⊕(Int×Int×List xZ0×Int×Int)) (.or (.m (R:=List xZ1×List xZ0×Int×Int) (.r 5) (.c (.c (.r 0) (.c (.i .i64) (.c (.i .i64) .n))) .n) .n (fun z=>(z.1,z.2.1.1.1,z.2.1.1.2.1,z.2.1.1.2.2.1)) (fun r=>(r.1,((r.2.1,r.2.2.1,r.2.2.2,()),()),())) (fun _=>rfl)) (.m (R:=Int×Int×List xZ0×Int×Int) (.ifc 16777300 (.dp (.c (.i .i64) (.c (.i .i64) .n)))) (.c (.c (.r 0) (.c (.i .i64) (.c (.i .i64) .n))) .n) .n (fun z=>(z.1.1,z.1.2.1,z.2.1.1.1,z.2.1.1.2.1,z.2.1.1.2.2.1)) (fun r=>((r.1,r.2.1,()),((r.2.2.1,r.2.2.2.1,r.2.2.2.2,()),()),())) (fun _=>rfl)))
def xZ1H:LQ tb (((List UInt8)×Int)×((List xZ0)×Int×Int×Int×(List xZ1))):=(LQ.m [] [0,2,3,4,12,13] (.c 0 (.ptr 0 0) (.c 2 .s (.c 3 (.fn 96 (.c (.ptr 0 0) .n) .n) (.c 4 (.i .i64) (.c 12 (.ptr 1 0) (.c 13 (.fn 128 .n (.c (.ptr 2 0) (.c (.ptr 1 0) .n))) .n)))))) (.c (.c (.r 0) (.c (.i .i64) (.c (.i .i64) .n))) (.c (.c (.own 0) .n) (.c (.c (.i .u8) .n) .n))) (.l 5 .n)).re (fun a=>((a.1.2.1,a.1.2.2.2.1),(a.2.1.1.1,a.2.1.1.2.1,a.2.1.1.2.2.1,a.2.1.2.2.1.1,a.2.2.1))) (fun x=>(((),x.1.1,(((),()),()),x.1.2,(),((),(),(),()),()),((x.2.1,x.2.2.1,x.2.2.2.1,()),((),()),(x.2.2.2.2.1,()),()),x.2.2.2.2.2,())) (fun _=>rfl)
def xZ3G (N:Nat) (c:(List UInt8)×Int) (next:((List xZ0)×Int×Int×Int×(List xZ1))→Option ((List xZ1×List xZ0×Int×Int)⊕(Int×Int×List xZ0×Int×Int))) (v:(List xZ0)×Int×Int×Int×(List xZ1)):Option ((List xZ1×List xZ0×Int×Int)⊕(Int×Int×List xZ0×Int×Int)):=xZ2o N (xZ7 N) c.1 c.2 (fun u0 u1 u2 u3 u4=>next (u0,u1,u2,u3,u4)) v.1 v.2.1 v.2.2.1 v.2.2.2.1 v.2.2.2.2
abbrev xZ6c (N:Nat):((List UInt8)×Int)×((List xZ0)×Int×Int×Int×(List xZ1))→Option ((List xZ1×List xZ0×Int×Int)⊕(Int×Int×List xZ0×Int×Int)):=fun a=>loopV (xZ3G N a.1) N a.2
def xZ2p:Con tb:=.m 96 [false,true] (.c (.ptr 0 0) (.c (.i .i64) .n)) (.c (.c (.r 0) (.c (.i .i64) (.c (.i .i64) .n))) .n) .n (fun N a=>xZ6e N a.1.2.1 a.2.1.1.1 a.2.1.1.2.1 a.2.1.1.2.2.1) (R:=(List xZ1×List xZ0×Int×Int)⊕(Int×Int×List xZ0×Int×Int)) (.or (.m (R:=List xZ1×List xZ0×Int×Int) (.r 5) (.c (.c (.r 0) (.c (.i .i64) (.c (.i .i64) .n))) .n) .n (fun z=>(z.1,z.2.1.1.1,z.2.1.1.2.1,z.2.1.1.2.2.1)) (fun r=>(r.1,((r.2.1,r.2.2.1,r.2.2.2,()),()),())) (fun _=>rfl)) (.m (R:=Int×Int×List xZ0×Int×Int) (.ifc 16777300 (.dp (.c (.i .i64) (.c (.i .i64) .n)))) (.c (.c (.r 0) (.c (.i .i64) (.c (.i .i64) .n))) .n) .n (fun z=>(z.1.1,z.1.2.1,z.2.1.1.1,z.2.1.1.2.1,z.2.1.1.2.2.1)) (fun r=>((r.1,r.2.1,()),((r.2.2.1,r.2.2.2.1,r.2.2.2.2,()),()),())) (fun _=>rfl)))
def xZ32:Con tb:=.m 95 [false,true,true,false,true] (.c (.ptr 0 0) (.c (.i .u8) (.c .s (.c (.fn 129 (.c (.ptr 0 0) .n) .n) (.c (.i .i64) .n))))) (.c (.c (.r 0) (.c (.i .i64) (.c (.i .i64) .n))) .n) .n (fun N a=>xZ7y N a.1.2.1 a.1.2.2.1 a.1.2.2.2.2.1 a.2.1.1.1 a.2.1.1.2.1 a.2.1.1.2.2.1) (R:=(List xZ1×List xZ0×Int×Int)⊕(Int×Int×List xZ0×Int×Int)) (.or (.m (R:=List xZ1×List xZ0×Int×Int) (.r 5) (.c (.c (.r 0) (.c (.i .i64) (.c (.i .i64) .n))) .n) .n (fun z=>(z.1,z.2.1.1.1,z.2.1.1.2.1,z.2.1.1.2.2.1)) (fun r=>(r.1,((r.2.1,r.2.2.1,r.2.2.2,()),()),())) (fun _=>rfl)) (.m (R:=Int×Int×List xZ0×Int×Int) (.ifc 16777300 (.dp (.c (.i .i64) (.c (.i .i64) .n)))) (.c (.c (.r 0) (.c (.i .i64) (.c (.i .i64) .n))) .n) .n (fun z=>(z.1.1,z.1.2.1,z.2.1.1.1,z.2.1.1.2.1,z.2.1.1.2.2.1)) (fun r=>((r.1,r.2.1,()),((r.2.2.1,r.2.2.2.1,r.2.2.2.2,()),()),())) (fun _=>rfl)))
def xZ1G:LQ tb (((List UInt8)×Int)×((List xZ0)×Int×Int×Int×(List xZ1))):=(LQ.m [] [0,2,3,4,12,13] (.c 0 (.ptr 0 0) (.c 2 .s (.c 3 (.fn 129 (.c (.ptr 0 0) .n) .n) (.c 4 (.i .i64) (.c 12 (.ptr 1 0) (.c 13 (.fn 128 .n (.c (.ptr 2 0) (.c (.ptr 1 0) .n))) .n)))))) (.c (.c (.r 0) (.c (.i .i64) (.c (.i .i64) .n))) (.c (.c (.own 0) .n) (.c (.c (.i .u8) .n) .n))) (.l 5 .n)).re (fun a=>((a.1.2.1,a.1.2.2.2.1),(a.2.1.1.1,a.2.1.1.2.1,a.2.1.1.2.2.1,a.2.1.2.2.1.1,a.2.2.1))) (fun x=>(((),x.1.1,(((),()),()),x.1.2,(),((),(),(),()),()),((x.2.1,x.2.2.1,x.2.2.2.1,()),((),()),(x.2.2.2.2.1,()),()),x.2.2.2.2.2,())) (fun _=>rfl)
def xZ3K (N:Nat) (c:(List UInt8)×Int) (next:((List xZ0)×Int×Int×Int×(List xZ1))→Option ((List xZ1×List xZ0×Int×Int)⊕(Int×Int×List xZ0×Int×Int))) (v:(List xZ0)×Int×Int×Int×(List xZ1)):Option ((List xZ1×List xZ0×Int×Int)⊕(Int×Int×List xZ0×Int×Int)):=xZ2q N (xZ7 N) c.1 c.2 (fun u0 u1 u2 u3 u4=>next (u0,u1,u2,u3,u4)) v.1 v.2.1 v.2.2.1 v.2.2.2.1 v.2.2.2.2
abbrev xZ6i (N:Nat):((List UInt8)×Int)×((List xZ0)×Int×Int×Int×(List xZ1))→Option ((List xZ1×List xZ0×Int×Int)⊕(Int×Int×List xZ0×Int×Int)):=fun a=>loopV (xZ3K N a.1) N a.2
def xZ2W:Con tb:=.m 129 [false,true] (.c (.ptr 0 0) (.c (.i .i64) .n)) (.c (.c (.r 0) (.c (.i .i64) (.c (.i .i64) .n))) .n) .n (fun N a=>xZ7w N a.1.2.1 a.2.1.1.1 a.2.1.1.2.1 a.2.1.1.2.2.1) (R:=(List xZ1×List xZ0×Int×Int)⊕(Int×Int×List xZ0×Int×Int)) (.or (.m (R:=List xZ1×List xZ0×Int×Int) (.r 5) (.c (.c (.r 0) (.c (.i .i64) (.c (.i .i64) .n))) .n) .n (fun z=>(z.1,z.2.1.1.1,z.2.1.1.2.1,z.2.1.1.2.2.1)) (fun r=>(r.1,((r.2.1,r.2.2.1,r.2.2.2,()),()),())) (fun _=>rfl)) (.m (R:=Int×Int×List xZ0×Int×Int) (.ifc 16777300 (.dp (.c (.i .i64) (.c (.i .i64) .n)))) (.c (.c (.r 0) (.c (.i .i64) (.c (.i .i64) .n))) .n) .n (fun z=>(z.1.1,z.1.2.1,z.2.1.1.1,z.2.1.1.2.1,z.2.1.1.2.2.1)) (fun r=>((r.1,r.2.1,()),((r.2.2.1,r.2.2.2.1,r.2.2.2.2,()),()),())) (fun _=>rfl)))
def xZ6n:Con tb:=.s 46 [true] (.c (.i .u8) .n) (fun N a=>xZ33 N a.1) (R:=List UInt8) (.p .s) (fun _=>⟨rfl,(by kernel_rfl)⟩)
def xZ2V:Con tb:=.m 58 [false] (.c (.ptr 0 0) .n) (.c (.c (.r 0) (.c (.i .i64) (.c (.i .i64) .n))) .n) .n (fun N a=>xZw N a.2.1.1.1 a.2.1.1.2.1 a.2.1.1.2.2.1) (R:=(Int×List xZ0×Int×Int)⊕(Int×Int×List xZ0×Int×Int)) (.or (.m (R:=Int×List xZ0×Int×Int) (.i .u8) (.c (.c (.r 0) (.c (.i .i64) (.c (.i .i64) .n))) .n) .n (fun z=>(z.1,z.2.1.1.1,z.2.1.1.2.1,z.2.1.1.2.2.1)) (fun r=>(r.1,((r.2.1,r.2.2.1,r.2.2.2,()),()),())) (fun _=>rfl)) (.m (R:=Int×Int×List xZ0×Int×Int) (.ifc 16777300 (.dp (.c (.i .i64) (.c (.i .i64) .n)))) (.c (.c (.r 0) (.c (.i .i64) (.c (.i .i64) .n))) .n) .n (fun z=>(z.1.1,z.1.2.1,z.2.1.1.1,z.2.1.1.2.1,z.2.1.1.2.2.1)) (fun r=>((r.1,r.2.1,()),((r.2.2.1,r.2.2.2.1,r.2.2.2.2,()),()),())) (fun _=>rfl)))
def xZ1z:LQ tb ((Unit)×(Int×(List xZ0)×Int×Int)):=(LQ.m [] [0,3] (.c 0 (.ptr 0 0) (.c 3 (.i .u8) .n)) (.c (.c (.r 0) (.c (.i .i64) (.c (.i .i64) .n))) .n) .n).re (fun a=>((),(a.1.2.1,a.2.1.1.1,a.2.1.1.2.1,a.2.1.1.2.2.1))) (fun x=>(((),x.2.1,()),((x.2.2.1,x.2.2.2.1,x.2.2.2.2,()),()),())) (fun _=>rfl)
def xZ3F (N:Nat) (c:Unit) (next:(Int×(List xZ0)×Int×Int)→Option ((Int×List xZ0×Int×Int)⊕(Int×Int×List xZ0×Int×Int))) (v:Int×(List xZ0)×Int×Int):Option ((Int×List xZ0×Int×Int)⊕(Int×Int×List xZ0×Int×Int)):=xZ1x N (fun u0 u1 u2 u3=>next (u0,u1,u2,u3)) v.1 v.2.1 v.2.2.1 v.2.2.2
abbrev xZ6k (N:Nat):(Unit)×(Int×(List xZ0)×Int×Int)→Option ((Int×List xZ0×Int×Int)⊕(Int×Int×List xZ0×Int×Int)):=fun a=>loopV (xZ3F N a.1) N a.2
def xZ3:Con tb:=.m 22 [false] (.c (.ptr 0 0) .n) (.c (.c (.r 0) (.c (.i .i64) (.c (.i .i64) .n))) .n) .n (fun N a=>xZf N a.2.1.1.1 a.2.1.1.2.1 a.2.1.1.2.2.1) (R:=(xZ5×List xZ0×Int×Int)⊕(Int×Int×List xZ0×Int×Int)) (.or (.m (R:=xZ5×List xZ0×Int×Int) (.tu (.c (.el tb_ok 6) (.c .ni .n))) (.c (.c (.r 0) (.c (.i .i64) (.c (.i .i64) .n))) .n) .n (fun z=>(z.1.1,z.2.1.1.1,z.2.1.1.2.1,z.2.1.1.2.2.1)) (fun r=>((r.1,(),()),((r.2.1,r.2.2.1,r.2.2.2,()),()),())) (fun _=>rfl)) (.m (R:=Int×Int×List xZ0×Int×Int) (.ifc 16777300 (.dp (.c (.i .i64) (.c (.i .i64) .n)))) (.c (.c (.r 0) (.c (.i .i64) (.c (.i .i64) .n))) .n) .n (fun z=>(z.1.1,z.1.2.1,z.2.1.1.1,z.2.1.1.2.1,z.2.1.1.2.2.1)) (fun r=>((r.1,r.2.1,()),((r.2.2.1,r.2.2.2.1,r.2.2.2.2,()),()),())) (fun _=>rfl)))
def xZp:Con tb:=.m 22 [false] (.c (.ptr 0 0) .n) (.c (.c (.r 0) (.c (.i .i64) (.c (.i .i64) .n))) .n) .n (fun N a=>xZ13 N a.2.1.1.1 a.2.1.1.2.1 a.2.1.1.2.2.1) (R:=(xZ5×List xZ0×Int×Int)⊕(xZ5×Int×Int×List xZ0×Int×Int)) (.or (.m (R:=xZ5×List xZ0×Int×Int) (.tu (.c (.el tb_ok 6) (.c .ni .n))) (.c (.c (.r 0) (.c (.i .i64) (.c (.i .i64) .n))) .n) .n (fun z=>(z.1.1,z.2.1.1.1,z.2.1.1.2.1,z.2.1.1.2.2.1)) (fun r=>((r.1,(),()),((r.2.1,r.2.2.1,r.2.2.2,()),()),())) (fun _=>rfl)) (.m (R:=xZ5×Int×Int×List xZ0×Int×Int) (.tu (.c (.el tb_ok 6) (.o (.ifc 84 (.dp (.c (.i .i64) (.c (.i .i64) .n))))))) (.c (.c (.r 0) (.c (.i .i64) (.c (.i .i64) .n))) .n) .n (fun z=>(z.1.1,z.1.2.1,z.1.2.2.1,z.2.1.1.1,z.2.1.1.2.1,z.2.1.1.2.2.1)) (fun r=>((r.1,r.2.1,r.2.2.1,()),((r.2.2.2.1,r.2.2.2.2.1,r.2.2.2.2.2,()),()),())) (fun _=>rfl)))
def xZ3r:Con tb:=.s 76 [true] (.c (.el tb_ok 5) .n) (fun N a=>xZ2M N a.1) (R:=Bool) (.p .b) (fun _=>⟨rfl,(by kernel_rfl)⟩)
def xZ4H:Con tb:=.s 79 [true,true] (.c (.el tb_ok 5) (.c (.i .u8) .n)) (fun N a=>xZ3B N a.1 a.2.1) (R:=Bool) (.p .b) (fun _=>⟨rfl,(by kernel_rfl)⟩)
def xZ55:Con tb:=.s 116 [true] (.c (.el tb_ok 5) .n) (fun N a=>xZ3S N a.1) (R:=Bool) (.p .b) (fun _=>⟨rfl,(by kernel_rfl)⟩)
def xZ59:Con tb:=.s 80 [true] (.c (.el tb_ok 5) .n) (fun N a=>xZ3U N a.1) (R:=Bool) (.p .b) (fun _=>⟨rfl,(by kernel_rfl)⟩)
def xZ4l:Con tb:=.s 41 [true] (.c (.el tb_ok 5) .n) (fun N a=>xZ17 N a.1) (R:=Bool) (.p .b) (fun _=>⟨rfl,(by kernel_rfl)⟩)
def xZ5F:Con tb:=.s 81 [true] (.c (.el tb_ok 5) .n) (fun N a=>xZ4o N a.1) (R:=Bool) (.p .b) (fun _=>⟨rfl,(by kernel_rfl)⟩)
def xZ4r:Con tb:=.s 43 [true] (.c (.el tb_ok 5) .n) (fun N a=>xZ2N N a.1) (R:=Int) (.p (.i .i64)) (fun _=>⟨rfl,(by kernel_rfl)⟩)
def xZ6j:Con tb:=.p 47 [true,true,true] (.c (.r 5) (.c (.i .u8) (.c (.i .i64) .n))) (fun N a=>xZad N a.1 a.2.1 a.2.2.1) (R:=List xZ1×Int) (.p (.tu (.c (.r 5) (.o (.i .i64))))) (fun _=>rfl)
def xZ5X:LQ tb ((Int×Int×Int×Int×Int×Int×(List UInt8)×(List UInt8)×(List xZ2))×((List xZ1)×Int)):=(LQ.m [] [2,8,9,42,43] (.c 2 (.i .i64) (.c 8 (.ptr 0 0) (.c 9 (.r 5) (.c 42 (.i .i64) (.c 43 (.i .i64) .n))))) (.c (.c (.i .u8) (.c (.i .i64) (.c (.i .i64) (.c (.i .i64) (.c .s (.c .s (.c (.r 3) .n))))))) .n) .n).re (fun a=>((a.1.1,a.1.2.2.2.1,a.2.1.1.1,a.2.1.1.2.1,a.2.1.1.2.2.1,a.2.1.1.2.2.2.1,a.2.1.1.2.2.2.2.1,a.2.1.1.2.2.2.2.2.1,a.2.1.1.2.2.2.2.2.2.1),(a.1.2.2.1,a.1.2.2.2.2.1))) (fun x=>((x.1.1,(),x.2.1,x.1.2.1,x.2.2,()),((x.1.2.2.1,x.1.2.2.2.1,x.1.2.2.2.2.1,x.1.2.2.2.2.2.1,x.1.2.2.2.2.2.2.1,x.1.2.2.2.2.2.2.2.1,x.1.2.2.2.2.2.2.2.2,()),()),())) (fun _=>rfl)
def xZaS (N:Nat) (c:Int×Int×Int×Int×Int×Int×(List UInt8)×(List UInt8)×(List xZ2)) (next:((List xZ1)×Int)→Option (List xZ1×Int)) (v:(List xZ1)×Int):Option (List xZ1×Int):=xZ8N N (xZ74 N) c.1 c.2.1 c.2.2.1 (fun u0 u1=>next (u0,u1)) v.1 v.2
abbrev xZeq (N:Nat):(Int×Int×Int×Int×Int×Int×(List UInt8)×(List UInt8)×(List xZ2))×((List xZ1)×Int)→Option (List xZ1×Int):=fun a=>loopV (xZaS N a.1) N a.2
def xZ5t:Con tb:=.s 19 [true] (.c (.el tb_ok 6) .n) (fun N a=>xZ4C N a.1) (R:=Int) (.p (.i .i64)) (fun _=>⟨rfl,(by kernel_rfl)⟩)
def xZ5f:Con tb:=.p 9 [true] (.c .s .n) (fun N a=>xZE N a.1) (R:=xZ5⊕(xZ5×Int×Int)) (.or (.m (R:=xZ5) (.tu (.c (.el tb_ok 6) (.c .ni .n))) .n .n (fun z=>z.1.1) (fun r=>((r,(),()),(),())) (fun _=>rfl)) (.m (R:=xZ5×Int×Int) (.tu (.c (.el tb_ok 6) (.o (.ifc 84 (.dp (.c (.i .i64) (.c (.i .i64) .n))))))) .n .n (fun z=>(z.1.1,z.1.2.1,z.1.2.2.1)) (fun r=>((r.1,r.2.1,r.2.2,()),(),())) (fun _=>rfl))) (fun r=>by rcases r with _ | _<;>exact rfl)
def xZav:Con tb:=.s 161 [true] (.c (.i .u8) .n) (fun N a=>xZ8w N a.1) (R:=Int) (.p (.i .i64)) (fun _=>⟨rfl,(by kernel_rfl)⟩)
def xZdu:Con tb:=.s 113 [true] (.c (.i .i64) .n) (fun N a=>xZ8d N a.1) (R:=List UInt8) (.p .s) (fun _=>⟨rfl,(by kernel_rfl)⟩)
def xZeJ:Con tb:=.s 114 [true] (.c (.i .u64) .n) (fun N a=>xZ9G N a.1) (R:=List UInt8) (.p .s) (fun _=>⟨rfl,(by kernel_rfl)⟩)
def xZeL:Con tb:=.s 115 [true] (.c .s .n) (fun N a=>xZ9K N a.1) (R:=List UInt8) (.p .s) (fun _=>⟨rfl,(by kernel_rfl)⟩)
def xZ76:Con tb:=.s 77 [true] (.c (.el tb_ok 1) .n) (fun N a=>xZ4B N a.1) (R:=List UInt8) (.p .s) (fun _=>⟨rfl,(by kernel_rfl)⟩)
def xZ1I:Con tb:=.m 111 [false] (.c (.ptr 0 0) .n) (.c (.c (.r 3) (.c (.i .i64) .n)) .n) .n (fun N a=>xZ3h N a.2.1.1.1 a.2.1.1.2.1) (R:=List UInt8×List xZ2×Int) (.m (R:=List UInt8×List xZ2×Int) .s (.c (.c (.r 3) (.c (.i .i64) .n)) .n) .n (fun z=>(z.1,z.2.1.1.1,z.2.1.1.2.1)) (fun r=>(r.1,((r.2.1,r.2.2,()),()),())) (fun _=>rfl))
def xZ3v:Con tb:=.m 141 [false,true,true,true] (.c (.ptr 0 0) (.c .s (.c (.i .i64) (.c (.i .i64) .n)))) (.c (.c (.r 3) (.c (.i .i64) .n)) .n) .n (fun N a=>xZ9f N a.1.2.1 a.1.2.2.1 a.1.2.2.2.1 a.2.1.1.1 a.2.1.1.2.1) (R:=List UInt8×List xZ2×Int) (.m (R:=List UInt8×List xZ2×Int) .s (.c (.c (.r 3) (.c (.i .i64) .n)) .n) .n (fun z=>(z.1,z.2.1.1.1,z.2.1.1.2.1)) (fun r=>(r.1,((r.2.1,r.2.2,()),()),())) (fun _=>rfl))
def xZ1Z:Con tb:=.m 142 [false,true] (.c (.ptr 0 0) (.c (.i .i64) .n)) (.c (.c (.r 3) (.c (.i .i64) .n)) .n) .n (fun N a=>xZ7u N a.1.2.1 a.2.1.1.1 a.2.1.1.2.1) (R:=List UInt8×List xZ2×Int) (.m (R:=List UInt8×List xZ2×Int) .s (.c (.c (.r 3) (.c (.i .i64) .n)) .n) .n (fun z=>(z.1,z.2.1.1.1,z.2.1.1.2.1)) (fun r=>(r.1,((r.2.1,r.2.2,()),()),())) (fun _=>rfl))
def xZao:Con tb:=.s 75 [true] (.c (.r 3) .n) (fun N a=>xZ54 N a.1) (R:=List UInt8) (.p .s) (fun _=>⟨rfl,(by kernel_rfl)⟩)
def xZ5E:Con tb:=.s 42 [true] (.c (.el tb_ok 5) .n) (fun N a=>xZ4m N a.1) (R:=List UInt8) (.p .s) (fun _=>⟨rfl,(by kernel_rfl)⟩)
def xZ5Z:Con tb:=.s 45 [true] (.c (.i .i64) .n) (fun N a=>xZk N a.1) (R:=List UInt8) (.p .s) (fun _=>⟨rfl,(by kernel_rfl)⟩)
def xZ5a:Con tb:=.s 44 [true] (.c (.el tb_ok 5) .n) (fun N a=>xZ3R N a.1) (R:=List UInt8) (.p .s) (fun _=>⟨rfl,(by kernel_rfl)⟩)
def xZ2h:Con tb:=.m 40 [true,false,false,false] (.c (.i .u8) (.c (.ptr 0 0) (.c (.ptr 1 0) (.c (.ptr 2 0) .n)))) (.c (.c (.r 5) (.c (.i .i64) (.c .s (.c (.i .u8) .n)))) (.c (.c (.i .i64) .n) (.c (.c (.fn 40 .n (.c (.ptr 0 0) (.c (.ptr 1 0) (.c (.ptr 2 0) .n)))) .n) .n))) .n (fun N a=>xZ36 N a.1.1 a.2.1.1.1 a.2.1.1.2.1 a.2.1.1.2.2.1 a.2.1.1.2.2.2.1 a.2.1.2.1.1) (R:=List UInt8×List xZ1×Int×List UInt8×Int×Int) (.m (R:=List UInt8×List xZ1×Int×List UInt8×Int×Int) .s (.c (.c (.r 5) (.c (.i .i64) (.c .s (.c (.i .u8) .n)))) (.c (.c (.i .i64) .n) (.c (.c (.fn 40 .n (.c (.ptr 0 0) (.c (.ptr 1 0) (.c (.ptr 2 0) .n)))) .n) .n))) .n (fun z=>(z.1,z.2.1.1.1,z.2.1.1.2.1,z.2.1.1.2.2.1,z.2.1.1.2.2.2.1,z.2.1.2.1.1)) (fun r=>(r.1,((r.2.1,r.2.2.1,r.2.2.2.1,r.2.2.2.2.1,()),(r.2.2.2.2.2,()),(((),(),(),(),()),()),()),())) (fun _=>rfl))
def xZ2x:LQ tb ((Int×Int×Int×Int×Int×Int×(List UInt8)×(List UInt8)×(List xZ2))×((List UInt8)×(List UInt8)×Int×(List xZ1)×Int×(List UInt8)×Int×Int)):=(LQ.m [] [0,3,6,7,8,29,30] (.c 0 (.i .u8) (.c 3 (.ptr 2 0) (.c 6 (.ptr 3 0) (.c 7 .s (.c 8 .s (.c 29 (.i .i64) (.c 30 (.i .i64) .n))))))) (.c (.c (.r 5) (.c (.i .i64) (.c .s (.c (.i .u8) .n)))) (.c (.c (.i .i64) .n) (.c (.c (.fn 40 .n (.c (.ptr 0 0) (.c (.ptr 1 0) (.c (.ptr 2 0) .n)))) .n) (.c (.c (.i .u8) (.c (.i .i64) (.c (.i .i64) (.c (.i .i64) (.c .s (.c .s (.c (.r 3) .n))))))) .n)))) .n).re (fun a=>((a.1.1,a.1.2.2.2.2.2.1,a.2.1.2.2.2.1.1,a.2.1.2.2.2.1.2.1,a.2.1.2.2.2.1.2.2.1,a.2.1.2.2.2.1.2.2.2.1,a.2.1.2.2.2.1.2.2.2.2.1,a.2.1.2.2.2.1.2.2.2.2.2.1,a.2.1.2.2.2.1.2.2.2.2.2.2.1),(a.1.2.2.2.1,a.1.2.2.2.2.1,a.1.2.2.2.2.2.2.1,a.2.1.1.1,a.2.1.1.2.1,a.2.1.1.2.2.1,a.2.1.1.2.2.2.1,a.2.1.2.1.1))) (fun x=>((x.1.1,(),(),x.2.1,x.2.2.1,x.1.2.1,x.2.2.2.1,()),((x.2.2.2.2.1,x.2.2.2.2.2.1,x.2.2.2.2.2.2.1,x.2.2.2.2.2.2.2.1,()),(x.2.2.2.2.2.2.2.2,()),(((),(),(),(),()),()),(x.1.2.2.1,x.1.2.2.2.1,x.1.2.2.2.2.1,x.1.2.2.2.2.2.1,x.1.2.2.2.2.2.2.1,x.1.2.2.2.2.2.2.2.1,x.1.2.2.2.2.2.2.2.2,()),()),())) (fun _=>rfl)
def xZ50 (N:Nat) (c:Int×Int×Int×Int×Int×Int×(List UInt8)×(List UInt8)×(List xZ2)) (next:((List UInt8)×(List UInt8)×Int×(List xZ1)×Int×(List UInt8)×Int×Int)→Option (List UInt8×List xZ1×Int×List UInt8×Int×Int)) (v:(List UInt8)×(List UInt8)×Int×(List xZ1)×Int×(List UInt8)×Int×Int):Option (List UInt8×List xZ1×Int×List UInt8×Int×Int):=xZ1f N (xZu N) c.1 c.2.1 c.2.2.1 c.2.2.2.1 c.2.2.2.2.1 c.2.2.2.2.2.1 c.2.2.2.2.2.2.1 c.2.2.2.2.2.2.2.1 c.2.2.2.2.2.2.2.2 (fun u0 u1 u2 u3 u4 u5 u6 u7=>next (u0,u1,u2,u3,u4,u5,u6,u7)) v.1 v.2.1 v.2.2.1 v.2.2.2.1 v.2.2.2.2.1 v.2.2.2.2.2.1 v.2.2.2.2.2.2.1 v.2.2.2.2.2.2.2
abbrev xZ9e (N:Nat):(Int×Int×Int×Int×Int×Int×(List UInt8)×(List UInt8)×(List xZ2))×((List UInt8)×(List UInt8)×Int×(List xZ1)×Int×(List UInt8)×Int×Int)→Option (List UInt8×List xZ1×Int×List UInt8×Int×Int):=fun a=>loopV (xZ50 N a.1) N a.2
def xZ70:Con tb:=.s 18 [true] (.c (.el tb_ok 6) .n) (fun N a=>xZ5v N a.1) (R:=List UInt8) (.p .s) (fun _=>⟨rfl,(by kernel_rfl)⟩)
def xZ5N:Con tb:=.s 14 [false] (.c .ni .n) (fun N a=>xZz N) (R:=Int) (.p (.i .i64)) (fun _=>⟨rfl,(by kernel_rfl)⟩)
def xZaY:Con tb:=.s 35 [false] (.c .ni .n) (fun N a=>xZb5 N) (R:=Unit) (.p .np) (fun _=>⟨rfl,(by kernel_rfl)⟩)
def xZ92:Con tb:=.s 15 [false] (.c .ni .n) (fun N a=>xZa6 N) (R:=Int) (.p (.i .i64)) (fun _=>⟨rfl,(by kernel_rfl)⟩)
def xZ8K:Con tb:=.p 35 [false] (.c (.ifc 84 (.dp (.c (.i .i64) (.c (.i .i64) .n)))) .n) (fun N a=>xZ3i N a.1.1 a.1.2.1) (R:=Int×Int) (.m (R:=Int×Int) (.dp (.c (.i .i64) (.c (.i .i64) .n))) .n .n (fun z=>(z.1.1,z.1.2.1)) (fun r=>((r.1,r.2,()),(),())) (fun _=>rfl)) (fun _=>rfl)
def xZ5T:Con tb:=.s 14 [false] (.c (.ifc 84 (.dp (.c (.i .i64) (.c (.i .i64) .n)))) .n) (fun N a=>xZA N a.1.1 a.1.2.1) (R:=Int) (.p (.i .i64)) (fun _=>⟨rfl,(by kernel_rfl)⟩)
def xZ8S:Con tb:=.s 15 [false] (.c (.ifc 84 (.dp (.c (.i .i64) (.c (.i .i64) .n)))) .n) (fun N a=>xZ2t N a.1.1 a.1.2.1) (R:=Int) (.p (.i .i64)) (fun _=>⟨rfl,(by kernel_rfl)⟩)
def xZ9x:Con tb:=.s 8 [] .n (fun N a=>xZ1o N) (R:=Bool) (.p .b) (fun _=>⟨rfl,(by kernel_rfl)⟩)
def xZ3m:Con tb:=.s 117 [true,true] (.c (.r 3) (.c (.r 3) .n)) (fun N a=>xZ3n N a.1 a.2.1) (R:=Bool) (.p .b) (fun _=>⟨rfl,(by kernel_rfl)⟩)
def xZ1Y:LQ tb (((List xZ2)×(List xZ2)×Int)×(Int)):=(LQ.m [] [0,1,12,13] (.c 0 (.r 3) (.c 1 (.r 3) (.c 12 (.i .i64) (.c 13 (.i .i64) .n)))) .n .n).re (fun a=>((a.1.1,a.1.2.1,a.1.2.2.1),a.1.2.2.2.1)) (fun x=>((x.1.1,x.1.2.1,x.1.2.2,x.2,()),(),())) (fun _=>rfl)
def xZ4g (N:Nat) (c:(List xZ2)×(List xZ2)×Int) (next:Int→Option Bool) (v:Int):Option Bool:=xZ24 N c.1 c.2.1 c.2.2 (fun u0=>next u0) v
abbrev xZ7p (N:Nat):((List xZ2)×(List xZ2)×Int)×(Int)→Option Bool:=fun a=>loopV (xZ4g N a.1) N a.2
def xZb9:Con tb:=.s 85 [true,true] (.c (.r 3) (.c (.r 3) .n)) (fun N a=>xZ8r N a.1 a.2.1) (R:=Bool) (.p .b) (fun _=>⟨rfl,(by kernel_rfl)⟩)
def xZan:Con tb:=.s 50 [true,true] (.c (.el tb_ok 5) (.c (.el tb_ok 5) .n)) (fun N a=>xZau N a.1 a.2.1) (R:=Bool) (.p .b) (fun _=>⟨rfl,(by kernel_rfl)⟩)
def xZ1B:Con tb:=.s 49 [true,true,false] (.c (.r 5) (.c (.r 5) (.c (.fn 50 .n .n) .n))) (fun N a=>xZ1D N a.1 a.2.1) (R:=Bool) (.p .b) (fun _=>⟨rfl,(by kernel_rfl)⟩)
def xZW:LQ tb (((List xZ1)×(List xZ1)×Int)×(Int)):=(LQ.m [] [1,2,15,16,17] (.c 1 (.r 5) (.c 2 (.fn 50 .n .n) (.c 15 (.r 5) (.c 16 (.i .i64) (.c 17 (.i .i64) .n))))) .n .n).re (fun a=>((a.1.1,a.1.2.2.1,a.1.2.2.2.1),a.1.2.2.2.2.1)) (fun x=>((x.1.1,((),()),x.1.2.1,x.1.2.2,x.2,()),(),())) (fun _=>rfl)
def xZ2v (N:Nat) (c:(List xZ1)×(List xZ1)×Int) (next:Int→Option Bool) (v:Int):Option Bool:=xZX N c.1 c.2.1 c.2.2 (fun u0=>next u0) v
abbrev xZ4w (N:Nat):((List xZ1)×(List xZ1)×Int)×(Int)→Option Bool:=fun a=>loopV (xZ2v N a.1) N a.2
def xZaj:Con tb:=.s 20 [true,true] (.c (.el tb_ok 6) (.c (.el tb_ok 6) .n)) (fun N a=>xZN N a.1 a.2.1) (R:=Bool) (.p .b) (fun _=>⟨rfl,(by kernel_rfl)⟩)
def xZ71:Con tb:=.s 6 [true,true] (.c .s (.c (.i .u8) .n)) (fun N a=>xZ3A N a.1 a.2.1) (R:=Bool) (.p .b) (fun _=>⟨rfl,(by kernel_rfl)⟩)
def xZ5n:LQ tb (((List UInt8)×Int×Bool×(List xZ1)×Int×(List UInt8)×Int)×(Unit)):=(LQ.m [] [0,1,5,6,53] (.c 0 .s (.c 1 (.i .u8) (.c 5 (.ptr 0 0) (.c 6 .ni (.c 53 .b .n))))) (.c (.c (.r 5) (.c (.i .i64) (.c .s (.c (.i .u8) .n)))) .n) .n).re (fun a=>((a.1.1,a.1.2.1,a.1.2.2.2.2.1,a.2.1.1.1,a.2.1.1.2.1,a.2.1.1.2.2.1,a.2.1.1.2.2.2.1),())) (fun x=>((x.1.1,x.1.2.1,(),(),x.1.2.2.1,()),((x.1.2.2.2.1,x.1.2.2.2.2.1,x.1.2.2.2.2.2.1,x.1.2.2.2.2.2.2,()),()),())) (fun _=>rfl)
def xZ37:LQ tb (((List UInt8)×Int×(List xZ1)×Int×(List UInt8)×Int)×((List UInt8)×Int)):=(LQ.m [] [0,1,5,6,7,8] (.c 0 .s (.c 1 (.i .u8) (.c 5 (.ptr 0 0) (.c 6 .ni (.c 7 .s (.c 8 (.i .i64) .n)))))) (.c (.c (.r 5) (.c (.i .i64) (.c .s (.c (.i .u8) .n)))) .n) .n).re (fun a=>((a.1.1,a.1.2.1,a.2.1.1.1,a.2.1.1.2.1,a.2.1.1.2.2.1,a.2.1.1.2.2.2.1),(a.1.2.2.2.2.1,a.1.2.2.2.2.2.1))) (fun x=>((x.1.1,x.1.2.1,(),(),x.2.1,x.2.2,()),((x.1.2.2.1,x.1.2.2.2.1,x.1.2.2.2.2.1,x.1.2.2.2.2.2,()),()),())) (fun _=>rfl)
def xZ5B:LQ tb (((List UInt8)×Bool×(List xZ1)×Int×(List UInt8)×Int)×(Unit)):=(LQ.m [] [5,6,7,10,100] (.c 5 (.ptr 0 0) (.c 6 .ni (.c 7 .s (.c 10 .ni (.c 100 .b .n))))) (.c (.c (.r 5) (.c (.i .i64) (.c .s (.c (.i .u8) .n)))) .n) .n).re (fun a=>((a.1.2.2.1,a.1.2.2.2.2.1,a.2.1.1.1,a.2.1.1.2.1,a.2.1.1.2.2.1,a.2.1.1.2.2.2.1),())) (fun x=>(((),(),x.1.1,(),x.1.2.1,()),((x.1.2.2.1,x.1.2.2.2.1,x.1.2.2.2.2.1,x.1.2.2.2.2.2,()),()),())) (fun _=>rfl)
def xZ5l:LQ tb (((List UInt8)×Int×Int×Bool×(List xZ1)×Int×(List UInt8)×Int)×(Unit)):=(LQ.m [] [5,6,7,10,100] (.c 5 (.ptr 0 0) (.c 6 .ni (.c 7 .s (.c 10 (.ifc 84 (.dp (.c (.i .i64) (.c (.i .i64) .n)))) (.c 100 .b .n))))) (.c (.c (.r 5) (.c (.i .i64) (.c .s (.c (.i .u8) .n)))) .n) .n).re (fun a=>((a.1.2.2.1,a.1.2.2.2.1.1,a.1.2.2.2.1.2.1,a.1.2.2.2.2.1,a.2.1.1.1,a.2.1.1.2.1,a.2.1.1.2.2.1,a.2.1.1.2.2.2.1),())) (fun x=>(((),(),x.1.1,(x.1.2.1,x.1.2.2.1,()),x.1.2.2.2.1,()),((x.1.2.2.2.2.1,x.1.2.2.2.2.2.1,x.1.2.2.2.2.2.2.1,x.1.2.2.2.2.2.2.2,()),()),())) (fun _=>rfl)
def xZ5u:LQ tb (((List UInt8)×Int×Int×Int×Bool×(List xZ1)×Int×(List UInt8)×Int)×(Unit)):=(LQ.m [] [0,1,5,6,53] (.c 0 .s (.c 1 (.i .u8) (.c 5 (.ptr 0 0) (.c 6 (.ifc 84 (.dp (.c (.i .i64) (.c (.i .i64) .n)))) (.c 53 .b .n))))) (.c (.c (.r 5) (.c (.i .i64) (.c .s (.c (.i .u8) .n)))) .n) .n).re (fun a=>((a.1.1,a.1.2.1,a.1.2.2.2.1.1,a.1.2.2.2.1.2.1,a.1.2.2.2.2.1,a.2.1.1.1,a.2.1.1.2.1,a.2.1.1.2.2.1,a.2.1.1.2.2.2.1),())) (fun x=>((x.1.1,x.1.2.1,(),(x.1.2.2.1,x.1.2.2.2.1,()),x.1.2.2.2.2.1,()),((x.1.2.2.2.2.2.1,x.1.2.2.2.2.2.2.1,x.1.2.2.2.2.2.2.2.1,x.1.2.2.2.2.2.2.2.2,()),()),())) (fun _=>rfl)
def xZ2z:LQ tb (((List UInt8)×Int×Int×Int×(List xZ1)×Int×(List UInt8)×Int)×((List UInt8)×Int)):=(LQ.m [] [0,1,5,6,7,8] (.c 0 .s (.c 1 (.i .u8) (.c 5 (.ptr 0 0) (.c 6 (.ifc 84 (.dp (.c (.i .i64) (.c (.i .i64) .n)))) (.c 7 .s (.c 8 (.i .i64) .n)))))) (.c (.c (.r 5) (.c (.i .i64) (.c .s (.c (.i .u8) .n)))) .n) .n).re (fun a=>((a.1.1,a.1.2.1,a.1.2.2.2.1.1,a.1.2.2.2.1.2.1,a.2.1.1.1,a.2.1.1.2.1,a.2.1.1.2.2.1,a.2.1.1.2.2.2.1),(a.1.2.2.2.2.1,a.1.2.2.2.2.2.1))) (fun x=>((x.1.1,x.1.2.1,(),(x.1.2.2.1,x.1.2.2.2.1,()),x.2.1,x.2.2,()),((x.1.2.2.2.2.1,x.1.2.2.2.2.2.1,x.1.2.2.2.2.2.2.1,x.1.2.2.2.2.2.2.2,()),()),())) (fun _=>rfl)
def xZ5k:LQ tb ((Int×Int×(List UInt8)×Bool×(List xZ1)×Int×(List UInt8)×Int)×(Unit)):=(LQ.m [] [5,6,7,10,100] (.c 5 (.ptr 0 0) (.c 6 (.ifc 84 (.dp (.c (.i .i64) (.c (.i .i64) .n)))) (.c 7 .s (.c 10 .ni (.c 100 .b .n))))) (.c (.c (.r 5) (.c (.i .i64) (.c .s (.c (.i .u8) .n)))) .n) .n).re (fun a=>((a.1.2.1.1,a.1.2.1.2.1,a.1.2.2.1,a.1.2.2.2.2.1,a.2.1.1.1,a.2.1.1.2.1,a.2.1.1.2.2.1,a.2.1.1.2.2.2.1),())) (fun x=>(((),(x.1.1,x.1.2.1,()),x.1.2.2.1,(),x.1.2.2.2.1,()),((x.1.2.2.2.2.1,x.1.2.2.2.2.2.1,x.1.2.2.2.2.2.2.1,x.1.2.2.2.2.2.2.2,()),()),())) (fun _=>rfl)
def xZ5s:LQ tb ((Int×Int×(List UInt8)×Int×Int×Bool×(List xZ1)×Int×(List UInt8)×Int)×(Unit)):=(LQ.m [] [5,6,7,10,100] (.c 5 (.ptr 0 0) (.c 6 (.ifc 84 (.dp (.c (.i .i64) (.c (.i .i64) .n)))) (.c 7 .s (.c 10 (.ifc 84 (.dp (.c (.i .i64) (.c (.i .i64) .n)))) (.c 100 .b .n))))) (.c (.c (.r 5) (.c (.i .i64) (.c .s (.c (.i .u8) .n)))) .n) .n).re (fun a=>((a.1.2.1.1,a.1.2.1.2.1,a.1.2.2.1,a.1.2.2.2.1.1,a.1.2.2.2.1.2.1,a.1.2.2.2.2.1,a.2.1.1.1,a.2.1.1.2.1,a.2.1.1.2.2.1,a.2.1.1.2.2.2.1),())) (fun x=>(((),(x.1.1,x.1.2.1,()),x.1.2.2.1,(x.1.2.2.2.1,x.1.2.2.2.2.1,()),x.1.2.2.2.2.2.1,()),((x.1.2.2.2.2.2.2.1,x.1.2.2.2.2.2.2.2.1,x.1.2.2.2.2.2.2.2.2.1,x.1.2.2.2.2.2.2.2.2.2,()),()),())) (fun _=>rfl)
abbrev xZ5y (N:Nat):((List UInt8)×Bool×(List xZ1)×Int×(List UInt8)×Int)×(Unit)→Option Bool:=fun a=>xZv N a.1.2.1 a.1.2.2.1 a.1.2.2.2.1 a.1.2.2.2.2.1 a.1.2.2.2.2.2
abbrev xZ5r (N:Nat):((List UInt8)×Int×Int×Bool×(List xZ1)×Int×(List UInt8)×Int)×(Unit)→Option Bool:=fun a=>xZI N a.1.2.2.2.1 a.1.2.2.2.2.1 a.1.2.2.2.2.2.1 a.1.2.2.2.2.2.2.1 a.1.2.2.2.2.2.2.2
def xZ5J (N:Nat) (c:(List UInt8)×Int×(List xZ1)×Int×(List UInt8)×Int) (next:((List UInt8)×Int)→Option Bool) (v:(List UInt8)×Int):Option Bool:=xZ49 N c.1 c.2.1 c.2.2.1 c.2.2.2.1 c.2.2.2.2.1 c.2.2.2.2.2 (fun u0 u1=>next (u0,u1)) v.1 v.2
abbrev xZ9Y (N:Nat):((List UInt8)×Int×(List xZ1)×Int×(List UInt8)×Int)×((List UInt8)×Int)→Option Bool:=fun a=>loopV (xZ5J N a.1) N a.2
abbrev xZ5o (N:Nat):((List UInt8)×Int×Bool×(List xZ1)×Int×(List UInt8)×Int)×(Unit)→Option Bool:=fun a=>xZ3D N a.1.1 a.1.2.1 a.1.2.2.1 a.1.2.2.2.1 a.1.2.2.2.2.1 a.1.2.2.2.2.2.1 a.1.2.2.2.2.2.2
abbrev xZ5q (N:Nat):(Int×Int×(List UInt8)×Bool×(List xZ1)×Int×(List UInt8)×Int)×(Unit)→Option Bool:=fun a=>xZJ N a.1.1 a.1.2.1 a.1.2.2.1 a.1.2.2.2.1
abbrev xZ5m (N:Nat):(Int×Int×(List UInt8)×Int×Int×Bool×(List xZ1)×Int×(List UInt8)×Int)×(Unit)→Option Bool:=fun a=>xZt N a.1.1 a.1.2.1 a.1.2.2.1 a.1.2.2.2.1 a.1.2.2.2.2.1 a.1.2.2.2.2.2.1
def xZ4Z (N:Nat) (c:(List UInt8)×Int×Int×Int×(List xZ1)×Int×(List UInt8)×Int) (next:((List UInt8)×Int)→Option Bool) (v:(List UInt8)×Int):Option Bool:=xZ48 N c.1 c.2.1 c.2.2.1 c.2.2.2.1 c.2.2.2.2.1 c.2.2.2.2.2.1 c.2.2.2.2.2.2.1 c.2.2.2.2.2.2.2 (fun u0 u1=>next (u0,u1)) v.1 v.2
abbrev xZ9h (N:Nat):((List UInt8)×Int×Int×Int×(List xZ1)×Int×(List UInt8)×Int)×((List UInt8)×Int)→Option Bool:=fun a=>loopV (xZ4Z N a.1) N a.2
abbrev xZ5j (N:Nat):((List UInt8)×Int×Int×Int×Bool×(List xZ1)×Int×(List UInt8)×Int)×(Unit)→Option Bool:=fun a=>xZ1n N a.1.1 a.1.2.1 a.1.2.2.1 a.1.2.2.2.1 a.1.2.2.2.2.1 a.1.2.2.2.2.2.1 a.1.2.2.2.2.2.2.1 a.1.2.2.2.2.2.2.2.1 a.1.2.2.2.2.2.2.2.2
end
end Go.Proofs.YtahklhniofiofaaGreatDoor.E
namespace Go.Proofs.YtahklhniofiofaaGreatDoor.E
open Go Go.RowKit Go.Extern.Stop Go.Stop Go.Extern Go.Proofs.Tryz
set_option maxHeartbeats 4000000
set_option maxRecDepth 1000000
theorem xZnp (p:Int) (w:World):Calls Tryz.prog 23 #[.int .i64 0,.int .i64 p] w fun e w'=>e=.returned .nilIface∧w'=w:=by
 go_enter Tryz.func23,Tryz.ntmps23
 go_wp2
 go_ret
 exact ⟨rfl,rfl⟩
theorem xZdQ (n p:Int) (h:n≠0) (w:World):Calls Tryz.prog 23 #[.int .i64 n,.int .i64 p] w fun e w'=>e=.returned (.iface 84 (.pointer (some ⟨w.heap.size,0,none⟩)))∧w'=w.alloc (.cells #[.int .i64 n,.int .i64 p] 87):=by
 go_enter Tryz.func23,Tryz.ntmps23
 go_wp2
 go_ret
 exact ⟨rfl,rfl⟩
theorem xZ80 (N:Nat):xZ63.Ok prog N:=by
 refine ⟨⟨Tryz.f23,Tryz.func23,by kernel_rfl,by kernel_rfl⟩,fun a r h=>?_⟩
 obtain ⟨n,p,⟨⟩⟩:=a
 have h:xZR N n p=some r:=h
 intro M S w vs hh _ hsz hrep
 obtain ⟨v,u,rfl⟩:∃ v u,vs=#[v,u]:=by
  match vs,hsz with
  | ⟨[v,u]⟩,_=>exact ⟨v,u,rfl⟩
 have h0:v=.int .i64 n:=VRep.v_eq (hrep 0 (Nat.zero_lt_succ 1))
 have h1:u=.int .i64 p:=VRep.v_eq (hrep 1 (Nat.lt_succ_self 1))
 subst h0;subst h1
 by_cases hn:n=0
 ·subst hn
  refine (xZnp p w).mono ?_
  rintro e w' ⟨rfl,rfl⟩
  have e1:xZR N 0 p=some (.inl ()):=rfl
  rw [e1] at h;obtain rfl:=Option.some.inj h
  exact ⟨M,S,.data (.v _),hh,.refl hh⟩
 ·refine (xZdQ n p hn w).mono ?_
  rintro e w' ⟨rfl,rfl⟩
  have e1:xZR N n p=some (.inr (n,p)):=by unfold xZR;rw [show (n==0)=false by simpa using hn];rfl
  rw [e1] at h;obtain rfl:=Option.some.inj h
  have hg:=Grew.alloc w (.cells #[.int .i64 n,.int .i64 p] 87)
  obtain ⟨h3,h4⟩:=hh.addData hg (g:=w.heap.size) (Nat.le_refl _) (by simp)
  refine ⟨M,_,.data (.ifc _ _ _ (.dptr w.heap.size 0 _ _ _ (0,0) (.inr rfl) (xZ3w _ _) (Nat.le_refl 2) (fun j hj=>?_) fun j hj=>?_)),h3,h4⟩
  ·match j,hj with
   | 0,_=>rfl
   | 1,_=>rfl
  ·match j,hj with
   | 0,_=>exact .v _
   | 1,_=>exact .v _
end Go.Proofs.YtahklhniofiofaaGreatDoor.E
set_option linter.unusedVariables false
set_option linter.unusedSimpArgs false
namespace Go.Proofs.YtahklhniofiofaaGreatDoor.E
open Go Go.RowKit Go.Lib Go.Proofs.Tryz
set_option maxHeartbeats 4000000
set_option maxRecDepth 1000000
theorem xZjC (a:Option Addr) (w:World):Calls Tryz.prog 199 #[.slice a 0 0,.int .i64 0] w fun e w'=>e=.returned (.slice a 0 0)∧w'=w:=by
 go_enter Tryz.func199,Tryz.ntmps199
 go_wp2
 go_ret
 exact ⟨rfl,rfl⟩
theorem xZkE (i0:TypeInfo) (z:Value) (hu:Tryz.prog.underlying 44=some (.slice 127)) (hi0:Tryz.prog.info? 127=some i0) (hz0:i0.zero=some z) (hs0:0 < i0.size) (n:Nat) (h0:0 < n) (hbig:n * i0.bytes≤140737488355328) (h63:n≤4611686018427387904) (a:Option Addr) (w:World):
 Calls Tryz.prog 199 #[.slice a 0 0,.int .i64 n] w fun e w'=>e=.returned (.slice (some ⟨w.heap.size,0,none⟩) 0 (grownCap w n 0 127))∧
  w'=w.drew.alloc (.cells (#[]++Builtin.zeroCells z.cells n++Builtin.zeroCells z.cells (grownCap w n 0 127 - n)) 127):=by
 have h1:¬ ((n:Int) < 0):=by omega
 have h4:(n:Int) > 0:=by omega
 have z25:∀ w,(Go.sizeOf 127).run Tryz.prog w=.ok i0.size w:=fun w=>by simp [Go.sizeOf,typeInfo,hi0]
 have hrz:∀ ty,(Builtin.append_ #[44,3] ty #[.slice a 0 0,.int .i64 n]).run Tryz.prog w=
  .ok (.slice (some ⟨w.heap.size,0,none⟩) n (grownCap w n 0 127)) (w.drew.alloc (.cells (#[]++Builtin.zeroCells z.cells n++Builtin.zeroCells z.cells (grownCap w n 0 127 - n)) 127)):=fun ty=>by
  have hold:(Builtin.firstCells i0.size 0 (.slice a 0 0)).run Tryz.prog w.drew=.ok ([]:List Value).toArray w.drew:=by
   cases a with
   | none=>exact run_firstCells_none w.drew i0.size 0 0 0
   | some a=>exact run_firstCells_some w.drew i0.size 0 a 0 0 [] (by simp) (fun j v hj=>by cases hj)
  have h:=Lib.run_append_grow_zeros w 44 3 ty 127 i0 z .i64 .i64 hu Tryz.underlying3 hi0 hz0 a 0 0 [] hold n h0 hs0 (by omega) (by omega) (by omega) (by
   rw [Nat.zero_add];exact growslice_fits (by omega) (by omega))
  rw [Nat.zero_add] at h
  exact h
 have hGn:n≤grownCap w n 0 127:=grownCap_ge w _ _ _
 obtain ⟨G,hG⟩:∃ G,G=grownCap w n 0 127:=⟨_,rfl⟩
 rw [← hG] at hrz hGn ⊢
 have hG63:G≤9223372036854775807:=by
  have:=grownCap_le_maxLen w n 0 127 (by unfold maxLen;omega)
  rw [← hG] at this
  unfold maxLen at this
  omega
 clear hG
 go_enter Tryz.func199,Tryz.ntmps199
 cases a with
 | none=>
   go_wp2_with (at_builtin;refine Lib.wpList_append_run _ rfl _ _ _ _ rfl _ _ rfl rfl _ _ (hrz _) ?_)
   all_goals (go_ret;exact ⟨rfl,rfl⟩)
 | some a=>
   obtain ⟨ab,ao,asp⟩:=a
   go_wp2_with (at_builtin;refine Lib.wpList_append_run _ rfl _ _ _ _ rfl _ _ rfl rfl _ _ (hrz _) ?_)
   all_goals (go_ret;exact ⟨rfl,rfl⟩)
theorem xZ6K (N:Nat):xZ44.Ok prog N:=by
 refine ⟨⟨Tryz.f199,Tryz.func199,by kernel_rfl,by kernel_rfl⟩,fun a r h=>?_⟩
 obtain ⟨⟨⟨⟩,n,⟨⟩⟩,⟨⟩,⟨⟩⟩:=a
 have h:xZ1a N n=some r:=h
 unfold xZ1a at h
 obtain ⟨hn0,h⟩:=xZ2U h
 obtain ⟨hnb,h⟩:=xZ2U h
 have hn0:=xZ1e.1 hn0
 have hnb:=xZ1e.1 hnb
 obtain rfl:=Option.some.inj h
 intro M S w vs hh _ hsz hrep
 obtain ⟨v,u,rfl⟩:∃ v u,vs=#[v,u]:=by
  match vs,hsz with
  | ⟨[v,u]⟩,_=>exact ⟨v,u,rfl⟩
 obtain ⟨ad,rfl⟩:∃ ad,v=.slice ad 0 0:=by
  have q:VRep M S w v .emp:=hrep 0 (Nat.zero_lt_succ 1)
  cases q with
  | data q=>cases q;exact ⟨_,rfl⟩
 have e1:u=.int .i64 n:=VRep.v_eq (hrep 1 (Nat.lt_succ_self 1))
 subst e1
 obtain ⟨m,rfl⟩:∃ m:Nat,n=m:=⟨n.toNat,by omega⟩
 have fin:∀ (g:Value) (w':World),Grew w w'→LiveRep S w' g 8 []→(∀ b,Value.blk g=some b→w.heap.size≤b)→(∃ a n c,g=.slice a n c)→
  ∃ M' S',EndRep M' S' w' (.returned g) (.ret (.own 0))∧RelH M' S' ⟨[],[.live 8 []]⟩ w'∧Frm M S AH.nil w M' S' ⟨[],[.live 8 []]⟩ w':=by
  intro g w' hg hl hb hs
  obtain ⟨h1,h2⟩:=hh.addTok hg hl hb
  exact ⟨_,S,xZ6b hh.nt hs,h1,h2⟩
 by_cases hm:m=0
 ·subst hm
  refine (xZjC ad w).mono ?_
  rintro e w' ⟨rfl,rfl⟩
  exact fin _ _ (.refl _) (.inl ⟨⟨_,rfl⟩,rfl⟩) (fun b hb=>by cases ad<;>cases hb) ⟨_,_,_,rfl⟩
 ·obtain ⟨ks,x,hx⟩:∃ ks x,cMk prog 44 ks=some (x,8,80):=⟨[0,0,0,0,0,0,0,0],eA3 (xZ2.mk 0 0 [] [] (xZ4.mk 0 0 0 [])),by kernel_rfl⟩
  obtain ⟨e,i,z,hu,hi,hz,q1,q2,q3,q4,hx⟩:=xZi8 hx
  simp only [Prod.mk.injEq] at hx
  obtain ⟨-,hs8,hb80⟩:=hx
  have he:e=127:=by
   have:prog.underlying 44=some (.slice 127):=by kernel_rfl
   rw [this] at hu;cases hu;rfl
  subst he
  refine (xZkE i z hu hi hz q3 m (by omega) (by rw [← hb80];omega) (by omega) ad w).mono ?_
  rintro e w' ⟨rfl,rfl⟩
  have hge:=grownCap_ge w m 0 127
  have hle:=grownCap_le_maxLen w m 0 127 (by unfold maxLen;omega)
  have hG:=Grew.drew_alloc w (.cells (#[]++Builtin.zeroCells z.cells m++Builtin.zeroCells z.cells (grownCap w m 0 127 - m)) 127)
  generalize grownCap w m 0 127=G at *
  obtain ⟨q,rfl⟩:∃ q,G=q+1:=⟨G - 1,by omega⟩
  refine fin _ _ hG (.inr ⟨w.heap.size,q,_,127,rfl,fun h=>by have:=hh.sits _ h;omega,xZ3w _ _,⟨Nat.zero_le _,hle,?_,fun i hi=>absurd hi (Nat.not_lt_zero _),fun i hi=>absurd hi (Nat.not_lt_zero _),fun i hi=>absurd hi (Nat.not_lt_zero _)⟩⟩) (fun b hb=>by cases hb;exact Nat.le_refl _) ⟨_,_,_,rfl⟩
  rw [Array.size_append,Array.size_append,size_zeroCells,size_zeroCells,q2,← hs8,Array.size_empty]
  omega
end Go.Proofs.YtahklhniofiofaaGreatDoor.E
set_option linter.unusedVariables false
set_option linter.unusedSimpArgs false
namespace Go.Proofs.YtahklhniofiofaaGreatDoor.E
open Go Go.RowKit Go.Proofs.Tryz
set_option maxHeartbeats 4000000
set_option maxRecDepth 1000000
theorem xZgi {M:Maps} {S:Nat→Prop} {w:World} {v:Value} {l:List Value} (h:VRep M S w v (.agg (l.map .v))):v=.agg l.toArray:=by
 have key:∀ vs:Array Value,vs.size=(l.map AV.v).length→(∀ i,i < (l.map AV.v).length→VRep M S w (vs.getD i undef) ((l.map AV.v).getD i .any))→vs=l.toArray:=fun vs hn hall=>by
  rw [List.length_map] at hn
  refine Array.ext (by simpa using hn) fun i h1 h2=>?_
  have hi:i < l.length:=by omega
  have q:=hall i (by simpa using hi)
  rw [show (l.map AV.v).getD i .any=.v l[i] by simp [List.getD,hi]] at q
  have:=q.v_eq
  simpa [Array.getD,h1] using this
 cases h with
 | data h=>cases h with | agg vs _ hn hall=>exact congrArg _ (key vs hn fun i hi=>.data (hall i hi))
 | agg vs _ hn hall=>exact congrArg _ (key vs hn hall)
theorem xZcu (w:World) (a b:Obj):Grew w ((w.alloc a).alloc b):=⟨rfl,rfl,rfl,by simp;omega,fun g h=>(xZ2K _ _ g (by simp;omega)).trans (xZ2K _ _ g h)⟩
theorem xZi1 (w:World) (a b:Obj):Grew w ((w.alloc a).alloc b).drew:=⟨rfl,rfl,rfl,by simp;omega,fun g h=>(xZ2K _ _ g (by simp;omega)).trans (xZ2K _ _ g h)⟩
theorem xZcJ (l:List UInt8):(bs l).toList=[] ↔ l=[]:=by simp [bs]
theorem xZre (o vk vn vb:Int) (va na vt:List UInt8) (w:World):
 Calls Tryz.prog 158 #[.agg #[.int .u8 4,.int .u8 o,.string (bs va),.string (bs na),.int .u8 vk,.int .i64 vn,.int .u64 vb,.string (bs vt)]] w fun e w'=>(∃ b,e=.returned (.bool b)∧(b=false ↔ (va=[]∧na=[]∧0=vk∧0=vn∧0=vb∧vt=[])))∧Grew w w':=by
 rw [← xZcJ vt,← xZcJ va,← xZcJ na]
 go_enter Tryz.func158,Tryz.ntmps158
 go_wp2
 all_goals
  go_ret
  refine ⟨⟨_,rfl,?_⟩,xZcu _ _ _⟩
  simp_all
theorem xZqg (o vk vn vb:Int) (va na vt:List UInt8) (w:World):
 Calls Tryz.prog 158 #[.agg #[.int .u8 7,.int .u8 o,.string (bs va),.string (bs na),.int .u8 vk,.int .i64 vn,.int .u64 vb,.string (bs vt)]] w fun e w'=>(∃ b,e=.returned (.bool b)∧(b=false ↔ (0=o∧va=[]∧0=vk∧0=vn∧0=vb∧vt=[])))∧Grew w w':=by
 rw [← xZcJ vt,← xZcJ va]
 go_enter Tryz.func158,Tryz.ntmps158
 go_wp2
 all_goals
  go_ret
  refine ⟨⟨_,rfl,?_⟩,xZcu _ _ _⟩
  simp_all
theorem xZr7 (o vk vn vb:Int) (va na vt:List UInt8) (w:World):
 Calls Tryz.prog 158 #[.agg #[.int .u8 8,.int .u8 o,.string (bs va),.string (bs na),.int .u8 vk,.int .i64 vn,.int .u64 vb,.string (bs vt)]] w fun e w'=>(∃ b,e=.returned (.bool b)∧(b=false ↔ (0=o∧0=vk∧0=vn∧0=vb∧vt=[])))∧Grew w w':=by
 rw [← xZcJ vt]
 go_enter Tryz.func158,Tryz.ntmps158
 go_wp2
 go_region_held3 (fun w'=>w'.cell? ⟨w.heap.size,2,none⟩=some (.string (bs va))∧w'.cell? ⟨w.heap.size,3,none⟩=some (.string (bs na))) (go_keep) (fail)
 go_wp2
 all_goals
  go_ret
  refine ⟨⟨_,rfl,?_⟩,xZi1 _ _ _⟩
  simp_all
theorem xZpS (o vk vn vb:Int) (va na vt:List UInt8) (w:World):
 Calls Tryz.prog 158 #[.agg #[.int .u8 9,.int .u8 o,.string (bs va),.string (bs na),.int .u8 vk,.int .i64 vn,.int .u64 vb,.string (bs vt)]] w fun e w'=>(∃ b,e=.returned (.bool b)∧(b=false ↔ (0=o∧va=[]∧na=[])))∧Grew w w':=by
 rw [← xZcJ va,← xZcJ na]
 go_enter Tryz.func158,Tryz.ntmps158
 go_wp2
 all_goals
  go_ret
  refine ⟨⟨_,rfl,?_⟩,xZcu _ _ _⟩
  simp_all
theorem xZrf (k:Int) (h4:¬ k=4) (h7:¬ k=7) (h8:¬ k=8) (h9:¬ k=9) (o vk vn vb:Int) (va na vt:List UInt8) (w:World):
 Calls Tryz.prog 158 #[.agg #[.int .u8 k,.int .u8 o,.string (bs va),.string (bs na),.int .u8 vk,.int .i64 vn,.int .u64 vb,.string (bs vt)]] w fun e w'=>(∃ b,e=.returned (.bool b)∧(b=false ↔ (0=o∧va=[]∧na=[]∧0=vk∧0=vn∧0=vb∧vt=[])))∧Grew w w':=by
 rw [← xZcJ vt,← xZcJ va,← xZcJ na]
 go_enter Tryz.func158,Tryz.ntmps158
 go_wp2
 all_goals
  go_ret
  refine ⟨⟨_,rfl,?_⟩,xZcu _ _ _⟩
  simp_all
theorem bf_eq {a b:Bool} {Q:Prop} (h1:a=false ↔ Q) (h2:b=false ↔ Q):b=a:=by cases a<;>cases b<;>simp_all
theorem xZcW (N:Nat):xZ9t.Ok prog N:=by
 refine ⟨⟨Tryz.f158,Tryz.func158,by kernel_rfl,by kernel_rfl⟩,fun a r h=>?_⟩
 obtain ⟨n,⟨⟩⟩:=a
 have h:some (moreB n)=some r:=h
 obtain rfl:=Option.some.inj h
 intro M S w vs hh _ hsz hrep
 obtain ⟨v,rfl⟩:∃ v,vs=#[v]:=by
  match vs,hsz with
  | ⟨[v]⟩,_=>exact ⟨v,rfl⟩
 obtain ⟨k,o,va,na,vk,vn,vb,vt⟩:=n
 have h0:VRep M S w v (.agg ([.int .u8 k,.int .u8 o,.string (bs va),.string (bs na),.int .u8 vk,.int .i64 vn,.int .u64 vb,.string (bs vt)].map .v)):=hrep 0 (Nat.zero_lt_one)
 obtain rfl:=xZgi h0
 have fin:∀ {k:Int} {Q:Prop},(moreB ⟨k,o,va,na,⟨vk,vn,vb,vt⟩⟩=false ↔ Q)→∀ e w',((∃ b,e=.returned (.bool b)∧(b=false ↔ Q))∧Grew w w')→
  ∃ M' S',EndRep M' S' w' e (.ret (.v (.bool (moreB ⟨k,o,va,na,⟨vk,vn,vb,vt⟩⟩))))∧RelH M' S' AH.nil w'∧Frm M S AH.nil w M' S' AH.nil w':=by
  rintro k Q hm e w' ⟨⟨b,rfl,hb⟩,hg⟩
  obtain rfl:=bf_eq hm hb
  exact ⟨M,S,.data (.v _),hh.grew hg,.grew hh hg⟩
 by_cases h4:k=4
 ·subst h4
  exact (xZre o vk vn vb va na vt w).mono (fin (by simp [moreB,moreZ,eq_comm (a:=(0:Int)),and_assoc]))
 by_cases h7:k=7
 ·subst h7
  exact (xZqg o vk vn vb va na vt w).mono (fin (by simp [moreB,moreZ,eq_comm (a:=(0:Int)),and_assoc]))
 by_cases h8:k=8
 ·subst h8
  exact (xZr7 o vk vn vb va na vt w).mono (fin (by simp [moreB,moreZ,eq_comm (a:=(0:Int)),and_assoc]))
 by_cases h9:k=9
 ·subst h9
  exact (xZpS o vk vn vb va na vt w).mono (fin (by simp [moreB,moreZ,eq_comm (a:=(0:Int)),and_assoc]))
 have e4:(k==4)=false:=by simpa using h4
 have e7:(k==7)=false:=by simpa using h7
 have e8:(k==8)=false:=by simpa using h8
 have e9:(k==9)=false:=by simpa using h9
 exact (xZrf k h4 h7 h8 h9 o vk vn vb va na vt w).mono (fin (by simp only [moreB,e4,e7,e8,e9,cond_false];simp [moreZ,eq_comm (a:=(0:Int)),and_assoc]))
end Go.Proofs.YtahklhniofiofaaGreatDoor.E
