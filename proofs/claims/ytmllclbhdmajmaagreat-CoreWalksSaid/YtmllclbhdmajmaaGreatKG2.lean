/- The code, and what each function of it is walked to. No premise beyond what each theorem says. -/
import Derived.Test.YtmllclbhdmajmaaGreatKG1
set_option linter.all false
set_option linter.unusedSimpArgs false
set_option linter.unusedVariables false
namespace Go.Proofs.YtmllclbhdmajmaaGreat.K
open Go
section
open Go.Proofs.Tryz
set_option maxRecDepth 1000000
noncomputable section
theorem hm:prog.follows .mixedOrders=true:=by kernel_rfl
def eA0 (x:List UInt8):AV:=.v (.string (bs x))
def eA1 (x:xZ1):AV:=.agg [.v (.int .u8 x.Kind),.v (.int .u8 x.Op),.v (.string (bs x.Var)),.v (.string (bs x.Name)),.v (.int .u8 x.Val.Kind),.v (.int .i64 x.Val.N),.v (.int .u64 x.Val.Bits),.v (.string (bs x.Val.Text))]
def eA2 (x:xZ2):AV:=.agg [.v (.bool x.Neg),.v (.string (bs x.Var)),.v (.string (bs x.Type_)),.sl 8 (List.map eA1 x.Test)]
def eA3 (x:xZ3):AV:=.agg [.v (.int .u8 x.Kind),.v (.int .i64 x.Place)]
def eA4 (x:xZ0):AV:=.agg [.v (.int .u8 x.Kind),.v (.int .i64 x.Kids),.v (.int .i64 x.Lo),.v (.int .i64 x.Hi),.v (.string (bs x.Var)),.v (.string (bs x.Type_)),.sl 8 (List.map eA1 x.Test)]
def eA5 (x:xZ4):AV:=.agg [.v (.int .u8 x.Kind),.v (.int .i64 x.At),.v (.string (bs x.Text)),.v (.int .u8 x.Val.Kind),.v (.int .i64 x.Val.N),.v (.int .u64 x.Val.Bits),.v (.string (bs x.Val.Text))]
def eA6 (x:List xZ1):AV:=.sl 8 (List.map eA1 x)
def eA7 (x:xZa):AV:=.agg [.v (.int .u8 x.Kind),.v (.int .i64 x.N),.v (.int .u64 x.Bits),.v (.string (bs x.Text))]
def eA8 (x:xZ9):AV:=.agg [.sl 7 (List.map eA4 x.Body),.v (.int .i64 x.Within),.v (.string (bs x.By)),.v (.int .u8 x.Mode)]
def eA9 (x:xZ14):AV:=.agg [.sl 2 (List.map eA3 x.Nodes),.sl 4 (List.map eA2 x.Places),.v (.int .i64 x.Within),.v (.string (bs x.By)),.v (.int .u8 x.Mode)]
def eA10 (x:xZ8):AV:=.agg [.v (.int .u64 x.i0),.v (.int .u64 x.i1)]
def eA11 (x:Int):AV:=.v (.int .u64 x)
def eA12 (x:Ent105):AV:=.agg [.v (.int .i64 x.k.at_),.v (.int .u64 x.k.from_.i0),.v (.int .u64 x.k.from_.i1),.v (.int .u64 x.v.i0),.v (.int .u64 x.v.i1)]
def eA13 (x:Int):AV:=.v (.int .i64 x)
def eA14 (x:xZb):AV:=.agg [.sl 1 (List.map eA13 x.choices),.v (.int .i64 x.taken),.sl 1 (List.map eA13 x.out),.v (.bool x.ended)]
abbrev T:Nat→Type
 | 0=>List UInt8
 | 1=>xZ1
 | 2=>xZ2
 | 3=>xZ3
 | 4=>xZ0
 | 5=>xZ4
 | 6=>List xZ1
 | 7=>xZa
 | 8=>xZ9
 | 9=>xZ14
 | 10=>xZ8
 | 11=>Int
 | 12=>Ent105
 | 13=>Int
 | 14=>xZb
 | _=>Unit
def enc:(i:Nat)→T i→List (BV T)
 | 0=>fun (x:List UInt8)=>[.str x]
 | 1=>fun (x:xZ1)=>[.int .u8 x.Kind,.int .u8 x.Op,.str x.Var,.str x.Name,.int .u8 x.Val.Kind,.int .i64 x.Val.N,.int .u64 x.Val.Bits,.str x.Val.Text]
 | 2=>fun (x:xZ2)=>[.bool x.Neg,.str x.Var,.str x.Type_,.sl 1 x.Test]
 | 3=>fun (x:xZ3)=>[.int .u8 x.Kind,.int .i64 x.Place]
 | 4=>fun (x:xZ0)=>[.int .u8 x.Kind,.int .i64 x.Kids,.int .i64 x.Lo,.int .i64 x.Hi,.str x.Var,.str x.Type_,.sl 1 x.Test]
 | 5=>fun (x:xZ4)=>[.int .u8 x.Kind,.int .i64 x.At,.str x.Text,.int .u8 x.Val.Kind,.int .i64 x.Val.N,.int .u64 x.Val.Bits,.str x.Val.Text]
 | 6=>fun (x:List xZ1)=>[.sl 1 x]
 | 7=>fun (x:xZa)=>[.int .u8 x.Kind,.int .i64 x.N,.int .u64 x.Bits,.str x.Text]
 | 8=>fun (x:xZ9)=>[.sl 4 x.Body,.int .i64 x.Within,.str x.By,.int .u8 x.Mode]
 | 9=>fun (x:xZ14)=>[.sl 3 x.Nodes,.sl 2 x.Places,.int .i64 x.Within,.str x.By,.int .u8 x.Mode]
 | 10=>fun (x:xZ8)=>[.int .u64 x.i0,.int .u64 x.i1]
 | 11=>fun (x:Int)=>[.int .u64 x]
 | 12=>fun (x:Ent105)=>[.int .i64 x.k.at_,.int .u64 x.k.from_.i0,.int .u64 x.k.from_.i1,.int .u64 x.v.i0,.int .u64 x.v.i1]
 | 13=>fun (x:Int)=>[.int .i64 x]
 | 14=>fun (x:xZb)=>[.sl 13 x.choices,.int .i64 x.taken,.sl 13 x.out,.bool x.ended]
 | _=>fun _=>[]
def dec0:List (BV T)→Option (List UInt8):=P1 asStr fun a0=>P0 (a0:List UInt8)
def dec1:List (BV T)→Option xZ1:=P1 (asInt .u8) fun a0=>P1 (asInt .u8) fun a1=>P1 asStr fun a2=>P1 asStr fun a3=>P1 (asInt .u8) fun a4=>P1 (asInt .i64) fun a5=>P1 (asInt .u64) fun a6=>P1 asStr fun a7=>P0 (⟨a0,a1,a2,a3,⟨a4,a5,a6,a7⟩⟩:xZ1)
def dec2:List (BV T)→Option xZ2:=P1 asBool fun a0=>P1 asStr fun a1=>P1 asStr fun a2=>P1 (asRow 1) fun a3=>P0 (⟨a0,a1,a2,a3⟩:xZ2)
def dec3:List (BV T)→Option xZ3:=P1 (asInt .u8) fun a0=>P1 (asInt .i64) fun a1=>P0 (⟨a0,a1⟩:xZ3)
def dec4:List (BV T)→Option xZ0:=P1 (asInt .u8) fun a0=>P1 (asInt .i64) fun a1=>P1 (asInt .i64) fun a2=>P1 (asInt .i64) fun a3=>P1 asStr fun a4=>P1 asStr fun a5=>P1 (asRow 1) fun a6=>P0 (⟨a0,a1,a2,a3,a4,a5,a6⟩:xZ0)
def dec5:List (BV T)→Option xZ4:=P1 (asInt .u8) fun a0=>P1 (asInt .i64) fun a1=>P1 asStr fun a2=>P1 (asInt .u8) fun a3=>P1 (asInt .i64) fun a4=>P1 (asInt .u64) fun a5=>P1 asStr fun a6=>P0 (⟨a0,a1,a2,⟨a3,a4,a5,a6⟩⟩:xZ4)
def dec6:List (BV T)→Option (List xZ1):=P1 (asRow 1) fun a0=>P0 (a0:List xZ1)
def dec7:List (BV T)→Option xZa:=P1 (asInt .u8) fun a0=>P1 (asInt .i64) fun a1=>P1 (asInt .u64) fun a2=>P1 asStr fun a3=>P0 (⟨a0,a1,a2,a3⟩:xZa)
def dec8:List (BV T)→Option xZ9:=P1 (asRow 4) fun a0=>P1 (asInt .i64) fun a1=>P1 asStr fun a2=>P1 (asInt .u8) fun a3=>P0 (⟨a0,a1,a2,a3⟩:xZ9)
def dec9:List (BV T)→Option xZ14:=P1 (asRow 3) fun a0=>P1 (asRow 2) fun a1=>P1 (asInt .i64) fun a2=>P1 asStr fun a3=>P1 (asInt .u8) fun a4=>P0 (⟨a0,a1,a2,a3,a4⟩:xZ14)
def dec10:List (BV T)→Option xZ8:=P1 (asInt .u64) fun a0=>P1 (asInt .u64) fun a1=>P0 (⟨a0,a1⟩:xZ8)
def dec11:List (BV T)→Option Int:=P1 (asInt .u64) fun a0=>P0 (a0:Int)
def dec12:List (BV T)→Option Ent105:=P1 (asInt .i64) fun a0=>P1 (asInt .u64) fun a1=>P1 (asInt .u64) fun a2=>P1 (asInt .u64) fun a3=>P1 (asInt .u64) fun a4=>P0 (⟨⟨a0,⟨a1,a2⟩⟩,⟨a3,a4⟩⟩:Ent105)
def dec13:List (BV T)→Option Int:=P1 (asInt .i64) fun a0=>P0 (a0:Int)
def dec14:List (BV T)→Option xZb:=P1 (asRow 13) fun a0=>P1 (asInt .i64) fun a1=>P1 (asRow 13) fun a2=>P1 asBool fun a3=>P0 (⟨a0,a1,a2,a3⟩:xZb)
def dec:(i:Nat)→List (BV T)→Option (T i)
 | 0=>dec0
 | 1=>dec1
 | 2=>dec2
 | 3=>dec3
 | 4=>dec4
 | 5=>dec5
 | 6=>dec6
 | 7=>dec7
 | 8=>dec8
 | 9=>dec9
 | 10=>dec10
 | 11=>dec11
 | 12=>dec12
 | 13=>dec13
 | 14=>dec14
 | _=>fun _=>none
def eA:(i:Nat)→T i→AV
 | 0=>eA0
 | 1=>eA1
 | 2=>eA2
 | 3=>eA3
 | 4=>eA4
 | 5=>eA5
 | 6=>eA6
 | 7=>eA7
 | 8=>eA8
 | 9=>eA9
 | 10=>eA10
 | 11=>eA11
 | 12=>eA12
 | 13=>eA13
 | 14=>eA14
 | _=>fun _=>.agg []
def tb:Tb T:={k:=fun i=>[1,8,4,2,7,7,1,4,4,5,2,1,5,1,4].getD i 0,ag:=fun i=>[false,true,true,true,true,true,false,true,true,true,true,false,true,false,true].getD i true,eA,enc,dec}
def sbf (k:Nat):Option (List UInt8→(i:Nat)×List (T i)):=none
theorem sb_ok (k:Nat) (f:List UInt8→(i:Nat)×List (T i)) (s:List UInt8) (h:sbf k=some f):k=1∧tb.k (f s).1=1∧(f s).2.map (tb.eA (f s).1)=s.map byteV:=by cases h
def bof (i:Nat) (_:List (T i)):Option (List UInt8):=none
theorem bo_ok (i:Nat) (l:List (T i)) (s:List UInt8) (h:bof i l=some s):tb.k i=1∧∃ m:List Int,l.map (tb.eA i)=m.map u8V∧s=byS m:=by cases h
theorem xZnf (cs:List (BV T)) (x:List UInt8) (h:dec0 cs=some x):LWs (BV.avs tb cs) (eA0 x).cells:=by
 obtain ⟨c0,r0,a0,rfl,h0,h⟩:=xZt h
 obtain ⟨rfl,rfl⟩:=xZ5O h
 exact .cons (xZ4K h0) (.nil)
theorem xZng (cs:List (BV T)) (x:xZ1) (h:dec1 cs=some x):LWs (BV.avs tb cs) (eA1 x).cells:=by
 obtain ⟨c0,r0,a0,rfl,h0,h⟩:=xZt h
 obtain ⟨c1,r1,a1,rfl,h1,h⟩:=xZt h
 obtain ⟨c2,r2,a2,rfl,h2,h⟩:=xZt h
 obtain ⟨c3,r3,a3,rfl,h3,h⟩:=xZt h
 obtain ⟨c4,r4,a4,rfl,h4,h⟩:=xZt h
 obtain ⟨c5,r5,a5,rfl,h5,h⟩:=xZt h
 obtain ⟨c6,r6,a6,rfl,h6,h⟩:=xZt h
 obtain ⟨c7,r7,a7,rfl,h7,h⟩:=xZt h
 obtain ⟨rfl,rfl⟩:=xZ5O h
 exact .cons (xZM h0) (.cons (xZM h1) (.cons (xZ4K h2) (.cons (xZ4K h3) (.cons (xZM h4) (.cons (xZM h5) (.cons (xZM h6) (.cons (xZ4K h7) (.nil))))))))
theorem xZnh (cs:List (BV T)) (x:xZ2) (h:dec2 cs=some x):LWs (BV.avs tb cs) (eA2 x).cells:=by
 obtain ⟨c0,r0,a0,rfl,h0,h⟩:=xZt h
 obtain ⟨c1,r1,a1,rfl,h1,h⟩:=xZt h
 obtain ⟨c2,r2,a2,rfl,h2,h⟩:=xZt h
 obtain ⟨c3,r3,a3,rfl,h3,h⟩:=xZt h
 obtain ⟨rfl,rfl⟩:=xZ5O h
 exact .cons (xZh3 h0) (.cons (xZ4K h1) (.cons (xZ4K h2) (.cons (xZ7S h3) (.nil))))
theorem xZni (cs:List (BV T)) (x:xZ3) (h:dec3 cs=some x):LWs (BV.avs tb cs) (eA3 x).cells:=by
 obtain ⟨c0,r0,a0,rfl,h0,h⟩:=xZt h
 obtain ⟨c1,r1,a1,rfl,h1,h⟩:=xZt h
 obtain ⟨rfl,rfl⟩:=xZ5O h
 exact .cons (xZM h0) (.cons (xZM h1) (.nil))
theorem xZnj (cs:List (BV T)) (x:xZ0) (h:dec4 cs=some x):LWs (BV.avs tb cs) (eA4 x).cells:=by
 obtain ⟨c0,r0,a0,rfl,h0,h⟩:=xZt h
 obtain ⟨c1,r1,a1,rfl,h1,h⟩:=xZt h
 obtain ⟨c2,r2,a2,rfl,h2,h⟩:=xZt h
 obtain ⟨c3,r3,a3,rfl,h3,h⟩:=xZt h
 obtain ⟨c4,r4,a4,rfl,h4,h⟩:=xZt h
 obtain ⟨c5,r5,a5,rfl,h5,h⟩:=xZt h
 obtain ⟨c6,r6,a6,rfl,h6,h⟩:=xZt h
 obtain ⟨rfl,rfl⟩:=xZ5O h
 exact .cons (xZM h0) (.cons (xZM h1) (.cons (xZM h2) (.cons (xZM h3) (.cons (xZ4K h4) (.cons (xZ4K h5) (.cons (xZ7S h6) (.nil)))))))
theorem xZnk (cs:List (BV T)) (x:xZ4) (h:dec5 cs=some x):LWs (BV.avs tb cs) (eA5 x).cells:=by
 obtain ⟨c0,r0,a0,rfl,h0,h⟩:=xZt h
 obtain ⟨c1,r1,a1,rfl,h1,h⟩:=xZt h
 obtain ⟨c2,r2,a2,rfl,h2,h⟩:=xZt h
 obtain ⟨c3,r3,a3,rfl,h3,h⟩:=xZt h
 obtain ⟨c4,r4,a4,rfl,h4,h⟩:=xZt h
 obtain ⟨c5,r5,a5,rfl,h5,h⟩:=xZt h
 obtain ⟨c6,r6,a6,rfl,h6,h⟩:=xZt h
 obtain ⟨rfl,rfl⟩:=xZ5O h
 exact .cons (xZM h0) (.cons (xZM h1) (.cons (xZ4K h2) (.cons (xZM h3) (.cons (xZM h4) (.cons (xZM h5) (.cons (xZ4K h6) (.nil)))))))
theorem xZnl (cs:List (BV T)) (x:List xZ1) (h:dec6 cs=some x):LWs (BV.avs tb cs) (eA6 x).cells:=by
 obtain ⟨c0,r0,a0,rfl,h0,h⟩:=xZt h
 obtain ⟨rfl,rfl⟩:=xZ5O h
 exact .cons (xZ7S h0) (.nil)
theorem xZnm (cs:List (BV T)) (x:xZa) (h:dec7 cs=some x):LWs (BV.avs tb cs) (eA7 x).cells:=by
 obtain ⟨c0,r0,a0,rfl,h0,h⟩:=xZt h
 obtain ⟨c1,r1,a1,rfl,h1,h⟩:=xZt h
 obtain ⟨c2,r2,a2,rfl,h2,h⟩:=xZt h
 obtain ⟨c3,r3,a3,rfl,h3,h⟩:=xZt h
 obtain ⟨rfl,rfl⟩:=xZ5O h
 exact .cons (xZM h0) (.cons (xZM h1) (.cons (xZM h2) (.cons (xZ4K h3) (.nil))))
theorem xZnn (cs:List (BV T)) (x:xZ9) (h:dec8 cs=some x):LWs (BV.avs tb cs) (eA8 x).cells:=by
 obtain ⟨c0,r0,a0,rfl,h0,h⟩:=xZt h
 obtain ⟨c1,r1,a1,rfl,h1,h⟩:=xZt h
 obtain ⟨c2,r2,a2,rfl,h2,h⟩:=xZt h
 obtain ⟨c3,r3,a3,rfl,h3,h⟩:=xZt h
 obtain ⟨rfl,rfl⟩:=xZ5O h
 exact .cons (xZ7S h0) (.cons (xZM h1) (.cons (xZ4K h2) (.cons (xZM h3) (.nil))))
theorem xZno (cs:List (BV T)) (x:xZ14) (h:dec9 cs=some x):LWs (BV.avs tb cs) (eA9 x).cells:=by
 obtain ⟨c0,r0,a0,rfl,h0,h⟩:=xZt h
 obtain ⟨c1,r1,a1,rfl,h1,h⟩:=xZt h
 obtain ⟨c2,r2,a2,rfl,h2,h⟩:=xZt h
 obtain ⟨c3,r3,a3,rfl,h3,h⟩:=xZt h
 obtain ⟨c4,r4,a4,rfl,h4,h⟩:=xZt h
 obtain ⟨rfl,rfl⟩:=xZ5O h
 exact .cons (xZ7S h0) (.cons (xZ7S h1) (.cons (xZM h2) (.cons (xZ4K h3) (.cons (xZM h4) (.nil)))))
theorem xZlY (cs:List (BV T)) (x:xZ8) (h:dec10 cs=some x):LWs (BV.avs tb cs) (eA10 x).cells:=by
 obtain ⟨c0,r0,a0,rfl,h0,h⟩:=xZt h
 obtain ⟨c1,r1,a1,rfl,h1,h⟩:=xZt h
 obtain ⟨rfl,rfl⟩:=xZ5O h
 exact .cons (xZM h0) (.cons (xZM h1) (.nil))
theorem xZlZ (cs:List (BV T)) (x:Int) (h:dec11 cs=some x):LWs (BV.avs tb cs) (eA11 x).cells:=by
 obtain ⟨c0,r0,a0,rfl,h0,h⟩:=xZt h
 obtain ⟨rfl,rfl⟩:=xZ5O h
 exact .cons (xZM h0) (.nil)
theorem xZm0 (cs:List (BV T)) (x:Ent105) (h:dec12 cs=some x):LWs (BV.avs tb cs) (eA12 x).cells:=by
 obtain ⟨c0,r0,a0,rfl,h0,h⟩:=xZt h
 obtain ⟨c1,r1,a1,rfl,h1,h⟩:=xZt h
 obtain ⟨c2,r2,a2,rfl,h2,h⟩:=xZt h
 obtain ⟨c3,r3,a3,rfl,h3,h⟩:=xZt h
 obtain ⟨c4,r4,a4,rfl,h4,h⟩:=xZt h
 obtain ⟨rfl,rfl⟩:=xZ5O h
 exact .cons (xZM h0) (.cons (xZM h1) (.cons (xZM h2) (.cons (xZM h3) (.cons (xZM h4) (.nil)))))
theorem xZm1 (cs:List (BV T)) (x:Int) (h:dec13 cs=some x):LWs (BV.avs tb cs) (eA13 x).cells:=by
 obtain ⟨c0,r0,a0,rfl,h0,h⟩:=xZt h
 obtain ⟨rfl,rfl⟩:=xZ5O h
 exact .cons (xZM h0) (.nil)
theorem xZm2 (cs:List (BV T)) (x:xZb) (h:dec14 cs=some x):LWs (BV.avs tb cs) (eA14 x).cells:=by
 obtain ⟨c0,r0,a0,rfl,h0,h⟩:=xZt h
 obtain ⟨c1,r1,a1,rfl,h1,h⟩:=xZt h
 obtain ⟨c2,r2,a2,rfl,h2,h⟩:=xZt h
 obtain ⟨c3,r3,a3,rfl,h3,h⟩:=xZt h
 obtain ⟨rfl,rfl⟩:=xZ5O h
 exact .cons (xZ7S h0) (.cons (xZM h1) (.cons (xZ7S h2) (.cons (xZh3 h3) (.nil))))
theorem tb_ok:tb.Ok where
 enc:=fun i x=>match i with | 0=>(by kernel_rfl) | 1=>(by kernel_rfl) | 2=>(by kernel_rfl) | 3=>(by kernel_rfl) | 4=>(by kernel_rfl) | 5=>(by kernel_rfl) | 6=>(by kernel_rfl) | 7=>(by kernel_rfl) | 8=>(by kernel_rfl) | 9=>(by kernel_rfl) | 10=>(by kernel_rfl) | 11=>(by kernel_rfl) | 12=>(by kernel_rfl) | 13=>(by kernel_rfl) | 14=>(by kernel_rfl) | n+15=>(by kernel_rfl)
 len:=fun i x=>match i with | 0=>(by kernel_rfl) | 1=>(by kernel_rfl) | 2=>(by kernel_rfl) | 3=>(by kernel_rfl) | 4=>(by kernel_rfl) | 5=>(by kernel_rfl) | 6=>(by kernel_rfl) | 7=>(by kernel_rfl) | 8=>(by kernel_rfl) | 9=>(by kernel_rfl) | 10=>(by kernel_rfl) | 11=>(by kernel_rfl) | 12=>(by kernel_rfl) | 13=>(by kernel_rfl) | 14=>(by kernel_rfl) | n+15=>(by kernel_rfl)
 one:=fun i x=>match i with | 0=>(by kernel_rfl) | 1=>(by kernel_rfl) | 2=>(by kernel_rfl) | 3=>(by kernel_rfl) | 4=>(by kernel_rfl) | 5=>(by kernel_rfl) | 6=>(by kernel_rfl) | 7=>(by kernel_rfl) | 8=>(by kernel_rfl) | 9=>(by kernel_rfl) | 10=>(by kernel_rfl) | 11=>(by kernel_rfl) | 12=>(by kernel_rfl) | 13=>(by kernel_rfl) | 14=>(by kernel_rfl) | n+15=>(by kernel_rfl)
 dat:=fun i x=>match i with | 0=>(by kernel_rfl) | 1=>(by kernel_rfl) | 2=>(by kernel_rfl) | 3=>(by kernel_rfl) | 4=>(by kernel_rfl) | 5=>(by kernel_rfl) | 6=>(by kernel_rfl) | 7=>(by kernel_rfl) | 8=>(by kernel_rfl) | 9=>(by kernel_rfl) | 10=>(by kernel_rfl) | 11=>(by kernel_rfl) | 12=>(by kernel_rfl) | 13=>(by kernel_rfl) | 14=>(by kernel_rfl) | n+15=>(by kernel_rfl)
 sg:=fun i x h=>match i with | 0=>(by kernel_rfl) | 1=>(by cases h) | 2=>(by cases h) | 3=>(by cases h) | 4=>(by cases h) | 5=>(by cases h) | 6=>(by kernel_rfl) | 7=>(by cases h) | 8=>(by cases h) | 9=>(by cases h) | 10=>(by cases h) | 11=>(by kernel_rfl) | 12=>(by cases h) | 13=>(by kernel_rfl) | 14=>(by cases h) | n+15=>(by cases h)
 ag:=fun i x h=>match i with | 0=>(by cases h) | 1=>(by kernel_rfl) | 2=>(by kernel_rfl) | 3=>(by kernel_rfl) | 4=>(by kernel_rfl) | 5=>(by kernel_rfl) | 6=>(by cases h) | 7=>(by kernel_rfl) | 8=>(by kernel_rfl) | 9=>(by kernel_rfl) | 10=>(by kernel_rfl) | 11=>(by cases h) | 12=>(by kernel_rfl) | 13=>(by cases h) | 14=>(by kernel_rfl) | n+15=>(by kernel_rfl)
 dec:=fun i=>match i with | 0=>xZnf | 1=>xZng | 2=>xZnh | 3=>xZni | 4=>xZnj | 5=>xZnk | 6=>xZnl | 7=>xZnm | 8=>xZnn | 9=>xZno | 10=>xZlY | 11=>xZlZ | 12=>xZm0 | 13=>xZm1 | 14=>xZm2 | n+15=>fun cs x h=>(by cases h)
 el:=fun i x R K r h=>by cases h
 fd:=fun i ty v x h=>by cases h
def xZ8F:Con tb:=.s 56 [true] (.c (.el tb_ok 7) .n) (fun N a=>xZ6F N a.1) (R:=Int) (.p (.i .i64)) (fun _=>⟨rfl,(by kernel_rfl)⟩)
def xZ9D:Con tb:=.s 28 [true] (.c (.r 1) .n) (fun N a=>xZ89 N a.1) (R:=Int) (.p (.i .i64)) (fun _=>⟨rfl,(by kernel_rfl)⟩)
def xZ5m:LQ tb (((List xZ1))×(Int)):=(LQ.m [] [0,3] (.c 0 (.r 1) (.c 3 (.i .i64) .n)) .n .n).re (fun a=>(a.1.1,a.1.2.1)) (fun x=>((x.1,x.2,()),(),())) (fun _=>rfl)
def xZan (N:Nat) (c:(List xZ1)) (next:Int→Option Int) (v:Int):Option Int:=xZ5y N c (fun u0=>next u0) v
abbrev xZdX (N:Nat):((List xZ1))×(Int)→Option Int:=fun a=>loopV (xZan N a.1) N a.2
def xZ9E:Con tb:=.s 7 [true] (.c (.el tb_ok 8) .n) (fun N a=>xZ8a N a.1) (R:=Int) (.p (.i .i64)) (fun _=>⟨rfl,(by kernel_rfl)⟩)
def xZ5n:LQ tb (((List xZ0)×Int×(List UInt8)×Int)×(Int)):=(LQ.m [] [1,3] (.c 1 (.ptr 0 0) (.c 3 (.i .i64) .n)) (.c (.c (.r 4) (.c (.i .i64) (.c .s (.c (.i .u8) .n)))) .n) .n).re (fun a=>((a.2.1.1.1,a.2.1.1.2.1,a.2.1.1.2.2.1,a.2.1.1.2.2.2.1),a.1.2.1)) (fun x=>(((),x.2,()),((x.1.1,x.1.2.1,x.1.2.2.1,x.1.2.2.2,()),()),())) (fun _=>rfl)
def xZao (N:Nat) (c:(List xZ0)×Int×(List UInt8)×Int) (next:Int→Option Int) (v:Int):Option Int:=xZ5z N c.1 (fun u0=>next u0) v
abbrev xZdY (N:Nat):((List xZ0)×Int×(List UInt8)×Int)×(Int)→Option Int:=fun a=>loopV (xZao N a.1) N a.2
def xZaR:Con tb:=.s 41 [true] (.c (.i .u8) .n) (fun N a=>xZ9j N a.1) (R:=Int) (.p (.i .i64)) (fun _=>⟨rfl,(by kernel_rfl)⟩)
def xZ9e:Con tb:=.s 16 [true,true] (.c (.r 3) (.c (.i .i64) .n)) (fun N a=>xZ1L N a.1 a.2.1) (R:=Int) (.p (.i .i64)) (fun _=>⟨rfl,(by kernel_rfl)⟩)
def xZ6z:LQ tb (((List xZ3)×Int)×(Int×Int)):=(LQ.m [] [5,18,19,20] (.c 5 (.i .i64) (.c 18 (.r 3) (.c 19 (.i .i64) (.c 20 (.i .i64) .n)))) .n .n).re (fun a=>((a.1.2.1,a.1.2.2.1),(a.1.1,a.1.2.2.2.1))) (fun x=>((x.2.1,x.1.1,x.1.2,x.2.2,()),(),())) (fun _=>rfl)
def xZbx (N:Nat) (c:(List xZ3)×Int) (next:(Int×Int)→Option Int) (v:Int×Int):Option Int:=xZ6D N c.1 c.2 (fun u0 u1=>next (u0,u1)) v.1 v.2
abbrev xZfe (N:Nat):((List xZ3)×Int)×(Int×Int)→Option Int:=fun a=>loopV (xZbx N a.1) N a.2
def xZ4a:Con tb:=.m 76 [true,false] (.c (.el tb_ok 3) (.c (.ptr 0 0) .n)) (.c (.c (.r 3) (.c (.r 2) (.c (.i .i64) (.c .s (.c (.i .u8) .n))))) .n) .n (fun N a=>xZ2K N a.1.1 a.2.1.1.1 a.2.1.1.2.1 a.2.1.1.2.2.1 a.2.1.1.2.2.2.1 a.2.1.1.2.2.2.2.1) (R:=Bool×List xZ3×List xZ2×Int×List UInt8×Int) (.m (R:=Bool×List xZ3×List xZ2×Int×List UInt8×Int) .b (.c (.c (.r 3) (.c (.r 2) (.c (.i .i64) (.c .s (.c (.i .u8) .n))))) .n) .n (fun z=>(z.1,z.2.1.1.1,z.2.1.1.2.1,z.2.1.1.2.2.1,z.2.1.1.2.2.2.1,z.2.1.1.2.2.2.2.1)) (fun r=>(r.1,((r.2.1,r.2.2.1,r.2.2.2.1,r.2.2.2.2.1,r.2.2.2.2.2,()),()),())) (fun _=>rfl))
def xZ1a:Con tb:=.m 112 [true,false] (.c (.r 3) (.c (.fn 76 .n (.c (.ptr 0 0) .n)) .n)) (.c (.c (.r 3) (.c (.r 2) (.c (.i .i64) (.c .s (.c (.i .u8) .n))))) .n) .n (fun N a=>xZH N a.1.1 a.2.1.1.1 a.2.1.1.2.1 a.2.1.1.2.2.1 a.2.1.1.2.2.2.1 a.2.1.1.2.2.2.2.1) (R:=Int×List xZ3×List xZ2×Int×List UInt8×Int) (.m (R:=Int×List xZ3×List xZ2×Int×List UInt8×Int) (.i .i64) (.c (.c (.r 3) (.c (.r 2) (.c (.i .i64) (.c .s (.c (.i .u8) .n))))) .n) .n (fun z=>(z.1,z.2.1.1.1,z.2.1.1.2.1,z.2.1.1.2.2.1,z.2.1.1.2.2.2.1,z.2.1.1.2.2.2.2.1)) (fun r=>(r.1,((r.2.1,r.2.2.1,r.2.2.2.1,r.2.2.2.2.1,r.2.2.2.2.2,()),()),())) (fun _=>rfl))
def xZA:LQ tb (((List xZ3)×Int)×(Int×(List xZ3)×(List xZ2)×Int×(List UInt8)×Int)):=(LQ.m [] [0,1,7,8] (.c 0 (.r 3) (.c 1 (.fn 76 .n (.c (.ptr 0 0) .n)) (.c 7 (.i .i64) (.c 8 (.i .i64) .n)))) (.c (.c (.r 3) (.c (.r 2) (.c (.i .i64) (.c .s (.c (.i .u8) .n))))) .n) .n).re (fun a=>((a.1.1,a.1.2.2.1),(a.1.2.2.2.1,a.2.1.1.1,a.2.1.1.2.1,a.2.1.1.2.2.1,a.2.1.1.2.2.2.1,a.2.1.1.2.2.2.2.1))) (fun x=>((x.1.1,((),(),()),x.1.2,x.2.1,()),((x.2.2.1,x.2.2.2.1,x.2.2.2.2.1,x.2.2.2.2.2.1,x.2.2.2.2.2.2,()),()),())) (fun _=>rfl)
def xZ1S (N:Nat) (c:(List xZ3)×Int) (next:(Int×(List xZ3)×(List xZ2)×Int×(List UInt8)×Int)→Option (Int×List xZ3×List xZ2×Int×List UInt8×Int)) (v:Int×(List xZ3)×(List xZ2)×Int×(List UInt8)×Int):Option (Int×List xZ3×List xZ2×Int×List UInt8×Int):=xZB N c.1 c.2 (fun u0 u1 u2 u3 u4 u5=>next (u0,u1,u2,u3,u4,u5)) v.1 v.2.1 v.2.2.1 v.2.2.2.1 v.2.2.2.2.1 v.2.2.2.2.2
abbrev xZ49 (N:Nat):((List xZ3)×Int)×(Int×(List xZ3)×(List xZ2)×Int×(List UInt8)×Int)→Option (Int×List xZ3×List xZ2×Int×List UInt8×Int):=fun a=>loopV (xZ1S N a.1) N a.2
def xZX:Con tb:=.m 75 [true,false] (.c (.r 3) (.c (.fn 76 .n (.c (.ptr 0 0) .n)) .n)) (.c (.c (.r 3) (.c (.r 2) (.c (.i .i64) (.c .s (.c (.i .u8) .n))))) .n) .n (fun N a=>xZz N a.1.1 a.2.1.1.1 a.2.1.1.2.1 a.2.1.1.2.2.1 a.2.1.1.2.2.2.1 a.2.1.1.2.2.2.2.1) (R:=Bool×List xZ3×List xZ2×Int×List UInt8×Int) (.m (R:=Bool×List xZ3×List xZ2×Int×List UInt8×Int) .b (.c (.c (.r 3) (.c (.r 2) (.c (.i .i64) (.c .s (.c (.i .u8) .n))))) .n) .n (fun z=>(z.1,z.2.1.1.1,z.2.1.1.2.1,z.2.1.1.2.2.1,z.2.1.1.2.2.2.1,z.2.1.1.2.2.2.2.1)) (fun r=>(r.1,((r.2.1,r.2.2.1,r.2.2.2.1,r.2.2.2.2.1,r.2.2.2.2.2,()),()),())) (fun _=>rfl))
def xZaQ:Con tb:=.s 49 [true] (.c (.el tb_ok 9) .n) (fun N a=>xZ9i N a.1) (R:=Bool) (.p .b) (fun _=>⟨rfl,(by kernel_rfl)⟩)
def xZ8E:Con tb:=.s 44 [true,true] (.c .b (.c .s .n)) (fun N a=>xZ6E N a.1 a.2.1) (R:=List UInt8) (.p .s) (fun _=>⟨rfl,(by kernel_rfl)⟩)
def xZ4b:Con tb:=.s 51 [true,true] (.c (.el tb_ok 10) (.c (.i .i64) .n)) (fun N a=>xZ2Z N a.1 a.2.1) (R:=Bool) (.p .b) (fun _=>⟨rfl,(by kernel_rfl)⟩)
def xZ54:Con tb:=.s 113 [true,true] (.c (.el tb_ok 10) (.c (.i .i64) .n)) (fun N a=>xZ3H N a.1 a.2.1) (R:=xZ8) (.p (.el tb_ok 10)) (fun _=>⟨rfl,(by kernel_rfl)⟩)
def xZ2C:Con tb:=.m 77 [false,true,true] (.c (.ptr 0 0) (.c (.el tb_ok 10) (.c .s .n))) (.c (.c (.r 3) (.c (.r 2) (.c (.i .i64) (.c .s (.c (.i .u8) (.c (.r 0) (.c (.own 0) .n))))))) .n) (.m [.i64,.u64,.u64] 12 .n) (fun N a=>xZ1Q N a.1.2.1 a.1.2.2.1 a.2.1.1.1 a.2.1.1.2.1 a.2.1.1.2.2.1 a.2.1.1.2.2.2.1 a.2.1.1.2.2.2.2.1 a.2.1.1.2.2.2.2.2.1 a.2.2.1) (R:=xZ8×List xZ3×List xZ2×Int×List UInt8×Int×List (List UInt8)×List Ent105) (.m (R:=xZ8×List xZ3×List xZ2×Int×List UInt8×Int×List (List UInt8)×List Ent105) (.el tb_ok 10) (.c (.c (.r 3) (.c (.r 2) (.c (.i .i64) (.c .s (.c (.i .u8) (.c (.r 0) (.c (.own 0) .n))))))) .n) (.m [.i64,.u64,.u64] 12 .n) (fun z=>(z.1,z.2.1.1.1,z.2.1.1.2.1,z.2.1.1.2.2.1,z.2.1.1.2.2.2.1,z.2.1.1.2.2.2.2.1,z.2.1.1.2.2.2.2.2.1,z.2.2.1)) (fun r=>(r.1,((r.2.1,r.2.2.1,r.2.2.2.1,r.2.2.2.2.1,r.2.2.2.2.2.1,r.2.2.2.2.2.2.1,(),()),()),r.2.2.2.2.2.2.2,())) (fun _=>rfl))
def xZ1D:LQ tb (((List UInt8)×(List (List UInt8))×Int×(List xZ3)×(List xZ2)×Int×(List UInt8)×Int×(List (List UInt8))×Int×Int×(List Ent105))×(Int×Int×Int)):=(LQ.m [] [2,4,6,7,13,14,15] (.c 2 .s (.c 4 (.ptr 1 0) (.c 6 (.ptr 2 0) (.c 7 (.ptr 3 0) (.c 13 (.r 0) (.c 14 (.i .i64) (.c 15 (.i .i64) .n))))))) (.c (.c (.r 3) (.c (.r 2) (.c (.i .i64) (.c .s (.c (.i .u8) (.c (.r 0) (.c (.own 0) .n))))))) (.c (.c (.i .u64) (.c (.i .u64) .n)) (.c (.c (.li .u64 0) (.c (.li .u64 0) .n)) (.c (.c (.i .u64) (.c (.i .u64) .n)) .n)))) (.m [.i64,.u64,.u64] 12 .n)).re (fun a=>((a.1.1,a.1.2.2.2.2.1,a.1.2.2.2.2.2.1,a.2.1.1.1,a.2.1.1.2.1,a.2.1.1.2.2.1,a.2.1.1.2.2.2.1,a.2.1.1.2.2.2.2.1,a.2.1.1.2.2.2.2.2.1,a.2.1.2.1.1,a.2.1.2.1.2.1,a.2.2.1),(a.1.2.2.2.2.2.2.1,a.2.1.2.2.2.1.1,a.2.1.2.2.2.1.2.1))) (fun x=>((x.1.1,(),(),(),x.1.2.1,x.1.2.2.1,x.2.1,()),((x.1.2.2.2.1,x.1.2.2.2.2.1,x.1.2.2.2.2.2.1,x.1.2.2.2.2.2.2.1,x.1.2.2.2.2.2.2.2.1,x.1.2.2.2.2.2.2.2.2.1,(),()),(x.1.2.2.2.2.2.2.2.2.2.1,x.1.2.2.2.2.2.2.2.2.2.2.1,()),((),(),()),(x.2.2.1,x.2.2.2,()),()),x.1.2.2.2.2.2.2.2.2.2.2.2,())) (fun _=>rfl)
def xZ43 (N:Nat) (c:(List UInt8)×(List (List UInt8))×Int×(List xZ3)×(List xZ2)×Int×(List UInt8)×Int×(List (List UInt8))×Int×Int×(List Ent105)) (next:(Int×Int×Int)→Option (xZ8×List xZ3×List xZ2×Int×List UInt8×Int×List (List UInt8)×List Ent105)) (v:Int×Int×Int):Option (xZ8×List xZ3×List xZ2×Int×List UInt8×Int×List (List UInt8)×List Ent105):=xZ1E N c.1 c.2.1 c.2.2.1 c.2.2.2.1 c.2.2.2.2.1 c.2.2.2.2.2.1 c.2.2.2.2.2.2.1 c.2.2.2.2.2.2.2.1 c.2.2.2.2.2.2.2.2.1 c.2.2.2.2.2.2.2.2.2.1 c.2.2.2.2.2.2.2.2.2.2.1 c.2.2.2.2.2.2.2.2.2.2.2 (fun u0 u1 u2=>next (u0,u1,u2)) v.1 v.2.1 v.2.2
abbrev xZ7G (N:Nat):((List UInt8)×(List (List UInt8))×Int×(List xZ3)×(List xZ2)×Int×(List UInt8)×Int×(List (List UInt8))×Int×Int×(List Ent105))×(Int×Int×Int)→Option (xZ8×List xZ3×List xZ2×Int×List UInt8×Int×List (List UInt8)×List Ent105):=fun a=>loopV (xZ43 N a.1) N a.2
def xZ4T:Con tb:=.s 78 [true,true] (.c (.el tb_ok 10) (.c (.el tb_ok 10) .n)) (fun N a=>xZZ N a.1 a.2.1) (R:=xZ8) (.p (.el tb_ok 10)) (fun _=>⟨rfl,(by kernel_rfl)⟩)
def xZO:Con tb:=.m 50 [false,true,true] (.c (.ptr 0 0) (.c (.i .i64) (.c (.el tb_ok 10) .n))) (.c (.c (.r 3) (.c (.r 2) (.c (.i .i64) (.c .s (.c (.i .u8) (.c (.r 0) (.c (.own 0) .n))))))) .n) (.m [.i64,.u64,.u64] 12 .n) (fun N a=>xZ2H N a.1.2.1 a.1.2.2.1 a.2.1.1.1 a.2.1.1.2.1 a.2.1.1.2.2.1 a.2.1.1.2.2.2.1 a.2.1.1.2.2.2.2.1 a.2.1.1.2.2.2.2.2.1 a.2.2.1) (R:=xZ8×List xZ3×List xZ2×Int×List UInt8×Int×List (List UInt8)×List Ent105) (.m (R:=xZ8×List xZ3×List xZ2×Int×List UInt8×Int×List (List UInt8)×List Ent105) (.el tb_ok 10) (.c (.c (.r 3) (.c (.r 2) (.c (.i .i64) (.c .s (.c (.i .u8) (.c (.r 0) (.c (.own 0) .n))))))) .n) (.m [.i64,.u64,.u64] 12 .n) (fun z=>(z.1,z.2.1.1.1,z.2.1.1.2.1,z.2.1.1.2.2.1,z.2.1.1.2.2.2.1,z.2.1.1.2.2.2.2.1,z.2.1.1.2.2.2.2.2.1,z.2.2.1)) (fun r=>(r.1,((r.2.1,r.2.2.1,r.2.2.2.1,r.2.2.2.2.1,r.2.2.2.2.2.1,r.2.2.2.2.2.2.1,(),()),()),r.2.2.2.2.2.2.2,())) (fun _=>rfl))
def xZ2B:Con tb:=.m 79 [false,true,true] (.c (.ptr 0 0) (.c (.i .i64) (.c (.el tb_ok 10) .n))) (.c (.c (.r 3) (.c (.r 2) (.c (.i .i64) (.c .s (.c (.i .u8) (.c (.r 0) (.c (.own 0) .n))))))) .n) (.m [.i64,.u64,.u64] 12 .n) (fun N a=>xZ8D N a.1.2.1 a.1.2.2.1 a.2.1.1.1 a.2.1.1.2.1 a.2.1.1.2.2.1 a.2.1.1.2.2.2.1 a.2.1.1.2.2.2.2.1 a.2.1.1.2.2.2.2.2.1 a.2.2.1) (R:=xZ8×List xZ3×List xZ2×Int×List UInt8×Int×List (List UInt8)×List Ent105) (.m (R:=xZ8×List xZ3×List xZ2×Int×List UInt8×Int×List (List UInt8)×List Ent105) (.el tb_ok 10) (.c (.c (.r 3) (.c (.r 2) (.c (.i .i64) (.c .s (.c (.i .u8) (.c (.r 0) (.c (.own 0) .n))))))) .n) (.m [.i64,.u64,.u64] 12 .n) (fun z=>(z.1,z.2.1.1.1,z.2.1.1.2.1,z.2.1.1.2.2.1,z.2.1.1.2.2.2.1,z.2.1.1.2.2.2.2.1,z.2.1.1.2.2.2.2.2.1,z.2.2.1)) (fun r=>(r.1,((r.2.1,r.2.2.1,r.2.2.2.1,r.2.2.2.2.1,r.2.2.2.2.2.1,r.2.2.2.2.2.2.1,(),()),()),r.2.2.2.2.2.2.2,())) (fun _=>rfl))
def xZ1C:LQ tb ((Int)×((List xZ3)×(List xZ2)×Int×(List UInt8)×Int×(List (List UInt8))×Int×Int×(List Ent105))):=(LQ.m [] [0,1,6,7] (.c 0 (.ptr 0 0) (.c 1 (.i .i64) (.c 6 (.ptr 1 0) (.c 7 (.ptr 2 0) .n)))) (.c (.c (.r 3) (.c (.r 2) (.c (.i .i64) (.c .s (.c (.i .u8) (.c (.r 0) (.c (.own 0) .n))))))) (.c (.c (.li .u64 0) (.c (.li .u64 0) .n)) (.c (.c (.i .u64) (.c (.i .u64) .n)) .n))) (.m [.i64,.u64,.u64] 12 .n)).re (fun a=>(a.1.2.1,(a.2.1.1.1,a.2.1.1.2.1,a.2.1.1.2.2.1,a.2.1.1.2.2.2.1,a.2.1.1.2.2.2.2.1,a.2.1.1.2.2.2.2.2.1,a.2.1.2.2.1.1,a.2.1.2.2.1.2.1,a.2.2.1))) (fun x=>(((),x.1,(),(),()),((x.2.1,x.2.2.1,x.2.2.2.1,x.2.2.2.2.1,x.2.2.2.2.2.1,x.2.2.2.2.2.2.1,(),()),((),(),()),(x.2.2.2.2.2.2.2.1,x.2.2.2.2.2.2.2.2.1,()),()),x.2.2.2.2.2.2.2.2.2,())) (fun _=>rfl)
def xZ42 (N:Nat) (c:Int) (next:((List xZ3)×(List xZ2)×Int×(List UInt8)×Int×(List (List UInt8))×Int×Int×(List Ent105))→Option (xZ8×List xZ3×List xZ2×Int×List UInt8×Int×List (List UInt8)×List Ent105)) (v:(List xZ3)×(List xZ2)×Int×(List UInt8)×Int×(List (List UInt8))×Int×Int×(List Ent105)):Option (xZ8×List xZ3×List xZ2×Int×List UInt8×Int×List (List UInt8)×List Ent105):=xZ2h N (xZd N) c (fun u0 u1 u2 u3 u4 u5 u6 u7 u8=>next (u0,u1,u2,u3,u4,u5,u6,u7,u8)) v.1 v.2.1 v.2.2.1 v.2.2.2.1 v.2.2.2.2.1 v.2.2.2.2.2.1 v.2.2.2.2.2.2.1 v.2.2.2.2.2.2.2.1 v.2.2.2.2.2.2.2.2
abbrev xZ7F (N:Nat):(Int)×((List xZ3)×(List xZ2)×Int×(List UInt8)×Int×(List (List UInt8))×Int×Int×(List Ent105))→Option (xZ8×List xZ3×List xZ2×Int×List UInt8×Int×List (List UInt8)×List Ent105):=fun a=>loopV (xZ42 N a.1) N a.2
def xZ5e:Con tb:=.s 23 [true,true] (.c (.el tb_ok 9) (.c (.r 0) .n)) (fun N a=>xZ5x N a.1 a.2.1) (R:=Bool) (.p .b) (fun _=>⟨rfl,(by kernel_rfl)⟩)
def xZ4d:Con tb:=.clone 104 1 (fun _ s=>shClone 80 s)
def xZ24:Con tb:=.cloneD 104 1 (fun _ s=>shClone 80 s)
def xZ5E:Con tb:=.s 154 [true] (.c (.el tb_ok 1) .n) (fun N a=>xZ5T N a.1) (R:=Bool) (.p .b) (fun _=>⟨rfl,(by kernel_rfl)⟩)
def xZn:Con tb:=.m 177 [false] (.c (.ptr 0 0) .n) (.c (.c (.r 5) (.c (.i .i64) (.c (.i .i64) .n))) .n) .n (fun N a=>xZp N a.2.1.1.1 a.2.1.1.2.1 a.2.1.1.2.2.1) (R:=xZ4×List xZ4×Int×Int) (.m (R:=xZ4×List xZ4×Int×Int) (.el tb_ok 5) (.c (.c (.r 5) (.c (.i .i64) (.c (.i .i64) .n))) .n) .n (fun z=>(z.1,z.2.1.1.1,z.2.1.1.2.1,z.2.1.1.2.2.1)) (fun r=>(r.1,((r.2.1,r.2.2.1,r.2.2.2,()),()),())) (fun _=>rfl))
def xZ1M:Con tb:=.m 167 [false] (.c (.ptr 0 0) .n) (.c (.c (.r 5) (.c (.i .i64) (.c (.i .i64) .n))) .n) .n (fun N a=>xZl N a.2.1.1.1 a.2.1.1.2.1 a.2.1.1.2.2.1) (R:=Int×List xZ4×Int×Int) (.m (R:=Int×List xZ4×Int×Int) (.i .i64) (.c (.c (.r 5) (.c (.i .i64) (.c (.i .i64) .n))) .n) .n (fun z=>(z.1,z.2.1.1.1,z.2.1.1.2.1,z.2.1.1.2.2.1)) (fun r=>(r.1,((r.2.1,r.2.2.1,r.2.2.2,()),()),())) (fun _=>rfl))
def xZv:Con tb:=.m 182 [false,true] (.c (.ptr 0 0) (.c (.i .i64) .n)) (.c (.c (.r 5) (.c (.i .i64) (.c (.i .i64) .n))) .n) .n (fun N a=>xZj N a.1.2.1 a.2.1.1.1 a.2.1.1.2.1 a.2.1.1.2.2.1) (R:=Int×Int×List xZ4×Int×Int) (.m (R:=Int×Int×List xZ4×Int×Int) (.ifc 16777443 (.ag (.c (.i .i64) (.c (.i .i64) .n)))) (.c (.c (.r 5) (.c (.i .i64) (.c (.i .i64) .n))) .n) .n (fun z=>(z.1.1,z.1.2.1,z.2.1.1.1,z.2.1.1.2.1,z.2.1.1.2.2.1)) (fun r=>((r.1,r.2.1,()),((r.2.2.1,r.2.2.2.1,r.2.2.2.2,()),()),())) (fun _=>rfl))
def xZ1I:Con tb:=.m 181 [false,true] (.c (.ptr 0 0) (.c (.i .i64) .n)) (.c (.c (.r 5) (.c (.i .i64) (.c (.i .i64) .n))) .n) .n (fun N a=>xZ2O N a.1.2.1 a.2.1.1.1 a.2.1.1.2.1 a.2.1.1.2.2.1) (R:=(Int×Int×List xZ4×Int×Int)⊕(List xZ4×Int×Int)) (.or (.m (R:=Int×Int×List xZ4×Int×Int) (.ifc 16777443 (.ag (.c (.i .i64) (.c (.i .i64) .n)))) (.c (.c (.r 5) (.c (.i .i64) (.c (.i .i64) .n))) .n) .n (fun z=>(z.1.1,z.1.2.1,z.2.1.1.1,z.2.1.1.2.1,z.2.1.1.2.2.1)) (fun r=>((r.1,r.2.1,()),((r.2.2.1,r.2.2.2.1,r.2.2.2.2,()),()),())) (fun _=>rfl)) (.m (R:=List xZ4×Int×Int) (.tu .n) (.c (.c (.r 5) (.c (.i .i64) (.c (.i .i64) .n))) .n) .n (fun z=>(z.2.1.1.1,z.2.1.1.2.1,z.2.1.1.2.2.1)) (fun r=>((),((r.1,r.2.1,r.2.2,()),()),())) (fun _=>rfl)))
def xZq:Con tb:=.m 173 [false,true,true] (.c (.ptr 0 0) (.c (.i .u8) (.c .s .n))) (.c (.c (.r 5) (.c (.i .i64) (.c (.i .i64) .n))) .n) .n (fun N a=>xZc N a.1.2.1 a.1.2.2.1 a.2.1.1.1 a.2.1.1.2.1 a.2.1.1.2.2.1) (R:=Bool×List xZ4×Int×Int) (.m (R:=Bool×List xZ4×Int×Int) .b (.c (.c (.r 5) (.c (.i .i64) (.c (.i .i64) .n))) .n) .n (fun z=>(z.1,z.2.1.1.1,z.2.1.1.2.1,z.2.1.1.2.2.1)) (fun r=>(r.1,((r.2.1,r.2.2.1,r.2.2.2,()),()),())) (fun _=>rfl))
def xZ1U:Con tb:=.m 186 [false,true] (.c .e (.c (.i .i64) .n)) .n .n (fun N a=>xZ1j N a.1.2.1) (R:=List xZ1) (.m (R:=List xZ1) (.own 0) .n (.l 1 .n) (fun z=>z.2.2.1) (fun r=>((),(),r,())) (fun _=>rfl))
def xZ2e:Con tb:=.p 178 [true] (.c (.r 6) .n) (fun N a=>xZ47 N a.1) (R:=(List UInt8)⊕(List xZ1)) (.or (.p (.ifc 16777225 .s)) (.p (.r 1))) (fun r=>by rcases r with _ | _<;>exact rfl)
def xZ1g:LQ tb (((List (List xZ1))×(List (List xZ1))×Int)×(Int×Int)):=(LQ.m [] [0,3,9,10,11] (.c 0 (.r 6) (.c 3 (.i .i64) (.c 9 (.r 6) (.c 10 (.i .i64) (.c 11 (.i .i64) .n))))) .n .n).re (fun a=>((a.1.1,a.1.2.2.1,a.1.2.2.2.1),(a.1.2.1,a.1.2.2.2.2.1))) (fun x=>((x.1.1,x.2.1,x.1.2.1,x.1.2.2,x.2.2,()),(),())) (fun _=>rfl)
def xZ1h:LQ tb (((List (List xZ1))×Int)×(Int×(List xZ1))):=(LQ.m [] [6,25,26,27] (.c 6 (.own 0) (.c 25 (.r 6) (.c 26 (.i .i64) (.c 27 (.i .i64) .n)))) .n (.l 1 .n)).re (fun a=>((a.1.2.1,a.1.2.2.1),(a.1.2.2.2.1,a.2.2.1))) (fun x=>(((),x.1.1,x.1.2,x.2.1,()),(),x.2.2,())) (fun _=>rfl)
def xZ3k (N:Nat) (c:(List (List xZ1))×Int) (next:(Int×(List xZ1))→Option ((List UInt8)⊕(List xZ1))) (v:Int×(List xZ1)):Option ((List UInt8)⊕(List xZ1)):=xZ3p N c.1 c.2 (fun u0 u1=>next (u0,u1)) v.1 v.2
abbrev xZ6j (N:Nat):((List (List xZ1))×Int)×(Int×(List xZ1))→Option ((List UInt8)⊕(List xZ1)):=fun a=>loopV (xZ3k N a.1) N a.2
def xZ3j (N:Nat) (c:(List (List xZ1))×(List (List xZ1))×Int) (next:(Int×Int)→Option ((List UInt8)⊕(List xZ1))) (v:Int×Int):Option ((List UInt8)⊕(List xZ1)):=xZ3o N c.1 c.2.1 c.2.2 (fun u0 u1=>next (u0,u1)) v.1 v.2
abbrev xZ6i (N:Nat):((List (List xZ1))×(List (List xZ1))×Int)×(Int×Int)→Option ((List UInt8)⊕(List xZ1)):=fun a=>loopV (xZ3j N a.1) N a.2
def xZ2d:Con tb:=.p 174 [true,true] (.c (.el tb_ok 1) (.c (.r 6) .n)) (fun N a=>xZ1O N a.1 a.2.1) (R:=List xZ1) (.p (.r 1)) (fun _=>rfl)
def xZ1d:Con tb:=.m 185 [false,true] (.c (.ptr 0 0) (.c (.i .u8) .n)) (.c (.c (.r 5) (.c (.i .i64) (.c (.i .i64) .n))) .n) .n (fun N a=>xZL N a.1.2.1 a.2.1.1.1 a.2.1.1.2.1 a.2.1.1.2.2.1) (R:=(Int×Int×List xZ4×Int×Int)⊕(xZ4×List xZ4×Int×Int)) (.or (.m (R:=Int×Int×List xZ4×Int×Int) (.ifc 16777443 (.ag (.c (.i .i64) (.c (.i .i64) .n)))) (.c (.c (.r 5) (.c (.i .i64) (.c (.i .i64) .n))) .n) .n (fun z=>(z.1.1,z.1.2.1,z.2.1.1.1,z.2.1.1.2.1,z.2.1.1.2.2.1)) (fun r=>((r.1,r.2.1,()),((r.2.2.1,r.2.2.2.1,r.2.2.2.2,()),()),())) (fun _=>rfl)) (.m (R:=xZ4×List xZ4×Int×Int) (.el tb_ok 5) (.c (.c (.r 5) (.c (.i .i64) (.c (.i .i64) .n))) .n) .n (fun z=>(z.1,z.2.1.1.1,z.2.1.1.2.1,z.2.1.1.2.2.1)) (fun r=>(r.1,((r.2.1,r.2.2.1,r.2.2.2,()),()),())) (fun _=>rfl)))
def xZ1T:Con tb:=.m 187 [false] (.c (.ptr 0 0) .n) (.c (.c (.r 5) (.c (.i .i64) (.c (.i .i64) .n))) .n) .n (fun N a=>xZ1i N a.2.1.1.1 a.2.1.1.2.1 a.2.1.1.2.2.1) (R:=(Int×Int×List xZ4×Int×Int)⊕(List xZ1×List xZ4×Int×Int)) (.or (.m (R:=Int×Int×List xZ4×Int×Int) (.ifc 16777443 (.ag (.c (.i .i64) (.c (.i .i64) .n)))) (.c (.c (.r 5) (.c (.i .i64) (.c (.i .i64) .n))) .n) .n (fun z=>(z.1.1,z.1.2.1,z.2.1.1.1,z.2.1.1.2.1,z.2.1.1.2.2.1)) (fun r=>((r.1,r.2.1,()),((r.2.2.1,r.2.2.2.1,r.2.2.2.2,()),()),())) (fun _=>rfl)) (.m (R:=List xZ1×List xZ4×Int×Int) (.r 1) (.c (.c (.r 5) (.c (.i .i64) (.c (.i .i64) .n))) .n) .n (fun z=>(z.1,z.2.1.1.1,z.2.1.1.2.1,z.2.1.1.2.2.1)) (fun r=>(r.1,((r.2.1,r.2.2.1,r.2.2.2,()),()),())) (fun _=>rfl)))
def xZ21:Con tb:=.m 183 [false] (.c (.ptr 0 0) .n) (.c (.c (.r 5) (.c (.i .i64) (.c (.i .i64) .n))) .n) .n (fun N a=>xZ28 N a.2.1.1.1 a.2.1.1.2.1 a.2.1.1.2.2.1) (R:=(Int×Int×List xZ4×Int×Int)⊕(List xZ1×List xZ4×Int×Int)) (.or (.m (R:=Int×Int×List xZ4×Int×Int) (.ifc 16777443 (.ag (.c (.i .i64) (.c (.i .i64) .n)))) (.c (.c (.r 5) (.c (.i .i64) (.c (.i .i64) .n))) .n) .n (fun z=>(z.1.1,z.1.2.1,z.2.1.1.1,z.2.1.1.2.1,z.2.1.1.2.2.1)) (fun r=>((r.1,r.2.1,()),((r.2.2.1,r.2.2.2.1,r.2.2.2.2,()),()),())) (fun _=>rfl)) (.m (R:=List xZ1×List xZ4×Int×Int) (.r 1) (.c (.c (.r 5) (.c (.i .i64) (.c (.i .i64) .n))) .n) .n (fun z=>(z.1,z.2.1.1.1,z.2.1.1.2.1,z.2.1.1.2.2.1)) (fun r=>(r.1,((r.2.1,r.2.2.1,r.2.2.2,()),()),())) (fun _=>rfl)))
def xZ16:LQ tb ((Unit)×((List xZ1)×(List xZ4)×Int×Int)):=(LQ.m [] [0,3] (.c 0 (.ptr 0 0) (.c 3 (.r 1) .n)) (.c (.c (.r 5) (.c (.i .i64) (.c (.i .i64) .n))) .n) .n).re (fun a=>((),(a.1.2.1,a.2.1.1.1,a.2.1.1.2.1,a.2.1.1.2.2.1))) (fun x=>(((),x.2.1,()),((x.2.2.1,x.2.2.2.1,x.2.2.2.2,()),()),())) (fun _=>rfl)
def xZ2W (N:Nat) (c:Unit) (next:((List xZ1)×(List xZ4)×Int×Int)→Option ((Int×Int×List xZ4×Int×Int)⊕(List xZ1×List xZ4×Int×Int))) (v:(List xZ1)×(List xZ4)×Int×Int):Option ((Int×Int×List xZ4×Int×Int)⊕(List xZ1×List xZ4×Int×Int)):=xZ32 N (fun u0 u1 u2 u3=>next (u0,u1,u2,u3)) v.1 v.2.1 v.2.2.1 v.2.2.2
abbrev xZ5R (N:Nat):(Unit)×((List xZ1)×(List xZ4)×Int×Int)→Option ((Int×Int×List xZ4×Int×Int)⊕(List xZ1×List xZ4×Int×Int)):=fun a=>loopV (xZ2W N a.1) N a.2
def xZ5d:Con tb:=.s 164 [true] (.c (.i .u8) .n) (fun N a=>xZ3a N a.1) (R:=List UInt8) (.p .s) (fun _=>⟨rfl,(by kernel_rfl)⟩)
def xZ9B:Con tb:=.s 184 [true] (.c .s .n) (fun N a=>xZcP N a.1) (R:=Int) (.p (.i .u8)) (fun _=>⟨rfl,(by kernel_rfl)⟩)
def xZ5l:LQ tb (((List UInt8))×(Int)):=(LQ.m [] [0,3] (.c 0 .s (.c 3 (.i .u8) .n)) .n .n).re (fun a=>(a.1.1,a.1.2.1)) (fun x=>((x.1,x.2,()),(),())) (fun _=>rfl)
def xZam (N:Nat) (c:(List UInt8)) (next:Int→Option Int) (v:Int):Option Int:=xZaO N c (fun u0=>next u0) v
abbrev xZdW (N:Nat):((List UInt8))×(Int)→Option Int:=fun a=>loopV (xZam N a.1) N a.2
def xZ1z:Con tb:=.m 169 [false,true] (.c (.ptr 0 0) (.c (.i .i64) .n)) (.c (.c (.r 5) (.c (.i .i64) (.c (.i .i64) .n))) .n) .n (fun N a=>xZG N a.1.2.1 a.2.1.1.1 a.2.1.1.2.1 a.2.1.1.2.2.1) (R:=(Int×Int×List xZ4×Int×Int)⊕(List xZ1×List xZ4×Int×Int)) (.or (.m (R:=Int×Int×List xZ4×Int×Int) (.ifc 16777443 (.ag (.c (.i .i64) (.c (.i .i64) .n)))) (.c (.c (.r 5) (.c (.i .i64) (.c (.i .i64) .n))) .n) .n (fun z=>(z.1.1,z.1.2.1,z.2.1.1.1,z.2.1.1.2.1,z.2.1.1.2.2.1)) (fun r=>((r.1,r.2.1,()),((r.2.2.1,r.2.2.2.1,r.2.2.2.2,()),()),())) (fun _=>rfl)) (.m (R:=List xZ1×List xZ4×Int×Int) (.r 1) (.c (.c (.r 5) (.c (.i .i64) (.c (.i .i64) .n))) .n) .n (fun z=>(z.1,z.2.1.1.1,z.2.1.1.2.1,z.2.1.1.2.2.1)) (fun r=>(r.1,((r.2.1,r.2.2.1,r.2.2.2,()),()),())) (fun _=>rfl)))
def xZ1f:LQ tb ((Int)×((List xZ1)×(List xZ4)×Int×Int)):=(LQ.m [] [0,1,5] (.c 0 (.ptr 0 0) (.c 1 (.i .i64) (.c 5 (.r 1) .n))) (.c (.c (.r 5) (.c (.i .i64) (.c (.i .i64) .n))) .n) .n).re (fun a=>(a.1.2.1,(a.1.2.2.1,a.2.1.1.1,a.2.1.1.2.1,a.2.1.1.2.2.1))) (fun x=>(((),x.1,x.2.1,()),((x.2.2.1,x.2.2.2.1,x.2.2.2.2,()),()),())) (fun _=>rfl)
def xZ3i (N:Nat) (c:Int) (next:((List xZ1)×(List xZ4)×Int×Int)→Option ((Int×Int×List xZ4×Int×Int)⊕(List xZ1×List xZ4×Int×Int))) (v:(List xZ1)×(List xZ4)×Int×Int):Option ((Int×Int×List xZ4×Int×Int)⊕(List xZ1×List xZ4×Int×Int)):=xZ3n N (xZP N) c (fun u0 u1 u2 u3=>next (u0,u1,u2,u3)) v.1 v.2.1 v.2.2.1 v.2.2.2
abbrev xZ6h (N:Nat):(Int)×((List xZ1)×(List xZ4)×Int×Int)→Option ((Int×Int×List xZ4×Int×Int)⊕(List xZ1×List xZ4×Int×Int)):=fun a=>loopV (xZ3i N a.1) N a.2
def xZ20:Con tb:=.m 172 [false,true] (.c (.ptr 0 0) (.c (.i .i64) .n)) (.c (.c (.r 5) (.c (.i .i64) (.c (.i .i64) .n))) .n) .n (fun N a=>xZ7s N a.1.2.1 a.2.1.1.1 a.2.1.1.2.1 a.2.1.1.2.2.1) (R:=(Int×Int×List xZ4×Int×Int)⊕(List xZ1×List xZ4×Int×Int)) (.or (.m (R:=Int×Int×List xZ4×Int×Int) (.ifc 16777443 (.ag (.c (.i .i64) (.c (.i .i64) .n)))) (.c (.c (.r 5) (.c (.i .i64) (.c (.i .i64) .n))) .n) .n (fun z=>(z.1.1,z.1.2.1,z.2.1.1.1,z.2.1.1.2.1,z.2.1.1.2.2.1)) (fun r=>((r.1,r.2.1,()),((r.2.2.1,r.2.2.2.1,r.2.2.2.2,()),()),())) (fun _=>rfl)) (.m (R:=List xZ1×List xZ4×Int×Int) (.r 1) (.c (.c (.r 5) (.c (.i .i64) (.c (.i .i64) .n))) .n) .n (fun z=>(z.1,z.2.1.1.1,z.2.1.1.2.1,z.2.1.1.2.2.1)) (fun r=>(r.1,((r.2.1,r.2.2.1,r.2.2.2,()),()),())) (fun _=>rfl)))
def xZ15:LQ tb ((Int)×((List xZ1)×(List xZ4)×Int×Int)):=(LQ.m [] [0,1,5] (.c 0 (.ptr 0 0) (.c 1 (.i .i64) (.c 5 (.r 1) .n))) (.c (.c (.r 5) (.c (.i .i64) (.c (.i .i64) .n))) .n) .n).re (fun a=>(a.1.2.1,(a.1.2.2.1,a.2.1.1.1,a.2.1.1.2.1,a.2.1.1.2.2.1))) (fun x=>(((),x.1,x.2.1,()),((x.2.2.1,x.2.2.2.1,x.2.2.2.2,()),()),())) (fun _=>rfl)
def xZ2V (N:Nat) (c:Int) (next:((List xZ1)×(List xZ4)×Int×Int)→Option ((Int×Int×List xZ4×Int×Int)⊕(List xZ1×List xZ4×Int×Int))) (v:(List xZ1)×(List xZ4)×Int×Int):Option ((Int×Int×List xZ4×Int×Int)⊕(List xZ1×List xZ4×Int×Int)):=xZ31 N (xZP N) c (fun u0 u1 u2 u3=>next (u0,u1,u2,u3)) v.1 v.2.1 v.2.2.1 v.2.2.2
abbrev xZ5Q (N:Nat):(Int)×((List xZ1)×(List xZ4)×Int×Int)→Option ((Int×Int×List xZ4×Int×Int)⊕(List xZ1×List xZ4×Int×Int)):=fun a=>loopV (xZ2V N a.1) N a.2
def xZ1c:Con tb:=.m 176 [false,true] (.c (.ptr 0 0) (.c (.i .i64) .n)) (.c (.c (.r 5) (.c (.i .i64) (.c (.i .i64) .n))) .n) .n (fun N a=>xZ6l N a.1.2.1 a.2.1.1.1 a.2.1.1.2.1 a.2.1.1.2.2.1) (R:=(Int×Int×List xZ4×Int×Int)⊕(List xZ1×List xZ4×Int×Int)) (.or (.m (R:=Int×Int×List xZ4×Int×Int) (.ifc 16777443 (.ag (.c (.i .i64) (.c (.i .i64) .n)))) (.c (.c (.r 5) (.c (.i .i64) (.c (.i .i64) .n))) .n) .n (fun z=>(z.1.1,z.1.2.1,z.2.1.1.1,z.2.1.1.2.1,z.2.1.1.2.2.1)) (fun r=>((r.1,r.2.1,()),((r.2.2.1,r.2.2.2.1,r.2.2.2.2,()),()),())) (fun _=>rfl)) (.m (R:=List xZ1×List xZ4×Int×Int) (.r 1) (.c (.c (.r 5) (.c (.i .i64) (.c (.i .i64) .n))) .n) .n (fun z=>(z.1,z.2.1.1.1,z.2.1.1.2.1,z.2.1.1.2.2.1)) (fun r=>(r.1,((r.2.1,r.2.2.1,r.2.2.2,()),()),())) (fun _=>rfl)))
def xZ4G:Con tb:=.s 151 [true,true] (.c (.el tb_ok 1) (.c (.i .i64) .n)) (fun N a=>xZ3b N a.1 a.2.1) (R:=Bool) (.p .b) (fun _=>⟨rfl,(by kernel_rfl)⟩)
def xZ4U:Con tb:=.s 100 [true] (.c (.i .u8) .n) (fun N a=>xZ3D N a.1) (R:=Bool) (.p .b) (fun _=>⟨rfl,(by kernel_rfl)⟩)
def xZ56:Con tb:=.s 101 [true] (.c .s .n) (fun N a=>xZ3K N a.1) (R:=Bool) (.p .b) (fun _=>⟨rfl,(by kernel_rfl)⟩)
def xZ8O:Con tb:=.s 102 [true] (.c (.i .u8) .n) (fun N a=>xZ6L N a.1) (R:=Bool) (.p .b) (fun _=>⟨rfl,(by kernel_rfl)⟩)
def xZ4Y:Con tb:=.s 61 [true] (.c .s .n) (fun N a=>xZ1Z N a.1) (R:=Bool) (.p .b) (fun _=>⟨rfl,(by kernel_rfl)⟩)
def xZ4V:LQ tb (((List UInt8))×(Int)):=(LQ.m [] [0,3] (.c 0 .s (.c 3 (.i .i64) .n)) .n .n).re (fun a=>(a.1.1,a.1.2.1)) (fun x=>((x.1,x.2,()),(),())) (fun _=>rfl)
def xZ9z (N:Nat) (c:(List UInt8)) (next:Int→Option Bool) (v:Int):Option Bool:=xZ4X N c (fun u0=>next u0) v
abbrev xZd3 (N:Nat):((List UInt8))×(Int)→Option Bool:=fun a=>loopV (xZ9z N a.1) N a.2
def xZ9Q:Con tb:=.p 170 [true] (.c (.el tb_ok 7) .n) (fun N a=>xZac N a.1) (R:=Int⊕Int⊕Int⊕(List UInt8)⊕Unit) (.or (.p (.ifc 233 (.i .i64))) (.or (.p (.ifc 234 (.i .i64))) (.or (.p (.ifc 235 (.i .u64))) (.or (.p (.ifc 236 .s)) (.p .ni))))) (fun r=>by rcases r with _ | _ | _ | _ | _<;>exact rfl)
def xZ3N:Con tb:=.s 205 [true] (.c (.i .i64) .n) (fun N a=>xZ3U N a.1) (R:=xZa) (.p (.el tb_ok 7)) (fun _=>⟨rfl,(by kernel_rfl)⟩)
def xZ4J:Con tb:=.s 206 [true] (.c (.i .i64) .n) (fun N a=>xZ3f N a.1) (R:=xZa) (.p (.el tb_ok 7)) (fun _=>⟨rfl,(by kernel_rfl)⟩)
def xZdl:Con tb:=.s 148 [true] (.c (.i .u64) .n) (fun N a=>xZee N a.1) (R:=Nat) (.p (.f .f64)) (fun _=>⟨rfl,(by kernel_rfl)⟩)
def xZ9G:Con tb:=.s 139 [true] (.c (.i .u64) .n) (fun N a=>xZ8d N a.1) (R:=Int) (.p (.i .u64)) (fun _=>⟨rfl,(by kernel_rfl)⟩)
def xZ3M:Con tb:=.s 207 [true] (.c (.i .u64) .n) (fun N a=>xZ3T N a.1) (R:=xZa) (.p (.el tb_ok 7)) (fun _=>⟨rfl,(by kernel_rfl)⟩)
def xZ4e:Con tb:=.s 208 [true] (.c .s .n) (fun N a=>xZ4w N a.1) (R:=xZa) (.p (.el tb_ok 7)) (fun _=>⟨rfl,(by kernel_rfl)⟩)
def xZ8P:Con tb:=.s 165 [true] (.c (.el tb_ok 7) .n) (fun N a=>xZ6M N a.1) (R:=Int) (.p (.i .i64)) (fun _=>⟨rfl,(by kernel_rfl)⟩)
def xZ55:Con tb:=.s 153 [true] (.c (.el tb_ok 1) .n) (fun N a=>xZ3J N a.1) (R:=Bool) (.p .b) (fun _=>⟨rfl,(by kernel_rfl)⟩)
def xZ7J:Con tb:=.s 152 [true,false,true] (.c (.el tb_ok 1) (.c (.fn 153 .n .n) (.c (.i .i64) .n))) (fun N a=>xZ8c N a.1 a.2.2.1) (R:=Int) (.p (.i .i64)) (fun _=>⟨rfl,(by kernel_rfl)⟩)
def xZ7I:Con tb:=.s 152 [true,false,true] (.c (.el tb_ok 1) (.c (.fn 154 .n .n) (.c (.i .i64) .n))) (fun N a=>xZ8b N a.1 a.2.2.1) (R:=Int) (.p (.i .i64)) (fun _=>⟨rfl,(by kernel_rfl)⟩)
def xZaU:Con tb:=.s 155 [true] (.c (.i .u8) .n) (fun N a=>xZ9m N a.1) (R:=Int) (.p (.i .i64)) (fun _=>⟨rfl,(by kernel_rfl)⟩)
def xZ6P:Con tb:=.s 156 [true,true] (.c (.el tb_ok 1) (.c (.i .i64) .n)) (fun N a=>xZ4W N a.1 a.2.1) (R:=Int) (.p (.i .i64)) (fun _=>⟨rfl,(by kernel_rfl)⟩)
def xZ10:Con tb:=.m 145 [false,true,true] (.c (.ptr 0 0) (.c (.i .i64) (.c (.i .i64) .n))) (.c (.c (.r 1) (.c (.i .i64) .n)) .n) .n (fun N a=>xZ4s N a.1.2.1 a.1.2.2.1 a.2.1.1.1 a.2.1.1.2.1) (R:=Int×List xZ1×Int) (.m (R:=Int×List xZ1×Int) (.i .i64) (.c (.c (.r 1) (.c (.i .i64) .n)) .n) .n (fun z=>(z.1,z.2.1.1.1,z.2.1.1.2.1)) (fun r=>(r.1,((r.2.1,r.2.2,()),()),())) (fun _=>rfl))
def xZ1o:LQ tb ((Int×Int×Int×Int×(List UInt8)×(List UInt8)×Int×Int×Int×(List UInt8))×(Int×(List xZ1)×Int)):=(LQ.m [] [0,2,7,57,58] (.c 0 (.ptr 0 0) (.c 2 (.i .i64) (.c 7 (.ptr 1 0) (.c 57 (.i .i64) (.c 58 (.i .i64) .n))))) (.c (.c (.r 1) (.c (.i .i64) .n)) (.c (.c (.i .u8) (.c (.i .u8) (.c .s (.c .s (.c (.i .u8) (.c (.i .i64) (.c (.i .u64) (.c .s .n)))))))) .n)) .n).re (fun a=>((a.1.2.1,a.1.2.2.2.1,a.2.1.2.1.1,a.2.1.2.1.2.1,a.2.1.2.1.2.2.1,a.2.1.2.1.2.2.2.1,a.2.1.2.1.2.2.2.2.1,a.2.1.2.1.2.2.2.2.2.1,a.2.1.2.1.2.2.2.2.2.2.1,a.2.1.2.1.2.2.2.2.2.2.2.1),(a.1.2.2.2.2.1,a.2.1.1.1,a.2.1.1.2.1))) (fun x=>(((),x.1.1,(),x.1.2.1,x.2.1,()),((x.2.2.1,x.2.2.2,()),(x.1.2.2.1,x.1.2.2.2.1,x.1.2.2.2.2.1,x.1.2.2.2.2.2.1,x.1.2.2.2.2.2.2.1,x.1.2.2.2.2.2.2.2.1,x.1.2.2.2.2.2.2.2.2.1,x.1.2.2.2.2.2.2.2.2.2,()),()),())) (fun _=>rfl)
def xZ3u (N:Nat) (c:Int×Int×Int×Int×(List UInt8)×(List UInt8)×Int×Int×Int×(List UInt8)) (next:(Int×(List xZ1)×Int)→Option (Int×List xZ1×Int)) (v:Int×(List xZ1)×Int):Option (Int×List xZ1×Int):=xZ1v N (xZD N) c.1 c.2.1 c.2.2.1 c.2.2.2.1 c.2.2.2.2.1 c.2.2.2.2.2.1 c.2.2.2.2.2.2.1 c.2.2.2.2.2.2.2.1 c.2.2.2.2.2.2.2.2.1 c.2.2.2.2.2.2.2.2.2 (fun u0 u1 u2=>next (u0,u1,u2)) v.1 v.2.1 v.2.2
abbrev xZ7j (N:Nat):(Int×Int×Int×Int×(List UInt8)×(List UInt8)×Int×Int×Int×(List UInt8))×(Int×(List xZ1)×Int)→Option (Int×List xZ1×Int):=fun a=>loopV (xZ3u N a.1) N a.2
def xZ9F:Con tb:=.s 129 [true] (.c (.r 1) .n) (fun N a=>xZ30 N a.1) (R:=Int) (.p (.i .i64)) (fun _=>⟨rfl,(by kernel_rfl)⟩)
def xZ8G:Con tb:=.p 162 [true,true,true] (.c (.r 5) (.c (.i .i64) (.c (.i .i64) .n))) (fun N a=>xZ5U N a.1 a.2.1 a.2.2.1) (R:=(List xZ1×Int)⊕(List xZ1×Int×Int×Int)) (.or (.m (R:=List xZ1×Int) (.tu (.c (.r 1) (.c (.i .i64) (.c .ni .n)))) .n .n (fun z=>(z.1.1,z.1.2.1)) (fun r=>((r.1,r.2,(),()),(),())) (fun _=>rfl)) (.m (R:=List xZ1×Int×Int×Int) (.tu (.c (.r 1) (.c (.i .i64) (.o (.ifc 167 (.dp (.c (.i .i64) (.c (.i .i64) .n)))))))) .n .n (fun z=>(z.1.1,z.1.2.1,z.1.2.2.1,z.1.2.2.2.1)) (fun r=>((r.1,r.2.1,r.2.2.1,r.2.2.2,()),(),())) (fun _=>rfl))) (fun r=>by rcases r with _ | _<;>exact rfl)
def xZbp:Con tb:=.s 8 [] .n (fun N a=>xZ2k N) (R:=Bool) (.p .b) (fun _=>⟨rfl,(by kernel_rfl)⟩)
def xZaS:Con tb:=.p 30 [true] (.c (.r 1) .n) (fun N a=>xZ9k N a.1) (R:=List xZ1) (.p (.r 1)) (fun _=>rfl)
def xZ6A:LQ tb (((List xZ1))×(Int×(List xZ1))):=(LQ.m [(3,none,1)] [0,3,4] (.c 0 (.r 1) (.c 3 (.own 0) (.c 4 (.i .i64) .n))) .n (.l 1 .n)).re (fun a=>(a.1.1,(a.1.2.2.1,a.2.2.1))) (fun x=>((x.1,(),x.2.1,()),(),x.2.2,())) (fun _=>rfl)
def xZby (N:Nat) (c:(List xZ1)) (next:(Int×(List xZ1))→Option (List xZ1)) (v:Int×(List xZ1)):Option (List xZ1):=xZ6G N c (fun u0 u1=>next (u0,u1)) v.1 v.2
abbrev xZff (N:Nat):((List xZ1))×(Int×(List xZ1))→Option (List xZ1):=fun a=>loopV (xZby N a.1) N a.2
def xZaT:Con tb:=.p 9 [true] (.c (.el tb_ok 8) .n) (fun N a=>xZ9l N a.1) (R:=xZ9) (.p (.el tb_ok 8)) (fun _=>rfl)
def xZ6B:LQ tb (((List xZ0)×Int×(List UInt8)×Int×Int×(List UInt8)×Int)×(Int×(List xZ0))):=(LQ.m [(3,some 0,4)] [1,2,3,4] (.c 1 (.ptr 0 0) (.c 2 (.ptr 1 0) (.c 3 (.ptr 2 0) (.c 4 (.i .i64) .n)))) (.c (.c (.r 4) (.c (.i .i64) (.c .s (.c (.i .u8) .n)))) (.c (.c .e (.c (.li .i64 0) (.c (.ls []) (.c (.li .u8 0) .n)))) (.c (.c (.own 0) (.c (.i .i64) (.c .s (.c (.i .u8) .n)))) .n))) (.l 4 .n)).re (fun a=>((a.2.1.1.1,a.2.1.1.2.1,a.2.1.1.2.2.1,a.2.1.1.2.2.2.1,a.2.1.2.2.1.2.1,a.2.1.2.2.1.2.2.1,a.2.1.2.2.1.2.2.2.1),(a.1.2.2.2.1,a.2.2.1))) (fun x=>(((),(),(),x.2.1,()),((x.1.1,x.1.2.1,x.1.2.2.1,x.1.2.2.2.1,()),((),(),(),(),()),((),x.1.2.2.2.2.1,x.1.2.2.2.2.2.1,x.1.2.2.2.2.2.2,()),()),x.2.2,())) (fun _=>rfl)
def xZbz (N:Nat) (c:(List xZ0)×Int×(List UInt8)×Int×Int×(List UInt8)×Int) (next:(Int×(List xZ0))→Option xZ9) (v:Int×(List xZ0)):Option xZ9:=xZ6H N c.1 c.2.2.2.2.1 c.2.2.2.2.2.1 c.2.2.2.2.2.2 (fun u0 u1=>next (u0,u1)) v.1 v.2
abbrev xZfg (N:Nat):((List xZ0)×Int×(List UInt8)×Int×Int×(List UInt8)×Int)×(Int×(List xZ0))→Option xZ9:=fun a=>loopV (xZbz N a.1) N a.2
def xZ2v:Con tb:=.s 127 [true] (.c (.el tb_ok 4) .n) (fun N a=>xZ1W N a.1) (R:=Bool) (.p .b) (fun _=>⟨rfl,(by kernel_rfl)⟩)
def xZ4c:Con tb:=.s 96 [true,true] (.c (.el tb_ok 4) (.c (.i .u8) .n)) (fun N a=>xZ2P N a.1 a.2.1) (R:=Bool) (.p .b) (fun _=>⟨rfl,(by kernel_rfl)⟩)
def xZ4I:Con tb:=.s 128 [true] (.c (.el tb_ok 4) .n) (fun N a=>xZ3e N a.1) (R:=Bool) (.p .b) (fun _=>⟨rfl,(by kernel_rfl)⟩)
def xZ4H:Con tb:=.s 97 [true] (.c (.el tb_ok 4) .n) (fun N a=>xZ3d N a.1) (R:=Bool) (.p .b) (fun _=>⟨rfl,(by kernel_rfl)⟩)
def xZ57:Con tb:=.s 130 [true] (.c (.el tb_ok 4) .n) (fun N a=>xZV N a.1) (R:=Bool) (.p .b) (fun _=>⟨rfl,(by kernel_rfl)⟩)
def xZ58:Con tb:=.s 98 [true] (.c (.el tb_ok 4) .n) (fun N a=>xZ3L N a.1) (R:=Bool) (.p .b) (fun _=>⟨rfl,(by kernel_rfl)⟩)
def xZ3F:Con tb:=.s 99 [true] (.c (.el tb_ok 4) .n) (fun N a=>xZ2x N a.1) (R:=Int) (.p (.i .i64)) (fun _=>⟨rfl,(by kernel_rfl)⟩)
def xZ5M:Con tb:=.p 60 [true,true,true] (.c (.r 4) (.c (.i .u8) (.c (.i .i64) .n))) (fun N a=>xZab N a.1 a.2.1 a.2.2.1) (R:=List xZ0×Int) (.p (.tu (.c (.r 4) (.o (.i .i64))))) (fun _=>rfl)
def xZ5w:LQ tb ((Int×Int×Int×Int×Int×Int×(List UInt8)×(List UInt8)×(List xZ1))×((List xZ0)×Int)):=(LQ.m [] [2,8,9,42,43] (.c 2 (.i .i64) (.c 8 (.ptr 0 0) (.c 9 (.r 4) (.c 42 (.i .i64) (.c 43 (.i .i64) .n))))) (.c (.c (.i .u8) (.c (.i .i64) (.c (.i .i64) (.c (.i .i64) (.c .s (.c .s (.c (.r 1) .n))))))) .n) .n).re (fun a=>((a.1.1,a.1.2.2.2.1,a.2.1.1.1,a.2.1.1.2.1,a.2.1.1.2.2.1,a.2.1.1.2.2.2.1,a.2.1.1.2.2.2.2.1,a.2.1.1.2.2.2.2.2.1,a.2.1.1.2.2.2.2.2.2.1),(a.1.2.2.1,a.1.2.2.2.2.1))) (fun x=>((x.1.1,(),x.2.1,x.1.2.1,x.2.2,()),((x.1.2.2.1,x.1.2.2.2.1,x.1.2.2.2.2.1,x.1.2.2.2.2.2.1,x.1.2.2.2.2.2.2.1,x.1.2.2.2.2.2.2.2.1,x.1.2.2.2.2.2.2.2.2,()),()),())) (fun _=>rfl)
def xZax (N:Nat) (c:Int×Int×Int×Int×Int×Int×(List UInt8)×(List UInt8)×(List xZ1)) (next:((List xZ0)×Int)→Option (List xZ0×Int)) (v:(List xZ0)×Int):Option (List xZ0×Int):=xZ8k N (xZ6n N) c.1 c.2.1 c.2.2.1 (fun u0 u1=>next (u0,u1)) v.1 v.2
abbrev xZe7 (N:Nat):(Int×Int×Int×Int×Int×Int×(List UInt8)×(List UInt8)×(List xZ1))×((List xZ0)×Int)→Option (List xZ0×Int):=fun a=>loopV (xZax N a.1) N a.2
def xZ9P:Con tb:=.s 62 [true] (.c (.i .u8) .n) (fun N a=>xZ63 N a.1) (R:=List UInt8) (.p .s) (fun _=>⟨rfl,(by kernel_rfl)⟩)
def xZ6m:Con tb:=.s 31 [true] (.c (.el tb_ok 8) .n) (fun N a=>xZ53 N a.1) (R:=Int) (.p (.i .i64)) (fun _=>⟨rfl,(by kernel_rfl)⟩)
def xZN:Con tb:=.m 103 [false,true,true] (.c (.ptr 0 0) (.c (.i .u8) (.c (.i .i64) .n))) (.c (.c (.r 4) (.c (.own 0) (.c (.own 1) (.c .b .n)))) .n) (.l 3 (.l 2 .n)) (fun N a=>xZ7 N a.1.2.1 a.1.2.2.1 a.2.1.1.1 a.2.1.1.2.2.2.1 a.2.2.1 a.2.2.2.1) (R:=List xZ0×Bool×List xZ2×List xZ3) (.m (R:=List xZ0×Bool×List xZ2×List xZ3) (.tu .n) (.c (.c (.r 4) (.c (.own 2) (.c (.own 1) (.c .b .n)))) .n) (.d (.l 2 (.l 3 .n))) (fun z=>(z.2.1.1.1,z.2.1.1.2.2.2.1,z.2.2.1,z.2.2.2.1)) (fun r=>((),((r.1,(),(),r.2.1,()),()),r.2.2.1,r.2.2.2,())) (fun _=>rfl))
def xZ5L:Con tb:=.s 86 [true,true] (.c (.r 4) (.c (.i .i64) .n)) (fun N a=>xZ1F N a.1 a.2.1) (R:=Int) (.p (.i .i64)) (fun _=>⟨rfl,(by kernel_rfl)⟩)
def xZ5v:LQ tb (((List xZ0)×Int)×(Int×Int)):=(LQ.m [] [5,18,19,20] (.c 5 (.i .i64) (.c 18 (.r 4) (.c 19 (.i .i64) (.c 20 (.i .i64) .n)))) .n .n).re (fun a=>((a.1.2.1,a.1.2.2.1),(a.1.1,a.1.2.2.2.1))) (fun x=>((x.2.1,x.1.1,x.1.2,x.2.2,()),(),())) (fun _=>rfl)
def xZaw (N:Nat) (c:(List xZ0)×Int) (next:(Int×Int)→Option Int) (v:Int×Int):Option Int:=xZ8j N c.1 c.2 (fun u0 u1=>next (u0,u1)) v.1 v.2
abbrev xZe6 (N:Nat):((List xZ0)×Int)×(Int×Int)→Option Int:=fun a=>loopV (xZaw N a.1) N a.2
def xZ2l:Con tb:=.m 63 [false,true] (.c (.ptr 0 0) (.c (.i .i64) .n)) (.c (.c (.r 4) (.c (.own 0) (.c (.own 1) (.c .b .n)))) .n) (.l 3 (.l 2 .n)) (fun N a=>xZ2p N a.1.2.1 a.2.1.1.1 a.2.1.1.2.2.2.1 a.2.2.1 a.2.2.2.1) (R:=List xZ0×Bool×List xZ3×List xZ2) (.m (R:=List xZ0×Bool×List xZ3×List xZ2) (.tu .n) (.c (.c (.r 4) (.c (.own 2) (.c (.own 3) (.c .b .n)))) .n) (.d (.d (.l 3 (.l 2 .n)))) (fun z=>(z.2.1.1.1,z.2.1.1.2.2.2.1,z.2.2.1,z.2.2.2.1)) (fun r=>((),((r.1,(),(),r.2.1,()),()),r.2.2.1,r.2.2.2,())) (fun _=>rfl))
def xZw:Con tb:=.m 32 [false,true] (.c (.ptr 0 0) (.c (.i .i64) .n)) (.c (.c (.r 4) (.c (.own 0) (.c (.own 1) (.c .b .n)))) .n) (.l 3 (.l 2 .n)) (fun N a=>xZ2q N a.1.2.1 a.2.1.1.1 a.2.1.1.2.2.2.1 a.2.2.1 a.2.2.2.1) (R:=List xZ0×Bool×List xZ3×List xZ2) (.m (R:=List xZ0×Bool×List xZ3×List xZ2) (.tu .n) (.c (.c (.r 4) (.c (.own 2) (.c (.own 3) (.c .b .n)))) .n) (.d (.d (.l 3 (.l 2 .n)))) (fun z=>(z.2.1.1.1,z.2.1.1.2.2.2.1,z.2.2.1,z.2.2.2.1)) (fun r=>((),((r.1,(),(),r.2.1,()),()),r.2.2.1,r.2.2.2,())) (fun _=>rfl))
def xZ2A:Con tb:=.m 64 [false,true] (.c (.ptr 0 0) (.c (.i .i64) .n)) (.c (.c (.r 4) (.c (.own 0) (.c (.own 1) (.c .b .n)))) .n) (.l 3 (.l 2 .n)) (fun N a=>xZ8C N a.1.2.1 a.2.1.1.1 a.2.1.1.2.2.2.1 a.2.2.1 a.2.2.2.1) (R:=List xZ0×Bool×List xZ3×List xZ2) (.m (R:=List xZ0×Bool×List xZ3×List xZ2) (.tu .n) (.c (.c (.r 4) (.c (.own 2) (.c (.own 3) (.c .b .n)))) .n) (.d (.d (.l 3 (.l 2 .n)))) (fun z=>(z.2.1.1.1,z.2.1.1.2.2.2.1,z.2.2.1,z.2.2.2.1)) (fun r=>((),((r.1,(),(),r.2.1,()),()),r.2.2.1,r.2.2.2,())) (fun _=>rfl))
def xZ1H:Con tb:=.m 105 [false,true,true] (.c (.ptr 0 0) (.c (.i .u8) (.c (.i .i64) .n))) (.c (.c (.r 4) (.c (.own 0) (.c (.own 1) (.c .b .n)))) .n) (.l 3 (.l 2 .n)) (fun N a=>xZ88 N a.1.2.1 a.1.2.2.1 a.2.1.1.1 a.2.1.1.2.2.2.1 a.2.2.1 a.2.2.2.1) (R:=List xZ0×Bool×List xZ3×List xZ2) (.m (R:=List xZ0×Bool×List xZ3×List xZ2) (.tu .n) (.c (.c (.r 4) (.c (.own 2) (.c (.own 3) (.c .b .n)))) .n) (.d (.d (.l 3 (.l 2 .n)))) (fun z=>(z.2.1.1.1,z.2.1.1.2.2.2.1,z.2.2.1,z.2.2.2.1)) (fun r=>((),((r.1,(),(),r.2.1,()),()),r.2.2.1,r.2.2.2,())) (fun _=>rfl))
def xZ1n:LQ tb ((Int)×(Int×Int×(List xZ0)×Bool×(List xZ3)×(List xZ2))):=(LQ.m [(0,some 1,3),(0,some 2,2)] [0,1,6,7] (.c 0 (.ptr 0 0) (.c 1 (.i .u8) (.c 6 (.i .i64) (.c 7 (.i .i64) .n)))) (.c (.c (.r 4) (.c (.own 2) (.c (.own 3) (.c .b .n)))) .n) (.d (.d (.l 3 (.l 2 .n))))).re (fun a=>(a.1.2.1,(a.1.2.2.1,a.1.2.2.2.1,a.2.1.1.1,a.2.1.1.2.2.2.1,a.2.2.1,a.2.2.2.1))) (fun x=>(((),x.1,x.2.1,x.2.2.1,()),((x.2.2.2.1,(),(),x.2.2.2.2.1,()),()),x.2.2.2.2.2.1,x.2.2.2.2.2.2,())) (fun _=>rfl)
def xZ3t (N:Nat) (c:Int) (next:(Int×Int×(List xZ0)×Bool×(List xZ3)×(List xZ2))→Option (List xZ0×Bool×List xZ3×List xZ2)) (v:Int×Int×(List xZ0)×Bool×(List xZ3)×(List xZ2)):Option (List xZ0×Bool×List xZ3×List xZ2):=xZ27 N (xZ5 N) c (fun u0 u1 u2 u3 u4 u5=>next (u0,u1,u2,u3,u4,u5)) v.1 v.2.1 v.2.2.1 v.2.2.2.1 v.2.2.2.2.1 v.2.2.2.2.2
abbrev xZ7i (N:Nat):(Int)×(Int×Int×(List xZ0)×Bool×(List xZ3)×(List xZ2))→Option (List xZ0×Bool×List xZ3×List xZ2):=fun a=>loopV (xZ3t N a.1) N a.2
def xZ2y:Con tb:=.m 65 [false,true] (.c (.ptr 0 0) (.c (.i .i64) .n)) (.c (.c (.r 4) (.c (.own 0) (.c (.own 1) (.c .b .n)))) .n) (.l 3 (.l 2 .n)) (fun N a=>xZ8A N a.1.2.1 a.2.1.1.1 a.2.1.1.2.2.2.1 a.2.2.1 a.2.2.2.1) (R:=List xZ0×Bool×List xZ3×List xZ2) (.m (R:=List xZ0×Bool×List xZ3×List xZ2) (.tu .n) (.c (.c (.r 4) (.c (.own 2) (.c (.own 3) (.c .b .n)))) .n) (.d (.d (.l 3 (.l 2 .n)))) (fun z=>(z.2.1.1.1,z.2.1.1.2.2.2.1,z.2.2.1,z.2.2.2.1)) (fun r=>((),((r.1,(),(),r.2.1,()),()),r.2.2.1,r.2.2.2,())) (fun _=>rfl))
def xZ2z:Con tb:=.m 66 [false,true] (.c (.ptr 0 0) (.c (.i .i64) .n)) (.c (.c (.r 4) (.c (.own 0) (.c (.own 1) (.c .b .n)))) .n) (.l 3 (.l 2 .n)) (fun N a=>xZ8B N a.1.2.1 a.2.1.1.1 a.2.1.1.2.2.2.1 a.2.2.1 a.2.2.2.1) (R:=List xZ0×Bool×List xZ3×List xZ2) (.m (R:=List xZ0×Bool×List xZ3×List xZ2) (.tu .n) (.c (.c (.r 4) (.c (.own 2) (.c (.own 3) (.c .b .n)))) .n) (.d (.d (.l 3 (.l 2 .n)))) (fun z=>(z.2.1.1.1,z.2.1.1.2.2.2.1,z.2.2.1,z.2.2.2.1)) (fun r=>((),((r.1,(),(),r.2.1,()),()),r.2.2.1,r.2.2.2,())) (fun _=>rfl))
def xZ1B:LQ tb ((Int×Int×Int×Int×Int×(List UInt8)×(List UInt8)×(List xZ1))×(Int×(List xZ0)×Bool×(List xZ3)×(List xZ2))):=(LQ.m [(0,some 1,3),(0,some 2,2)] [0,1,4,5] (.c 0 (.ptr 0 0) (.c 1 (.i .i64) (.c 4 (.ptr 1 0) (.c 5 (.i .i64) .n)))) (.c (.c (.r 4) (.c (.own 2) (.c (.own 3) (.c .b .n)))) (.c (.c (.i .u8) (.c (.i .i64) (.c (.i .i64) (.c (.i .i64) (.c .s (.c .s (.c (.r 1) .n))))))) .n)) (.d (.d (.l 3 (.l 2 .n))))).re (fun a=>((a.1.2.1,a.2.1.2.1.1,a.2.1.2.1.2.1,a.2.1.2.1.2.2.1,a.2.1.2.1.2.2.2.1,a.2.1.2.1.2.2.2.2.1,a.2.1.2.1.2.2.2.2.2.1,a.2.1.2.1.2.2.2.2.2.2.1),(a.1.2.2.2.1,a.2.1.1.1,a.2.1.1.2.2.2.1,a.2.2.1,a.2.2.2.1))) (fun x=>(((),x.1.1,(),x.2.1,()),((x.2.2.1,(),(),x.2.2.2.1,()),(x.1.2.1,x.1.2.2.1,x.1.2.2.2.1,x.1.2.2.2.2.1,x.1.2.2.2.2.2.1,x.1.2.2.2.2.2.2.1,x.1.2.2.2.2.2.2.2,()),()),x.2.2.2.2.1,x.2.2.2.2.2,())) (fun _=>rfl)
def xZ41 (N:Nat) (c:Int×Int×Int×Int×Int×(List UInt8)×(List UInt8)×(List xZ1)) (next:(Int×(List xZ0)×Bool×(List xZ3)×(List xZ2))→Option (List xZ0×Bool×List xZ3×List xZ2)) (v:Int×(List xZ0)×Bool×(List xZ3)×(List xZ2)):Option (List xZ0×Bool×List xZ3×List xZ2):=xZY N (xZ5 N) c.1 c.2.2.2.1 c.2.2.2.2.1 (fun u0 u1 u2 u3 u4=>next (u0,u1,u2,u3,u4)) v.1 v.2.1 v.2.2.1 v.2.2.2.1 v.2.2.2.2
abbrev xZ7E (N:Nat):(Int×Int×Int×Int×Int×(List UInt8)×(List UInt8)×(List xZ1))×(Int×(List xZ0)×Bool×(List xZ3)×(List xZ2))→Option (List xZ0×Bool×List xZ3×List xZ2):=fun a=>loopV (xZ41 N a.1) N a.2
def xZ1b:Con tb:=.m 106 [false,true,true] (.c (.ptr 0 0) (.c (.i .i64) (.c (.i .i64) .n))) (.c (.c (.r 4) (.c (.own 0) (.c (.own 1) (.c .b .n)))) .n) (.l 3 (.l 2 .n)) (fun N a=>xZ6k N a.1.2.1 a.1.2.2.1 a.2.1.1.1 a.2.1.1.2.2.2.1 a.2.2.1 a.2.2.2.1) (R:=List xZ0×Bool×List xZ3×List xZ2) (.m (R:=List xZ0×Bool×List xZ3×List xZ2) (.tu .n) (.c (.c (.r 4) (.c (.own 2) (.c (.own 3) (.c .b .n)))) .n) (.d (.d (.l 3 (.l 2 .n)))) (fun z=>(z.2.1.1.1,z.2.1.1.2.2.2.1,z.2.2.1,z.2.2.2.1)) (fun r=>((),((r.1,(),(),r.2.1,()),()),r.2.2.1,r.2.2.2,())) (fun _=>rfl))
def xZ9C:Con tb:=.p 10 [true] (.c (.el tb_ok 8) .n) (fun N a=>xZ4P N a.1) (R:=xZ14×Int) (.p (.tu (.c (.el tb_ok 9) (.o (.i .i64))))) (fun _=>rfl)
def xZ5G:Con tb:=.s 109 [true] (.c .s .n) (fun N a=>xZ5V N a.1) (R:=Bool) (.p .b) (fun _=>⟨rfl,(by kernel_rfl)⟩)
def xZ39:LQ tb (((List UInt8)×(List (List UInt8)))×(Int)):=(LQ.m [] [0,3,4] (.c 0 .s (.c 3 (.own 0) (.c 4 (.i .i64) .n))) .n (.l 0 .n)).re (fun a=>((a.1.1,a.2.2.1),a.1.2.2.1)) (fun x=>((x.1.1,(),x.2,()),(),x.1.2,())) (fun _=>rfl)
def xZ7B (N:Nat) (c:(List UInt8)×(List (List UInt8))) (next:Int→Option Bool) (v:Int):Option Bool:=xZ3c N c.1 c.2 (fun u0=>next u0) v
abbrev xZbl (N:Nat):((List UInt8)×(List (List UInt8)))×(Int)→Option Bool:=fun a=>loopV (xZ7B N a.1) N a.2
def xZ5F:Con tb:=.s 68 [true] (.c .s .n) (fun N a=>xZ2r N a.1) (R:=Bool) (.p .b) (fun _=>⟨rfl,(by kernel_rfl)⟩)
def xZ5o:LQ tb (((List UInt8))×(Int)):=(LQ.m [] [0,3] (.c 0 .s (.c 3 (.i .i64) .n)) .n .n).re (fun a=>(a.1.1,a.1.2.1)) (fun x=>((x.1,x.2,()),(),())) (fun _=>rfl)
def xZap (N:Nat) (c:(List UInt8)) (next:Int→Option Bool) (v:Int):Option Bool:=xZ5A N c (fun u0=>next u0) v
abbrev xZdZ (N:Nat):((List UInt8))×(Int)→Option Bool:=fun a=>loopV (xZap N a.1) N a.2
def xZaX:Con tb:=.s 157 [true,true] (.c (.i .u8) (.c (.i .i64) .n)) (fun N a=>xZ9o N a.1 a.2.1) (R:=Bool) (.p .b) (fun _=>⟨rfl,(by kernel_rfl)⟩)
def xZaV:Con tb:=.s 179 [true] (.c (.i .u64) .n) (fun N a=>xZ46 N a.1) (R:=Int) (.p (.i .i64)) (fun _=>⟨rfl,(by kernel_rfl)⟩)
def xZ9H:Con tb:=.s 180 [true] (.c (.i .u64) .n) (fun N a=>xZ4Q N a.1) (R:=Int) (.p (.i .u64)) (fun _=>⟨rfl,(by kernel_rfl)⟩)
def xZ9I:Con tb:=.s 175 [true] (.c (.i .u64) .n) (fun N a=>xZ8e N a.1) (R:=Int) (.p (.i .u8)) (fun _=>⟨rfl,(by kernel_rfl)⟩)
def xZ8H:Con tb:=.s 171 [true] (.c (.i .u64) .n) (fun N a=>xZ33 N a.1) (R:=Int) (.p (.i .u64)) (fun _=>⟨rfl,(by kernel_rfl)⟩)
def xZ8I:Con tb:=.s 166 [true] (.c (.el tb_ok 7) .n) (fun N a=>xZ51 N a.1) (R:=Int) (.p (.i .i64)) (fun _=>⟨rfl,(by kernel_rfl)⟩)
def xZ8K:Con tb:=.s 158 [true] (.c (.el tb_ok 1) .n) (fun N a=>xZ6J N a.1) (R:=Int) (.p (.i .i64)) (fun _=>⟨rfl,(by kernel_rfl)⟩)
def xZ90:LQ tb ((Bool×Int×Int×(List UInt8)×(List UInt8)×Int×Int×Int×(List UInt8))×(Unit)):=(LQ.m [] [1,3,4] (.c 1 (.ptr 0 0) (.c 3 (.ptr 1 0) (.c 4 .b .n))) (.c (.c (.i .u8) (.c (.i .u8) (.c .s (.c .s (.c (.i .u8) (.c (.i .i64) (.c (.i .u64) (.c .s .n)))))))) (.c (.c (.li .u8 0) (.c (.li .i64 0) (.c (.li .u64 0) (.c (.ls []) .n)))) .n)) .n).re (fun a=>((a.1.2.2.1,a.2.1.1.1,a.2.1.1.2.1,a.2.1.1.2.2.1,a.2.1.1.2.2.2.1,a.2.1.1.2.2.2.2.1,a.2.1.1.2.2.2.2.2.1,a.2.1.1.2.2.2.2.2.2.1,a.2.1.1.2.2.2.2.2.2.2.1),())) (fun x=>(((),(),x.1.1,()),((x.1.2.1,x.1.2.2.1,x.1.2.2.2.1,x.1.2.2.2.2.1,x.1.2.2.2.2.2.1,x.1.2.2.2.2.2.2.1,x.1.2.2.2.2.2.2.2.1,x.1.2.2.2.2.2.2.2.2,()),((),(),(),(),()),()),())) (fun _=>rfl)
abbrev xZ96 (N:Nat):(Bool×Int×Int×(List UInt8)×(List UInt8)×Int×Int×Int×(List UInt8))×(Unit)→Option Int:=fun a=>xZ1x N a.1.1 a.1.2.1 a.1.2.2.1 a.1.2.2.2.1 a.1.2.2.2.2.1 a.1.2.2.2.2.2.1 a.1.2.2.2.2.2.2.1 a.1.2.2.2.2.2.2.2.1 a.1.2.2.2.2.2.2.2.2
def xZ9J:Con tb:=.s 159 [true] (.c (.i .u8) .n) (fun N a=>xZ8f N a.1) (R:=Int) (.p (.i .i64)) (fun _=>⟨rfl,(by kernel_rfl)⟩)
def xZaW:Con tb:=.s 160 [true,true] (.c (.i .u8) (.c (.i .i64) .n)) (fun N a=>xZ9n N a.1 a.2.1) (R:=Int) (.p (.i .i64)) (fun _=>⟨rfl,(by kernel_rfl)⟩)
def xZ5H:Con tb:=.s 146 [true,true,true,true] (.c (.r 1) (.c (.i .i64) (.c (.i .i64) (.c (.i .i64) .n)))) (fun N a=>xZcQ N a.1 a.2.1 a.2.2.1 a.2.2.2.1) (R:=Int×Int) (.p (.tu (.c (.i .i64) (.o (.i .i64))))) (fun _=>⟨rfl,(by kernel_rfl)⟩)
def xZ5p:LQ tb (((List xZ1)×Int×Int×Int×(List UInt8)×(List UInt8)×Int×Int×Int×(List UInt8))×(Int×Int)):=(LQ.m [] [0,1,3,10,12] (.c 0 (.r 1) (.c 1 (.i .i64) (.c 3 (.i .i64) (.c 10 (.ptr 0 0) (.c 12 (.i .i64) .n))))) (.c (.c (.i .u8) (.c (.i .u8) (.c .s (.c .s (.c (.i .u8) (.c (.i .i64) (.c (.i .u64) (.c .s .n)))))))) .n) .n).re (fun a=>((a.1.1,a.1.2.2.1,a.2.1.1.1,a.2.1.1.2.1,a.2.1.1.2.2.1,a.2.1.1.2.2.2.1,a.2.1.1.2.2.2.2.1,a.2.1.1.2.2.2.2.2.1,a.2.1.1.2.2.2.2.2.2.1,a.2.1.1.2.2.2.2.2.2.2.1),(a.1.2.1,a.1.2.2.2.2.1))) (fun x=>((x.1.1,x.2.1,x.1.2.1,(),x.2.2,()),((x.1.2.2.1,x.1.2.2.2.1,x.1.2.2.2.2.1,x.1.2.2.2.2.2.1,x.1.2.2.2.2.2.2.1,x.1.2.2.2.2.2.2.2.1,x.1.2.2.2.2.2.2.2.2.1,x.1.2.2.2.2.2.2.2.2.2,()),()),())) (fun _=>rfl)
def xZaq (N:Nat) (c:(List xZ1)×Int×Int×Int×(List UInt8)×(List UInt8)×Int×Int×Int×(List UInt8)) (next:(Int×Int)→Option (Int×Int)) (v:Int×Int):Option (Int×Int):=xZ5B N (xZ3V N) c.1 c.2.1 c.2.2.1 (fun u0 u1=>next (u0,u1)) v.1 v.2
abbrev xZe0 (N:Nat):((List xZ1)×Int×Int×Int×(List UInt8)×(List UInt8)×Int×Int×Int×(List UInt8))×(Int×Int)→Option (Int×Int):=fun a=>loopV (xZaq N a.1) N a.2
def xZ8J:Con tb:=.s 131 [true] (.c (.r 1) .n) (fun N a=>xZ6I N a.1) (R:=Int) (.p (.i .i64)) (fun _=>⟨rfl,(by kernel_rfl)⟩)
def xZ8M:Con tb:=.s 107 [true] (.c (.el tb_ok 4) .n) (fun N a=>xZ36 N a.1) (R:=Int) (.p (.i .i64)) (fun _=>⟨rfl,(by kernel_rfl)⟩)
def xZ91:LQ tb ((Bool×Int×Int×Int×Int×(List UInt8)×(List UInt8)×(List xZ1))×(Unit)):=(LQ.m [] [1,3] (.c 1 (.ptr 0 0) (.c 3 .b .n)) (.c (.c (.i .u8) (.c (.i .i64) (.c (.i .i64) (.c (.i .i64) (.c .s (.c .s (.c (.r 1) .n))))))) .n) .n).re (fun a=>((a.1.2.1,a.2.1.1.1,a.2.1.1.2.1,a.2.1.1.2.2.1,a.2.1.1.2.2.2.1,a.2.1.1.2.2.2.2.1,a.2.1.1.2.2.2.2.2.1,a.2.1.1.2.2.2.2.2.2.1),())) (fun x=>(((),x.1.1,()),((x.1.2.1,x.1.2.2.1,x.1.2.2.2.1,x.1.2.2.2.2.1,x.1.2.2.2.2.2.1,x.1.2.2.2.2.2.2.1,x.1.2.2.2.2.2.2.2,()),()),())) (fun _=>rfl)
def xZ92:LQ tb ((Bool×Bool×Int×Int×Int×Int×(List UInt8)×(List UInt8)×(List xZ1))×(Unit)):=(LQ.m [] [1,3,4] (.c 1 (.ptr 0 0) (.c 3 .b (.c 4 .b .n))) (.c (.c (.i .u8) (.c (.i .i64) (.c (.i .i64) (.c (.i .i64) (.c .s (.c .s (.c (.r 1) .n))))))) .n) .n).re (fun a=>((a.1.2.1,a.1.2.2.1,a.2.1.1.1,a.2.1.1.2.1,a.2.1.1.2.2.1,a.2.1.1.2.2.2.1,a.2.1.1.2.2.2.2.1,a.2.1.1.2.2.2.2.2.1,a.2.1.1.2.2.2.2.2.2.1),())) (fun x=>(((),x.1.1,x.1.2.1,()),((x.1.2.2.1,x.1.2.2.2.1,x.1.2.2.2.2.1,x.1.2.2.2.2.2.1,x.1.2.2.2.2.2.2.1,x.1.2.2.2.2.2.2.2.1,x.1.2.2.2.2.2.2.2.2,()),()),())) (fun _=>rfl)
def xZ93:LQ tb ((Bool×Bool×Int×Int×Int×Int×(List UInt8)×(List UInt8)×(List xZ1))×(Unit)):=(LQ.m [] [1,3,31] (.c 1 (.ptr 0 0) (.c 3 .b (.c 31 .b .n))) (.c (.c (.i .u8) (.c (.i .i64) (.c (.i .i64) (.c (.i .i64) (.c .s (.c .s (.c (.r 1) .n))))))) .n) .n).re (fun a=>((a.1.2.1,a.1.2.2.1,a.2.1.1.1,a.2.1.1.2.1,a.2.1.1.2.2.1,a.2.1.1.2.2.2.1,a.2.1.1.2.2.2.2.1,a.2.1.1.2.2.2.2.2.1,a.2.1.1.2.2.2.2.2.2.1),())) (fun x=>(((),x.1.1,x.1.2.1,()),((x.1.2.2.1,x.1.2.2.2.1,x.1.2.2.2.2.1,x.1.2.2.2.2.2.1,x.1.2.2.2.2.2.2.1,x.1.2.2.2.2.2.2.2.1,x.1.2.2.2.2.2.2.2.2,()),()),())) (fun _=>rfl)
def xZ94:LQ tb ((Bool×Bool×Int×Int×Int×Int×(List UInt8)×(List UInt8)×(List xZ1))×(Unit)):=(LQ.m [] [1,3,81] (.c 1 (.ptr 0 0) (.c 3 .b (.c 81 .b .n))) (.c (.c (.i .u8) (.c (.i .i64) (.c (.i .i64) (.c (.i .i64) (.c .s (.c .s (.c (.r 1) .n))))))) .n) .n).re (fun a=>((a.1.2.1,a.1.2.2.1,a.2.1.1.1,a.2.1.1.2.1,a.2.1.1.2.2.1,a.2.1.1.2.2.2.1,a.2.1.1.2.2.2.2.1,a.2.1.1.2.2.2.2.2.1,a.2.1.1.2.2.2.2.2.2.1),())) (fun x=>(((),x.1.1,x.1.2.1,()),((x.1.2.2.1,x.1.2.2.2.1,x.1.2.2.2.2.1,x.1.2.2.2.2.2.1,x.1.2.2.2.2.2.2.1,x.1.2.2.2.2.2.2.2.1,x.1.2.2.2.2.2.2.2.2,()),()),())) (fun _=>rfl)
def xZ95:LQ tb ((Bool×Bool×Int×Int×Int×Int×(List UInt8)×(List UInt8)×(List xZ1))×(Unit)):=(LQ.m [] [1,3,100] (.c 1 (.ptr 0 0) (.c 3 .b (.c 100 .b .n))) (.c (.c (.i .u8) (.c (.i .i64) (.c (.i .i64) (.c (.i .i64) (.c .s (.c .s (.c (.r 1) .n))))))) .n) .n).re (fun a=>((a.1.2.1,a.1.2.2.1,a.2.1.1.1,a.2.1.1.2.1,a.2.1.1.2.2.1,a.2.1.1.2.2.2.1,a.2.1.1.2.2.2.2.1,a.2.1.1.2.2.2.2.2.1,a.2.1.1.2.2.2.2.2.2.1),())) (fun x=>(((),x.1.1,x.1.2.1,()),((x.1.2.2.1,x.1.2.2.2.1,x.1.2.2.2.2.1,x.1.2.2.2.2.2.1,x.1.2.2.2.2.2.2.1,x.1.2.2.2.2.2.2.2.1,x.1.2.2.2.2.2.2.2.2,()),()),())) (fun _=>rfl)
abbrev xZ9b (N:Nat):(Bool×Bool×Int×Int×Int×Int×(List UInt8)×(List UInt8)×(List xZ1))×(Unit)→Option Int:=fun a=>xZ1y N a.1.1 a.1.2.1 a.1.2.2.1 a.1.2.2.2.1 a.1.2.2.2.2.1 a.1.2.2.2.2.2.1 a.1.2.2.2.2.2.2.1 a.1.2.2.2.2.2.2.2.1 a.1.2.2.2.2.2.2.2.2
abbrev xZ9a (N:Nat):(Bool×Bool×Int×Int×Int×Int×(List UInt8)×(List UInt8)×(List xZ1))×(Unit)→Option Int:=fun a=>xZm N a.1.1 a.1.2.1 a.1.2.2.1 a.1.2.2.2.1 a.1.2.2.2.2.1 a.1.2.2.2.2.2.1 a.1.2.2.2.2.2.2.1 a.1.2.2.2.2.2.2.2.1 a.1.2.2.2.2.2.2.2.2
abbrev xZ99 (N:Nat):(Bool×Bool×Int×Int×Int×Int×(List UInt8)×(List UInt8)×(List xZ1))×(Unit)→Option Int:=fun a=>xZ17 N a.1.1 a.1.2.1 a.1.2.2.1 a.1.2.2.2.1 a.1.2.2.2.2.1 a.1.2.2.2.2.2.1 a.1.2.2.2.2.2.2.1 a.1.2.2.2.2.2.2.2.1 a.1.2.2.2.2.2.2.2.2
abbrev xZ98 (N:Nat):(Bool×Bool×Int×Int×Int×Int×(List UInt8)×(List UInt8)×(List xZ1))×(Unit)→Option Int:=fun a=>xZ37 N a.1.1 a.1.2.1 a.1.2.2.1 a.1.2.2.2.1 a.1.2.2.2.2.1 a.1.2.2.2.2.2.1 a.1.2.2.2.2.2.2.1 a.1.2.2.2.2.2.2.2.1 a.1.2.2.2.2.2.2.2.2
abbrev xZ97 (N:Nat):(Bool×Int×Int×Int×Int×(List UInt8)×(List UInt8)×(List xZ1))×(Unit)→Option Int:=fun a=>xZ5Y N a.1.1 a.1.2.1 a.1.2.2.1 a.1.2.2.2.1 a.1.2.2.2.2.1 a.1.2.2.2.2.2.1 a.1.2.2.2.2.2.2.1 a.1.2.2.2.2.2.2.2
def xZ5I:Con tb:=.s 108 [true] (.c (.el tb_ok 4) .n) (fun N a=>xZ4R N a.1) (R:=Int) (.p (.i .i64)) (fun _=>⟨rfl,(by kernel_rfl)⟩)
def xZ5J:Con tb:=.s 67 [true,true,true,true] (.c (.r 4) (.c (.i .i64) (.c (.i .u8) (.c (.i .i64) .n)))) (fun N a=>xZa9 N a.1 a.2.1 a.2.2.1 a.2.2.2.1) (R:=Int×Int) (.p (.tu (.c (.i .i64) (.o (.i .i64))))) (fun _=>⟨rfl,(by kernel_rfl)⟩)
def xZ5r:LQ tb (((List xZ0)×Int×Int×Int×Int×Int×(List UInt8)×(List UInt8)×(List xZ1))×(Int×Int)):=(LQ.m [] [0,1,3,10,12] (.c 0 (.r 4) (.c 1 (.i .i64) (.c 3 (.i .i64) (.c 10 (.ptr 0 0) (.c 12 (.i .i64) .n))))) (.c (.c (.i .u8) (.c (.i .i64) (.c (.i .i64) (.c (.i .i64) (.c .s (.c .s (.c (.r 1) .n))))))) .n) .n).re (fun a=>((a.1.1,a.1.2.2.1,a.2.1.1.1,a.2.1.1.2.1,a.2.1.1.2.2.1,a.2.1.1.2.2.2.1,a.2.1.1.2.2.2.2.1,a.2.1.1.2.2.2.2.2.1,a.2.1.1.2.2.2.2.2.2.1),(a.1.2.1,a.1.2.2.2.2.1))) (fun x=>((x.1.1,x.2.1,x.1.2.1,(),x.2.2,()),((x.1.2.2.1,x.1.2.2.2.1,x.1.2.2.2.2.1,x.1.2.2.2.2.2.1,x.1.2.2.2.2.2.2.1,x.1.2.2.2.2.2.2.2.1,x.1.2.2.2.2.2.2.2.2,()),()),())) (fun _=>rfl)
def xZas (N:Nat) (c:(List xZ0)×Int×Int×Int×Int×Int×(List UInt8)×(List UInt8)×(List xZ1)) (next:(Int×Int)→Option (Int×Int)) (v:Int×Int):Option (Int×Int):=xZ2s N (xZ3W N) c.1 c.2.1 c.2.2.1 c.2.2.2.1 c.2.2.2.2.1 c.2.2.2.2.2.1 c.2.2.2.2.2.2.1 c.2.2.2.2.2.2.2.1 c.2.2.2.2.2.2.2.2 (fun u0 u1=>next (u0,u1)) v.1 v.2
abbrev xZe2 (N:Nat):((List xZ0)×Int×Int×Int×Int×Int×(List UInt8)×(List UInt8)×(List xZ1))×(Int×Int)→Option (Int×Int):=fun a=>loopV (xZas N a.1) N a.2
def xZ9L:Con tb:=.s 69 [true] (.c (.i .u8) .n) (fun N a=>xZ5X N a.1) (R:=List UInt8) (.p .s) (fun _=>⟨rfl,(by kernel_rfl)⟩)
def xZ8L:Con tb:=.s 33 [true] (.c (.el tb_ok 8) .n) (fun N a=>xZ6K N a.1) (R:=Int) (.p (.i .i64)) (fun _=>⟨rfl,(by kernel_rfl)⟩)
def xZ9M:Con tb:=.s 45 [true] (.c (.el tb_ok 4) .n) (fun N a=>xZ60 N a.1) (R:=Bool) (.p .b) (fun _=>⟨rfl,(by kernel_rfl)⟩)
def xZ9K:Con tb:=.s 110 [true,true] (.c (.r 4) (.c (.i .i64) .n)) (fun N a=>xZ8g N a.1 a.2.1) (R:=Int) (.p (.i .i64)) (fun _=>⟨rfl,(by kernel_rfl)⟩)
def xZ5q:LQ tb (((List xZ0)×Int)×(Int×Int)):=(LQ.m [] [0,1,5,6] (.c 0 (.r 4) (.c 1 (.i .i64) (.c 5 (.i .i64) (.c 6 (.i .i64) .n)))) .n .n).re (fun a=>((a.1.1,a.1.2.1),(a.1.2.2.1,a.1.2.2.2.1))) (fun x=>((x.1.1,x.1.2,x.2.1,x.2.2,()),(),())) (fun _=>rfl)
def xZar (N:Nat) (c:(List xZ0)×Int) (next:(Int×Int)→Option Int) (v:Int×Int):Option Int:=xZ5C N c.1 c.2 (fun u0 u1=>next (u0,u1)) v.1 v.2
abbrev xZe1 (N:Nat):((List xZ0)×Int)×(Int×Int)→Option Int:=fun a=>loopV (xZar N a.1) N a.2
def xZ9N:Con tb:=.p 82 [true,true] (.c (.r 4) (.c (.i .i64) .n)) (fun N a=>xZ61 N a.1 a.2.1) (R:=List Int) (.p (.r 13)) (fun _=>rfl)
def xZ5s:LQ tb (((List xZ0)×Int)×(Int×Int×(List Int))):=(LQ.m [(5,none,13)] [0,1,5,6,7] (.c 0 (.r 4) (.c 1 (.i .i64) (.c 5 (.own 0) (.c 6 (.i .i64) (.c 7 (.i .i64) .n))))) .n (.l 13 .n)).re (fun a=>((a.1.1,a.1.2.1),(a.1.2.2.2.1,a.1.2.2.2.2.1,a.2.2.1))) (fun x=>((x.1.1,x.1.2,(),x.2.1,x.2.2.1,()),(),x.2.2.2,())) (fun _=>rfl)
def xZat (N:Nat) (c:(List xZ0)×Int) (next:(Int×Int×(List Int))→Option (List Int)) (v:Int×Int×(List Int)):Option (List Int):=xZ8h N c.1 c.2 (fun u0 u1 u2=>next (u0,u1,u2)) v.1 v.2.1 v.2.2
abbrev xZe3 (N:Nat):((List xZ0)×Int)×(Int×Int×(List Int))→Option (List Int):=fun a=>loopV (xZat N a.1) N a.2
def xZ7K:Con tb:=.p 83 [true] (.c (.el tb_ok 14) .n) (fun N a=>xZ4u N a.1) (R:=Int×xZb) (.p (.tu (.c (.i .i64) (.o (.el tb_ok 14))))) (fun _=>rfl)
def xZ5K:Con tb:=.p 54 [true,true,true] (.c (.r 4) (.c (.i .i64) (.c (.el tb_ok 14) .n))) (fun N a=>xZaa N a.1 a.2.1 a.2.2.1) (R:=xZb) (.p (.el tb_ok 14)) (fun _=>rfl)
def xZ5t:LQ tb (((List xZ0)×Int×Int)×(Int×(List Int)×Int×(List Int)×Bool)):=(LQ.m [] [0,1,5,6,10,11] (.c 0 (.r 4) (.c 1 (.i .i64) (.c 5 (.ptr 0 0) (.c 6 (.ptr 1 0) (.c 10 (.i .i64) (.c 11 (.i .i64) .n)))))) (.c (.c (.r 13) (.c (.i .i64) (.c (.r 13) (.c .b .n)))) (.c (.c .e (.c (.li .i64 0) (.c .e (.c (.lb false) .n)))) .n)) .n).re (fun a=>((a.1.1,a.1.2.1,a.1.2.2.2.2.1),(a.1.2.2.2.2.2.1,a.2.1.1.1,a.2.1.1.2.1,a.2.1.1.2.2.1,a.2.1.1.2.2.2.1))) (fun x=>((x.1.1,x.1.2.1,(),(),x.1.2.2,x.2.1,()),((x.2.2.1,x.2.2.2.1,x.2.2.2.2.1,x.2.2.2.2.2,()),((),(),(),(),()),()),())) (fun _=>rfl)
def xZ5u:LQ tb (((List xZ0)×(List Int))×(Int×(List Int)×Int×(List Int)×Bool)):=(LQ.m [] [0,5,6,8,12] (.c 0 (.r 4) (.c 5 (.ptr 0 0) (.c 6 (.ptr 1 0) (.c 8 (.r 13) (.c 12 (.i .i64) .n))))) (.c (.c (.r 13) (.c (.i .i64) (.c (.r 13) (.c .b .n)))) (.c (.c .e (.c (.li .i64 0) (.c .e (.c (.lb false) .n)))) .n)) .n).re (fun a=>((a.1.1,a.1.2.2.2.1),(a.1.2.2.2.2.1,a.2.1.1.1,a.2.1.1.2.1,a.2.1.1.2.2.1,a.2.1.1.2.2.2.1))) (fun x=>((x.1.1,(),(),x.1.2,x.2.1,()),((x.2.2.1,x.2.2.2.1,x.2.2.2.2.1,x.2.2.2.2.2,()),((),(),(),(),()),()),())) (fun _=>rfl)
def xZau (N:Nat) (c:(List xZ0)×Int×Int) (next:(Int×(List Int)×Int×(List Int)×Bool)→Option xZb) (v:Int×(List Int)×Int×(List Int)×Bool):Option xZb:=xZ4v N (xZ2i N) c.1 c.2.1 c.2.2 (fun u0 u1 u2 u3 u4=>next (u0,u1,u2,u3,u4)) v.1 v.2.1 v.2.2.1 v.2.2.2.1 v.2.2.2.2
abbrev xZe4 (N:Nat):((List xZ0)×Int×Int)×(Int×(List Int)×Int×(List Int)×Bool)→Option xZb:=fun a=>loopV (xZau N a.1) N a.2
def xZav (N:Nat) (c:(List xZ0)×(List Int)) (next:(Int×(List Int)×Int×(List Int)×Bool)→Option xZb) (v:Int×(List Int)×Int×(List Int)×Bool):Option xZb:=xZ8i N (xZ2i N) c.1 c.2 (fun u0 u1 u2 u3 u4=>next (u0,u1,u2,u3,u4)) v.1 v.2.1 v.2.2.1 v.2.2.2.1 v.2.2.2.2
abbrev xZe5 (N:Nat):((List xZ0)×(List Int))×(Int×(List Int)×Int×(List Int)×Bool)→Option xZb:=fun a=>loopV (xZav N a.1) N a.2
def xZ8N:Con tb:=.s 26 [true,true] (.c (.el tb_ok 8) (.c (.r 13) .n)) (fun N a=>xZ52 N a.1 a.2.1) (R:=Bool) (.p .b) (fun _=>⟨rfl,(by kernel_rfl)⟩)
def xZ7L:Con tb:=.s 84 [true] (.c (.el tb_ok 4) .n) (fun N a=>xZ2t N a.1) (R:=Bool) (.p .b) (fun _=>⟨rfl,(by kernel_rfl)⟩)
def xZ22:Con tb:=.m 85 [false] (.c (.ptr 0 0) .n) (.c (.c (.r 4) (.c (.r 13) (.c (.i .i64) (.c .e (.c .b .n))))) .n) .n (fun N a=>xZS N a.2.1.1.1 a.2.1.1.2.1 a.2.1.1.2.2.1 a.2.1.1.2.2.2.2.1) (R:=Int×List xZ0×List Int×Int×Bool) (.m (R:=Int×List xZ0×List Int×Int×Bool) (.i .i64) (.c (.c (.r 4) (.c (.r 13) (.c (.i .i64) (.c .e (.c .b .n))))) .n) .n (fun z=>(z.1,z.2.1.1.1,z.2.1.1.2.1,z.2.1.1.2.2.1,z.2.1.1.2.2.2.2.1)) (fun r=>(r.1,((r.2.1,r.2.2.1,r.2.2.2.1,(),r.2.2.2.2,()),()),())) (fun _=>rfl))
def xZ23:Con tb:=.m 85 [false] (.c (.ptr 0 0) .n) (.c (.c (.r 4) (.c (.r 13) (.c (.i .i64) (.c (.own 0) (.c .b .n))))) .n) (.l 13 .n) (fun N a=>xZC N a.2.1.1.1 a.2.1.1.2.1 a.2.1.1.2.2.1 a.2.1.1.2.2.2.2.1 a.2.2.1) (R:=Int×List xZ0×List Int×Int×Bool×List Int) (.m (R:=Int×List xZ0×List Int×Int×Bool×List Int) (.i .i64) (.c (.c (.r 4) (.c (.r 13) (.c (.i .i64) (.c (.own 0) (.c .b .n))))) .n) (.l 13 .n) (fun z=>(z.1,z.2.1.1.1,z.2.1.1.2.1,z.2.1.1.2.2.1,z.2.1.1.2.2.2.2.1,z.2.2.1)) (fun r=>(r.1,((r.2.1,r.2.2.1,r.2.2.2.1,(),r.2.2.2.2.1,()),()),r.2.2.2.2.2,())) (fun _=>rfl))
def xZ12:Con tb:=.m 55 [false,true] (.c (.ptr 0 0) (.c (.i .i64) .n)) (.c (.c (.r 4) (.c (.r 13) (.c (.i .i64) (.c (.own 0) (.c .b .n))))) .n) (.l 13 .n) (fun N a=>xZ1K N a.1.2.1 a.2.1.1.1 a.2.1.1.2.1 a.2.1.1.2.2.1 a.2.1.1.2.2.2.2.1 a.2.2.1) (R:=(List xZ0×List Int×Int×Bool×List Int)⊕(List xZ0×List Int×Int×Bool×List Int)) (.or (.m (R:=List xZ0×List Int×Int×Bool×List Int) (.tu .n) (.c (.c (.r 4) (.c (.r 13) (.c (.i .i64) (.c (.own 0) (.c .b .n))))) .n) (.l 13 .n) (fun z=>(z.2.1.1.1,z.2.1.1.2.1,z.2.1.1.2.2.1,z.2.1.1.2.2.2.2.1,z.2.2.1)) (fun r=>((),((r.1,r.2.1,r.2.2.1,(),r.2.2.2.1,()),()),r.2.2.2.2,())) (fun _=>rfl)) (.m (R:=List xZ0×List Int×Int×Bool×List Int) (.tu .n) (.c (.c (.r 4) (.c (.r 13) (.c (.i .i64) (.c (.own 1) (.c .b .n))))) .n) (.d (.l 13 .n)) (fun z=>(z.2.1.1.1,z.2.1.1.2.1,z.2.1.1.2.2.1,z.2.1.1.2.2.2.2.1,z.2.2.1)) (fun r=>((),((r.1,r.2.1,r.2.2.1,(),r.2.2.2.1,()),()),r.2.2.2.2,())) (fun _=>rfl)))
def xZ1t:LQ tb ((Int×(List xZ0)×(List Int)×Int×Bool×(List Int))×(Int×Int)):=(LQ.m [] [0,5,80,81] (.c 0 (.ptr 0 0) (.c 5 (.i .i64) (.c 80 (.i .i64) (.c 81 (.i .i64) .n)))) (.c (.c (.r 4) (.c (.r 13) (.c (.i .i64) (.c (.own 0) (.c .b .n))))) .n) (.l 13 .n)).re (fun a=>((a.1.2.2.1,a.2.1.1.1,a.2.1.1.2.1,a.2.1.1.2.2.1,a.2.1.1.2.2.2.2.1,a.2.2.1),(a.1.2.1,a.1.2.2.2.1))) (fun x=>(((),x.2.1,x.1.1,x.2.2,()),((x.1.2.1,x.1.2.2.1,x.1.2.2.2.1,(),x.1.2.2.2.2.1,()),()),x.1.2.2.2.2.2,())) (fun _=>rfl)
def xZ1u:LQ tb ((Int×Int)×(Int×(List xZ0)×(List Int)×Int×Bool×(List Int))):=(LQ.m [(0,some 3,13)] [0,1,6,7] (.c 0 (.ptr 0 0) (.c 1 (.i .i64) (.c 6 (.i .i64) (.c 7 (.i .i64) .n)))) (.c (.c (.r 4) (.c (.r 13) (.c (.i .i64) (.c (.own 1) (.c .b .n))))) .n) (.d (.l 13 .n))).re (fun a=>((a.1.2.1,a.1.2.2.1),(a.1.2.2.2.1,a.2.1.1.1,a.2.1.1.2.1,a.2.1.1.2.2.1,a.2.1.1.2.2.2.2.1,a.2.2.1))) (fun x=>(((),x.1.1,x.1.2,x.2.1,()),((x.2.2.1,x.2.2.2.1,x.2.2.2.2.1,(),x.2.2.2.2.2.1,()),()),x.2.2.2.2.2.2,())) (fun _=>rfl)
def xZ1s:LQ tb ((Int×Int×Int×Int×(List UInt8)×(List UInt8)×(List xZ1))×(Int×Int×(List xZ0)×(List Int)×Int×Bool×(List Int))):=(LQ.m [(0,some 3,13)] [0,4,8,9] (.c 0 (.ptr 0 0) (.c 4 (.ptr 1 0) (.c 8 (.i .i64) (.c 9 (.i .i64) .n)))) (.c (.c (.r 4) (.c (.r 13) (.c (.i .i64) (.c (.own 1) (.c .b .n))))) (.c (.c (.i .u8) (.c (.i .i64) (.c (.i .i64) (.c (.i .i64) (.c .s (.c .s (.c (.r 1) .n))))))) .n)) (.d (.l 13 .n))).re (fun a=>((a.2.1.2.1.1,a.2.1.2.1.2.1,a.2.1.2.1.2.2.1,a.2.1.2.1.2.2.2.1,a.2.1.2.1.2.2.2.2.1,a.2.1.2.1.2.2.2.2.2.1,a.2.1.2.1.2.2.2.2.2.2.1),(a.1.2.2.1,a.1.2.2.2.1,a.2.1.1.1,a.2.1.1.2.1,a.2.1.1.2.2.1,a.2.1.1.2.2.2.2.1,a.2.2.1))) (fun x=>(((),(),x.2.1,x.2.2.1,()),((x.2.2.2.1,x.2.2.2.2.1,x.2.2.2.2.2.1,(),x.2.2.2.2.2.2.1,()),(x.1.1,x.1.2.1,x.1.2.2.1,x.1.2.2.2.1,x.1.2.2.2.2.1,x.1.2.2.2.2.2.1,x.1.2.2.2.2.2.2,()),()),x.2.2.2.2.2.2.2,())) (fun _=>rfl)
def xZ3z (N:Nat) (c:Int×(List xZ0)×(List Int)×Int×Bool×(List Int)) (next:(Int×Int)→Option ((List xZ0×List Int×Int×Bool×List Int)⊕(List xZ0×List Int×Int×Bool×List Int))) (v:Int×Int):Option ((List xZ0×List Int×Int×Bool×List Int)⊕(List xZ0×List Int×Int×Bool×List Int)):=xZ2b N (xZi N) c.1 c.2.1 c.2.2.1 c.2.2.2.1 c.2.2.2.2.1 c.2.2.2.2.2 (fun u0 u1=>next (u0,u1)) v.1 v.2
abbrev xZ7o (N:Nat):(Int×(List xZ0)×(List Int)×Int×Bool×(List Int))×(Int×Int)→Option ((List xZ0×List Int×Int×Bool×List Int)⊕(List xZ0×List Int×Int×Bool×List Int)):=fun a=>loopV (xZ3z N a.1) N a.2
def xZ3A (N:Nat) (c:Int×Int) (next:(Int×(List xZ0)×(List Int)×Int×Bool×(List Int))→Option ((List xZ0×List Int×Int×Bool×List Int)⊕(List xZ0×List Int×Int×Bool×List Int))) (v:Int×(List xZ0)×(List Int)×Int×Bool×(List Int)):Option ((List xZ0×List Int×Int×Bool×List Int)⊕(List xZ0×List Int×Int×Bool×List Int)):=xZU N (xZi N) c.1 c.2 (fun u0 u1 u2 u3 u4 u5=>next (u0,u1,u2,u3,u4,u5)) v.1 v.2.1 v.2.2.1 v.2.2.2.1 v.2.2.2.2.1 v.2.2.2.2.2
abbrev xZ7p (N:Nat):(Int×Int)×(Int×(List xZ0)×(List Int)×Int×Bool×(List Int))→Option ((List xZ0×List Int×Int×Bool×List Int)⊕(List xZ0×List Int×Int×Bool×List Int)):=fun a=>loopV (xZ3A N a.1) N a.2
def xZ3y (N:Nat) (c:Int×Int×Int×Int×(List UInt8)×(List UInt8)×(List xZ1)) (next:(Int×Int×(List xZ0)×(List Int)×Int×Bool×(List Int))→Option ((List xZ0×List Int×Int×Bool×List Int)⊕(List xZ0×List Int×Int×Bool×List Int))) (v:Int×Int×(List xZ0)×(List Int)×Int×Bool×(List Int)):Option ((List xZ0×List Int×Int×Bool×List Int)⊕(List xZ0×List Int×Int×Bool×List Int)):=xZ2c N (xZi N) c.2.1 (fun u0 u1 u2 u3 u4 u5 u6=>next (u0,u1,u2,u3,u4,u5,u6)) v.1 v.2.1 v.2.2.1 v.2.2.2.1 v.2.2.2.2.1 v.2.2.2.2.2.1 v.2.2.2.2.2.2
abbrev xZ7n (N:Nat):(Int×Int×Int×Int×(List UInt8)×(List UInt8)×(List xZ1))×(Int×Int×(List xZ0)×(List Int)×Int×Bool×(List Int))→Option ((List xZ0×List Int×Int×Bool×List Int)⊕(List xZ0×List Int×Int×Bool×List Int)):=fun a=>loopV (xZ3y N a.1) N a.2
def xZ11:Con tb:=.m 55 [false,true] (.c (.ptr 0 0) (.c (.i .i64) .n)) (.c (.c (.r 4) (.c (.r 13) (.c (.i .i64) (.c .e (.c .b .n))))) .n) .n (fun N a=>xZ2u N a.1.2.1 a.2.1.1.1 a.2.1.1.2.1 a.2.1.1.2.2.1 a.2.1.1.2.2.2.2.1) (R:=(List xZ0×List Int×Int×Bool)⊕(List xZ0×List Int×Int×Bool×List Int)) (.or (.m (R:=List xZ0×List Int×Int×Bool) (.tu .n) (.c (.c (.r 4) (.c (.r 13) (.c (.i .i64) (.c .e (.c .b .n))))) .n) .n (fun z=>(z.2.1.1.1,z.2.1.1.2.1,z.2.1.1.2.2.1,z.2.1.1.2.2.2.2.1)) (fun r=>((),((r.1,r.2.1,r.2.2.1,(),r.2.2.2,()),()),())) (fun _=>rfl)) (.m (R:=List xZ0×List Int×Int×Bool×List Int) (.tu .n) (.c (.c (.r 4) (.c (.r 13) (.c (.i .i64) (.c (.own 0) (.c .b .n))))) .n) (.l 13 .n) (fun z=>(z.2.1.1.1,z.2.1.1.2.1,z.2.1.1.2.2.1,z.2.1.1.2.2.2.2.1,z.2.2.1)) (fun r=>((),((r.1,r.2.1,r.2.2.1,(),r.2.2.2.1,()),()),r.2.2.2.2,())) (fun _=>rfl)))
def xZ1q:LQ tb ((Int×(List xZ0)×(List Int)×Int×Bool)×(Int×Int)):=(LQ.m [] [0,5,80,81] (.c 0 (.ptr 0 0) (.c 5 (.i .i64) (.c 80 (.i .i64) (.c 81 (.i .i64) .n)))) (.c (.c (.r 4) (.c (.r 13) (.c (.i .i64) (.c .e (.c .b .n))))) .n) .n).re (fun a=>((a.1.2.2.1,a.2.1.1.1,a.2.1.1.2.1,a.2.1.1.2.2.1,a.2.1.1.2.2.2.2.1),(a.1.2.1,a.1.2.2.2.1))) (fun x=>(((),x.2.1,x.1.1,x.2.2,()),((x.1.2.1,x.1.2.2.1,x.1.2.2.2.1,(),x.1.2.2.2.2,()),()),())) (fun _=>rfl)
def xZ1r:LQ tb ((Int×Int)×(Int×(List xZ0)×(List Int)×Int×Bool×(List Int))):=(LQ.m [(0,some 3,13)] [0,1,6,7] (.c 0 (.ptr 0 0) (.c 1 (.i .i64) (.c 6 (.i .i64) (.c 7 (.i .i64) .n)))) (.c (.c (.r 4) (.c (.r 13) (.c (.i .i64) (.c (.own 0) (.c .b .n))))) .n) (.l 13 .n)).re (fun a=>((a.1.2.1,a.1.2.2.1),(a.1.2.2.2.1,a.2.1.1.1,a.2.1.1.2.1,a.2.1.1.2.2.1,a.2.1.1.2.2.2.2.1,a.2.2.1))) (fun x=>(((),x.1.1,x.1.2,x.2.1,()),((x.2.2.1,x.2.2.2.1,x.2.2.2.2.1,(),x.2.2.2.2.2.1,()),()),x.2.2.2.2.2.2,())) (fun _=>rfl)
def xZ1p:LQ tb ((Int×Int×Int×Int×(List UInt8)×(List UInt8)×(List xZ1))×(Int×Int×(List xZ0)×(List Int)×Int×Bool×(List Int))):=(LQ.m [(0,some 3,13)] [0,4,8,9] (.c 0 (.ptr 0 0) (.c 4 (.ptr 1 0) (.c 8 (.i .i64) (.c 9 (.i .i64) .n)))) (.c (.c (.r 4) (.c (.r 13) (.c (.i .i64) (.c (.own 0) (.c .b .n))))) (.c (.c (.i .u8) (.c (.i .i64) (.c (.i .i64) (.c (.i .i64) (.c .s (.c .s (.c (.r 1) .n))))))) .n)) (.l 13 .n)).re (fun a=>((a.2.1.2.1.1,a.2.1.2.1.2.1,a.2.1.2.1.2.2.1,a.2.1.2.1.2.2.2.1,a.2.1.2.1.2.2.2.2.1,a.2.1.2.1.2.2.2.2.2.1,a.2.1.2.1.2.2.2.2.2.2.1),(a.1.2.2.1,a.1.2.2.2.1,a.2.1.1.1,a.2.1.1.2.1,a.2.1.1.2.2.1,a.2.1.1.2.2.2.2.1,a.2.2.1))) (fun x=>(((),(),x.2.1,x.2.2.1,()),((x.2.2.2.1,x.2.2.2.2.1,x.2.2.2.2.2.1,(),x.2.2.2.2.2.2.1,()),(x.1.1,x.1.2.1,x.1.2.2.1,x.1.2.2.2.1,x.1.2.2.2.2.1,x.1.2.2.2.2.2.1,x.1.2.2.2.2.2.2,()),()),x.2.2.2.2.2.2.2,())) (fun _=>rfl)
def xZ3w (N:Nat) (c:Int×(List xZ0)×(List Int)×Int×Bool) (next:(Int×Int)→Option ((List xZ0×List Int×Int×Bool)⊕(List xZ0×List Int×Int×Bool×List Int))) (v:Int×Int):Option ((List xZ0×List Int×Int×Bool)⊕(List xZ0×List Int×Int×Bool×List Int)):=xZ29 N (xZh N) c.1 c.2.1 c.2.2.1 c.2.2.2.1 c.2.2.2.2 (fun u0 u1=>next (u0,u1)) v.1 v.2
abbrev xZ7l (N:Nat):(Int×(List xZ0)×(List Int)×Int×Bool)×(Int×Int)→Option ((List xZ0×List Int×Int×Bool)⊕(List xZ0×List Int×Int×Bool×List Int)):=fun a=>loopV (xZ3w N a.1) N a.2
def xZ3x (N:Nat) (c:Int×Int) (next:(Int×(List xZ0)×(List Int)×Int×Bool×(List Int))→Option ((List xZ0×List Int×Int×Bool)⊕(List xZ0×List Int×Int×Bool×List Int))) (v:Int×(List xZ0)×(List Int)×Int×Bool×(List Int)):Option ((List xZ0×List Int×Int×Bool)⊕(List xZ0×List Int×Int×Bool×List Int)):=xZT N (xZh N) c.1 c.2 (fun u0 u1 u2 u3 u4 u5=>next (u0,u1,u2,u3,u4,u5)) v.1 v.2.1 v.2.2.1 v.2.2.2.1 v.2.2.2.2.1 v.2.2.2.2.2
abbrev xZ7m (N:Nat):(Int×Int)×(Int×(List xZ0)×(List Int)×Int×Bool×(List Int))→Option ((List xZ0×List Int×Int×Bool)⊕(List xZ0×List Int×Int×Bool×List Int)):=fun a=>loopV (xZ3x N a.1) N a.2
def xZ3v (N:Nat) (c:Int×Int×Int×Int×(List UInt8)×(List UInt8)×(List xZ1)) (next:(Int×Int×(List xZ0)×(List Int)×Int×Bool×(List Int))→Option ((List xZ0×List Int×Int×Bool)⊕(List xZ0×List Int×Int×Bool×List Int))) (v:Int×Int×(List xZ0)×(List Int)×Int×Bool×(List Int)):Option ((List xZ0×List Int×Int×Bool)⊕(List xZ0×List Int×Int×Bool×List Int)):=xZ2a N (xZh N) c.2.1 (fun u0 u1 u2 u3 u4 u5 u6=>next (u0,u1,u2,u3,u4,u5,u6)) v.1 v.2.1 v.2.2.1 v.2.2.2.1 v.2.2.2.2.1 v.2.2.2.2.2.1 v.2.2.2.2.2.2
abbrev xZ7k (N:Nat):(Int×Int×Int×Int×(List UInt8)×(List UInt8)×(List xZ1))×(Int×Int×(List xZ0)×(List Int)×Int×Bool×(List Int))→Option ((List xZ0×List Int×Int×Bool)⊕(List xZ0×List Int×Int×Bool×List Int)):=fun a=>loopV (xZ3v N a.1) N a.2
def xZ9O:Con tb:=.p 27 [true,true] (.c (.el tb_ok 8) (.c (.r 13) .n)) (fun N a=>xZ62 N a.1 a.2.1) (R:=List Int) (.p (.r 13)) (fun _=>rfl)
def xZ8m:Con tb:=.s 6 [true,true] (.c (.el tb_ok 8) (.c (.r 13) .n)) (fun N a=>xZ3I N a.1 a.2.1) (R:=Bool) (.p .b) (fun _=>⟨rfl,(by kernel_rfl)⟩)
def xZ1Y:LQ tb (((List Int)×(List xZ0)×Int×(List UInt8)×Int×(List xZ0)×Int×(List UInt8)×Int×(List xZ3)×(List xZ2)×Int×(List UInt8)×Int)×(Int)):=(LQ.m [] [1,2,5,6,8] (.c 1 (.r 13) (.c 2 (.ptr 0 0) (.c 5 (.ptr 1 0) (.c 6 (.ptr 2 0) (.c 8 (.i .i64) .n))))) (.c (.c (.r 4) (.c (.i .i64) (.c .s (.c (.i .u8) .n)))) (.c (.c (.r 4) (.c (.i .i64) (.c .s (.c (.i .u8) .n)))) (.c (.c (.r 3) (.c (.r 2) (.c (.i .i64) (.c .s (.c (.i .u8) .n))))) .n))) .n).re (fun a=>((a.1.1,a.2.1.1.1,a.2.1.1.2.1,a.2.1.1.2.2.1,a.2.1.1.2.2.2.1,a.2.1.2.1.1,a.2.1.2.1.2.1,a.2.1.2.1.2.2.1,a.2.1.2.1.2.2.2.1,a.2.1.2.2.1.1,a.2.1.2.2.1.2.1,a.2.1.2.2.1.2.2.1,a.2.1.2.2.1.2.2.2.1,a.2.1.2.2.1.2.2.2.2.1),a.1.2.2.2.2.1)) (fun x=>((x.1.1,(),(),(),x.2,()),((x.1.2.1,x.1.2.2.1,x.1.2.2.2.1,x.1.2.2.2.2.1,()),(x.1.2.2.2.2.2.1,x.1.2.2.2.2.2.2.1,x.1.2.2.2.2.2.2.2.1,x.1.2.2.2.2.2.2.2.2.1,()),(x.1.2.2.2.2.2.2.2.2.2.1,x.1.2.2.2.2.2.2.2.2.2.2.1,x.1.2.2.2.2.2.2.2.2.2.2.2.1,x.1.2.2.2.2.2.2.2.2.2.2.2.2.1,x.1.2.2.2.2.2.2.2.2.2.2.2.2.2,()),()),())) (fun _=>rfl)
def xZ2I:LQ tb (((List Int)×Int×(List xZ0)×Int×(List UInt8)×Int×(List xZ0)×Int×(List UInt8)×Int×(List xZ3)×(List xZ2)×Int×(List UInt8)×Int)×(Bool×Int)):=(LQ.m [] [1,2,5,6,8,9,10] (.c 1 (.r 13) (.c 2 (.ptr 0 0) (.c 5 (.ptr 1 0) (.c 6 (.ptr 2 0) (.c 8 (.i .i64) (.c 9 .b (.c 10 (.i .i64) .n))))))) (.c (.c (.r 4) (.c (.i .i64) (.c .s (.c (.i .u8) .n)))) (.c (.c (.r 4) (.c (.i .i64) (.c .s (.c (.i .u8) .n)))) (.c (.c (.r 3) (.c (.r 2) (.c (.i .i64) (.c .s (.c (.i .u8) .n))))) .n))) .n).re (fun a=>((a.1.1,a.1.2.2.2.2.1,a.2.1.1.1,a.2.1.1.2.1,a.2.1.1.2.2.1,a.2.1.1.2.2.2.1,a.2.1.2.1.1,a.2.1.2.1.2.1,a.2.1.2.1.2.2.1,a.2.1.2.1.2.2.2.1,a.2.1.2.2.1.1,a.2.1.2.2.1.2.1,a.2.1.2.2.1.2.2.1,a.2.1.2.2.1.2.2.2.1,a.2.1.2.2.1.2.2.2.2.1),(a.1.2.2.2.2.2.1,a.1.2.2.2.2.2.2.1))) (fun x=>((x.1.1,(),(),(),x.1.2.1,x.2.1,x.2.2,()),((x.1.2.2.1,x.1.2.2.2.1,x.1.2.2.2.2.1,x.1.2.2.2.2.2.1,()),(x.1.2.2.2.2.2.2.1,x.1.2.2.2.2.2.2.2.1,x.1.2.2.2.2.2.2.2.2.1,x.1.2.2.2.2.2.2.2.2.2.1,()),(x.1.2.2.2.2.2.2.2.2.2.2.1,x.1.2.2.2.2.2.2.2.2.2.2.2.1,x.1.2.2.2.2.2.2.2.2.2.2.2.2.1,x.1.2.2.2.2.2.2.2.2.2.2.2.2.2.1,x.1.2.2.2.2.2.2.2.2.2.2.2.2.2.2,()),()),())) (fun _=>rfl)
def xZ2J:LQ tb (((List Int)×(List xZ0)×Int×(List UInt8)×Int×(List xZ3)×(List xZ2)×Int×(List UInt8)×Int)×(Int×(List (List UInt8)))):=(LQ.m [(12,none,0)] [5,6,12,13,14] (.c 5 (.ptr 0 0) (.c 6 (.ptr 1 0) (.c 12 (.own 0) (.c 13 (.r 13) (.c 14 (.i .i64) .n))))) (.c (.c (.r 4) (.c (.i .i64) (.c .s (.c (.i .u8) .n)))) (.c (.c (.r 3) (.c (.r 2) (.c (.i .i64) (.c .s (.c (.i .u8) .n))))) .n)) (.l 0 .n)).re (fun a=>((a.1.2.2.2.1,a.2.1.1.1,a.2.1.1.2.1,a.2.1.1.2.2.1,a.2.1.1.2.2.2.1,a.2.1.2.1.1,a.2.1.2.1.2.1,a.2.1.2.1.2.2.1,a.2.1.2.1.2.2.2.1,a.2.1.2.1.2.2.2.2.1),(a.1.2.2.2.2.1,a.2.2.1))) (fun x=>(((),(),(),x.1.1,x.2.1,()),((x.1.2.1,x.1.2.2.1,x.1.2.2.2.1,x.1.2.2.2.2.1,()),(x.1.2.2.2.2.2.1,x.1.2.2.2.2.2.2.1,x.1.2.2.2.2.2.2.2.1,x.1.2.2.2.2.2.2.2.2.1,x.1.2.2.2.2.2.2.2.2.2,()),()),x.2.2,())) (fun _=>rfl)
def xZ6t (N:Nat) (next0:((List Int)×(List xZ0)×Int×(List UInt8)×Int×(List xZ0)×Int×(List UInt8)×Int×(List xZ3)×(List xZ2)×Int×(List UInt8)×Int)×(Int)→Option Bool) (c:(List Int)×Int×(List xZ0)×Int×(List UInt8)×Int×(List xZ0)×Int×(List UInt8)×Int×(List xZ3)×(List xZ2)×Int×(List UInt8)×Int) (next:(Bool×Int)→Option Bool) (v:Bool×Int):Option Bool:=xZ2M N c.2.1 c.2.2.2.2.2.2.1 c.2.2.2.2.2.2.2.2.2.2.2.1 (fun u0=>next0 ((c.1,c.2.2.1,c.2.2.2.1,c.2.2.2.2.1,c.2.2.2.2.2.1,c.2.2.2.2.2.2.1,c.2.2.2.2.2.2.2.1,c.2.2.2.2.2.2.2.2.1,c.2.2.2.2.2.2.2.2.2.1,c.2.2.2.2.2.2.2.2.2.2.1,c.2.2.2.2.2.2.2.2.2.2.2.1,c.2.2.2.2.2.2.2.2.2.2.2.2.1,c.2.2.2.2.2.2.2.2.2.2.2.2.2.1,c.2.2.2.2.2.2.2.2.2.2.2.2.2.2),u0)) (fun u0 u1=>next (u0,u1)) v.1 v.2
abbrev xZaM (N:Nat) (next0:((List Int)×(List xZ0)×Int×(List UInt8)×Int×(List xZ0)×Int×(List UInt8)×Int×(List xZ3)×(List xZ2)×Int×(List UInt8)×Int)×(Int)→Option Bool):((List Int)×Int×(List xZ0)×Int×(List UInt8)×Int×(List xZ0)×Int×(List UInt8)×Int×(List xZ3)×(List xZ2)×Int×(List UInt8)×Int)×(Bool×Int)→Option Bool:=fun a=>loopV (xZ6t N next0 a.1) N a.2
def xZ6u (N:Nat) (c:(List Int)×(List xZ0)×Int×(List UInt8)×Int×(List xZ3)×(List xZ2)×Int×(List UInt8)×Int) (next:(Int×(List (List UInt8)))→Option Bool) (v:Int×(List (List UInt8))):Option Bool:=xZ2N N c.1 c.2.1 c.2.2.2.2.2.1 c.2.2.2.2.2.2.1 c.2.2.2.2.2.2.2.1 c.2.2.2.2.2.2.2.2.1 c.2.2.2.2.2.2.2.2.2 (fun u0 u1=>next (u0,u1)) v.1 v.2
abbrev xZaN (N:Nat):((List Int)×(List xZ0)×Int×(List UInt8)×Int×(List xZ3)×(List xZ2)×Int×(List UInt8)×Int)×(Int×(List (List UInt8)))→Option Bool:=fun a=>loopV (xZ6u N a.1) N a.2
def xZ6s (N:Nat) (c:(List Int)×(List xZ0)×Int×(List UInt8)×Int×(List xZ0)×Int×(List UInt8)×Int×(List xZ3)×(List xZ2)×Int×(List UInt8)×Int) (next:Int→Option Bool) (v:Int):Option Bool:=xZ2L N c.1 c.2.1 c.2.2.1 c.2.2.2.1 c.2.2.2.2.1 c.2.2.2.2.2.1 c.2.2.2.2.2.2.1 c.2.2.2.2.2.2.2.1 c.2.2.2.2.2.2.2.2.1 c.2.2.2.2.2.2.2.2.2.1 c.2.2.2.2.2.2.2.2.2.2.1 c.2.2.2.2.2.2.2.2.2.2.2.1 c.2.2.2.2.2.2.2.2.2.2.2.2.1 c.2.2.2.2.2.2.2.2.2.2.2.2.2 (fun u0=>next u0) v
abbrev xZaL (N:Nat):((List Int)×(List xZ0)×Int×(List UInt8)×Int×(List xZ0)×Int×(List UInt8)×Int×(List xZ3)×(List xZ2)×Int×(List UInt8)×Int)×(Int)→Option Bool:=fun a=>loopV (xZ6s N a.1) N a.2
end
end
end Go.Proofs.YtmllclbhdmajmaaGreat.K
