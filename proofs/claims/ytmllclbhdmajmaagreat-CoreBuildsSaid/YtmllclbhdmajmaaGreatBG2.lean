/- The code, and what each function of it is walked to. No premise beyond what each theorem says. -/
import Derived.Test.YtmllclbhdmajmaaGreatBG1
set_option linter.all false
set_option linter.unusedSimpArgs false
set_option linter.unusedVariables false
namespace Go.Proofs.YtmllclbhdmajmaaGreat.B
open Go
section
open Go.Proofs.Tryz
set_option maxRecDepth 1000000
noncomputable section
theorem hm:prog.follows .mixedOrders=true:=by kernel_rfl
def eA0 (x:List UInt8):AV:=.v (.string (bs x))
def eA1 (x:xZ2):AV:=.agg [.v (.int .u8 x.Kind),.v (.int .u8 x.Op),.v (.string (bs x.Var)),.v (.string (bs x.Name)),.v (.int .u8 x.Val.Kind),.v (.int .i64 x.Val.N),.v (.int .u64 x.Val.Bits),.v (.string (bs x.Val.Text))]
def eA2 (x:xZ1):AV:=.agg [.v (.bool x.Neg),.v (.string (bs x.Var)),.v (.string (bs x.Type_)),.sl 8 (List.map eA1 x.Test)]
def eA3 (x:xZ0):AV:=.agg [.v (.int .u8 x.Kind),.v (.int .i64 x.Place)]
def eA4 (x:xZ3):AV:=.agg [.v (.int .u8 x.Kind),.v (.int .i64 x.Kids),.v (.int .i64 x.Lo),.v (.int .i64 x.Hi),.v (.string (bs x.Var)),.v (.string (bs x.Type_)),.sl 8 (List.map eA1 x.Test)]
def eA5 (x:xZ4):AV:=.agg [.v (.int .u8 x.Kind),.v (.int .i64 x.At),.v (.string (bs x.Text)),.v (.int .u8 x.Val.Kind),.v (.int .i64 x.Val.N),.v (.int .u64 x.Val.Bits),.v (.string (bs x.Val.Text))]
def eA6 (x:List xZ2):AV:=.sl 8 (List.map eA1 x)
def eA7 (x:xZb):AV:=.agg [.v (.int .u8 x.Kind),.v (.int .i64 x.N),.v (.int .u64 x.Bits),.v (.string (bs x.Text))]
def eA8 (x:xZ7):AV:=.agg [.sl 7 (List.map eA4 x.Body),.v (.int .i64 x.Within),.v (.string (bs x.By)),.v (.int .u8 x.Mode)]
def eA9 (x:xZa):AV:=.agg [.sl 2 (List.map eA3 x.Nodes),.sl 4 (List.map eA2 x.Places),.v (.int .i64 x.Within),.v (.string (bs x.By)),.v (.int .u8 x.Mode)]
def eA10 (x:xZ9):AV:=.agg [.v (.int .u64 x.i0),.v (.int .u64 x.i1)]
def eA11 (x:Int):AV:=.v (.int .u64 x)
def eA12 (x:Ent105):AV:=.agg [.v (.int .i64 x.k.at_),.v (.int .u64 x.k.from_.i0),.v (.int .u64 x.k.from_.i1),.v (.int .u64 x.v.i0),.v (.int .u64 x.v.i1)]
def eA13 (x:Int):AV:=.v (.int .i64 x)
def eA14 (x:List xZ0):AV:=.sl 2 (List.map eA3 x)
abbrev T:Nat→Type
 | 0=>List UInt8
 | 1=>xZ2
 | 2=>xZ1
 | 3=>xZ0
 | 4=>xZ3
 | 5=>xZ4
 | 6=>List xZ2
 | 7=>xZb
 | 8=>xZ7
 | 9=>xZa
 | 10=>xZ9
 | 11=>Int
 | 12=>Ent105
 | 13=>Int
 | 14=>List xZ0
 | _=>Unit
def enc:(i:Nat)→T i→List (BV T)
 | 0=>fun (x:List UInt8)=>[.str x]
 | 1=>fun (x:xZ2)=>[.int .u8 x.Kind,.int .u8 x.Op,.str x.Var,.str x.Name,.int .u8 x.Val.Kind,.int .i64 x.Val.N,.int .u64 x.Val.Bits,.str x.Val.Text]
 | 2=>fun (x:xZ1)=>[.bool x.Neg,.str x.Var,.str x.Type_,.sl 1 x.Test]
 | 3=>fun (x:xZ0)=>[.int .u8 x.Kind,.int .i64 x.Place]
 | 4=>fun (x:xZ3)=>[.int .u8 x.Kind,.int .i64 x.Kids,.int .i64 x.Lo,.int .i64 x.Hi,.str x.Var,.str x.Type_,.sl 1 x.Test]
 | 5=>fun (x:xZ4)=>[.int .u8 x.Kind,.int .i64 x.At,.str x.Text,.int .u8 x.Val.Kind,.int .i64 x.Val.N,.int .u64 x.Val.Bits,.str x.Val.Text]
 | 6=>fun (x:List xZ2)=>[.sl 1 x]
 | 7=>fun (x:xZb)=>[.int .u8 x.Kind,.int .i64 x.N,.int .u64 x.Bits,.str x.Text]
 | 8=>fun (x:xZ7)=>[.sl 4 x.Body,.int .i64 x.Within,.str x.By,.int .u8 x.Mode]
 | 9=>fun (x:xZa)=>[.sl 3 x.Nodes,.sl 2 x.Places,.int .i64 x.Within,.str x.By,.int .u8 x.Mode]
 | 10=>fun (x:xZ9)=>[.int .u64 x.i0,.int .u64 x.i1]
 | 11=>fun (x:Int)=>[.int .u64 x]
 | 12=>fun (x:Ent105)=>[.int .i64 x.k.at_,.int .u64 x.k.from_.i0,.int .u64 x.k.from_.i1,.int .u64 x.v.i0,.int .u64 x.v.i1]
 | 13=>fun (x:Int)=>[.int .i64 x]
 | 14=>fun (x:List xZ0)=>[.sl 3 x]
 | _=>fun _=>[]
def dec0:List (BV T)→Option (List UInt8):=P1 asStr fun a0=>P0 (a0:List UInt8)
def dec1:List (BV T)→Option xZ2:=P1 (asInt .u8) fun a0=>P1 (asInt .u8) fun a1=>P1 asStr fun a2=>P1 asStr fun a3=>P1 (asInt .u8) fun a4=>P1 (asInt .i64) fun a5=>P1 (asInt .u64) fun a6=>P1 asStr fun a7=>P0 (⟨a0,a1,a2,a3,⟨a4,a5,a6,a7⟩⟩:xZ2)
def dec2:List (BV T)→Option xZ1:=P1 asBool fun a0=>P1 asStr fun a1=>P1 asStr fun a2=>P1 (asRow 1) fun a3=>P0 (⟨a0,a1,a2,a3⟩:xZ1)
def dec3:List (BV T)→Option xZ0:=P1 (asInt .u8) fun a0=>P1 (asInt .i64) fun a1=>P0 (⟨a0,a1⟩:xZ0)
def dec4:List (BV T)→Option xZ3:=P1 (asInt .u8) fun a0=>P1 (asInt .i64) fun a1=>P1 (asInt .i64) fun a2=>P1 (asInt .i64) fun a3=>P1 asStr fun a4=>P1 asStr fun a5=>P1 (asRow 1) fun a6=>P0 (⟨a0,a1,a2,a3,a4,a5,a6⟩:xZ3)
def dec5:List (BV T)→Option xZ4:=P1 (asInt .u8) fun a0=>P1 (asInt .i64) fun a1=>P1 asStr fun a2=>P1 (asInt .u8) fun a3=>P1 (asInt .i64) fun a4=>P1 (asInt .u64) fun a5=>P1 asStr fun a6=>P0 (⟨a0,a1,a2,⟨a3,a4,a5,a6⟩⟩:xZ4)
def dec6:List (BV T)→Option (List xZ2):=P1 (asRow 1) fun a0=>P0 (a0:List xZ2)
def dec7:List (BV T)→Option xZb:=P1 (asInt .u8) fun a0=>P1 (asInt .i64) fun a1=>P1 (asInt .u64) fun a2=>P1 asStr fun a3=>P0 (⟨a0,a1,a2,a3⟩:xZb)
def dec8:List (BV T)→Option xZ7:=P1 (asRow 4) fun a0=>P1 (asInt .i64) fun a1=>P1 asStr fun a2=>P1 (asInt .u8) fun a3=>P0 (⟨a0,a1,a2,a3⟩:xZ7)
def dec9:List (BV T)→Option xZa:=P1 (asRow 3) fun a0=>P1 (asRow 2) fun a1=>P1 (asInt .i64) fun a2=>P1 asStr fun a3=>P1 (asInt .u8) fun a4=>P0 (⟨a0,a1,a2,a3,a4⟩:xZa)
def dec10:List (BV T)→Option xZ9:=P1 (asInt .u64) fun a0=>P1 (asInt .u64) fun a1=>P0 (⟨a0,a1⟩:xZ9)
def dec11:List (BV T)→Option Int:=P1 (asInt .u64) fun a0=>P0 (a0:Int)
def dec12:List (BV T)→Option Ent105:=P1 (asInt .i64) fun a0=>P1 (asInt .u64) fun a1=>P1 (asInt .u64) fun a2=>P1 (asInt .u64) fun a3=>P1 (asInt .u64) fun a4=>P0 (⟨⟨a0,⟨a1,a2⟩⟩,⟨a3,a4⟩⟩:Ent105)
def dec13:List (BV T)→Option Int:=P1 (asInt .i64) fun a0=>P0 (a0:Int)
def dec14:List (BV T)→Option (List xZ0):=P1 (asRow 3) fun a0=>P0 (a0:List xZ0)
def dec:(i:Nat)→List (BV T)→Option (T i)
 | 0=>dec0
 | 1=>dec1
 | 2=>dec2
 | 3=>dec3
 | 4=>dec4
 | 5=>dec5
 | 6=>dec6
 | 7=>dec7
 | 8=>dec8
 | 9=>dec9
 | 10=>dec10
 | 11=>dec11
 | 12=>dec12
 | 13=>dec13
 | 14=>dec14
 | _=>fun _=>none
def eA:(i:Nat)→T i→AV
 | 0=>eA0
 | 1=>eA1
 | 2=>eA2
 | 3=>eA3
 | 4=>eA4
 | 5=>eA5
 | 6=>eA6
 | 7=>eA7
 | 8=>eA8
 | 9=>eA9
 | 10=>eA10
 | 11=>eA11
 | 12=>eA12
 | 13=>eA13
 | 14=>eA14
 | _=>fun _=>.agg []
def tb:Tb T:={k:=fun i=>[1,8,4,2,7,7,1,4,4,5,2,1,5,1,1].getD i 0,ag:=fun i=>[false,true,true,true,true,true,false,true,true,true,true,false,true,false,false].getD i true,eA,enc,dec}
def sbf (k:Nat):Option (List UInt8→(i:Nat)×List (T i)):=none
theorem sb_ok (k:Nat) (f:List UInt8→(i:Nat)×List (T i)) (s:List UInt8) (h:sbf k=some f):k=1∧tb.k (f s).1=1∧(f s).2.map (tb.eA (f s).1)=s.map byteV:=by cases h
def bof (i:Nat) (_:List (T i)):Option (List UInt8):=none
theorem bo_ok (i:Nat) (l:List (T i)) (s:List UInt8) (h:bof i l=some s):tb.k i=1∧∃ m:List Int,l.map (tb.eA i)=m.map u8V∧s=byS m:=by cases h
theorem xZoO (cs:List (BV T)) (x:List UInt8) (h:dec0 cs=some x):LWs (BV.avs tb cs) (eA0 x).cells:=by
 obtain ⟨c0,r0,a0,rfl,h0,h⟩:=xZs h
 obtain ⟨rfl,rfl⟩:=xZ5X h
 exact .cons (xZ4B h0) (.nil)
theorem xZoP (cs:List (BV T)) (x:xZ2) (h:dec1 cs=some x):LWs (BV.avs tb cs) (eA1 x).cells:=by
 obtain ⟨c0,r0,a0,rfl,h0,h⟩:=xZs h
 obtain ⟨c1,r1,a1,rfl,h1,h⟩:=xZs h
 obtain ⟨c2,r2,a2,rfl,h2,h⟩:=xZs h
 obtain ⟨c3,r3,a3,rfl,h3,h⟩:=xZs h
 obtain ⟨c4,r4,a4,rfl,h4,h⟩:=xZs h
 obtain ⟨c5,r5,a5,rfl,h5,h⟩:=xZs h
 obtain ⟨c6,r6,a6,rfl,h6,h⟩:=xZs h
 obtain ⟨c7,r7,a7,rfl,h7,h⟩:=xZs h
 obtain ⟨rfl,rfl⟩:=xZ5X h
 exact .cons (xZM h0) (.cons (xZM h1) (.cons (xZ4B h2) (.cons (xZ4B h3) (.cons (xZM h4) (.cons (xZM h5) (.cons (xZM h6) (.cons (xZ4B h7) (.nil))))))))
theorem xZoQ (cs:List (BV T)) (x:xZ1) (h:dec2 cs=some x):LWs (BV.avs tb cs) (eA2 x).cells:=by
 obtain ⟨c0,r0,a0,rfl,h0,h⟩:=xZs h
 obtain ⟨c1,r1,a1,rfl,h1,h⟩:=xZs h
 obtain ⟨c2,r2,a2,rfl,h2,h⟩:=xZs h
 obtain ⟨c3,r3,a3,rfl,h3,h⟩:=xZs h
 obtain ⟨rfl,rfl⟩:=xZ5X h
 exact .cons (xZlC h0) (.cons (xZ4B h1) (.cons (xZ4B h2) (.cons (xZ99 h3) (.nil))))
theorem xZoR (cs:List (BV T)) (x:xZ0) (h:dec3 cs=some x):LWs (BV.avs tb cs) (eA3 x).cells:=by
 obtain ⟨c0,r0,a0,rfl,h0,h⟩:=xZs h
 obtain ⟨c1,r1,a1,rfl,h1,h⟩:=xZs h
 obtain ⟨rfl,rfl⟩:=xZ5X h
 exact .cons (xZM h0) (.cons (xZM h1) (.nil))
theorem xZoS (cs:List (BV T)) (x:xZ3) (h:dec4 cs=some x):LWs (BV.avs tb cs) (eA4 x).cells:=by
 obtain ⟨c0,r0,a0,rfl,h0,h⟩:=xZs h
 obtain ⟨c1,r1,a1,rfl,h1,h⟩:=xZs h
 obtain ⟨c2,r2,a2,rfl,h2,h⟩:=xZs h
 obtain ⟨c3,r3,a3,rfl,h3,h⟩:=xZs h
 obtain ⟨c4,r4,a4,rfl,h4,h⟩:=xZs h
 obtain ⟨c5,r5,a5,rfl,h5,h⟩:=xZs h
 obtain ⟨c6,r6,a6,rfl,h6,h⟩:=xZs h
 obtain ⟨rfl,rfl⟩:=xZ5X h
 exact .cons (xZM h0) (.cons (xZM h1) (.cons (xZM h2) (.cons (xZM h3) (.cons (xZ4B h4) (.cons (xZ4B h5) (.cons (xZ99 h6) (.nil)))))))
theorem xZoT (cs:List (BV T)) (x:xZ4) (h:dec5 cs=some x):LWs (BV.avs tb cs) (eA5 x).cells:=by
 obtain ⟨c0,r0,a0,rfl,h0,h⟩:=xZs h
 obtain ⟨c1,r1,a1,rfl,h1,h⟩:=xZs h
 obtain ⟨c2,r2,a2,rfl,h2,h⟩:=xZs h
 obtain ⟨c3,r3,a3,rfl,h3,h⟩:=xZs h
 obtain ⟨c4,r4,a4,rfl,h4,h⟩:=xZs h
 obtain ⟨c5,r5,a5,rfl,h5,h⟩:=xZs h
 obtain ⟨c6,r6,a6,rfl,h6,h⟩:=xZs h
 obtain ⟨rfl,rfl⟩:=xZ5X h
 exact .cons (xZM h0) (.cons (xZM h1) (.cons (xZ4B h2) (.cons (xZM h3) (.cons (xZM h4) (.cons (xZM h5) (.cons (xZ4B h6) (.nil)))))))
theorem xZoU (cs:List (BV T)) (x:List xZ2) (h:dec6 cs=some x):LWs (BV.avs tb cs) (eA6 x).cells:=by
 obtain ⟨c0,r0,a0,rfl,h0,h⟩:=xZs h
 obtain ⟨rfl,rfl⟩:=xZ5X h
 exact .cons (xZ99 h0) (.nil)
theorem xZoV (cs:List (BV T)) (x:xZb) (h:dec7 cs=some x):LWs (BV.avs tb cs) (eA7 x).cells:=by
 obtain ⟨c0,r0,a0,rfl,h0,h⟩:=xZs h
 obtain ⟨c1,r1,a1,rfl,h1,h⟩:=xZs h
 obtain ⟨c2,r2,a2,rfl,h2,h⟩:=xZs h
 obtain ⟨c3,r3,a3,rfl,h3,h⟩:=xZs h
 obtain ⟨rfl,rfl⟩:=xZ5X h
 exact .cons (xZM h0) (.cons (xZM h1) (.cons (xZM h2) (.cons (xZ4B h3) (.nil))))
theorem xZoW (cs:List (BV T)) (x:xZ7) (h:dec8 cs=some x):LWs (BV.avs tb cs) (eA8 x).cells:=by
 obtain ⟨c0,r0,a0,rfl,h0,h⟩:=xZs h
 obtain ⟨c1,r1,a1,rfl,h1,h⟩:=xZs h
 obtain ⟨c2,r2,a2,rfl,h2,h⟩:=xZs h
 obtain ⟨c3,r3,a3,rfl,h3,h⟩:=xZs h
 obtain ⟨rfl,rfl⟩:=xZ5X h
 exact .cons (xZ99 h0) (.cons (xZM h1) (.cons (xZ4B h2) (.cons (xZM h3) (.nil))))
theorem xZoX (cs:List (BV T)) (x:xZa) (h:dec9 cs=some x):LWs (BV.avs tb cs) (eA9 x).cells:=by
 obtain ⟨c0,r0,a0,rfl,h0,h⟩:=xZs h
 obtain ⟨c1,r1,a1,rfl,h1,h⟩:=xZs h
 obtain ⟨c2,r2,a2,rfl,h2,h⟩:=xZs h
 obtain ⟨c3,r3,a3,rfl,h3,h⟩:=xZs h
 obtain ⟨c4,r4,a4,rfl,h4,h⟩:=xZs h
 obtain ⟨rfl,rfl⟩:=xZ5X h
 exact .cons (xZ99 h0) (.cons (xZ99 h1) (.cons (xZM h2) (.cons (xZ4B h3) (.cons (xZM h4) (.nil)))))
theorem xZnD (cs:List (BV T)) (x:xZ9) (h:dec10 cs=some x):LWs (BV.avs tb cs) (eA10 x).cells:=by
 obtain ⟨c0,r0,a0,rfl,h0,h⟩:=xZs h
 obtain ⟨c1,r1,a1,rfl,h1,h⟩:=xZs h
 obtain ⟨rfl,rfl⟩:=xZ5X h
 exact .cons (xZM h0) (.cons (xZM h1) (.nil))
theorem xZnE (cs:List (BV T)) (x:Int) (h:dec11 cs=some x):LWs (BV.avs tb cs) (eA11 x).cells:=by
 obtain ⟨c0,r0,a0,rfl,h0,h⟩:=xZs h
 obtain ⟨rfl,rfl⟩:=xZ5X h
 exact .cons (xZM h0) (.nil)
theorem xZnF (cs:List (BV T)) (x:Ent105) (h:dec12 cs=some x):LWs (BV.avs tb cs) (eA12 x).cells:=by
 obtain ⟨c0,r0,a0,rfl,h0,h⟩:=xZs h
 obtain ⟨c1,r1,a1,rfl,h1,h⟩:=xZs h
 obtain ⟨c2,r2,a2,rfl,h2,h⟩:=xZs h
 obtain ⟨c3,r3,a3,rfl,h3,h⟩:=xZs h
 obtain ⟨c4,r4,a4,rfl,h4,h⟩:=xZs h
 obtain ⟨rfl,rfl⟩:=xZ5X h
 exact .cons (xZM h0) (.cons (xZM h1) (.cons (xZM h2) (.cons (xZM h3) (.cons (xZM h4) (.nil)))))
theorem xZnG (cs:List (BV T)) (x:Int) (h:dec13 cs=some x):LWs (BV.avs tb cs) (eA13 x).cells:=by
 obtain ⟨c0,r0,a0,rfl,h0,h⟩:=xZs h
 obtain ⟨rfl,rfl⟩:=xZ5X h
 exact .cons (xZM h0) (.nil)
theorem xZnH (cs:List (BV T)) (x:List xZ0) (h:dec14 cs=some x):LWs (BV.avs tb cs) (eA14 x).cells:=by
 obtain ⟨c0,r0,a0,rfl,h0,h⟩:=xZs h
 obtain ⟨rfl,rfl⟩:=xZ5X h
 exact .cons (xZ99 h0) (.nil)
theorem tb_ok:tb.Ok where
 enc:=fun i x=>match i with | 0=>(by kernel_rfl) | 1=>(by kernel_rfl) | 2=>(by kernel_rfl) | 3=>(by kernel_rfl) | 4=>(by kernel_rfl) | 5=>(by kernel_rfl) | 6=>(by kernel_rfl) | 7=>(by kernel_rfl) | 8=>(by kernel_rfl) | 9=>(by kernel_rfl) | 10=>(by kernel_rfl) | 11=>(by kernel_rfl) | 12=>(by kernel_rfl) | 13=>(by kernel_rfl) | 14=>(by kernel_rfl) | n+15=>(by kernel_rfl)
 len:=fun i x=>match i with | 0=>(by kernel_rfl) | 1=>(by kernel_rfl) | 2=>(by kernel_rfl) | 3=>(by kernel_rfl) | 4=>(by kernel_rfl) | 5=>(by kernel_rfl) | 6=>(by kernel_rfl) | 7=>(by kernel_rfl) | 8=>(by kernel_rfl) | 9=>(by kernel_rfl) | 10=>(by kernel_rfl) | 11=>(by kernel_rfl) | 12=>(by kernel_rfl) | 13=>(by kernel_rfl) | 14=>(by kernel_rfl) | n+15=>(by kernel_rfl)
 one:=fun i x=>match i with | 0=>(by kernel_rfl) | 1=>(by kernel_rfl) | 2=>(by kernel_rfl) | 3=>(by kernel_rfl) | 4=>(by kernel_rfl) | 5=>(by kernel_rfl) | 6=>(by kernel_rfl) | 7=>(by kernel_rfl) | 8=>(by kernel_rfl) | 9=>(by kernel_rfl) | 10=>(by kernel_rfl) | 11=>(by kernel_rfl) | 12=>(by kernel_rfl) | 13=>(by kernel_rfl) | 14=>(by kernel_rfl) | n+15=>(by kernel_rfl)
 dat:=fun i x=>match i with | 0=>(by kernel_rfl) | 1=>(by kernel_rfl) | 2=>(by kernel_rfl) | 3=>(by kernel_rfl) | 4=>(by kernel_rfl) | 5=>(by kernel_rfl) | 6=>(by kernel_rfl) | 7=>(by kernel_rfl) | 8=>(by kernel_rfl) | 9=>(by kernel_rfl) | 10=>(by kernel_rfl) | 11=>(by kernel_rfl) | 12=>(by kernel_rfl) | 13=>(by kernel_rfl) | 14=>(by kernel_rfl) | n+15=>(by kernel_rfl)
 sg:=fun i x h=>match i with | 0=>(by kernel_rfl) | 1=>(by cases h) | 2=>(by cases h) | 3=>(by cases h) | 4=>(by cases h) | 5=>(by cases h) | 6=>(by kernel_rfl) | 7=>(by cases h) | 8=>(by cases h) | 9=>(by cases h) | 10=>(by cases h) | 11=>(by kernel_rfl) | 12=>(by cases h) | 13=>(by kernel_rfl) | 14=>(by kernel_rfl) | n+15=>(by cases h)
 ag:=fun i x h=>match i with | 0=>(by cases h) | 1=>(by kernel_rfl) | 2=>(by kernel_rfl) | 3=>(by kernel_rfl) | 4=>(by kernel_rfl) | 5=>(by kernel_rfl) | 6=>(by cases h) | 7=>(by kernel_rfl) | 8=>(by kernel_rfl) | 9=>(by kernel_rfl) | 10=>(by kernel_rfl) | 11=>(by cases h) | 12=>(by kernel_rfl) | 13=>(by cases h) | 14=>(by cases h) | n+15=>(by kernel_rfl)
 dec:=fun i=>match i with | 0=>xZoO | 1=>xZoP | 2=>xZoQ | 3=>xZoR | 4=>xZoS | 5=>xZoT | 6=>xZoU | 7=>xZoV | 8=>xZoW | 9=>xZoX | 10=>xZnD | 11=>xZnE | 12=>xZnF | 13=>xZnG | 14=>xZnH | n+15=>fun cs x h=>(by cases h)
 el:=fun i x R K r h=>by cases h
 fd:=fun i ty v x h=>by cases h
def xZ8X:Con tb:=.s 56 [true] (.c (.el tb_ok 7) .n) (fun N a=>xZ6R N a.1) (R:=Int) (.p (.i .i64)) (fun _=>⟨rfl,(by kernel_rfl)⟩)
def xZa2:Con tb:=.s 28 [true] (.c (.r 1) .n) (fun N a=>xZ8l N a.1) (R:=Int) (.p (.i .i64)) (fun _=>⟨rfl,(by kernel_rfl)⟩)
def xZ5j:LQ tb (((List xZ2))×(Int)):=(LQ.m [] [0,3] (.c 0 (.r 1) (.c 3 (.i .i64) .n)) .n .n).re (fun a=>(a.1.1,a.1.2.1)) (fun x=>((x.1,x.2,()),(),())) (fun _=>rfl)
def xZaT (N:Nat) (c:(List xZ2)) (next:Int→Option Int) (v:Int):Option Int:=xZ5B N c (fun u0=>next u0) v
abbrev xZeZ (N:Nat):((List xZ2))×(Int)→Option Int:=fun a=>loopV (xZaT N a.1) N a.2
def xZa3:Con tb:=.s 7 [true] (.c (.el tb_ok 8) .n) (fun N a=>xZ8m N a.1) (R:=Int) (.p (.i .i64)) (fun _=>⟨rfl,(by kernel_rfl)⟩)
def xZ5k:LQ tb (((List xZ3)×Int×(List UInt8)×Int)×(Int)):=(LQ.m [] [1,3] (.c 1 (.ptr 0 0) (.c 3 (.i .i64) .n)) (.c (.c (.r 4) (.c (.i .i64) (.c .s (.c (.i .u8) .n)))) .n) .n).re (fun a=>((a.2.1.1.1,a.2.1.1.2.1,a.2.1.1.2.2.1,a.2.1.1.2.2.2.1),a.1.2.1)) (fun x=>(((),x.2,()),((x.1.1,x.1.2.1,x.1.2.2.1,x.1.2.2.2,()),()),())) (fun _=>rfl)
def xZaU (N:Nat) (c:(List xZ3)×Int×(List UInt8)×Int) (next:Int→Option Int) (v:Int):Option Int:=xZ5C N c.1 (fun u0=>next u0) v
abbrev xZf0 (N:Nat):((List xZ3)×Int×(List UInt8)×Int)×(Int)→Option Int:=fun a=>loopV (xZaU N a.1) N a.2
def xZbv:Con tb:=.s 41 [true] (.c (.i .u8) .n) (fun N a=>xZ9I N a.1) (R:=Int) (.p (.i .i64)) (fun _=>⟨rfl,(by kernel_rfl)⟩)
def xZ7w:Con tb:=.s 16 [true,true] (.c (.r 3) (.c (.i .i64) .n)) (fun N a=>xZ1c N a.1 a.2.1) (R:=Int) (.p (.i .i64)) (fun _=>⟨rfl,(by kernel_rfl)⟩)
def xZ6K:LQ tb (((List xZ0)×Int)×(Int×Int)):=(LQ.m [] [5,18,19,20] (.c 5 (.i .i64) (.c 18 (.r 3) (.c 19 (.i .i64) (.c 20 (.i .i64) .n)))) .n .n).re (fun a=>((a.1.2.1,a.1.2.2.1),(a.1.1,a.1.2.2.2.1))) (fun x=>((x.2.1,x.1.1,x.1.2,x.2.2,()),(),())) (fun _=>rfl)
def xZck (N:Nat) (c:(List xZ0)×Int) (next:(Int×Int)→Option Int) (v:Int×Int):Option Int:=xZ6Q N c.1 c.2 (fun u0 u1=>next (u0,u1)) v.1 v.2
abbrev xZgi (N:Nat):((List xZ0)×Int)×(Int×Int)→Option Int:=fun a=>loopV (xZck N a.1) N a.2
def xZ3Z:Con tb:=.m 76 [true,false] (.c (.el tb_ok 3) (.c (.ptr 0 0) .n)) (.c (.c (.r 3) (.c (.r 2) (.c (.i .i64) (.c .s (.c (.i .u8) .n))))) .n) .n (fun N a=>xZ2A N a.1.1 a.2.1.1.1 a.2.1.1.2.1 a.2.1.1.2.2.1 a.2.1.1.2.2.2.1 a.2.1.1.2.2.2.2.1) (R:=Bool×List xZ0×List xZ1×Int×List UInt8×Int) (.m (R:=Bool×List xZ0×List xZ1×Int×List UInt8×Int) .b (.c (.c (.r 3) (.c (.r 2) (.c (.i .i64) (.c .s (.c (.i .u8) .n))))) .n) .n (fun z=>(z.1,z.2.1.1.1,z.2.1.1.2.1,z.2.1.1.2.2.1,z.2.1.1.2.2.2.1,z.2.1.1.2.2.2.2.1)) (fun r=>(r.1,((r.2.1,r.2.2.1,r.2.2.2.1,r.2.2.2.2.1,r.2.2.2.2.2,()),()),())) (fun _=>rfl))
def xZ12:Con tb:=.m 112 [true,false] (.c (.r 3) (.c (.fn 76 .n (.c (.ptr 0 0) .n)) .n)) (.c (.c (.r 3) (.c (.r 2) (.c (.i .i64) (.c .s (.c (.i .u8) .n))))) .n) .n (fun N a=>xZC N a.1.1 a.2.1.1.1 a.2.1.1.2.1 a.2.1.1.2.2.1 a.2.1.1.2.2.2.1 a.2.1.1.2.2.2.2.1) (R:=Int×List xZ0×List xZ1×Int×List UInt8×Int) (.m (R:=Int×List xZ0×List xZ1×Int×List UInt8×Int) (.i .i64) (.c (.c (.r 3) (.c (.r 2) (.c (.i .i64) (.c .s (.c (.i .u8) .n))))) .n) .n (fun z=>(z.1,z.2.1.1.1,z.2.1.1.2.1,z.2.1.1.2.2.1,z.2.1.1.2.2.2.1,z.2.1.1.2.2.2.2.1)) (fun r=>(r.1,((r.2.1,r.2.2.1,r.2.2.2.1,r.2.2.2.2.1,r.2.2.2.2.2,()),()),())) (fun _=>rfl))
def xZx:LQ tb (((List xZ0)×Int)×(Int×(List xZ0)×(List xZ1)×Int×(List UInt8)×Int)):=(LQ.m [] [0,1,7,8] (.c 0 (.r 3) (.c 1 (.fn 76 .n (.c (.ptr 0 0) .n)) (.c 7 (.i .i64) (.c 8 (.i .i64) .n)))) (.c (.c (.r 3) (.c (.r 2) (.c (.i .i64) (.c .s (.c (.i .u8) .n))))) .n) .n).re (fun a=>((a.1.1,a.1.2.2.1),(a.1.2.2.2.1,a.2.1.1.1,a.2.1.1.2.1,a.2.1.1.2.2.1,a.2.1.1.2.2.2.1,a.2.1.1.2.2.2.2.1))) (fun x=>((x.1.1,((),(),()),x.1.2,x.2.1,()),((x.2.2.1,x.2.2.2.1,x.2.2.2.2.1,x.2.2.2.2.2.1,x.2.2.2.2.2.2,()),()),())) (fun _=>rfl)
def xZ1M (N:Nat) (c:(List xZ0)×Int) (next:(Int×(List xZ0)×(List xZ1)×Int×(List UInt8)×Int)→Option (Int×List xZ0×List xZ1×Int×List UInt8×Int)) (v:Int×(List xZ0)×(List xZ1)×Int×(List UInt8)×Int):Option (Int×List xZ0×List xZ1×Int×List UInt8×Int):=xZy N c.1 c.2 (fun u0 u1 u2 u3 u4 u5=>next (u0,u1,u2,u3,u4,u5)) v.1 v.2.1 v.2.2.1 v.2.2.2.1 v.2.2.2.2.1 v.2.2.2.2.2
abbrev xZ3Y (N:Nat):((List xZ0)×Int)×(Int×(List xZ0)×(List xZ1)×Int×(List UInt8)×Int)→Option (Int×List xZ0×List xZ1×Int×List UInt8×Int):=fun a=>loopV (xZ1M N a.1) N a.2
def xZQ:Con tb:=.m 75 [true,false] (.c (.r 3) (.c (.fn 76 .n (.c (.ptr 0 0) .n)) .n)) (.c (.c (.r 3) (.c (.r 2) (.c (.i .i64) (.c .s (.c (.i .u8) .n))))) .n) .n (fun N a=>xZw N a.1.1 a.2.1.1.1 a.2.1.1.2.1 a.2.1.1.2.2.1 a.2.1.1.2.2.2.1 a.2.1.1.2.2.2.2.1) (R:=Bool×List xZ0×List xZ1×Int×List UInt8×Int) (.m (R:=Bool×List xZ0×List xZ1×Int×List UInt8×Int) .b (.c (.c (.r 3) (.c (.r 2) (.c (.i .i64) (.c .s (.c (.i .u8) .n))))) .n) .n (fun z=>(z.1,z.2.1.1.1,z.2.1.1.2.1,z.2.1.1.2.2.1,z.2.1.1.2.2.2.1,z.2.1.1.2.2.2.2.1)) (fun r=>(r.1,((r.2.1,r.2.2.1,r.2.2.2.1,r.2.2.2.2.1,r.2.2.2.2.2,()),()),())) (fun _=>rfl))
def xZbu:Con tb:=.s 49 [true] (.c (.el tb_ok 9) .n) (fun N a=>xZ9H N a.1) (R:=Bool) (.p .b) (fun _=>⟨rfl,(by kernel_rfl)⟩)
def xZ6x:Con tb:=.s 44 [true,true] (.c .b (.c .s .n)) (fun N a=>xZ4V N a.1 a.2.1) (R:=List UInt8) (.p .s) (fun _=>⟨rfl,(by kernel_rfl)⟩)
def xZ40:Con tb:=.s 51 [true,true] (.c (.el tb_ok 10) (.c (.i .i64) .n)) (fun N a=>xZ2P N a.1 a.2.1) (R:=Bool) (.p .b) (fun _=>⟨rfl,(by kernel_rfl)⟩)
def xZ4Z:Con tb:=.s 113 [true,true] (.c (.el tb_ok 10) (.c (.i .i64) .n)) (fun N a=>xZ3w N a.1 a.2.1) (R:=xZ9) (.p (.el tb_ok 10)) (fun _=>⟨rfl,(by kernel_rfl)⟩)
def xZ2t:Con tb:=.m 77 [false,true,true] (.c (.ptr 0 0) (.c (.el tb_ok 10) (.c .s .n))) (.c (.c (.r 3) (.c (.r 2) (.c (.i .i64) (.c .s (.c (.i .u8) (.c (.r 0) (.c (.own 0) .n))))))) .n) (.m [.i64,.u64,.u64] 12 .n) (fun N a=>xZ1K N a.1.2.1 a.1.2.2.1 a.2.1.1.1 a.2.1.1.2.1 a.2.1.1.2.2.1 a.2.1.1.2.2.2.1 a.2.1.1.2.2.2.2.1 a.2.1.1.2.2.2.2.2.1 a.2.2.1) (R:=xZ9×List xZ0×List xZ1×Int×List UInt8×Int×List (List UInt8)×List Ent105) (.m (R:=xZ9×List xZ0×List xZ1×Int×List UInt8×Int×List (List UInt8)×List Ent105) (.el tb_ok 10) (.c (.c (.r 3) (.c (.r 2) (.c (.i .i64) (.c .s (.c (.i .u8) (.c (.r 0) (.c (.own 0) .n))))))) .n) (.m [.i64,.u64,.u64] 12 .n) (fun z=>(z.1,z.2.1.1.1,z.2.1.1.2.1,z.2.1.1.2.2.1,z.2.1.1.2.2.2.1,z.2.1.1.2.2.2.2.1,z.2.1.1.2.2.2.2.2.1,z.2.2.1)) (fun r=>(r.1,((r.2.1,r.2.2.1,r.2.2.2.1,r.2.2.2.2.1,r.2.2.2.2.2.1,r.2.2.2.2.2.2.1,(),()),()),r.2.2.2.2.2.2.2,())) (fun _=>rfl))
def xZ1w:LQ tb (((List UInt8)×(List (List UInt8))×Int×(List xZ0)×(List xZ1)×Int×(List UInt8)×Int×(List (List UInt8))×Int×Int×(List Ent105))×(Int×Int×Int)):=(LQ.m [] [2,4,6,7,13,14,15] (.c 2 .s (.c 4 (.ptr 1 0) (.c 6 (.ptr 2 0) (.c 7 (.ptr 3 0) (.c 13 (.r 0) (.c 14 (.i .i64) (.c 15 (.i .i64) .n))))))) (.c (.c (.r 3) (.c (.r 2) (.c (.i .i64) (.c .s (.c (.i .u8) (.c (.r 0) (.c (.own 0) .n))))))) (.c (.c (.i .u64) (.c (.i .u64) .n)) (.c (.c (.li .u64 0) (.c (.li .u64 0) .n)) (.c (.c (.i .u64) (.c (.i .u64) .n)) .n)))) (.m [.i64,.u64,.u64] 12 .n)).re (fun a=>((a.1.1,a.1.2.2.2.2.1,a.1.2.2.2.2.2.1,a.2.1.1.1,a.2.1.1.2.1,a.2.1.1.2.2.1,a.2.1.1.2.2.2.1,a.2.1.1.2.2.2.2.1,a.2.1.1.2.2.2.2.2.1,a.2.1.2.1.1,a.2.1.2.1.2.1,a.2.2.1),(a.1.2.2.2.2.2.2.1,a.2.1.2.2.2.1.1,a.2.1.2.2.2.1.2.1))) (fun x=>((x.1.1,(),(),(),x.1.2.1,x.1.2.2.1,x.2.1,()),((x.1.2.2.2.1,x.1.2.2.2.2.1,x.1.2.2.2.2.2.1,x.1.2.2.2.2.2.2.1,x.1.2.2.2.2.2.2.2.1,x.1.2.2.2.2.2.2.2.2.1,(),()),(x.1.2.2.2.2.2.2.2.2.2.1,x.1.2.2.2.2.2.2.2.2.2.2.1,()),((),(),()),(x.2.2.1,x.2.2.2,()),()),x.1.2.2.2.2.2.2.2.2.2.2.2,())) (fun _=>rfl)
def xZ3S (N:Nat) (c:(List UInt8)×(List (List UInt8))×Int×(List xZ0)×(List xZ1)×Int×(List UInt8)×Int×(List (List UInt8))×Int×Int×(List Ent105)) (next:(Int×Int×Int)→Option (xZ9×List xZ0×List xZ1×Int×List UInt8×Int×List (List UInt8)×List Ent105)) (v:Int×Int×Int):Option (xZ9×List xZ0×List xZ1×Int×List UInt8×Int×List (List UInt8)×List Ent105):=xZ1x N c.1 c.2.1 c.2.2.1 c.2.2.2.1 c.2.2.2.2.1 c.2.2.2.2.2.1 c.2.2.2.2.2.2.1 c.2.2.2.2.2.2.2.1 c.2.2.2.2.2.2.2.2.1 c.2.2.2.2.2.2.2.2.2.1 c.2.2.2.2.2.2.2.2.2.2.1 c.2.2.2.2.2.2.2.2.2.2.2 (fun u0 u1 u2=>next (u0,u1,u2)) v.1 v.2.1 v.2.2
abbrev xZ7L (N:Nat):((List UInt8)×(List (List UInt8))×Int×(List xZ0)×(List xZ1)×Int×(List UInt8)×Int×(List (List UInt8))×Int×Int×(List Ent105))×(Int×Int×Int)→Option (xZ9×List xZ0×List xZ1×Int×List UInt8×Int×List (List UInt8)×List Ent105):=fun a=>loopV (xZ3S N a.1) N a.2
def xZ4K:Con tb:=.s 78 [true,true] (.c (.el tb_ok 10) (.c (.el tb_ok 10) .n)) (fun N a=>xZS N a.1 a.2.1) (R:=xZ9) (.p (.el tb_ok 10)) (fun _=>⟨rfl,(by kernel_rfl)⟩)
def xZK:Con tb:=.m 50 [false,true,true] (.c (.ptr 0 0) (.c (.i .i64) (.c (.el tb_ok 10) .n))) (.c (.c (.r 3) (.c (.r 2) (.c (.i .i64) (.c .s (.c (.i .u8) (.c (.r 0) (.c (.own 0) .n))))))) .n) (.m [.i64,.u64,.u64] 12 .n) (fun N a=>xZ2y N a.1.2.1 a.1.2.2.1 a.2.1.1.1 a.2.1.1.2.1 a.2.1.1.2.2.1 a.2.1.1.2.2.2.1 a.2.1.1.2.2.2.2.1 a.2.1.1.2.2.2.2.2.1 a.2.2.1) (R:=xZ9×List xZ0×List xZ1×Int×List UInt8×Int×List (List UInt8)×List Ent105) (.m (R:=xZ9×List xZ0×List xZ1×Int×List UInt8×Int×List (List UInt8)×List Ent105) (.el tb_ok 10) (.c (.c (.r 3) (.c (.r 2) (.c (.i .i64) (.c .s (.c (.i .u8) (.c (.r 0) (.c (.own 0) .n))))))) .n) (.m [.i64,.u64,.u64] 12 .n) (fun z=>(z.1,z.2.1.1.1,z.2.1.1.2.1,z.2.1.1.2.2.1,z.2.1.1.2.2.2.1,z.2.1.1.2.2.2.2.1,z.2.1.1.2.2.2.2.2.1,z.2.2.1)) (fun r=>(r.1,((r.2.1,r.2.2.1,r.2.2.2.1,r.2.2.2.2.1,r.2.2.2.2.2.1,r.2.2.2.2.2.2.1,(),()),()),r.2.2.2.2.2.2.2,())) (fun _=>rfl))
def xZ2s:Con tb:=.m 79 [false,true,true] (.c (.ptr 0 0) (.c (.i .i64) (.c (.el tb_ok 10) .n))) (.c (.c (.r 3) (.c (.r 2) (.c (.i .i64) (.c .s (.c (.i .u8) (.c (.r 0) (.c (.own 0) .n))))))) .n) (.m [.i64,.u64,.u64] 12 .n) (fun N a=>xZ8W N a.1.2.1 a.1.2.2.1 a.2.1.1.1 a.2.1.1.2.1 a.2.1.1.2.2.1 a.2.1.1.2.2.2.1 a.2.1.1.2.2.2.2.1 a.2.1.1.2.2.2.2.2.1 a.2.2.1) (R:=xZ9×List xZ0×List xZ1×Int×List UInt8×Int×List (List UInt8)×List Ent105) (.m (R:=xZ9×List xZ0×List xZ1×Int×List UInt8×Int×List (List UInt8)×List Ent105) (.el tb_ok 10) (.c (.c (.r 3) (.c (.r 2) (.c (.i .i64) (.c .s (.c (.i .u8) (.c (.r 0) (.c (.own 0) .n))))))) .n) (.m [.i64,.u64,.u64] 12 .n) (fun z=>(z.1,z.2.1.1.1,z.2.1.1.2.1,z.2.1.1.2.2.1,z.2.1.1.2.2.2.1,z.2.1.1.2.2.2.2.1,z.2.1.1.2.2.2.2.2.1,z.2.2.1)) (fun r=>(r.1,((r.2.1,r.2.2.1,r.2.2.2.1,r.2.2.2.2.1,r.2.2.2.2.2.1,r.2.2.2.2.2.2.1,(),()),()),r.2.2.2.2.2.2.2,())) (fun _=>rfl))
def xZ1v:LQ tb ((Int)×((List xZ0)×(List xZ1)×Int×(List UInt8)×Int×(List (List UInt8))×Int×Int×(List Ent105))):=(LQ.m [] [0,1,6,7] (.c 0 (.ptr 0 0) (.c 1 (.i .i64) (.c 6 (.ptr 1 0) (.c 7 (.ptr 2 0) .n)))) (.c (.c (.r 3) (.c (.r 2) (.c (.i .i64) (.c .s (.c (.i .u8) (.c (.r 0) (.c (.own 0) .n))))))) (.c (.c (.li .u64 0) (.c (.li .u64 0) .n)) (.c (.c (.i .u64) (.c (.i .u64) .n)) .n))) (.m [.i64,.u64,.u64] 12 .n)).re (fun a=>(a.1.2.1,(a.2.1.1.1,a.2.1.1.2.1,a.2.1.1.2.2.1,a.2.1.1.2.2.2.1,a.2.1.1.2.2.2.2.1,a.2.1.1.2.2.2.2.2.1,a.2.1.2.2.1.1,a.2.1.2.2.1.2.1,a.2.2.1))) (fun x=>(((),x.1,(),(),()),((x.2.1,x.2.2.1,x.2.2.2.1,x.2.2.2.2.1,x.2.2.2.2.2.1,x.2.2.2.2.2.2.1,(),()),((),(),()),(x.2.2.2.2.2.2.2.1,x.2.2.2.2.2.2.2.2.1,()),()),x.2.2.2.2.2.2.2.2.2,())) (fun _=>rfl)
def xZ3R (N:Nat) (c:Int) (next:((List xZ0)×(List xZ1)×Int×(List UInt8)×Int×(List (List UInt8))×Int×Int×(List Ent105))→Option (xZ9×List xZ0×List xZ1×Int×List UInt8×Int×List (List UInt8)×List Ent105)) (v:(List xZ0)×(List xZ1)×Int×(List UInt8)×Int×(List (List UInt8))×Int×Int×(List Ent105)):Option (xZ9×List xZ0×List xZ1×Int×List UInt8×Int×List (List UInt8)×List Ent105):=xZ26 N (xZd N) c (fun u0 u1 u2 u3 u4 u5 u6 u7 u8=>next (u0,u1,u2,u3,u4,u5,u6,u7,u8)) v.1 v.2.1 v.2.2.1 v.2.2.2.1 v.2.2.2.2.1 v.2.2.2.2.2.1 v.2.2.2.2.2.2.1 v.2.2.2.2.2.2.2.1 v.2.2.2.2.2.2.2.2
abbrev xZ7K (N:Nat):(Int)×((List xZ0)×(List xZ1)×Int×(List UInt8)×Int×(List (List UInt8))×Int×Int×(List Ent105))→Option (xZ9×List xZ0×List xZ1×Int×List UInt8×Int×List (List UInt8)×List Ent105):=fun a=>loopV (xZ3R N a.1) N a.2
def xZ7Q:Con tb:=.s 23 [true,true] (.c (.el tb_ok 9) (.c (.r 0) .n)) (fun N a=>xZ8i N a.1 a.2.1) (R:=Bool) (.p .b) (fun _=>⟨rfl,(by kernel_rfl)⟩)
def xZ42:Con tb:=.clone 104 1 (fun _ s=>shClone 80 s)
def xZ1X:Con tb:=.cloneD 104 1 (fun _ s=>shClone 80 s)
def xZ5M:Con tb:=.s 154 [true] (.c (.el tb_ok 1) .n) (fun N a=>xZ64 N a.1) (R:=Bool) (.p .b) (fun _=>⟨rfl,(by kernel_rfl)⟩)
def xZl:Con tb:=.m 177 [false] (.c (.ptr 0 0) .n) (.c (.c (.r 5) (.c (.i .i64) (.c (.i .i64) .n))) .n) .n (fun N a=>xZn N a.2.1.1.1 a.2.1.1.2.1 a.2.1.1.2.2.1) (R:=xZ4×List xZ4×Int×Int) (.m (R:=xZ4×List xZ4×Int×Int) (.el tb_ok 5) (.c (.c (.r 5) (.c (.i .i64) (.c (.i .i64) .n))) .n) .n (fun z=>(z.1,z.2.1.1.1,z.2.1.1.2.1,z.2.1.1.2.2.1)) (fun r=>(r.1,((r.2.1,r.2.2.1,r.2.2.2,()),()),())) (fun _=>rfl))
def xZ1F:Con tb:=.m 167 [false] (.c (.ptr 0 0) .n) (.c (.c (.r 5) (.c (.i .i64) (.c (.i .i64) .n))) .n) .n (fun N a=>xZi N a.2.1.1.1 a.2.1.1.2.1 a.2.1.1.2.2.1) (R:=Int×List xZ4×Int×Int) (.m (R:=Int×List xZ4×Int×Int) (.i .i64) (.c (.c (.r 5) (.c (.i .i64) (.c (.i .i64) .n))) .n) .n (fun z=>(z.1,z.2.1.1.1,z.2.1.1.2.1,z.2.1.1.2.2.1)) (fun r=>(r.1,((r.2.1,r.2.2.1,r.2.2.2,()),()),())) (fun _=>rfl))
def xZt:Con tb:=.m 182 [false,true] (.c (.ptr 0 0) (.c (.i .i64) .n)) (.c (.c (.r 5) (.c (.i .i64) (.c (.i .i64) .n))) .n) .n (fun N a=>xZh N a.1.2.1 a.2.1.1.1 a.2.1.1.2.1 a.2.1.1.2.2.1) (R:=Int×Int×List xZ4×Int×Int) (.m (R:=Int×Int×List xZ4×Int×Int) (.ifc 16777443 (.ag (.c (.i .i64) (.c (.i .i64) .n)))) (.c (.c (.r 5) (.c (.i .i64) (.c (.i .i64) .n))) .n) .n (fun z=>(z.1.1,z.1.2.1,z.2.1.1.1,z.2.1.1.2.1,z.2.1.1.2.2.1)) (fun r=>((r.1,r.2.1,()),((r.2.2.1,r.2.2.2.1,r.2.2.2.2,()),()),())) (fun _=>rfl))
def xZ1B:Con tb:=.m 181 [false,true] (.c (.ptr 0 0) (.c (.i .i64) .n)) (.c (.c (.r 5) (.c (.i .i64) (.c (.i .i64) .n))) .n) .n (fun N a=>xZ2B N a.1.2.1 a.2.1.1.1 a.2.1.1.2.1 a.2.1.1.2.2.1) (R:=(Int×Int×List xZ4×Int×Int)⊕(List xZ4×Int×Int)) (.or (.m (R:=Int×Int×List xZ4×Int×Int) (.ifc 16777443 (.ag (.c (.i .i64) (.c (.i .i64) .n)))) (.c (.c (.r 5) (.c (.i .i64) (.c (.i .i64) .n))) .n) .n (fun z=>(z.1.1,z.1.2.1,z.2.1.1.1,z.2.1.1.2.1,z.2.1.1.2.2.1)) (fun r=>((r.1,r.2.1,()),((r.2.2.1,r.2.2.2.1,r.2.2.2.2,()),()),())) (fun _=>rfl)) (.m (R:=List xZ4×Int×Int) (.tu .n) (.c (.c (.r 5) (.c (.i .i64) (.c (.i .i64) .n))) .n) .n (fun z=>(z.2.1.1.1,z.2.1.1.2.1,z.2.1.1.2.2.1)) (fun r=>((),((r.1,r.2.1,r.2.2,()),()),())) (fun _=>rfl)))
def xZp:Con tb:=.m 173 [false,true,true] (.c (.ptr 0 0) (.c (.i .u8) (.c .s .n))) (.c (.c (.r 5) (.c (.i .i64) (.c (.i .i64) .n))) .n) .n (fun N a=>xZc N a.1.2.1 a.1.2.2.1 a.2.1.1.1 a.2.1.1.2.1 a.2.1.1.2.2.1) (R:=Bool×List xZ4×Int×Int) (.m (R:=Bool×List xZ4×Int×Int) .b (.c (.c (.r 5) (.c (.i .i64) (.c (.i .i64) .n))) .n) .n (fun z=>(z.1,z.2.1.1.1,z.2.1.1.2.1,z.2.1.1.2.2.1)) (fun r=>(r.1,((r.2.1,r.2.2.1,r.2.2.2,()),()),())) (fun _=>rfl))
def xZ1O:Con tb:=.m 186 [false,true] (.c .e (.c (.i .i64) .n)) .n .n (fun N a=>xZ1b N a.1.2.1) (R:=List xZ2) (.m (R:=List xZ2) (.own 0) .n (.l 1 .n) (fun z=>z.2.2.1) (fun r=>((),(),r,())) (fun _=>rfl))
def xZ23:Con tb:=.p 178 [true] (.c (.r 6) .n) (fun N a=>xZ3W N a.1) (R:=(List UInt8)⊕(List xZ2)) (.or (.p (.ifc 16777225 .s)) (.p (.r 1))) (fun r=>by rcases r with _ | _<;>exact rfl)
def xZ18:LQ tb (((List (List xZ2))×(List (List xZ2))×Int)×(Int×Int)):=(LQ.m [] [0,3,9,10,11] (.c 0 (.r 6) (.c 3 (.i .i64) (.c 9 (.r 6) (.c 10 (.i .i64) (.c 11 (.i .i64) .n))))) .n .n).re (fun a=>((a.1.1,a.1.2.2.1,a.1.2.2.2.1),(a.1.2.1,a.1.2.2.2.2.1))) (fun x=>((x.1.1,x.2.1,x.1.2.1,x.1.2.2,x.2.2,()),(),())) (fun _=>rfl)
def xZ19:LQ tb (((List (List xZ2))×Int)×(Int×(List xZ2))):=(LQ.m [] [6,25,26,27] (.c 6 (.own 0) (.c 25 (.r 6) (.c 26 (.i .i64) (.c 27 (.i .i64) .n)))) .n (.l 1 .n)).re (fun a=>((a.1.2.1,a.1.2.2.1),(a.1.2.2.2.1,a.2.2.1))) (fun x=>(((),x.1.1,x.1.2,x.2.1,()),(),x.2.2,())) (fun _=>rfl)
def xZ3b (N:Nat) (c:(List (List xZ2))×Int) (next:(Int×(List xZ2))→Option ((List UInt8)⊕(List xZ2))) (v:Int×(List xZ2)):Option ((List UInt8)⊕(List xZ2)):=xZ3g N c.1 c.2 (fun u0 u1=>next (u0,u1)) v.1 v.2
abbrev xZ6u (N:Nat):((List (List xZ2))×Int)×(Int×(List xZ2))→Option ((List UInt8)⊕(List xZ2)):=fun a=>loopV (xZ3b N a.1) N a.2
def xZ3a (N:Nat) (c:(List (List xZ2))×(List (List xZ2))×Int) (next:(Int×Int)→Option ((List UInt8)⊕(List xZ2))) (v:Int×Int):Option ((List UInt8)⊕(List xZ2)):=xZ3f N c.1 c.2.1 c.2.2 (fun u0 u1=>next (u0,u1)) v.1 v.2
abbrev xZ6t (N:Nat):((List (List xZ2))×(List (List xZ2))×Int)×(Int×Int)→Option ((List UInt8)⊕(List xZ2)):=fun a=>loopV (xZ3a N a.1) N a.2
def xZ22:Con tb:=.p 174 [true,true] (.c (.el tb_ok 1) (.c (.r 6) .n)) (fun N a=>xZ1H N a.1 a.2.1) (R:=List xZ2) (.p (.r 1)) (fun _=>rfl)
def xZ15:Con tb:=.m 185 [false,true] (.c (.ptr 0 0) (.c (.i .u8) .n)) (.c (.c (.r 5) (.c (.i .i64) (.c (.i .i64) .n))) .n) .n (fun N a=>xZI N a.1.2.1 a.2.1.1.1 a.2.1.1.2.1 a.2.1.1.2.2.1) (R:=(Int×Int×List xZ4×Int×Int)⊕(xZ4×List xZ4×Int×Int)) (.or (.m (R:=Int×Int×List xZ4×Int×Int) (.ifc 16777443 (.ag (.c (.i .i64) (.c (.i .i64) .n)))) (.c (.c (.r 5) (.c (.i .i64) (.c (.i .i64) .n))) .n) .n (fun z=>(z.1.1,z.1.2.1,z.2.1.1.1,z.2.1.1.2.1,z.2.1.1.2.2.1)) (fun r=>((r.1,r.2.1,()),((r.2.2.1,r.2.2.2.1,r.2.2.2.2,()),()),())) (fun _=>rfl)) (.m (R:=xZ4×List xZ4×Int×Int) (.el tb_ok 5) (.c (.c (.r 5) (.c (.i .i64) (.c (.i .i64) .n))) .n) .n (fun z=>(z.1,z.2.1.1.1,z.2.1.1.2.1,z.2.1.1.2.2.1)) (fun r=>(r.1,((r.2.1,r.2.2.1,r.2.2.2,()),()),())) (fun _=>rfl)))
def xZ1N:Con tb:=.m 187 [false] (.c (.ptr 0 0) .n) (.c (.c (.r 5) (.c (.i .i64) (.c (.i .i64) .n))) .n) .n (fun N a=>xZ1a N a.2.1.1.1 a.2.1.1.2.1 a.2.1.1.2.2.1) (R:=(Int×Int×List xZ4×Int×Int)⊕(List xZ2×List xZ4×Int×Int)) (.or (.m (R:=Int×Int×List xZ4×Int×Int) (.ifc 16777443 (.ag (.c (.i .i64) (.c (.i .i64) .n)))) (.c (.c (.r 5) (.c (.i .i64) (.c (.i .i64) .n))) .n) .n (fun z=>(z.1.1,z.1.2.1,z.2.1.1.1,z.2.1.1.2.1,z.2.1.1.2.2.1)) (fun r=>((r.1,r.2.1,()),((r.2.2.1,r.2.2.2.1,r.2.2.2.2,()),()),())) (fun _=>rfl)) (.m (R:=List xZ2×List xZ4×Int×Int) (.r 1) (.c (.c (.r 5) (.c (.i .i64) (.c (.i .i64) .n))) .n) .n (fun z=>(z.1,z.2.1.1.1,z.2.1.1.2.1,z.2.1.1.2.2.1)) (fun r=>(r.1,((r.2.1,r.2.2.1,r.2.2.2,()),()),())) (fun _=>rfl)))
def xZ1W:Con tb:=.m 183 [false] (.c (.ptr 0 0) .n) (.c (.c (.r 5) (.c (.i .i64) (.c (.i .i64) .n))) .n) .n (fun N a=>xZ21 N a.2.1.1.1 a.2.1.1.2.1 a.2.1.1.2.2.1) (R:=(Int×Int×List xZ4×Int×Int)⊕(List xZ2×List xZ4×Int×Int)) (.or (.m (R:=Int×Int×List xZ4×Int×Int) (.ifc 16777443 (.ag (.c (.i .i64) (.c (.i .i64) .n)))) (.c (.c (.r 5) (.c (.i .i64) (.c (.i .i64) .n))) .n) .n (fun z=>(z.1.1,z.1.2.1,z.2.1.1.1,z.2.1.1.2.1,z.2.1.1.2.2.1)) (fun r=>((r.1,r.2.1,()),((r.2.2.1,r.2.2.2.1,r.2.2.2.2,()),()),())) (fun _=>rfl)) (.m (R:=List xZ2×List xZ4×Int×Int) (.r 1) (.c (.c (.r 5) (.c (.i .i64) (.c (.i .i64) .n))) .n) .n (fun z=>(z.1,z.2.1.1.1,z.2.1.1.2.1,z.2.1.1.2.2.1)) (fun r=>(r.1,((r.2.1,r.2.2.1,r.2.2.2,()),()),())) (fun _=>rfl)))
def xZX:LQ tb ((Unit)×((List xZ2)×(List xZ4)×Int×Int)):=(LQ.m [] [0,3] (.c 0 (.ptr 0 0) (.c 3 (.r 1) .n)) (.c (.c (.r 5) (.c (.i .i64) (.c (.i .i64) .n))) .n) .n).re (fun a=>((),(a.1.2.1,a.2.1.1.1,a.2.1.1.2.1,a.2.1.1.2.2.1))) (fun x=>(((),x.2.1,()),((x.2.2.1,x.2.2.2.1,x.2.2.2.2,()),()),())) (fun _=>rfl)
def xZ2L (N:Nat) (c:Unit) (next:((List xZ2)×(List xZ4)×Int×Int)→Option ((Int×Int×List xZ4×Int×Int)⊕(List xZ2×List xZ4×Int×Int))) (v:(List xZ2)×(List xZ4)×Int×Int):Option ((Int×Int×List xZ4×Int×Int)⊕(List xZ2×List xZ4×Int×Int)):=xZ2S N (fun u0 u1 u2 u3=>next (u0,u1,u2,u3)) v.1 v.2.1 v.2.2.1 v.2.2.2
abbrev xZ61 (N:Nat):(Unit)×((List xZ2)×(List xZ4)×Int×Int)→Option ((Int×Int×List xZ4×Int×Int)⊕(List xZ2×List xZ4×Int×Int)):=fun a=>loopV (xZ2L N a.1) N a.2
def xZ59:Con tb:=.s 164 [true] (.c (.i .u8) .n) (fun N a=>xZ30 N a.1) (R:=List UInt8) (.p .s) (fun _=>⟨rfl,(by kernel_rfl)⟩)
def xZ9Z:Con tb:=.s 184 [true] (.c .s .n) (fun N a=>xZdG N a.1) (R:=Int) (.p (.i .u8)) (fun _=>⟨rfl,(by kernel_rfl)⟩)
def xZ5h:LQ tb (((List UInt8))×(Int)):=(LQ.m [] [0,3] (.c 0 .s (.c 3 (.i .u8) .n)) .n .n).re (fun a=>(a.1.1,a.1.2.1)) (fun x=>((x.1,x.2,()),(),())) (fun _=>rfl)
def xZaR (N:Nat) (c:(List UInt8)) (next:Int→Option Int) (v:Int):Option Int:=xZbq N c (fun u0=>next u0) v
abbrev xZeX (N:Nat):((List UInt8))×(Int)→Option Int:=fun a=>loopV (xZaR N a.1) N a.2
def xZ1r:Con tb:=.m 169 [false,true] (.c (.ptr 0 0) (.c (.i .i64) .n)) (.c (.c (.r 5) (.c (.i .i64) (.c (.i .i64) .n))) .n) .n (fun N a=>xZB N a.1.2.1 a.2.1.1.1 a.2.1.1.2.1 a.2.1.1.2.2.1) (R:=(Int×Int×List xZ4×Int×Int)⊕(List xZ2×List xZ4×Int×Int)) (.or (.m (R:=Int×Int×List xZ4×Int×Int) (.ifc 16777443 (.ag (.c (.i .i64) (.c (.i .i64) .n)))) (.c (.c (.r 5) (.c (.i .i64) (.c (.i .i64) .n))) .n) .n (fun z=>(z.1.1,z.1.2.1,z.2.1.1.1,z.2.1.1.2.1,z.2.1.1.2.2.1)) (fun r=>((r.1,r.2.1,()),((r.2.2.1,r.2.2.2.1,r.2.2.2.2,()),()),())) (fun _=>rfl)) (.m (R:=List xZ2×List xZ4×Int×Int) (.r 1) (.c (.c (.r 5) (.c (.i .i64) (.c (.i .i64) .n))) .n) .n (fun z=>(z.1,z.2.1.1.1,z.2.1.1.2.1,z.2.1.1.2.2.1)) (fun r=>(r.1,((r.2.1,r.2.2.1,r.2.2.2,()),()),())) (fun _=>rfl)))
def xZ17:LQ tb ((Int)×((List xZ2)×(List xZ4)×Int×Int)):=(LQ.m [] [0,1,5] (.c 0 (.ptr 0 0) (.c 1 (.i .i64) (.c 5 (.r 1) .n))) (.c (.c (.r 5) (.c (.i .i64) (.c (.i .i64) .n))) .n) .n).re (fun a=>(a.1.2.1,(a.1.2.2.1,a.2.1.1.1,a.2.1.1.2.1,a.2.1.1.2.2.1))) (fun x=>(((),x.1,x.2.1,()),((x.2.2.1,x.2.2.2.1,x.2.2.2.2,()),()),())) (fun _=>rfl)
def xZ39 (N:Nat) (c:Int) (next:((List xZ2)×(List xZ4)×Int×Int)→Option ((Int×Int×List xZ4×Int×Int)⊕(List xZ2×List xZ4×Int×Int))) (v:(List xZ2)×(List xZ4)×Int×Int):Option ((Int×Int×List xZ4×Int×Int)⊕(List xZ2×List xZ4×Int×Int)):=xZ3e N (xZL N) c (fun u0 u1 u2 u3=>next (u0,u1,u2,u3)) v.1 v.2.1 v.2.2.1 v.2.2.2
abbrev xZ6s (N:Nat):(Int)×((List xZ2)×(List xZ4)×Int×Int)→Option ((Int×Int×List xZ4×Int×Int)⊕(List xZ2×List xZ4×Int×Int)):=fun a=>loopV (xZ39 N a.1) N a.2
def xZ1V:Con tb:=.m 172 [false,true] (.c (.ptr 0 0) (.c (.i .i64) .n)) (.c (.c (.r 5) (.c (.i .i64) (.c (.i .i64) .n))) .n) .n (fun N a=>xZ7v N a.1.2.1 a.2.1.1.1 a.2.1.1.2.1 a.2.1.1.2.2.1) (R:=(Int×Int×List xZ4×Int×Int)⊕(List xZ2×List xZ4×Int×Int)) (.or (.m (R:=Int×Int×List xZ4×Int×Int) (.ifc 16777443 (.ag (.c (.i .i64) (.c (.i .i64) .n)))) (.c (.c (.r 5) (.c (.i .i64) (.c (.i .i64) .n))) .n) .n (fun z=>(z.1.1,z.1.2.1,z.2.1.1.1,z.2.1.1.2.1,z.2.1.1.2.2.1)) (fun r=>((r.1,r.2.1,()),((r.2.2.1,r.2.2.2.1,r.2.2.2.2,()),()),())) (fun _=>rfl)) (.m (R:=List xZ2×List xZ4×Int×Int) (.r 1) (.c (.c (.r 5) (.c (.i .i64) (.c (.i .i64) .n))) .n) .n (fun z=>(z.1,z.2.1.1.1,z.2.1.1.2.1,z.2.1.1.2.2.1)) (fun r=>(r.1,((r.2.1,r.2.2.1,r.2.2.2,()),()),())) (fun _=>rfl)))
def xZW:LQ tb ((Int)×((List xZ2)×(List xZ4)×Int×Int)):=(LQ.m [] [0,1,5] (.c 0 (.ptr 0 0) (.c 1 (.i .i64) (.c 5 (.r 1) .n))) (.c (.c (.r 5) (.c (.i .i64) (.c (.i .i64) .n))) .n) .n).re (fun a=>(a.1.2.1,(a.1.2.2.1,a.2.1.1.1,a.2.1.1.2.1,a.2.1.1.2.2.1))) (fun x=>(((),x.1,x.2.1,()),((x.2.2.1,x.2.2.2.1,x.2.2.2.2,()),()),())) (fun _=>rfl)
def xZ2K (N:Nat) (c:Int) (next:((List xZ2)×(List xZ4)×Int×Int)→Option ((Int×Int×List xZ4×Int×Int)⊕(List xZ2×List xZ4×Int×Int))) (v:(List xZ2)×(List xZ4)×Int×Int):Option ((Int×Int×List xZ4×Int×Int)⊕(List xZ2×List xZ4×Int×Int)):=xZ2R N (xZL N) c (fun u0 u1 u2 u3=>next (u0,u1,u2,u3)) v.1 v.2.1 v.2.2.1 v.2.2.2
abbrev xZ60 (N:Nat):(Int)×((List xZ2)×(List xZ4)×Int×Int)→Option ((Int×Int×List xZ4×Int×Int)⊕(List xZ2×List xZ4×Int×Int)):=fun a=>loopV (xZ2K N a.1) N a.2
def xZ14:Con tb:=.m 176 [false,true] (.c (.ptr 0 0) (.c (.i .i64) .n)) (.c (.c (.r 5) (.c (.i .i64) (.c (.i .i64) .n))) .n) .n (fun N a=>xZ6w N a.1.2.1 a.2.1.1.1 a.2.1.1.2.1 a.2.1.1.2.2.1) (R:=(Int×Int×List xZ4×Int×Int)⊕(List xZ2×List xZ4×Int×Int)) (.or (.m (R:=Int×Int×List xZ4×Int×Int) (.ifc 16777443 (.ag (.c (.i .i64) (.c (.i .i64) .n)))) (.c (.c (.r 5) (.c (.i .i64) (.c (.i .i64) .n))) .n) .n (fun z=>(z.1.1,z.1.2.1,z.2.1.1.1,z.2.1.1.2.1,z.2.1.1.2.2.1)) (fun r=>((r.1,r.2.1,()),((r.2.2.1,r.2.2.2.1,r.2.2.2.2,()),()),())) (fun _=>rfl)) (.m (R:=List xZ2×List xZ4×Int×Int) (.r 1) (.c (.c (.r 5) (.c (.i .i64) (.c (.i .i64) .n))) .n) .n (fun z=>(z.1,z.2.1.1.1,z.2.1.1.2.1,z.2.1.1.2.2.1)) (fun r=>(r.1,((r.2.1,r.2.2.1,r.2.2.2,()),()),())) (fun _=>rfl)))
def xZ4w:Con tb:=.s 151 [true,true] (.c (.el tb_ok 1) (.c (.i .i64) .n)) (fun N a=>xZ32 N a.1 a.2.1) (R:=Bool) (.p .b) (fun _=>⟨rfl,(by kernel_rfl)⟩)
def xZ4M:Con tb:=.s 100 [true] (.c (.i .u8) .n) (fun N a=>xZ3r N a.1) (R:=Bool) (.p .b) (fun _=>⟨rfl,(by kernel_rfl)⟩)
def xZ52:Con tb:=.s 101 [true] (.c .s .n) (fun N a=>xZ3z N a.1) (R:=Bool) (.p .b) (fun _=>⟨rfl,(by kernel_rfl)⟩)
def xZ95:Con tb:=.s 102 [true] (.c (.i .u8) .n) (fun N a=>xZ6Y N a.1) (R:=Bool) (.p .b) (fun _=>⟨rfl,(by kernel_rfl)⟩)
def xZ4T:Con tb:=.s 61 [true] (.c .s .n) (fun N a=>xZ1U N a.1) (R:=Bool) (.p .b) (fun _=>⟨rfl,(by kernel_rfl)⟩)
def xZ4O:LQ tb (((List UInt8))×(Int)):=(LQ.m [] [0,3] (.c 0 .s (.c 3 (.i .i64) .n)) .n .n).re (fun a=>(a.1.1,a.1.2.1)) (fun x=>((x.1,x.2,()),(),())) (fun _=>rfl)
def xZ9W (N:Nat) (c:(List UInt8)) (next:Int→Option Bool) (v:Int):Option Bool:=xZ4R N c (fun u0=>next u0) v
abbrev xZe2 (N:Nat):((List UInt8))×(Int)→Option Bool:=fun a=>loopV (xZ9W N a.1) N a.2
def xZai:Con tb:=.p 170 [true] (.c (.el tb_ok 7) .n) (fun N a=>xZaF N a.1) (R:=Int⊕Int⊕Int⊕(List UInt8)⊕Unit) (.or (.p (.ifc 233 (.i .i64))) (.or (.p (.ifc 234 (.i .i64))) (.or (.p (.ifc 235 (.i .u64))) (.or (.p (.ifc 236 .s)) (.p .ni))))) (fun r=>by rcases r with _ | _ | _ | _ | _<;>exact rfl)
def xZ3C:Con tb:=.s 205 [true] (.c (.i .i64) .n) (fun N a=>xZ3K N a.1) (R:=xZb) (.p (.el tb_ok 7)) (fun _=>⟨rfl,(by kernel_rfl)⟩)
def xZ4A:Con tb:=.s 206 [true] (.c (.i .i64) .n) (fun N a=>xZ36 N a.1) (R:=xZb) (.p (.el tb_ok 7)) (fun _=>⟨rfl,(by kernel_rfl)⟩)
def xZem:Con tb:=.s 148 [true] (.c (.i .u64) .n) (fun N a=>xZfm N a.1) (R:=Nat) (.p (.f .f64)) (fun _=>⟨rfl,(by kernel_rfl)⟩)
def xZa6:Con tb:=.s 139 [true] (.c (.i .u64) .n) (fun N a=>xZ8p N a.1) (R:=Int) (.p (.i .u64)) (fun _=>⟨rfl,(by kernel_rfl)⟩)
def xZ3B:Con tb:=.s 207 [true] (.c (.i .u64) .n) (fun N a=>xZ3J N a.1) (R:=xZb) (.p (.el tb_ok 7)) (fun _=>⟨rfl,(by kernel_rfl)⟩)
def xZ43:Con tb:=.s 208 [true] (.c .s .n) (fun N a=>xZ4m N a.1) (R:=xZb) (.p (.el tb_ok 7)) (fun _=>⟨rfl,(by kernel_rfl)⟩)
def xZ96:Con tb:=.s 165 [true] (.c (.el tb_ok 7) .n) (fun N a=>xZ6Z N a.1) (R:=Int) (.p (.i .i64)) (fun _=>⟨rfl,(by kernel_rfl)⟩)
def xZ50:Con tb:=.s 153 [true] (.c (.el tb_ok 1) .n) (fun N a=>xZ3x N a.1) (R:=Bool) (.p .b) (fun _=>⟨rfl,(by kernel_rfl)⟩)
def xZ7T:Con tb:=.s 152 [true,false,true] (.c (.el tb_ok 1) (.c (.fn 153 .n .n) (.c (.i .i64) .n))) (fun N a=>xZ8o N a.1 a.2.2.1) (R:=Int) (.p (.i .i64)) (fun _=>⟨rfl,(by kernel_rfl)⟩)
def xZ7S:Con tb:=.s 152 [true,false,true] (.c (.el tb_ok 1) (.c (.fn 154 .n .n) (.c (.i .i64) .n))) (fun N a=>xZ8n N a.1 a.2.2.1) (R:=Int) (.p (.i .i64)) (fun _=>⟨rfl,(by kernel_rfl)⟩)
def xZbA:Con tb:=.s 155 [true] (.c (.i .u8) .n) (fun N a=>xZ9M N a.1) (R:=Int) (.p (.i .i64)) (fun _=>⟨rfl,(by kernel_rfl)⟩)
def xZ71:Con tb:=.s 156 [true,true] (.c (.el tb_ok 1) (.c (.i .i64) .n)) (fun N a=>xZ4P N a.1 a.2.1) (R:=Int) (.p (.i .i64)) (fun _=>⟨rfl,(by kernel_rfl)⟩)
def xZT:Con tb:=.m 145 [false,true,true] (.c (.ptr 0 0) (.c (.i .i64) (.c (.i .i64) .n))) (.c (.c (.r 1) (.c (.i .i64) .n)) .n) .n (fun N a=>xZ4j N a.1.2.1 a.1.2.2.1 a.2.1.1.1 a.2.1.1.2.1) (R:=Int×List xZ2×Int) (.m (R:=Int×List xZ2×Int) (.i .i64) (.c (.c (.r 1) (.c (.i .i64) .n)) .n) .n (fun z=>(z.1,z.2.1.1.1,z.2.1.1.2.1)) (fun r=>(r.1,((r.2.1,r.2.2,()),()),())) (fun _=>rfl))
def xZ1g:LQ tb ((Int×Int×Int×Int×(List UInt8)×(List UInt8)×Int×Int×Int×(List UInt8))×(Int×(List xZ2)×Int)):=(LQ.m [] [0,2,7,57,58] (.c 0 (.ptr 0 0) (.c 2 (.i .i64) (.c 7 (.ptr 1 0) (.c 57 (.i .i64) (.c 58 (.i .i64) .n))))) (.c (.c (.r 1) (.c (.i .i64) .n)) (.c (.c (.i .u8) (.c (.i .u8) (.c .s (.c .s (.c (.i .u8) (.c (.i .i64) (.c (.i .u64) (.c .s .n)))))))) .n)) .n).re (fun a=>((a.1.2.1,a.1.2.2.2.1,a.2.1.2.1.1,a.2.1.2.1.2.1,a.2.1.2.1.2.2.1,a.2.1.2.1.2.2.2.1,a.2.1.2.1.2.2.2.2.1,a.2.1.2.1.2.2.2.2.2.1,a.2.1.2.1.2.2.2.2.2.2.1,a.2.1.2.1.2.2.2.2.2.2.2.1),(a.1.2.2.2.2.1,a.2.1.1.1,a.2.1.1.2.1))) (fun x=>(((),x.1.1,(),x.1.2.1,x.2.1,()),((x.2.2.1,x.2.2.2,()),(x.1.2.2.1,x.1.2.2.2.1,x.1.2.2.2.2.1,x.1.2.2.2.2.2.1,x.1.2.2.2.2.2.2.1,x.1.2.2.2.2.2.2.2.1,x.1.2.2.2.2.2.2.2.2.1,x.1.2.2.2.2.2.2.2.2.2,()),()),())) (fun _=>rfl)
def xZ3m (N:Nat) (c:Int×Int×Int×Int×(List UInt8)×(List UInt8)×Int×Int×Int×(List UInt8)) (next:(Int×(List xZ2)×Int)→Option (Int×List xZ2×Int)) (v:Int×(List xZ2)×Int):Option (Int×List xZ2×Int):=xZ1j N (xZA N) c.1 c.2.1 c.2.2.1 c.2.2.2.1 c.2.2.2.2.1 c.2.2.2.2.2.1 c.2.2.2.2.2.2.1 c.2.2.2.2.2.2.2.1 c.2.2.2.2.2.2.2.2.1 c.2.2.2.2.2.2.2.2.2 (fun u0 u1 u2=>next (u0,u1,u2)) v.1 v.2.1 v.2.2
abbrev xZ7q (N:Nat):(Int×Int×Int×Int×(List UInt8)×(List UInt8)×Int×Int×Int×(List UInt8))×(Int×(List xZ2)×Int)→Option (Int×List xZ2×Int):=fun a=>loopV (xZ3m N a.1) N a.2
def xZa5:Con tb:=.s 129 [true] (.c (.r 1) .n) (fun N a=>xZ2Q N a.1) (R:=Int) (.p (.i .i64)) (fun _=>⟨rfl,(by kernel_rfl)⟩)
def xZ8Y:Con tb:=.p 162 [true,true,true] (.c (.r 5) (.c (.i .i64) (.c (.i .i64) .n))) (fun N a=>xZ65 N a.1 a.2.1 a.2.2.1) (R:=(List xZ2×Int)⊕(List xZ2×Int×Int×Int)) (.or (.m (R:=List xZ2×Int) (.tu (.c (.r 1) (.c (.i .i64) (.c .ni .n)))) .n .n (fun z=>(z.1.1,z.1.2.1)) (fun r=>((r.1,r.2,(),()),(),())) (fun _=>rfl)) (.m (R:=List xZ2×Int×Int×Int) (.tu (.c (.r 1) (.c (.i .i64) (.o (.ifc 167 (.dp (.c (.i .i64) (.c (.i .i64) .n)))))))) .n .n (fun z=>(z.1.1,z.1.2.1,z.1.2.2.1,z.1.2.2.2.1)) (fun r=>((r.1,r.2.1,r.2.2.1,r.2.2.2,()),(),())) (fun _=>rfl))) (fun r=>by rcases r with _ | _<;>exact rfl)
def xZca:Con tb:=.s 8 [] .n (fun N a=>xZ3U N) (R:=Bool) (.p .b) (fun _=>⟨rfl,(by kernel_rfl)⟩)
def xZ9D:Con tb:=.p 30 [true] (.c (.r 1) .n) (fun N a=>xZ7N N a.1) (R:=List xZ2) (.p (.r 1)) (fun _=>rfl)
def xZ6L:LQ tb (((List xZ2))×(Int×(List xZ2))):=(LQ.m [(3,none,1)] [0,3,4] (.c 0 (.r 1) (.c 3 (.own 0) (.c 4 (.i .i64) .n))) .n (.l 1 .n)).re (fun a=>(a.1.1,(a.1.2.2.1,a.2.2.1))) (fun x=>((x.1,(),x.2.1,()),(),x.2.2,())) (fun _=>rfl)
def xZcl (N:Nat) (c:(List xZ2)) (next:(Int×(List xZ2))→Option (List xZ2)) (v:Int×(List xZ2)):Option (List xZ2):=xZ6S N c (fun u0 u1=>next (u0,u1)) v.1 v.2
abbrev xZgj (N:Nat):((List xZ2))×(Int×(List xZ2))→Option (List xZ2):=fun a=>loopV (xZcl N a.1) N a.2
def xZby:Con tb:=.p 9 [true] (.c (.el tb_ok 8) .n) (fun N a=>xZ9L N a.1) (R:=xZ7) (.p (.el tb_ok 8)) (fun _=>rfl)
def xZ6M:LQ tb (((List xZ3)×Int×(List UInt8)×Int×Int×(List UInt8)×Int)×(Int×(List xZ3))):=(LQ.m [(3,some 0,4)] [1,2,3,4] (.c 1 (.ptr 0 0) (.c 2 (.ptr 1 0) (.c 3 (.ptr 2 0) (.c 4 (.i .i64) .n)))) (.c (.c (.r 4) (.c (.i .i64) (.c .s (.c (.i .u8) .n)))) (.c (.c .e (.c (.li .i64 0) (.c (.ls []) (.c (.li .u8 0) .n)))) (.c (.c (.own 0) (.c (.i .i64) (.c .s (.c (.i .u8) .n)))) .n))) (.l 4 .n)).re (fun a=>((a.2.1.1.1,a.2.1.1.2.1,a.2.1.1.2.2.1,a.2.1.1.2.2.2.1,a.2.1.2.2.1.2.1,a.2.1.2.2.1.2.2.1,a.2.1.2.2.1.2.2.2.1),(a.1.2.2.2.1,a.2.2.1))) (fun x=>(((),(),(),x.2.1,()),((x.1.1,x.1.2.1,x.1.2.2.1,x.1.2.2.2.1,()),((),(),(),(),()),((),x.1.2.2.2.2.1,x.1.2.2.2.2.2.1,x.1.2.2.2.2.2.2,()),()),x.2.2,())) (fun _=>rfl)
def xZcm (N:Nat) (c:(List xZ3)×Int×(List UInt8)×Int×Int×(List UInt8)×Int) (next:(Int×(List xZ3))→Option xZ7) (v:Int×(List xZ3)):Option xZ7:=xZ6T N c.1 c.2.2.2.2.1 c.2.2.2.2.2.1 c.2.2.2.2.2.2 (fun u0 u1=>next (u0,u1)) v.1 v.2
abbrev xZgk (N:Nat):((List xZ3)×Int×(List UInt8)×Int×Int×(List UInt8)×Int)×(Int×(List xZ3))→Option xZ7:=fun a=>loopV (xZcm N a.1) N a.2
def xZ2l:Con tb:=.s 127 [true] (.c (.el tb_ok 4) .n) (fun N a=>xZ1Q N a.1) (R:=Bool) (.p .b) (fun _=>⟨rfl,(by kernel_rfl)⟩)
def xZ41:Con tb:=.s 96 [true,true] (.c (.el tb_ok 4) (.c (.i .u8) .n)) (fun N a=>xZ2D N a.1 a.2.1) (R:=Bool) (.p .b) (fun _=>⟨rfl,(by kernel_rfl)⟩)
def xZ4z:Con tb:=.s 128 [true] (.c (.el tb_ok 4) .n) (fun N a=>xZ35 N a.1) (R:=Bool) (.p .b) (fun _=>⟨rfl,(by kernel_rfl)⟩)
def xZ4y:Con tb:=.s 97 [true] (.c (.el tb_ok 4) .n) (fun N a=>xZ34 N a.1) (R:=Bool) (.p .b) (fun _=>⟨rfl,(by kernel_rfl)⟩)
def xZ53:Con tb:=.s 130 [true] (.c (.el tb_ok 4) .n) (fun N a=>xZP N a.1) (R:=Bool) (.p .b) (fun _=>⟨rfl,(by kernel_rfl)⟩)
def xZ54:Con tb:=.s 98 [true] (.c (.el tb_ok 4) .n) (fun N a=>xZ3A N a.1) (R:=Bool) (.p .b) (fun _=>⟨rfl,(by kernel_rfl)⟩)
def xZ3t:Con tb:=.s 99 [true] (.c (.el tb_ok 4) .n) (fun N a=>xZ2o N a.1) (R:=Int) (.p (.i .i64)) (fun _=>⟨rfl,(by kernel_rfl)⟩)
def xZ5V:Con tb:=.p 60 [true,true,true] (.c (.r 4) (.c (.i .u8) (.c (.i .i64) .n))) (fun N a=>xZaE N a.1 a.2.1 a.2.2.1) (R:=List xZ3×Int) (.p (.tu (.c (.r 4) (.o (.i .i64))))) (fun _=>rfl)
def xZ5z:LQ tb ((Int×Int×Int×Int×Int×Int×(List UInt8)×(List UInt8)×(List xZ2))×((List xZ3)×Int)):=(LQ.m [] [2,8,9,42,43] (.c 2 (.i .i64) (.c 8 (.ptr 0 0) (.c 9 (.r 4) (.c 42 (.i .i64) (.c 43 (.i .i64) .n))))) (.c (.c (.i .u8) (.c (.i .i64) (.c (.i .i64) (.c (.i .i64) (.c .s (.c .s (.c (.r 1) .n))))))) .n) .n).re (fun a=>((a.1.1,a.1.2.2.2.1,a.2.1.1.1,a.2.1.1.2.1,a.2.1.1.2.2.1,a.2.1.1.2.2.2.1,a.2.1.1.2.2.2.2.1,a.2.1.1.2.2.2.2.2.1,a.2.1.1.2.2.2.2.2.2.1),(a.1.2.2.1,a.1.2.2.2.2.1))) (fun x=>((x.1.1,(),x.2.1,x.1.2.1,x.2.2,()),((x.1.2.2.1,x.1.2.2.2.1,x.1.2.2.2.2.1,x.1.2.2.2.2.2.1,x.1.2.2.2.2.2.2.1,x.1.2.2.2.2.2.2.2.1,x.1.2.2.2.2.2.2.2.2,()),()),())) (fun _=>rfl)
def xZb9 (N:Nat) (c:Int×Int×Int×Int×Int×Int×(List UInt8)×(List UInt8)×(List xZ2)) (next:((List xZ3)×Int)→Option (List xZ3×Int)) (v:(List xZ3)×Int):Option (List xZ3×Int):=xZ8A N (xZ6A N) c.1 c.2.1 c.2.2.1 (fun u0 u1=>next (u0,u1)) v.1 v.2
abbrev xZff (N:Nat):(Int×Int×Int×Int×Int×Int×(List UInt8)×(List UInt8)×(List xZ2))×((List xZ3)×Int)→Option (List xZ3×Int):=fun a=>loopV (xZb9 N a.1) N a.2
def xZah:Con tb:=.s 62 [true] (.c (.i .u8) .n) (fun N a=>xZ6e N a.1) (R:=List UInt8) (.p .s) (fun _=>⟨rfl,(by kernel_rfl)⟩)
def xZ6z:Con tb:=.s 31 [true] (.c (.el tb_ok 8) .n) (fun N a=>xZ4Y N a.1) (R:=Int) (.p (.i .i64)) (fun _=>⟨rfl,(by kernel_rfl)⟩)
def xZJ:Con tb:=.m 103 [false,true,true] (.c (.ptr 0 0) (.c (.i .u8) (.c (.i .i64) .n))) (.c (.c (.r 4) (.c (.own 0) (.c (.own 1) (.c .b .n)))) .n) (.l 3 (.l 2 .n)) (fun N a=>xZ8 N a.1.2.1 a.1.2.2.1 a.2.1.1.1 a.2.1.1.2.2.2.1 a.2.2.1 a.2.2.2.1) (R:=List xZ3×Bool×List xZ1×List xZ0) (.m (R:=List xZ3×Bool×List xZ1×List xZ0) (.tu .n) (.c (.c (.r 4) (.c (.own 2) (.c (.own 1) (.c .b .n)))) .n) (.d (.l 2 (.l 3 .n))) (fun z=>(z.2.1.1.1,z.2.1.1.2.2.2.1,z.2.2.1,z.2.2.2.1)) (fun r=>((),((r.1,(),(),r.2.1,()),()),r.2.2.1,r.2.2.2,())) (fun _=>rfl))
def xZag:Con tb:=.s 86 [true,true] (.c (.r 4) (.c (.i .i64) .n)) (fun N a=>xZ4I N a.1 a.2.1) (R:=Int) (.p (.i .i64)) (fun _=>⟨rfl,(by kernel_rfl)⟩)
def xZ5y:LQ tb (((List xZ3)×Int)×(Int×Int)):=(LQ.m [] [5,18,19,20] (.c 5 (.i .i64) (.c 18 (.r 4) (.c 19 (.i .i64) (.c 20 (.i .i64) .n)))) .n .n).re (fun a=>((a.1.2.1,a.1.2.2.1),(a.1.1,a.1.2.2.2.1))) (fun x=>((x.2.1,x.1.1,x.1.2,x.2.2,()),(),())) (fun _=>rfl)
def xZb8 (N:Nat) (c:(List xZ3)×Int) (next:(Int×Int)→Option Int) (v:Int×Int):Option Int:=xZ8z N c.1 c.2 (fun u0 u1=>next (u0,u1)) v.1 v.2
abbrev xZfe (N:Nat):((List xZ3)×Int)×(Int×Int)→Option Int:=fun a=>loopV (xZb8 N a.1) N a.2
def xZ29:Con tb:=.m 63 [false,true] (.c (.ptr 0 0) (.c (.i .i64) .n)) (.c (.c (.r 4) (.c (.own 0) (.c (.own 1) (.c .b .n)))) .n) (.l 3 (.l 2 .n)) (fun N a=>xZ2f N a.1.2.1 a.2.1.1.1 a.2.1.1.2.2.2.1 a.2.2.1 a.2.2.2.1) (R:=List xZ3×Bool×List xZ0×List xZ1) (.m (R:=List xZ3×Bool×List xZ0×List xZ1) (.tu .n) (.c (.c (.r 4) (.c (.own 2) (.c (.own 3) (.c .b .n)))) .n) (.d (.d (.l 3 (.l 2 .n)))) (fun z=>(z.2.1.1.1,z.2.1.1.2.2.2.1,z.2.2.1,z.2.2.2.1)) (fun r=>((),((r.1,(),(),r.2.1,()),()),r.2.2.1,r.2.2.2,())) (fun _=>rfl))
def xZu:Con tb:=.m 32 [false,true] (.c (.ptr 0 0) (.c (.i .i64) .n)) (.c (.c (.r 4) (.c (.own 0) (.c (.own 1) (.c .b .n)))) .n) (.l 3 (.l 2 .n)) (fun N a=>xZ2g N a.1.2.1 a.2.1.1.1 a.2.1.1.2.2.2.1 a.2.2.1 a.2.2.2.1) (R:=List xZ3×Bool×List xZ0×List xZ1) (.m (R:=List xZ3×Bool×List xZ0×List xZ1) (.tu .n) (.c (.c (.r 4) (.c (.own 2) (.c (.own 3) (.c .b .n)))) .n) (.d (.d (.l 3 (.l 2 .n)))) (fun z=>(z.2.1.1.1,z.2.1.1.2.2.2.1,z.2.2.1,z.2.2.2.1)) (fun r=>((),((r.1,(),(),r.2.1,()),()),r.2.2.1,r.2.2.2,())) (fun _=>rfl))
def xZ2r:Con tb:=.m 64 [false,true] (.c (.ptr 0 0) (.c (.i .i64) .n)) (.c (.c (.r 4) (.c (.own 0) (.c (.own 1) (.c .b .n)))) .n) (.l 3 (.l 2 .n)) (fun N a=>xZ8V N a.1.2.1 a.2.1.1.1 a.2.1.1.2.2.2.1 a.2.2.1 a.2.2.2.1) (R:=List xZ3×Bool×List xZ0×List xZ1) (.m (R:=List xZ3×Bool×List xZ0×List xZ1) (.tu .n) (.c (.c (.r 4) (.c (.own 2) (.c (.own 3) (.c .b .n)))) .n) (.d (.d (.l 3 (.l 2 .n)))) (fun z=>(z.2.1.1.1,z.2.1.1.2.2.2.1,z.2.2.1,z.2.2.2.1)) (fun r=>((),((r.1,(),(),r.2.1,()),()),r.2.2.1,r.2.2.2,())) (fun _=>rfl))
def xZ1A:Con tb:=.m 105 [false,true,true] (.c (.ptr 0 0) (.c (.i .u8) (.c (.i .i64) .n))) (.c (.c (.r 4) (.c (.own 0) (.c (.own 1) (.c .b .n)))) .n) (.l 3 (.l 2 .n)) (fun N a=>xZ8j N a.1.2.1 a.1.2.2.1 a.2.1.1.1 a.2.1.1.2.2.2.1 a.2.2.1 a.2.2.2.1) (R:=List xZ3×Bool×List xZ0×List xZ1) (.m (R:=List xZ3×Bool×List xZ0×List xZ1) (.tu .n) (.c (.c (.r 4) (.c (.own 2) (.c (.own 3) (.c .b .n)))) .n) (.d (.d (.l 3 (.l 2 .n)))) (fun z=>(z.2.1.1.1,z.2.1.1.2.2.2.1,z.2.2.1,z.2.2.2.1)) (fun r=>((),((r.1,(),(),r.2.1,()),()),r.2.2.1,r.2.2.2,())) (fun _=>rfl))
def xZ1f:LQ tb ((Int)×(Int×Int×(List xZ3)×Bool×(List xZ0)×(List xZ1))):=(LQ.m [(0,some 1,3),(0,some 2,2)] [0,1,6,7] (.c 0 (.ptr 0 0) (.c 1 (.i .u8) (.c 6 (.i .i64) (.c 7 (.i .i64) .n)))) (.c (.c (.r 4) (.c (.own 2) (.c (.own 3) (.c .b .n)))) .n) (.d (.d (.l 3 (.l 2 .n))))).re (fun a=>(a.1.2.1,(a.1.2.2.1,a.1.2.2.2.1,a.2.1.1.1,a.2.1.1.2.2.2.1,a.2.2.1,a.2.2.2.1))) (fun x=>(((),x.1,x.2.1,x.2.2.1,()),((x.2.2.2.1,(),(),x.2.2.2.2.1,()),()),x.2.2.2.2.2.1,x.2.2.2.2.2.2,())) (fun _=>rfl)
def xZ3l (N:Nat) (c:Int) (next:(Int×Int×(List xZ3)×Bool×(List xZ0)×(List xZ1))→Option (List xZ3×Bool×List xZ0×List xZ1)) (v:Int×Int×(List xZ3)×Bool×(List xZ0)×(List xZ1)):Option (List xZ3×Bool×List xZ0×List xZ1):=xZ20 N (xZ6 N) c (fun u0 u1 u2 u3 u4 u5=>next (u0,u1,u2,u3,u4,u5)) v.1 v.2.1 v.2.2.1 v.2.2.2.1 v.2.2.2.2.1 v.2.2.2.2.2
abbrev xZ7p (N:Nat):(Int)×(Int×Int×(List xZ3)×Bool×(List xZ0)×(List xZ1))→Option (List xZ3×Bool×List xZ0×List xZ1):=fun a=>loopV (xZ3l N a.1) N a.2
def xZ2p:Con tb:=.m 65 [false,true] (.c (.ptr 0 0) (.c (.i .i64) .n)) (.c (.c (.r 4) (.c (.own 0) (.c (.own 1) (.c .b .n)))) .n) (.l 3 (.l 2 .n)) (fun N a=>xZ8T N a.1.2.1 a.2.1.1.1 a.2.1.1.2.2.2.1 a.2.2.1 a.2.2.2.1) (R:=List xZ3×Bool×List xZ0×List xZ1) (.m (R:=List xZ3×Bool×List xZ0×List xZ1) (.tu .n) (.c (.c (.r 4) (.c (.own 2) (.c (.own 3) (.c .b .n)))) .n) (.d (.d (.l 3 (.l 2 .n)))) (fun z=>(z.2.1.1.1,z.2.1.1.2.2.2.1,z.2.2.1,z.2.2.2.1)) (fun r=>((),((r.1,(),(),r.2.1,()),()),r.2.2.1,r.2.2.2,())) (fun _=>rfl))
def xZ2q:Con tb:=.m 66 [false,true] (.c (.ptr 0 0) (.c (.i .i64) .n)) (.c (.c (.r 4) (.c (.own 0) (.c (.own 1) (.c .b .n)))) .n) (.l 3 (.l 2 .n)) (fun N a=>xZ8U N a.1.2.1 a.2.1.1.1 a.2.1.1.2.2.2.1 a.2.2.1 a.2.2.2.1) (R:=List xZ3×Bool×List xZ0×List xZ1) (.m (R:=List xZ3×Bool×List xZ0×List xZ1) (.tu .n) (.c (.c (.r 4) (.c (.own 2) (.c (.own 3) (.c .b .n)))) .n) (.d (.d (.l 3 (.l 2 .n)))) (fun z=>(z.2.1.1.1,z.2.1.1.2.2.2.1,z.2.2.1,z.2.2.2.1)) (fun r=>((),((r.1,(),(),r.2.1,()),()),r.2.2.1,r.2.2.2,())) (fun _=>rfl))
def xZ1u:LQ tb ((Int×Int×Int×Int×Int×(List UInt8)×(List UInt8)×(List xZ2))×(Int×(List xZ3)×Bool×(List xZ0)×(List xZ1))):=(LQ.m [(0,some 1,3),(0,some 2,2)] [0,1,4,5] (.c 0 (.ptr 0 0) (.c 1 (.i .i64) (.c 4 (.ptr 1 0) (.c 5 (.i .i64) .n)))) (.c (.c (.r 4) (.c (.own 2) (.c (.own 3) (.c .b .n)))) (.c (.c (.i .u8) (.c (.i .i64) (.c (.i .i64) (.c (.i .i64) (.c .s (.c .s (.c (.r 1) .n))))))) .n)) (.d (.d (.l 3 (.l 2 .n))))).re (fun a=>((a.1.2.1,a.2.1.2.1.1,a.2.1.2.1.2.1,a.2.1.2.1.2.2.1,a.2.1.2.1.2.2.2.1,a.2.1.2.1.2.2.2.2.1,a.2.1.2.1.2.2.2.2.2.1,a.2.1.2.1.2.2.2.2.2.2.1),(a.1.2.2.2.1,a.2.1.1.1,a.2.1.1.2.2.2.1,a.2.2.1,a.2.2.2.1))) (fun x=>(((),x.1.1,(),x.2.1,()),((x.2.2.1,(),(),x.2.2.2.1,()),(x.1.2.1,x.1.2.2.1,x.1.2.2.2.1,x.1.2.2.2.2.1,x.1.2.2.2.2.2.1,x.1.2.2.2.2.2.2.1,x.1.2.2.2.2.2.2.2,()),()),x.2.2.2.2.1,x.2.2.2.2.2,())) (fun _=>rfl)
def xZ3Q (N:Nat) (c:Int×Int×Int×Int×Int×(List UInt8)×(List UInt8)×(List xZ2)) (next:(Int×(List xZ3)×Bool×(List xZ0)×(List xZ1))→Option (List xZ3×Bool×List xZ0×List xZ1)) (v:Int×(List xZ3)×Bool×(List xZ0)×(List xZ1)):Option (List xZ3×Bool×List xZ0×List xZ1):=xZR N (xZ6 N) c.1 c.2.2.2.1 c.2.2.2.2.1 (fun u0 u1 u2 u3 u4=>next (u0,u1,u2,u3,u4)) v.1 v.2.1 v.2.2.1 v.2.2.2.1 v.2.2.2.2
abbrev xZ7J (N:Nat):(Int×Int×Int×Int×Int×(List UInt8)×(List UInt8)×(List xZ2))×(Int×(List xZ3)×Bool×(List xZ0)×(List xZ1))→Option (List xZ3×Bool×List xZ0×List xZ1):=fun a=>loopV (xZ3Q N a.1) N a.2
def xZ13:Con tb:=.m 106 [false,true,true] (.c (.ptr 0 0) (.c (.i .i64) (.c (.i .i64) .n))) (.c (.c (.r 4) (.c (.own 0) (.c (.own 1) (.c .b .n)))) .n) (.l 3 (.l 2 .n)) (fun N a=>xZ6v N a.1.2.1 a.1.2.2.1 a.2.1.1.1 a.2.1.1.2.2.2.1 a.2.2.1 a.2.2.2.1) (R:=List xZ3×Bool×List xZ0×List xZ1) (.m (R:=List xZ3×Bool×List xZ0×List xZ1) (.tu .n) (.c (.c (.r 4) (.c (.own 2) (.c (.own 3) (.c .b .n)))) .n) (.d (.d (.l 3 (.l 2 .n)))) (fun z=>(z.2.1.1.1,z.2.1.1.2.2.2.1,z.2.2.1,z.2.2.2.1)) (fun r=>((),((r.1,(),(),r.2.1,()),()),r.2.2.1,r.2.2.2,())) (fun _=>rfl))
def xZa0:Con tb:=.p 10 [true] (.c (.el tb_ok 8) .n) (fun N a=>xZ2O N a.1) (R:=xZa×Int) (.p (.tu (.c (.el tb_ok 9) (.o (.i .i64))))) (fun _=>rfl)
def xZ5O:Con tb:=.s 109 [true] (.c .s .n) (fun N a=>xZ66 N a.1) (R:=Bool) (.p .b) (fun _=>⟨rfl,(by kernel_rfl)⟩)
def xZ2Z:LQ tb (((List UInt8)×(List (List UInt8)))×(Int)):=(LQ.m [] [0,3,4] (.c 0 .s (.c 3 (.own 0) (.c 4 (.i .i64) .n))) .n (.l 0 .n)).re (fun a=>((a.1.1,a.2.2.1),a.1.2.2.1)) (fun x=>((x.1.1,(),x.2,()),(),x.1.2,())) (fun _=>rfl)
def xZ7G (N:Nat) (c:(List UInt8)×(List (List UInt8))) (next:Int→Option Bool) (v:Int):Option Bool:=xZ33 N c.1 c.2 (fun u0=>next u0) v
abbrev xZc6 (N:Nat):((List UInt8)×(List (List UInt8)))×(Int)→Option Bool:=fun a=>loopV (xZ7G N a.1) N a.2
def xZ5N:Con tb:=.s 68 [true] (.c .s .n) (fun N a=>xZ2h N a.1) (R:=Bool) (.p .b) (fun _=>⟨rfl,(by kernel_rfl)⟩)
def xZ5n:LQ tb (((List UInt8))×(Int)):=(LQ.m [] [0,3] (.c 0 .s (.c 3 (.i .i64) .n)) .n .n).re (fun a=>(a.1.1,a.1.2.1)) (fun x=>((x.1,x.2,()),(),())) (fun _=>rfl)
def xZaX (N:Nat) (c:(List UInt8)) (next:Int→Option Bool) (v:Int):Option Bool:=xZ5F N c (fun u0=>next u0) v
abbrev xZf3 (N:Nat):((List UInt8))×(Int)→Option Bool:=fun a=>loopV (xZaX N a.1) N a.2
def xZbE:Con tb:=.s 157 [true,true] (.c (.i .u8) (.c (.i .i64) .n)) (fun N a=>xZ9P N a.1 a.2.1) (R:=Bool) (.p .b) (fun _=>⟨rfl,(by kernel_rfl)⟩)
def xZbC:Con tb:=.s 179 [true] (.c (.i .u64) .n) (fun N a=>xZ3V N a.1) (R:=Int) (.p (.i .i64)) (fun _=>⟨rfl,(by kernel_rfl)⟩)
def xZa7:Con tb:=.s 180 [true] (.c (.i .u64) .n) (fun N a=>xZ4G N a.1) (R:=Int) (.p (.i .u64)) (fun _=>⟨rfl,(by kernel_rfl)⟩)
def xZa8:Con tb:=.s 175 [true] (.c (.i .u64) .n) (fun N a=>xZ8q N a.1) (R:=Int) (.p (.i .u8)) (fun _=>⟨rfl,(by kernel_rfl)⟩)
def xZ8Z:Con tb:=.s 171 [true] (.c (.i .u64) .n) (fun N a=>xZ2T N a.1) (R:=Int) (.p (.i .u64)) (fun _=>⟨rfl,(by kernel_rfl)⟩)
def xZ90:Con tb:=.s 166 [true] (.c (.el tb_ok 7) .n) (fun N a=>xZ4W N a.1) (R:=Int) (.p (.i .i64)) (fun _=>⟨rfl,(by kernel_rfl)⟩)
def xZ92:Con tb:=.s 158 [true] (.c (.el tb_ok 1) .n) (fun N a=>xZ6X N a.1) (R:=Int) (.p (.i .i64)) (fun _=>⟨rfl,(by kernel_rfl)⟩)
def xZ9o:LQ tb ((Bool×Int×Int×(List UInt8)×(List UInt8)×Int×Int×Int×(List UInt8))×(Unit)):=(LQ.m [] [1,3,4] (.c 1 (.ptr 0 0) (.c 3 (.ptr 1 0) (.c 4 .b .n))) (.c (.c (.i .u8) (.c (.i .u8) (.c .s (.c .s (.c (.i .u8) (.c (.i .i64) (.c (.i .u64) (.c .s .n)))))))) (.c (.c (.li .u8 0) (.c (.li .i64 0) (.c (.li .u64 0) (.c (.ls []) .n)))) .n)) .n).re (fun a=>((a.1.2.2.1,a.2.1.1.1,a.2.1.1.2.1,a.2.1.1.2.2.1,a.2.1.1.2.2.2.1,a.2.1.1.2.2.2.2.1,a.2.1.1.2.2.2.2.2.1,a.2.1.1.2.2.2.2.2.2.1,a.2.1.1.2.2.2.2.2.2.2.1),())) (fun x=>(((),(),x.1.1,()),((x.1.2.1,x.1.2.2.1,x.1.2.2.2.1,x.1.2.2.2.2.1,x.1.2.2.2.2.2.1,x.1.2.2.2.2.2.2.1,x.1.2.2.2.2.2.2.2.1,x.1.2.2.2.2.2.2.2.2,()),((),(),(),(),()),()),())) (fun _=>rfl)
abbrev xZ9u (N:Nat):(Bool×Int×Int×(List UInt8)×(List UInt8)×Int×Int×Int×(List UInt8))×(Unit)→Option Int:=fun a=>xZ1p N a.1.1 a.1.2.1 a.1.2.2.1 a.1.2.2.2.1 a.1.2.2.2.2.1 a.1.2.2.2.2.2.1 a.1.2.2.2.2.2.2.1 a.1.2.2.2.2.2.2.2.1 a.1.2.2.2.2.2.2.2.2
def xZa9:Con tb:=.s 159 [true] (.c (.i .u8) .n) (fun N a=>xZ8r N a.1) (R:=Int) (.p (.i .i64)) (fun _=>⟨rfl,(by kernel_rfl)⟩)
def xZbD:Con tb:=.s 160 [true,true] (.c (.i .u8) (.c (.i .i64) .n)) (fun N a=>xZ9O N a.1 a.2.1) (R:=Int) (.p (.i .i64)) (fun _=>⟨rfl,(by kernel_rfl)⟩)
def xZ5P:Con tb:=.s 146 [true,true,true,true] (.c (.r 1) (.c (.i .i64) (.c (.i .i64) (.c (.i .i64) .n)))) (fun N a=>xZdH N a.1 a.2.1 a.2.2.1 a.2.2.2.1) (R:=Int×Int) (.p (.tu (.c (.i .i64) (.o (.i .i64))))) (fun _=>⟨rfl,(by kernel_rfl)⟩)
def xZ5p:LQ tb (((List xZ2)×Int×Int×Int×(List UInt8)×(List UInt8)×Int×Int×Int×(List UInt8))×(Int×Int)):=(LQ.m [] [0,1,3,10,12] (.c 0 (.r 1) (.c 1 (.i .i64) (.c 3 (.i .i64) (.c 10 (.ptr 0 0) (.c 12 (.i .i64) .n))))) (.c (.c (.i .u8) (.c (.i .u8) (.c .s (.c .s (.c (.i .u8) (.c (.i .i64) (.c (.i .u64) (.c .s .n)))))))) .n) .n).re (fun a=>((a.1.1,a.1.2.2.1,a.2.1.1.1,a.2.1.1.2.1,a.2.1.1.2.2.1,a.2.1.1.2.2.2.1,a.2.1.1.2.2.2.2.1,a.2.1.1.2.2.2.2.2.1,a.2.1.1.2.2.2.2.2.2.1,a.2.1.1.2.2.2.2.2.2.2.1),(a.1.2.1,a.1.2.2.2.2.1))) (fun x=>((x.1.1,x.2.1,x.1.2.1,(),x.2.2,()),((x.1.2.2.1,x.1.2.2.2.1,x.1.2.2.2.2.1,x.1.2.2.2.2.2.1,x.1.2.2.2.2.2.2.1,x.1.2.2.2.2.2.2.2.1,x.1.2.2.2.2.2.2.2.2.1,x.1.2.2.2.2.2.2.2.2.2,()),()),())) (fun _=>rfl)
def xZaZ (N:Nat) (c:(List xZ2)×Int×Int×Int×(List UInt8)×(List UInt8)×Int×Int×Int×(List UInt8)) (next:(Int×Int)→Option (Int×Int)) (v:Int×Int):Option (Int×Int):=xZ5H N (xZ3L N) c.1 c.2.1 c.2.2.1 (fun u0 u1=>next (u0,u1)) v.1 v.2
abbrev xZf5 (N:Nat):((List xZ2)×Int×Int×Int×(List UInt8)×(List UInt8)×Int×Int×Int×(List UInt8))×(Int×Int)→Option (Int×Int):=fun a=>loopV (xZaZ N a.1) N a.2
def xZ91:Con tb:=.s 131 [true] (.c (.r 1) .n) (fun N a=>xZ6W N a.1) (R:=Int) (.p (.i .i64)) (fun _=>⟨rfl,(by kernel_rfl)⟩)
def xZ93:Con tb:=.s 107 [true] (.c (.el tb_ok 4) .n) (fun N a=>xZ2W N a.1) (R:=Int) (.p (.i .i64)) (fun _=>⟨rfl,(by kernel_rfl)⟩)
def xZ9p:LQ tb ((Bool×Int×Int×Int×Int×(List UInt8)×(List UInt8)×(List xZ2))×(Unit)):=(LQ.m [] [1,3] (.c 1 (.ptr 0 0) (.c 3 .b .n)) (.c (.c (.i .u8) (.c (.i .i64) (.c (.i .i64) (.c (.i .i64) (.c .s (.c .s (.c (.r 1) .n))))))) .n) .n).re (fun a=>((a.1.2.1,a.2.1.1.1,a.2.1.1.2.1,a.2.1.1.2.2.1,a.2.1.1.2.2.2.1,a.2.1.1.2.2.2.2.1,a.2.1.1.2.2.2.2.2.1,a.2.1.1.2.2.2.2.2.2.1),())) (fun x=>(((),x.1.1,()),((x.1.2.1,x.1.2.2.1,x.1.2.2.2.1,x.1.2.2.2.2.1,x.1.2.2.2.2.2.1,x.1.2.2.2.2.2.2.1,x.1.2.2.2.2.2.2.2,()),()),())) (fun _=>rfl)
def xZ9q:LQ tb ((Bool×Bool×Int×Int×Int×Int×(List UInt8)×(List UInt8)×(List xZ2))×(Unit)):=(LQ.m [] [1,3,4] (.c 1 (.ptr 0 0) (.c 3 .b (.c 4 .b .n))) (.c (.c (.i .u8) (.c (.i .i64) (.c (.i .i64) (.c (.i .i64) (.c .s (.c .s (.c (.r 1) .n))))))) .n) .n).re (fun a=>((a.1.2.1,a.1.2.2.1,a.2.1.1.1,a.2.1.1.2.1,a.2.1.1.2.2.1,a.2.1.1.2.2.2.1,a.2.1.1.2.2.2.2.1,a.2.1.1.2.2.2.2.2.1,a.2.1.1.2.2.2.2.2.2.1),())) (fun x=>(((),x.1.1,x.1.2.1,()),((x.1.2.2.1,x.1.2.2.2.1,x.1.2.2.2.2.1,x.1.2.2.2.2.2.1,x.1.2.2.2.2.2.2.1,x.1.2.2.2.2.2.2.2.1,x.1.2.2.2.2.2.2.2.2,()),()),())) (fun _=>rfl)
def xZ9r:LQ tb ((Bool×Bool×Int×Int×Int×Int×(List UInt8)×(List UInt8)×(List xZ2))×(Unit)):=(LQ.m [] [1,3,31] (.c 1 (.ptr 0 0) (.c 3 .b (.c 31 .b .n))) (.c (.c (.i .u8) (.c (.i .i64) (.c (.i .i64) (.c (.i .i64) (.c .s (.c .s (.c (.r 1) .n))))))) .n) .n).re (fun a=>((a.1.2.1,a.1.2.2.1,a.2.1.1.1,a.2.1.1.2.1,a.2.1.1.2.2.1,a.2.1.1.2.2.2.1,a.2.1.1.2.2.2.2.1,a.2.1.1.2.2.2.2.2.1,a.2.1.1.2.2.2.2.2.2.1),())) (fun x=>(((),x.1.1,x.1.2.1,()),((x.1.2.2.1,x.1.2.2.2.1,x.1.2.2.2.2.1,x.1.2.2.2.2.2.1,x.1.2.2.2.2.2.2.1,x.1.2.2.2.2.2.2.2.1,x.1.2.2.2.2.2.2.2.2,()),()),())) (fun _=>rfl)
def xZ9s:LQ tb ((Bool×Bool×Int×Int×Int×Int×(List UInt8)×(List UInt8)×(List xZ2))×(Unit)):=(LQ.m [] [1,3,81] (.c 1 (.ptr 0 0) (.c 3 .b (.c 81 .b .n))) (.c (.c (.i .u8) (.c (.i .i64) (.c (.i .i64) (.c (.i .i64) (.c .s (.c .s (.c (.r 1) .n))))))) .n) .n).re (fun a=>((a.1.2.1,a.1.2.2.1,a.2.1.1.1,a.2.1.1.2.1,a.2.1.1.2.2.1,a.2.1.1.2.2.2.1,a.2.1.1.2.2.2.2.1,a.2.1.1.2.2.2.2.2.1,a.2.1.1.2.2.2.2.2.2.1),())) (fun x=>(((),x.1.1,x.1.2.1,()),((x.1.2.2.1,x.1.2.2.2.1,x.1.2.2.2.2.1,x.1.2.2.2.2.2.1,x.1.2.2.2.2.2.2.1,x.1.2.2.2.2.2.2.2.1,x.1.2.2.2.2.2.2.2.2,()),()),())) (fun _=>rfl)
def xZ9t:LQ tb ((Bool×Bool×Int×Int×Int×Int×(List UInt8)×(List UInt8)×(List xZ2))×(Unit)):=(LQ.m [] [1,3,100] (.c 1 (.ptr 0 0) (.c 3 .b (.c 100 .b .n))) (.c (.c (.i .u8) (.c (.i .i64) (.c (.i .i64) (.c (.i .i64) (.c .s (.c .s (.c (.r 1) .n))))))) .n) .n).re (fun a=>((a.1.2.1,a.1.2.2.1,a.2.1.1.1,a.2.1.1.2.1,a.2.1.1.2.2.1,a.2.1.1.2.2.2.1,a.2.1.1.2.2.2.2.1,a.2.1.1.2.2.2.2.2.1,a.2.1.1.2.2.2.2.2.2.1),())) (fun x=>(((),x.1.1,x.1.2.1,()),((x.1.2.2.1,x.1.2.2.2.1,x.1.2.2.2.2.1,x.1.2.2.2.2.2.1,x.1.2.2.2.2.2.2.1,x.1.2.2.2.2.2.2.2.1,x.1.2.2.2.2.2.2.2.2,()),()),())) (fun _=>rfl)
abbrev xZ9z (N:Nat):(Bool×Bool×Int×Int×Int×Int×(List UInt8)×(List UInt8)×(List xZ2))×(Unit)→Option Int:=fun a=>xZ1q N a.1.1 a.1.2.1 a.1.2.2.1 a.1.2.2.2.1 a.1.2.2.2.2.1 a.1.2.2.2.2.2.1 a.1.2.2.2.2.2.2.1 a.1.2.2.2.2.2.2.2.1 a.1.2.2.2.2.2.2.2.2
abbrev xZ9y (N:Nat):(Bool×Bool×Int×Int×Int×Int×(List UInt8)×(List UInt8)×(List xZ2))×(Unit)→Option Int:=fun a=>xZj N a.1.1 a.1.2.1 a.1.2.2.1 a.1.2.2.2.1 a.1.2.2.2.2.1 a.1.2.2.2.2.2.1 a.1.2.2.2.2.2.2.1 a.1.2.2.2.2.2.2.2.1 a.1.2.2.2.2.2.2.2.2
abbrev xZ9x (N:Nat):(Bool×Bool×Int×Int×Int×Int×(List UInt8)×(List UInt8)×(List xZ2))×(Unit)→Option Int:=fun a=>xZY N a.1.1 a.1.2.1 a.1.2.2.1 a.1.2.2.2.1 a.1.2.2.2.2.1 a.1.2.2.2.2.2.1 a.1.2.2.2.2.2.2.1 a.1.2.2.2.2.2.2.2.1 a.1.2.2.2.2.2.2.2.2
abbrev xZ9w (N:Nat):(Bool×Bool×Int×Int×Int×Int×(List UInt8)×(List UInt8)×(List xZ2))×(Unit)→Option Int:=fun a=>xZ2X N a.1.1 a.1.2.1 a.1.2.2.1 a.1.2.2.2.1 a.1.2.2.2.2.1 a.1.2.2.2.2.2.1 a.1.2.2.2.2.2.2.1 a.1.2.2.2.2.2.2.2.1 a.1.2.2.2.2.2.2.2.2
abbrev xZ9v (N:Nat):(Bool×Int×Int×Int×Int×(List UInt8)×(List UInt8)×(List xZ2))×(Unit)→Option Int:=fun a=>xZ69 N a.1.1 a.1.2.1 a.1.2.2.1 a.1.2.2.2.1 a.1.2.2.2.2.1 a.1.2.2.2.2.2.1 a.1.2.2.2.2.2.2.1 a.1.2.2.2.2.2.2.2
def xZ5Q:Con tb:=.s 108 [true] (.c (.el tb_ok 4) .n) (fun N a=>xZ4H N a.1) (R:=Int) (.p (.i .i64)) (fun _=>⟨rfl,(by kernel_rfl)⟩)
def xZ5R:Con tb:=.s 67 [true,true,true,true] (.c (.r 4) (.c (.i .i64) (.c (.i .u8) (.c (.i .i64) .n)))) (fun N a=>xZaC N a.1 a.2.1 a.2.2.1 a.2.2.2.1) (R:=Int×Int) (.p (.tu (.c (.i .i64) (.o (.i .i64))))) (fun _=>⟨rfl,(by kernel_rfl)⟩)
def xZ5r:LQ tb (((List xZ3)×Int×Int×Int×Int×Int×(List UInt8)×(List UInt8)×(List xZ2))×(Int×Int)):=(LQ.m [] [0,1,3,10,12] (.c 0 (.r 4) (.c 1 (.i .i64) (.c 3 (.i .i64) (.c 10 (.ptr 0 0) (.c 12 (.i .i64) .n))))) (.c (.c (.i .u8) (.c (.i .i64) (.c (.i .i64) (.c (.i .i64) (.c .s (.c .s (.c (.r 1) .n))))))) .n) .n).re (fun a=>((a.1.1,a.1.2.2.1,a.2.1.1.1,a.2.1.1.2.1,a.2.1.1.2.2.1,a.2.1.1.2.2.2.1,a.2.1.1.2.2.2.2.1,a.2.1.1.2.2.2.2.2.1,a.2.1.1.2.2.2.2.2.2.1),(a.1.2.1,a.1.2.2.2.2.1))) (fun x=>((x.1.1,x.2.1,x.1.2.1,(),x.2.2,()),((x.1.2.2.1,x.1.2.2.2.1,x.1.2.2.2.2.1,x.1.2.2.2.2.2.1,x.1.2.2.2.2.2.2.1,x.1.2.2.2.2.2.2.2.1,x.1.2.2.2.2.2.2.2.2,()),()),())) (fun _=>rfl)
def xZb1 (N:Nat) (c:(List xZ3)×Int×Int×Int×Int×Int×(List UInt8)×(List UInt8)×(List xZ2)) (next:(Int×Int)→Option (Int×Int)) (v:Int×Int):Option (Int×Int):=xZ2i N (xZ3M N) c.1 c.2.1 c.2.2.1 c.2.2.2.1 c.2.2.2.2.1 c.2.2.2.2.2.1 c.2.2.2.2.2.2.1 c.2.2.2.2.2.2.2.1 c.2.2.2.2.2.2.2.2 (fun u0 u1=>next (u0,u1)) v.1 v.2
abbrev xZf7 (N:Nat):((List xZ3)×Int×Int×Int×Int×Int×(List UInt8)×(List UInt8)×(List xZ2))×(Int×Int)→Option (Int×Int):=fun a=>loopV (xZb1 N a.1) N a.2
def xZac:Con tb:=.s 69 [true] (.c (.i .u8) .n) (fun N a=>xZ68 N a.1) (R:=List UInt8) (.p .s) (fun _=>⟨rfl,(by kernel_rfl)⟩)
def xZ6y:Con tb:=.s 33 [true] (.c (.el tb_ok 8) .n) (fun N a=>xZ4X N a.1) (R:=Int) (.p (.i .i64)) (fun _=>⟨rfl,(by kernel_rfl)⟩)
def xZ5S:Con tb:=.s 45 [true] (.c (.el tb_ok 4) .n) (fun N a=>xZ1I N a.1) (R:=Bool) (.p .b) (fun _=>⟨rfl,(by kernel_rfl)⟩)
def xZab:Con tb:=.s 110 [true,true] (.c (.r 4) (.c (.i .i64) .n)) (fun N a=>xZ8t N a.1 a.2.1) (R:=Int) (.p (.i .i64)) (fun _=>⟨rfl,(by kernel_rfl)⟩)
def xZ5q:LQ tb (((List xZ3)×Int)×(Int×Int)):=(LQ.m [] [0,1,5,6] (.c 0 (.r 4) (.c 1 (.i .i64) (.c 5 (.i .i64) (.c 6 (.i .i64) .n)))) .n .n).re (fun a=>((a.1.1,a.1.2.1),(a.1.2.2.1,a.1.2.2.2.1))) (fun x=>((x.1.1,x.1.2,x.2.1,x.2.2,()),(),())) (fun _=>rfl)
def xZb0 (N:Nat) (c:(List xZ3)×Int) (next:(Int×Int)→Option Int) (v:Int×Int):Option Int:=xZ5I N c.1 c.2 (fun u0 u1=>next (u0,u1)) v.1 v.2
abbrev xZf6 (N:Nat):((List xZ3)×Int)×(Int×Int)→Option Int:=fun a=>loopV (xZb0 N a.1) N a.2
def xZ7U:Con tb:=.p 70 [true,true] (.c (.r 4) (.c (.i .i64) .n)) (fun N a=>xZ6d N a.1 a.2.1) (R:=List Int) (.p (.r 13)) (fun _=>rfl)
def xZ5x:LQ tb (((List xZ3)×Int)×(Int×Int×(List Int))):=(LQ.m [(5,none,13)] [0,1,5,6,7] (.c 0 (.r 4) (.c 1 (.i .i64) (.c 5 (.own 0) (.c 6 (.i .i64) (.c 7 (.i .i64) .n))))) .n (.l 13 .n)).re (fun a=>((a.1.1,a.1.2.1),(a.1.2.2.2.1,a.1.2.2.2.2.1,a.2.2.1))) (fun x=>((x.1.1,x.1.2,(),x.2.1,x.2.2.1,()),(),x.2.2.2,())) (fun _=>rfl)
def xZb7 (N:Nat) (c:(List xZ3)×Int) (next:(Int×Int×(List Int))→Option (List Int)) (v:Int×Int×(List Int)):Option (List Int):=xZ8y N c.1 c.2 (fun u0 u1 u2=>next (u0,u1,u2)) v.1 v.2.1 v.2.2
abbrev xZfd (N:Nat):((List xZ3)×Int)×(Int×Int×(List Int))→Option (List Int):=fun a=>loopV (xZb7 N a.1) N a.2
def xZ4S:Con tb:=.s 34 [true,true] (.c (.r 4) (.c (.i .i64) .n)) (fun N a=>xZ9C N a.1 a.2.1) (R:=Int×Int) (.p (.tu (.c (.i .i64) (.o (.i .i64))))) (fun _=>⟨rfl,(by kernel_rfl)⟩)
def xZ4N:LQ tb (((List xZ3)×(List Int)×Int×Int×Int×Int×(List UInt8)×(List UInt8)×(List xZ2))×(Int×Int×Int)):=(LQ.m [] [0,6,7,8,9,10] (.c 0 (.r 4) (.c 6 (.ptr 0 0) (.c 7 (.r 13) (.c 8 (.i .i64) (.c 9 (.i .i64) (.c 10 (.i .i64) .n)))))) (.c (.c (.i .u8) (.c (.i .i64) (.c (.i .i64) (.c (.i .i64) (.c .s (.c .s (.c (.r 1) .n))))))) .n) .n).re (fun a=>((a.1.1,a.1.2.2.1,a.2.1.1.1,a.2.1.1.2.1,a.2.1.1.2.2.1,a.2.1.1.2.2.2.1,a.2.1.1.2.2.2.2.1,a.2.1.1.2.2.2.2.2.1,a.2.1.1.2.2.2.2.2.2.1),(a.1.2.2.2.1,a.1.2.2.2.2.1,a.1.2.2.2.2.2.1))) (fun x=>((x.1.1,(),x.1.2.1,x.2.1,x.2.2.1,x.2.2.2,()),((x.1.2.2.1,x.1.2.2.2.1,x.1.2.2.2.2.1,x.1.2.2.2.2.2.1,x.1.2.2.2.2.2.2.1,x.1.2.2.2.2.2.2.2.1,x.1.2.2.2.2.2.2.2.2,()),()),())) (fun _=>rfl)
def xZ9V (N:Nat) (c:(List xZ3)×(List Int)×Int×Int×Int×Int×(List UInt8)×(List UInt8)×(List xZ2)) (next:(Int×Int×Int)→Option (Int×Int)) (v:Int×Int×Int):Option (Int×Int):=xZ4Q N (xZ1R N) c.1 c.2.1 c.2.2.1 c.2.2.2.2.1 c.2.2.2.2.2.1 (fun u0 u1 u2=>next (u0,u1,u2)) v.1 v.2.1 v.2.2
abbrev xZe1 (N:Nat):((List xZ3)×(List Int)×Int×Int×Int×Int×(List UInt8)×(List UInt8)×(List xZ2))×(Int×Int×Int)→Option (Int×Int):=fun a=>loopV (xZ9V N a.1) N a.2
def xZ5T:Con tb:=.p 73 [true,true,true] (.c (.i .u8) (.c (.r 3) (.c (.r 3) .n))) (fun N a=>xZ2j N a.1 a.2.1 a.2.2.1) (R:=List xZ0) (.p (.r 3)) (fun _=>rfl)
def xZ5U:Con tb:=.p 71 [true,true] (.c (.i .u8) (.c (.r 14) .n)) (fun N a=>xZ1d N a.1 a.2.1) (R:=List xZ0) (.p (.r 3)) (fun _=>rfl)
def xZ4x:Con tb:=.p 35 [true,true,true] (.c (.r 4) (.c (.i .i64) (.c (.r 2) .n))) (fun N a=>xZaD N a.1 a.2.1 a.2.2.1) (R:=List xZ0×List xZ1) (.p (.tu (.c (.r 3) (.o (.r 2))))) (fun _=>rfl)
def xZ5v:LQ tb (((List xZ3)×(List Int)×Int×Int×Int×Int×(List UInt8)×(List UInt8)×(List xZ2))×((List xZ1)×Int×(List (List xZ0)))):=(LQ.m [(10,none,14)] [0,2,8,10,12,13] (.c 0 (.r 4) (.c 2 (.r 2) (.c 8 (.ptr 0 0) (.c 10 (.own 0) (.c 12 (.r 13) (.c 13 (.i .i64) .n)))))) (.c (.c (.i .u8) (.c (.i .i64) (.c (.i .i64) (.c (.i .i64) (.c .s (.c .s (.c (.r 1) .n))))))) .n) (.l 14 .n)).re (fun a=>((a.1.1,a.1.2.2.2.2.1,a.2.1.1.1,a.2.1.1.2.1,a.2.1.1.2.2.1,a.2.1.1.2.2.2.1,a.2.1.1.2.2.2.2.1,a.2.1.1.2.2.2.2.2.1,a.2.1.1.2.2.2.2.2.2.1),(a.1.2.1,a.1.2.2.2.2.2.1,a.2.2.1))) (fun x=>((x.1.1,x.2.1,(),(),x.1.2.1,x.2.2.1,()),((x.1.2.2.1,x.1.2.2.2.1,x.1.2.2.2.2.1,x.1.2.2.2.2.2.1,x.1.2.2.2.2.2.2.1,x.1.2.2.2.2.2.2.2.1,x.1.2.2.2.2.2.2.2.2,()),()),x.2.2.2,())) (fun _=>rfl)
def xZ5w:LQ tb (((List xZ3)×Int×Int×Int×Int×Int×(List UInt8)×(List UInt8)×(List xZ2))×((List xZ1)×Int×(List (List xZ0)))):=(LQ.m [(10,none,14)] [0,1,2,8,10,14] (.c 0 (.r 4) (.c 1 (.i .i64) (.c 2 (.r 2) (.c 8 (.ptr 0 0) (.c 10 (.own 0) (.c 14 (.i .i64) .n)))))) (.c (.c (.i .u8) (.c (.i .i64) (.c (.i .i64) (.c (.i .i64) (.c .s (.c .s (.c (.r 1) .n))))))) .n) (.l 14 .n)).re (fun a=>((a.1.1,a.1.2.1,a.2.1.1.1,a.2.1.1.2.1,a.2.1.1.2.2.1,a.2.1.1.2.2.2.1,a.2.1.1.2.2.2.2.1,a.2.1.1.2.2.2.2.2.1,a.2.1.1.2.2.2.2.2.2.1),(a.1.2.2.1,a.1.2.2.2.2.2.1,a.2.2.1))) (fun x=>((x.1.1,x.1.2.1,x.2.1,(),(),x.2.2.1,()),((x.1.2.2.1,x.1.2.2.2.1,x.1.2.2.2.2.1,x.1.2.2.2.2.2.1,x.1.2.2.2.2.2.2.1,x.1.2.2.2.2.2.2.2.1,x.1.2.2.2.2.2.2.2.2,()),()),x.2.2.2,())) (fun _=>rfl)
def xZb5 (N:Nat) (c:(List xZ3)×(List Int)×Int×Int×Int×Int×(List UInt8)×(List UInt8)×(List xZ2)) (next:((List xZ1)×Int×(List (List xZ0)))→Option (List xZ0×List xZ1)) (v:(List xZ1)×Int×(List (List xZ0))):Option (List xZ0×List xZ1):=xZ8w N (xZ1m N) c.1 c.2.1 c.2.2.1 (fun u0 u1 u2=>next (u0,u1,u2)) v.1 v.2.1 v.2.2
abbrev xZfb (N:Nat):((List xZ3)×(List Int)×Int×Int×Int×Int×(List UInt8)×(List UInt8)×(List xZ2))×((List xZ1)×Int×(List (List xZ0)))→Option (List xZ0×List xZ1):=fun a=>loopV (xZb5 N a.1) N a.2
def xZb6 (N:Nat) (c:(List xZ3)×Int×Int×Int×Int×Int×(List UInt8)×(List UInt8)×(List xZ2)) (next:((List xZ1)×Int×(List (List xZ0)))→Option (List xZ0×List xZ1)) (v:(List xZ1)×Int×(List (List xZ0))):Option (List xZ0×List xZ1):=xZ8x N (xZ1m N) c.1 c.2.1 c.2.2.2.2.1 c.2.2.2.2.2.1 (fun u0 u1 u2=>next (u0,u1,u2)) v.1 v.2.1 v.2.2
abbrev xZfc (N:Nat):((List xZ3)×Int×Int×Int×Int×Int×(List UInt8)×(List UInt8)×(List xZ2))×((List xZ1)×Int×(List (List xZ0)))→Option (List xZ0×List xZ1):=fun a=>loopV (xZb6 N a.1) N a.2
def xZ4L:Con tb:=.p 72 [true,true,true,true] (.c (.r 4) (.c (.i .i64) (.c (.i .i64) (.c (.r 2) .n)))) (fun N a=>xZe6 N a.1 a.2.1 a.2.2.1 a.2.2.2.1) (R:=List xZ0×List xZ1) (.p (.tu (.c (.r 3) (.o (.r 2))))) (fun _=>rfl)
def xZ94:Con tb:=.p 11 [true] (.c (.el tb_ok 8) .n) (fun N a=>xZ28 N a.1) (R:=xZa×Int) (.p (.tu (.c (.el tb_ok 9) (.o (.i .i64))))) (fun _=>rfl)
def xZa1:Con tb:=.p 37 [true] (.c (.r 1) .n) (fun N a=>xZ8k N a.1) (R:=List xZ2) (.p (.r 1)) (fun _=>rfl)
def xZ5i:LQ tb (((List xZ2))×(Int×(List xZ2))):=(LQ.m [(3,none,1)] [0,3,4] (.c 0 (.r 1) (.c 3 (.own 0) (.c 4 (.i .i64) .n))) .n (.l 1 .n)).re (fun a=>(a.1.1,(a.1.2.2.1,a.2.2.1))) (fun x=>((x.1,(),x.2.1,()),(),x.2.2,())) (fun _=>rfl)
def xZaS (N:Nat) (c:(List xZ2)) (next:(Int×(List xZ2))→Option (List xZ2)) (v:Int×(List xZ2)):Option (List xZ2):=xZ5A N c (fun u0 u1=>next (u0,u1)) v.1 v.2
abbrev xZeY (N:Nat):((List xZ2))×(Int×(List xZ2))→Option (List xZ2):=fun a=>loopV (xZaS N a.1) N a.2
def xZa4:Con tb:=.p 13 [true] (.c (.el tb_ok 9) .n) (fun N a=>xZ63 N a.1) (R:=xZa) (.p (.el tb_ok 9)) (fun _=>rfl)
def xZ5l:LQ tb (((List xZ0)×(List xZ1)×Int×(List UInt8)×Int×Int×(List UInt8)×Int)×(Int×(List xZ0))):=(LQ.m [(3,some 0,3)] [1,2,3,4] (.c 1 (.ptr 0 0) (.c 2 (.ptr 1 0) (.c 3 (.ptr 2 0) (.c 4 (.i .i64) .n)))) (.c (.c (.r 3) (.c (.r 2) (.c (.i .i64) (.c .s (.c (.i .u8) .n))))) (.c (.c .e (.c .e (.c (.li .i64 0) (.c (.ls []) (.c (.li .u8 0) .n))))) (.c (.c (.own 0) (.c .e (.c (.i .i64) (.c .s (.c (.i .u8) .n))))) .n))) (.l 3 .n)).re (fun a=>((a.2.1.1.1,a.2.1.1.2.1,a.2.1.1.2.2.1,a.2.1.1.2.2.2.1,a.2.1.1.2.2.2.2.1,a.2.1.2.2.1.2.2.1,a.2.1.2.2.1.2.2.2.1,a.2.1.2.2.1.2.2.2.2.1),(a.1.2.2.2.1,a.2.2.1))) (fun x=>(((),(),(),x.2.1,()),((x.1.1,x.1.2.1,x.1.2.2.1,x.1.2.2.2.1,x.1.2.2.2.2.1,()),((),(),(),(),(),()),((),(),x.1.2.2.2.2.2.1,x.1.2.2.2.2.2.2.1,x.1.2.2.2.2.2.2.2,()),()),x.2.2,())) (fun _=>rfl)
def xZ5m:LQ tb (((List xZ0)×(List xZ1)×Int×(List UInt8)×Int×Int×(List UInt8)×Int×(List xZ0))×(Int×(List xZ1))):=(LQ.m [(3,some 1,2)] [1,2,3,5] (.c 1 (.ptr 0 0) (.c 2 (.ptr 1 0) (.c 3 (.ptr 2 0) (.c 5 (.i .i64) .n)))) (.c (.c (.r 3) (.c (.r 2) (.c (.i .i64) (.c .s (.c (.i .u8) .n))))) (.c (.c .e (.c .e (.c (.li .i64 0) (.c (.ls []) (.c (.li .u8 0) .n))))) (.c (.c (.own 0) (.c (.own 1) (.c (.i .i64) (.c .s (.c (.i .u8) .n))))) .n))) (.l 3 (.l 2 .n))).re (fun a=>((a.2.1.1.1,a.2.1.1.2.1,a.2.1.1.2.2.1,a.2.1.1.2.2.2.1,a.2.1.1.2.2.2.2.1,a.2.1.2.2.1.2.2.1,a.2.1.2.2.1.2.2.2.1,a.2.1.2.2.1.2.2.2.2.1,a.2.2.1),(a.1.2.2.2.1,a.2.2.2.1))) (fun x=>(((),(),(),x.2.1,()),((x.1.1,x.1.2.1,x.1.2.2.1,x.1.2.2.2.1,x.1.2.2.2.2.1,()),((),(),(),(),(),()),((),(),x.1.2.2.2.2.2.1,x.1.2.2.2.2.2.2.1,x.1.2.2.2.2.2.2.2.1,()),()),x.1.2.2.2.2.2.2.2.2,x.2.2,())) (fun _=>rfl)
def xZaW (N:Nat) (c:(List xZ0)×(List xZ1)×Int×(List UInt8)×Int×Int×(List UInt8)×Int×(List xZ0)) (next:(Int×(List xZ1))→Option xZa) (v:Int×(List xZ1)):Option xZa:=xZ5E N c.2.1 c.2.2.2.2.2.1 c.2.2.2.2.2.2.1 c.2.2.2.2.2.2.2.1 c.2.2.2.2.2.2.2.2 (fun u0 u1=>next (u0,u1)) v.1 v.2
abbrev xZf2 (N:Nat):((List xZ0)×(List xZ1)×Int×(List UInt8)×Int×Int×(List UInt8)×Int×(List xZ0))×(Int×(List xZ1))→Option xZa:=fun a=>loopV (xZaW N a.1) N a.2
def xZaV (N:Nat) (c:(List xZ0)×(List xZ1)×Int×(List UInt8)×Int×Int×(List UInt8)×Int) (next:(Int×(List xZ0))→Option xZa) (v:Int×(List xZ0)):Option xZa:=xZ5D N c.1 c.2.1 c.2.2.2.2.2.1 c.2.2.2.2.2.2.1 c.2.2.2.2.2.2.2 (fun u0 u1=>next (u0,u1)) v.1 v.2
abbrev xZf1 (N:Nat):((List xZ0)×(List xZ1)×Int×(List UInt8)×Int×Int×(List UInt8)×Int)×(Int×(List xZ0))→Option xZa:=fun a=>loopV (xZaV N a.1) N a.2
def xZaa:Con tb:=.s 36 [true,true] (.c (.r 1) (.c (.r 1) .n)) (fun N a=>xZ8s N a.1 a.2.1) (R:=Bool) (.p .b) (fun _=>⟨rfl,(by kernel_rfl)⟩)
def xZ5o:LQ tb (((List xZ2)×(List xZ2))×(Int)):=(LQ.m [] [0,1,5] (.c 0 (.r 1) (.c 1 (.r 1) (.c 5 (.i .i64) .n))) .n .n).re (fun a=>((a.1.1,a.1.2.1),a.1.2.2.1)) (fun x=>((x.1.1,x.1.2,x.2,()),(),())) (fun _=>rfl)
def xZaY (N:Nat) (c:(List xZ2)×(List xZ2)) (next:Int→Option Bool) (v:Int):Option Bool:=xZ5G N c.1 c.2 (fun u0=>next u0) v
abbrev xZf4 (N:Nat):((List xZ2)×(List xZ2))×(Int)→Option Bool:=fun a=>loopV (xZaY N a.1) N a.2
def xZae:Con tb:=.s 12 [true,true] (.c (.el tb_ok 9) (.c (.el tb_ok 9) .n)) (fun N a=>xZ6b N a.1 a.2.1) (R:=Bool) (.p .b) (fun _=>⟨rfl,(by kernel_rfl)⟩)
def xZ5s:LQ tb (((List xZ0)×(List xZ1)×Int×(List UInt8)×Int×(List xZ0)×(List xZ1)×Int×(List UInt8)×Int)×(Int)):=(LQ.m [] [2,3,5] (.c 2 (.ptr 0 0) (.c 3 (.ptr 1 0) (.c 5 (.i .i64) .n))) (.c (.c (.r 3) (.c (.r 2) (.c (.i .i64) (.c .s (.c (.i .u8) .n))))) (.c (.c (.r 3) (.c (.r 2) (.c (.i .i64) (.c .s (.c (.i .u8) .n))))) .n)) .n).re (fun a=>((a.2.1.1.1,a.2.1.1.2.1,a.2.1.1.2.2.1,a.2.1.1.2.2.2.1,a.2.1.1.2.2.2.2.1,a.2.1.2.1.1,a.2.1.2.1.2.1,a.2.1.2.1.2.2.1,a.2.1.2.1.2.2.2.1,a.2.1.2.1.2.2.2.2.1),a.1.2.2.1)) (fun x=>(((),(),x.2,()),((x.1.1,x.1.2.1,x.1.2.2.1,x.1.2.2.2.1,x.1.2.2.2.2.1,()),(x.1.2.2.2.2.2.1,x.1.2.2.2.2.2.2.1,x.1.2.2.2.2.2.2.2.1,x.1.2.2.2.2.2.2.2.2.1,x.1.2.2.2.2.2.2.2.2.2,()),()),())) (fun _=>rfl)
def xZ5t:LQ tb (((List xZ0)×(List xZ1)×Int×(List UInt8)×Int×(List xZ0)×(List xZ1)×Int×(List UInt8)×Int)×(Int)):=(LQ.m [] [2,3,6] (.c 2 (.ptr 0 0) (.c 3 (.ptr 1 0) (.c 6 (.i .i64) .n))) (.c (.c (.r 3) (.c (.r 2) (.c (.i .i64) (.c .s (.c (.i .u8) .n))))) (.c (.c (.r 3) (.c (.r 2) (.c (.i .i64) (.c .s (.c (.i .u8) .n))))) .n)) .n).re (fun a=>((a.2.1.1.1,a.2.1.1.2.1,a.2.1.1.2.2.1,a.2.1.1.2.2.2.1,a.2.1.1.2.2.2.2.1,a.2.1.2.1.1,a.2.1.2.1.2.1,a.2.1.2.1.2.2.1,a.2.1.2.1.2.2.2.1,a.2.1.2.1.2.2.2.2.1),a.1.2.2.1)) (fun x=>(((),(),x.2,()),((x.1.1,x.1.2.1,x.1.2.2.1,x.1.2.2.2.1,x.1.2.2.2.2.1,()),(x.1.2.2.2.2.2.1,x.1.2.2.2.2.2.2.1,x.1.2.2.2.2.2.2.2.1,x.1.2.2.2.2.2.2.2.2.1,x.1.2.2.2.2.2.2.2.2.2,()),()),())) (fun _=>rfl)
def xZb3 (N:Nat) (c:(List xZ0)×(List xZ1)×Int×(List UInt8)×Int×(List xZ0)×(List xZ1)×Int×(List UInt8)×Int) (next:Int→Option Bool) (v:Int):Option Bool:=xZ4l N c.2.1 c.2.2.2.2.2.2.1 (fun u0=>next u0) v
abbrev xZf9 (N:Nat):((List xZ0)×(List xZ1)×Int×(List UInt8)×Int×(List xZ0)×(List xZ1)×Int×(List UInt8)×Int)×(Int)→Option Bool:=fun a=>loopV (xZb3 N a.1) N a.2
def xZb2 (N:Nat) (c:(List xZ0)×(List xZ1)×Int×(List UInt8)×Int×(List xZ0)×(List xZ1)×Int×(List UInt8)×Int) (next:Int→Option Bool) (v:Int):Option Bool:=xZ5J N c.1 c.2.1 c.2.2.2.2.2.1 c.2.2.2.2.2.2.1 (fun u0=>next u0) v
abbrev xZf8 (N:Nat):((List xZ0)×(List xZ1)×Int×(List UInt8)×Int×(List xZ0)×(List xZ1)×Int×(List UInt8)×Int)×(Int)→Option Bool:=fun a=>loopV (xZb2 N a.1) N a.2
def xZbz:Con tb:=.p 15 [true] (.c (.el tb_ok 9) .n) (fun N a=>xZ7O N a.1) (R:=xZa) (.p (.el tb_ok 9)) (fun _=>rfl)
def xZ6N:LQ tb (((List xZ0)×(List xZ1)×Int×(List UInt8)×Int×Int×(List UInt8)×Int)×(Int×(List xZ0))):=(LQ.m [(3,some 0,3)] [1,2,3,4] (.c 1 (.ptr 0 0) (.c 2 (.ptr 1 0) (.c 3 (.ptr 2 0) (.c 4 (.i .i64) .n)))) (.c (.c (.r 3) (.c (.r 2) (.c (.i .i64) (.c .s (.c (.i .u8) .n))))) (.c (.c .e (.c .e (.c (.li .i64 0) (.c (.ls []) (.c (.li .u8 0) .n))))) (.c (.c (.own 0) (.c .e (.c (.i .i64) (.c .s (.c (.i .u8) .n))))) .n))) (.l 3 .n)).re (fun a=>((a.2.1.1.1,a.2.1.1.2.1,a.2.1.1.2.2.1,a.2.1.1.2.2.2.1,a.2.1.1.2.2.2.2.1,a.2.1.2.2.1.2.2.1,a.2.1.2.2.1.2.2.2.1,a.2.1.2.2.1.2.2.2.2.1),(a.1.2.2.2.1,a.2.2.1))) (fun x=>(((),(),(),x.2.1,()),((x.1.1,x.1.2.1,x.1.2.2.1,x.1.2.2.2.1,x.1.2.2.2.2.1,()),((),(),(),(),(),()),((),(),x.1.2.2.2.2.2.1,x.1.2.2.2.2.2.2.1,x.1.2.2.2.2.2.2.2,()),()),x.2.2,())) (fun _=>rfl)
def xZ6O:LQ tb (((List xZ0)×(List xZ1)×Int×(List UInt8)×Int×Int×(List UInt8)×Int×(List xZ0))×(Int×(List xZ1))):=(LQ.m [(3,some 1,2)] [1,2,3,5] (.c 1 (.ptr 0 0) (.c 2 (.ptr 1 0) (.c 3 (.ptr 2 0) (.c 5 (.i .i64) .n)))) (.c (.c (.r 3) (.c (.r 2) (.c (.i .i64) (.c .s (.c (.i .u8) .n))))) (.c (.c .e (.c .e (.c (.li .i64 0) (.c (.ls []) (.c (.li .u8 0) .n))))) (.c (.c (.own 0) (.c (.own 1) (.c (.i .i64) (.c .s (.c (.i .u8) .n))))) .n))) (.l 3 (.l 2 .n))).re (fun a=>((a.2.1.1.1,a.2.1.1.2.1,a.2.1.1.2.2.1,a.2.1.1.2.2.2.1,a.2.1.1.2.2.2.2.1,a.2.1.2.2.1.2.2.1,a.2.1.2.2.1.2.2.2.1,a.2.1.2.2.1.2.2.2.2.1,a.2.2.1),(a.1.2.2.2.1,a.2.2.2.1))) (fun x=>(((),(),(),x.2.1,()),((x.1.1,x.1.2.1,x.1.2.2.1,x.1.2.2.2.1,x.1.2.2.2.2.1,()),((),(),(),(),(),()),((),(),x.1.2.2.2.2.2.1,x.1.2.2.2.2.2.2.1,x.1.2.2.2.2.2.2.2.1,()),()),x.1.2.2.2.2.2.2.2.2,x.2.2,())) (fun _=>rfl)
def xZco (N:Nat) (c:(List xZ0)×(List xZ1)×Int×(List UInt8)×Int×Int×(List UInt8)×Int×(List xZ0)) (next:(Int×(List xZ1))→Option xZa) (v:Int×(List xZ1)):Option xZa:=xZ6V N c.2.1 c.2.2.2.2.2.1 c.2.2.2.2.2.2.1 c.2.2.2.2.2.2.2.1 c.2.2.2.2.2.2.2.2 (fun u0 u1=>next (u0,u1)) v.1 v.2
abbrev xZgm (N:Nat):((List xZ0)×(List xZ1)×Int×(List UInt8)×Int×Int×(List UInt8)×Int×(List xZ0))×(Int×(List xZ1))→Option xZa:=fun a=>loopV (xZco N a.1) N a.2
def xZcn (N:Nat) (c:(List xZ0)×(List xZ1)×Int×(List UInt8)×Int×Int×(List UInt8)×Int) (next:(Int×(List xZ0))→Option xZa) (v:Int×(List xZ0)):Option xZa:=xZ6U N c.1 c.2.1 c.2.2.2.2.2.1 c.2.2.2.2.2.2.1 c.2.2.2.2.2.2.2 (fun u0 u1=>next (u0,u1)) v.1 v.2
abbrev xZgl (N:Nat):((List xZ0)×(List xZ1)×Int×(List UInt8)×Int×Int×(List UInt8)×Int)×(Int×(List xZ0))→Option xZa:=fun a=>loopV (xZcn N a.1) N a.2
def xZ2a:Con tb:=.s 38 [true,true] (.c (.r 3) (.c (.r 3) .n)) (fun N a=>xZ1D N a.1 a.2.1) (R:=Bool) (.p .b) (fun _=>⟨rfl,(by kernel_rfl)⟩)
def xZ1h:LQ tb (((List xZ0)×(List xZ0)×Int)×(Int)):=(LQ.m [] [0,1,12,13] (.c 0 (.r 3) (.c 1 (.r 3) (.c 12 (.i .i64) (.c 13 (.i .i64) .n)))) .n .n).re (fun a=>((a.1.1,a.1.2.1,a.1.2.2.1),a.1.2.2.2.1)) (fun x=>((x.1.1,x.1.2.1,x.1.2.2,x.2,()),(),())) (fun _=>rfl)
def xZ3n (N:Nat) (c:(List xZ0)×(List xZ0)×Int) (next:Int→Option Bool) (v:Int):Option Bool:=xZ1k N c.1 c.2.1 c.2.2 (fun u0=>next u0) v
abbrev xZ7r (N:Nat):((List xZ0)×(List xZ0)×Int)×(Int)→Option Bool:=fun a=>loopV (xZ3n N a.1) N a.2
def xZ2b:Con tb:=.s 111 [true,true] (.c (.r 1) (.c (.r 1) .n)) (fun N a=>xZ2k N a.1 a.2.1) (R:=Bool) (.p .b) (fun _=>⟨rfl,(by kernel_rfl)⟩)
def xZ1i:LQ tb (((List xZ2)×(List xZ2)×Int)×(Int)):=(LQ.m [] [0,1,12,13] (.c 0 (.r 1) (.c 1 (.r 1) (.c 12 (.i .i64) (.c 13 (.i .i64) .n)))) .n .n).re (fun a=>((a.1.1,a.1.2.1,a.1.2.2.1),a.1.2.2.2.1)) (fun x=>((x.1.1,x.1.2.1,x.1.2.2,x.2,()),(),())) (fun _=>rfl)
def xZ3o (N:Nat) (c:(List xZ2)×(List xZ2)×Int) (next:Int→Option Bool) (v:Int):Option Bool:=xZ1l N c.1 c.2.1 c.2.2 (fun u0=>next u0) v
abbrev xZ7s (N:Nat):((List xZ2)×(List xZ2)×Int)×(Int)→Option Bool:=fun a=>loopV (xZ3o N a.1) N a.2
def xZbB:Con tb:=.s 74 [true,true] (.c (.r 1) (.c (.r 1) .n)) (fun N a=>xZ9N N a.1 a.2.1) (R:=Bool) (.p .b) (fun _=>⟨rfl,(by kernel_rfl)⟩)
def xZbx:Con tb:=.s 40 [true,true] (.c (.el tb_ok 2) (.c (.el tb_ok 2) .n)) (fun N a=>xZ9K N a.1 a.2.1) (R:=Bool) (.p .b) (fun _=>⟨rfl,(by kernel_rfl)⟩)
def xZU:Con tb:=.s 39 [true,true,false] (.c (.r 2) (.c (.r 2) (.c (.fn 40 .n .n) .n))) (fun N a=>xZz N a.1 a.2.1) (R:=Bool) (.p .b) (fun _=>⟨rfl,(by kernel_rfl)⟩)
def xZv:LQ tb (((List xZ1)×(List xZ1)×Int)×(Int)):=(LQ.m [] [1,2,15,16,17] (.c 1 (.r 2) (.c 2 (.fn 40 .n .n) (.c 15 (.r 2) (.c 16 (.i .i64) (.c 17 (.i .i64) .n))))) .n .n).re (fun a=>((a.1.1,a.1.2.2.1,a.1.2.2.2.1),a.1.2.2.2.2.1)) (fun x=>((x.1.1,((),()),x.1.2.1,x.1.2.2,x.2,()),(),())) (fun _=>rfl)
def xZ1G (N:Nat) (c:(List xZ1)×(List xZ1)×Int) (next:Int→Option Bool) (v:Int):Option Bool:=xZk N c.1 c.2.1 c.2.2 (fun u0=>next u0) v
abbrev xZ3I (N:Nat):((List xZ1)×(List xZ1)×Int)×(Int)→Option Bool:=fun a=>loopV (xZ1G N a.1) N a.2
def xZbt:Con tb:=.s 14 [true,true] (.c (.el tb_ok 9) (.c (.el tb_ok 9) .n)) (fun N a=>xZ7M N a.1 a.2.1) (R:=Bool) (.p .b) (fun _=>⟨rfl,(by kernel_rfl)⟩)
def xZad:Con tb:=.s 42 [true] (.c (.i .u8) .n) (fun N a=>xZ8u N a.1) (R:=Int) (.p (.i .i64)) (fun _=>⟨rfl,(by kernel_rfl)⟩)
def xZaf:Con tb:=.s 17 [true,true] (.c (.r 3) (.c (.i .i64) .n)) (fun N a=>xZ6c N a.1 a.2.1) (R:=Int) (.p (.i .i64)) (fun _=>⟨rfl,(by kernel_rfl)⟩)
def xZ5u:LQ tb (((List xZ0)×Int)×(Int×Int)):=(LQ.m [] [0,1,5,6] (.c 0 (.r 3) (.c 1 (.i .i64) (.c 5 (.i .i64) (.c 6 (.i .i64) .n)))) .n .n).re (fun a=>((a.1.1,a.1.2.1),(a.1.2.2.1,a.1.2.2.2.1))) (fun x=>((x.1.1,x.1.2,x.2.1,x.2.2,()),(),())) (fun _=>rfl)
def xZb4 (N:Nat) (c:(List xZ0)×Int) (next:(Int×Int)→Option Int) (v:Int×Int):Option Int:=xZ8v N c.1 c.2 (fun u0 u1=>next (u0,u1)) v.1 v.2
abbrev xZfa (N:Nat):((List xZ0)×Int)×(Int×Int)→Option Int:=fun a=>loopV (xZb4 N a.1) N a.2
def xZbw:Con tb:=.s 43 [true] (.c (.el tb_ok 4) .n) (fun N a=>xZ9J N a.1) (R:=Bool) (.p .b) (fun _=>⟨rfl,(by kernel_rfl)⟩)
def xZ7R:Con tb:=.p 19 [true] (.c (.el tb_ok 8) .n) (fun N a=>xZ1T N a.1) (R:=List (List UInt8)) (.p (.r 0)) (fun _=>rfl)
def xZ4h:LQ tb (((List xZ3)×Int)×(Int×(List (List UInt8)))):=(LQ.m [(3,none,0)] [3,10,11,12] (.c 3 (.own 0) (.c 10 (.r 4) (.c 11 (.i .i64) (.c 12 (.i .i64) .n)))) .n (.l 0 .n)).re (fun a=>((a.1.2.1,a.1.2.2.1),(a.1.2.2.2.1,a.2.2.1))) (fun x=>(((),x.1.1,x.1.2,x.2.1,()),(),x.2.2,())) (fun _=>rfl)
def xZ9k (N:Nat) (c:(List xZ3)×Int) (next:(Int×(List (List UInt8)))→Option (List (List UInt8))) (v:Int×(List (List UInt8))):Option (List (List UInt8)):=xZ4i N c.1 c.2 (fun u0 u1=>next (u0,u1)) v.1 v.2
abbrev xZdD (N:Nat):((List xZ3)×Int)×(Int×(List (List UInt8)))→Option (List (List UInt8)):=fun a=>loopV (xZ9k N a.1) N a.2
def xZ7V:Con tb:=.s 46 [true,true] (.c .b (.c .s .n)) (fun N a=>xZ5K N a.1 a.2.1) (R:=List UInt8) (.p .s) (fun _=>⟨rfl,(by kernel_rfl)⟩)
def xZ72:Con tb:=.p 20 [true] (.c (.el tb_ok 8) .n) (fun N a=>xZ1E N a.1) (R:=List (List UInt8)) (.p (.r 0)) (fun _=>rfl)
def xZ3u:LQ tb (((List xZ3)×Int×(List UInt8)×Int)×(Int×(List (List UInt8)))):=(LQ.m [(3,none,0)] [1,3,4] (.c 1 (.ptr 0 0) (.c 3 (.own 0) (.c 4 (.i .i64) .n))) (.c (.c (.r 4) (.c (.i .i64) (.c .s (.c (.i .u8) .n)))) .n) (.l 0 .n)).re (fun a=>((a.2.1.1.1,a.2.1.1.2.1,a.2.1.1.2.2.1,a.2.1.1.2.2.2.1),(a.1.2.2.1,a.2.2.1))) (fun x=>(((),(),x.2.1,()),((x.1.1,x.1.2.1,x.1.2.2.1,x.1.2.2.2,()),()),x.2.2,())) (fun _=>rfl)
def xZ8D (N:Nat) (c:(List xZ3)×Int×(List UInt8)×Int) (next:(Int×(List (List UInt8)))→Option (List (List UInt8))) (v:Int×(List (List UInt8))):Option (List (List UInt8)):=xZ3y N c.1 (fun u0 u1=>next (u0,u1)) v.1 v.2
abbrev xZcT (N:Nat):((List xZ3)×Int×(List UInt8)×Int)×(Int×(List (List UInt8)))→Option (List (List UInt8)):=fun a=>loopV (xZ8D N a.1) N a.2
def xZ51:Con tb:=.s 18 [true,true] (.c (.r 0) (.c (.r 0) .n)) (fun N a=>xZ2n N a.1 a.2.1) (R:=Bool) (.p .b) (fun _=>⟨rfl,(by kernel_rfl)⟩)
def xZ2z:LQ tb (((List (List UInt8))×(List (List UInt8)))×(Int)):=(LQ.m [] [0,1,5] (.c 0 (.r 0) (.c 1 (.r 0) (.c 5 (.i .i64) .n))) .n .n).re (fun a=>((a.1.1,a.1.2.1),a.1.2.2.1)) (fun x=>((x.1.1,x.1.2,x.2,()),(),())) (fun _=>rfl)
def xZ6F (N:Nat) (c:(List (List UInt8))×(List (List UInt8))) (next:Int→Option Bool) (v:Int):Option Bool:=xZ2C N c.1 c.2 (fun u0=>next u0) v
abbrev xZbp (N:Nat):((List (List UInt8))×(List (List UInt8)))×(Int)→Option Bool:=fun a=>loopV (xZ6F N a.1) N a.2
def xZ7x:Con tb:=.s 3 [true,true] (.c (.el tb_ok 8) (.c (.i .i64) .n)) (fun N a=>xZ31 N a.1 a.2.1) (R:=Bool) (.p .b) (fun _=>⟨rfl,(by kernel_rfl)⟩)
end
end
end Go.Proofs.YtmllclbhdmajmaaGreat.B
