/- The code, and what each function of it is walked to. No premise beyond what each theorem says. -/
import Derived.Test.YtbanfalnbhcknaaGreatDoorHG1
set_option linter.all false
set_option linter.unusedSimpArgs false
set_option linter.unusedVariables false
namespace Go.Proofs.YtbanfalnbhcknaaGreatDoor.H
open Go
section
open Go.Proofs.Tryz
set_option maxRecDepth 1000000
noncomputable section
theorem hm:prog.follows .mixedOrders=true:=by kernel_rfl
def eA0 (x:xZ0):AV:=.agg [.v (.int .u8 x.Kind),.v (.int .i64 x.N),.v (.int .u64 x.Bits),.v (.string (bs x.Text))]
def eA1 (x:xZ4):AV:=.agg [.v (.string (bs x.Var)),.v (.int .i64 x.E.Time),.v (.int .i64 x.E.Source),.v (.int .i64 x.E.Seq),.v (.string (bs x.E.Type_)),.sl 4 (List.map eA0 x.E.Vals)]
def eA2 (x:xZb):AV:=.agg [.v (.string (bs x.Name)),.v (.int .u8 x.Kind)]
def eA3 (x:xZ2):AV:=.agg [.v (.string (bs x.Name)),.sl 2 (List.map eA2 x.Fields)]
def eA4 (x:xZ1):AV:=.agg [.v (.int .u8 x.Kind),.v (.int .u8 x.Op),.v (.string (bs x.Var)),.v (.string (bs x.Name)),.v (.int .u8 x.Val.Kind),.v (.int .i64 x.Val.N),.v (.int .u64 x.Val.Bits),.v (.string (bs x.Val.Text))]
def eA5 (x:List xZ1):AV:=.sl 8 (List.map eA4 x)
def eA6 (x:List UInt8):AV:=.v (.string (bs x))
def eA7 (x:xZ3):AV:=.agg [.v (.int .u8 x.Kind),.v (.int .i64 x.At),.v (.string (bs x.Text)),.v (.int .u8 x.Val.Kind),.v (.int .i64 x.Val.N),.v (.int .u64 x.Val.Bits),.v (.string (bs x.Val.Text))]
def eA8 (x:xZ6):AV:=.agg [.v (.int .i64 x.Time),.v (.int .i64 x.Source),.v (.int .i64 x.Seq),.v (.string (bs x.Type_)),.sl 4 (List.map eA0 x.Vals)]
def eA9 (x:xZc):AV:=.agg [.sl 2 (List.map eA3 x.Types),.sl 6 (List.map eA1 x.Bound),.v (.int .i64 x.E.Time),.v (.int .i64 x.E.Source),.v (.int .i64 x.E.Seq),.v (.string (bs x.E.Type_)),.sl 4 (List.map eA0 x.E.Vals)]
def eX10:xZd→AV
 | .lit_ y0=>.ifc 132 (.agg [.v (.int .u8 y0.Kind),.v (.int .i64 y0.N),.v (.int .u64 y0.Bits),.v (.string (bs y0.Text))])
 | .of_ y0 y1=>.ifc 136 (.agg [.v (.string (bs y0)),.v (.string (bs y1))])
 | .own_ y0=>.ifc 134 (.agg [.v (.string (bs y0))])
 | .sum_ y0 y1 y2=>.ifc 138 (.agg [.v (.bool y0),.opq (eX10 y1),.opq (eX10 y2)])
def eA10 (x:xZd):AV:=.opq (eX10 x)
def eA11 (x:xZ1Z):AV:=.agg [.v (.int .u8 x.v.Kind),.v (.int .i64 x.v.N),.v (.int .u64 x.v.Bits),.v (.string (bs x.v.Text))]
def eA12 (x:xZ2M):AV:=.agg [.v (.string (bs x.name)),.v (.string (bs x.field))]
def eA13 (x:xZ20):AV:=.agg [.v (.string (bs x.name))]
def eA14 (x:xZ1j):AV:=.agg [.v (.bool x.minus),.opq (eX10 x.a),.opq (eX10 x.b)]
def eX15:xZ9→AV
 | .and_ y0 y1=>.ifc 125 (.agg [.opq (eX15 y0),.opq (eX15 y1)])
 | .not_ y0=>.ifc 128 (.agg [.opq (eX15 y0)])
 | .or_ y0 y1=>.ifc 126 (.agg [.opq (eX15 y0),.opq (eX15 y1)])
 | .test_ y0 y1 y2=>.ifc 130 (.agg [.v (.int .u8 y0),.opq (eX10 y1),.opq (eX10 y2)])
def eA15 (x:xZ9):AV:=.opq (eX15 x)
def eA16 (x:xZx):AV:=.agg [.v (.int .u8 x.op),.opq (eX10 x.a),.opq (eX10 x.b)]
def eA17 (x:xZi):AV:=.agg [.opq (eX15 x.a),.opq (eX15 x.b)]
def eA18 (x:xZP):AV:=.agg [.opq (eX15 x.a)]
def eA19 (x:xZ1r):AV:=.agg [.v (.bool x.Neg),.v (.string (bs x.Var)),.v (.string (bs x.Type_)),.sl 8 (List.map eA4 x.Test)]
abbrev T:Nat→Type
 | 0=>xZ0
 | 1=>xZ4
 | 2=>xZb
 | 3=>xZ2
 | 4=>xZ1
 | 5=>List xZ1
 | 6=>List UInt8
 | 7=>xZ3
 | 8=>xZ6
 | 9=>xZc
 | 10=>xZd
 | 11=>xZ1Z
 | 12=>xZ2M
 | 13=>xZ20
 | 14=>xZ1j
 | 15=>xZ9
 | 16=>xZx
 | 17=>xZi
 | 18=>xZP
 | 19=>xZ1r
 | _=>Unit
def enc:(i:Nat)→T i→List (BV T)
 | 0=>fun (x:xZ0)=>[.int .u8 x.Kind,.int .i64 x.N,.int .u64 x.Bits,.str x.Text]
 | 1=>fun (x:xZ4)=>[.str x.Var,.int .i64 x.E.Time,.int .i64 x.E.Source,.int .i64 x.E.Seq,.str x.E.Type_,.sl 0 x.E.Vals]
 | 2=>fun (x:xZb)=>[.str x.Name,.int .u8 x.Kind]
 | 3=>fun (x:xZ2)=>[.str x.Name,.sl 2 x.Fields]
 | 4=>fun (x:xZ1)=>[.int .u8 x.Kind,.int .u8 x.Op,.str x.Var,.str x.Name,.int .u8 x.Val.Kind,.int .i64 x.Val.N,.int .u64 x.Val.Bits,.str x.Val.Text]
 | 5=>fun (x:List xZ1)=>[.sl 4 x]
 | 6=>fun (x:List UInt8)=>[.str x]
 | 7=>fun (x:xZ3)=>[.int .u8 x.Kind,.int .i64 x.At,.str x.Text,.int .u8 x.Val.Kind,.int .i64 x.Val.N,.int .u64 x.Val.Bits,.str x.Val.Text]
 | 8=>fun (x:xZ6)=>[.int .i64 x.Time,.int .i64 x.Source,.int .i64 x.Seq,.str x.Type_,.sl 0 x.Vals]
 | 9=>fun (x:xZc)=>[.sl 3 x.Types,.sl 1 x.Bound,.int .i64 x.E.Time,.int .i64 x.E.Source,.int .i64 x.E.Seq,.str x.E.Type_,.sl 0 x.E.Vals]
 | 10=>fun (x:xZd)=>[.tr 10 x]
 | 11=>fun (x:xZ1Z)=>[.int .u8 x.v.Kind,.int .i64 x.v.N,.int .u64 x.v.Bits,.str x.v.Text]
 | 12=>fun (x:xZ2M)=>[.str x.name,.str x.field]
 | 13=>fun (x:xZ20)=>[.str x.name]
 | 14=>fun (x:xZ1j)=>[.bool x.minus,.tr 10 x.a,.tr 10 x.b]
 | 15=>fun (x:xZ9)=>[.tr 15 x]
 | 16=>fun (x:xZx)=>[.int .u8 x.op,.tr 10 x.a,.tr 10 x.b]
 | 17=>fun (x:xZi)=>[.tr 15 x.a,.tr 15 x.b]
 | 18=>fun (x:xZP)=>[.tr 15 x.a]
 | 19=>fun (x:xZ1r)=>[.bool x.Neg,.str x.Var,.str x.Type_,.sl 4 x.Test]
 | _=>fun _=>[]
def dec0:List (BV T)→Option xZ0:=P1 (asInt .u8) fun a0=>P1 (asInt .i64) fun a1=>P1 (asInt .u64) fun a2=>P1 asStr fun a3=>P0 (⟨a0,a1,a2,a3⟩:xZ0)
def dec1:List (BV T)→Option xZ4:=P1 asStr fun a0=>P1 (asInt .i64) fun a1=>P1 (asInt .i64) fun a2=>P1 (asInt .i64) fun a3=>P1 asStr fun a4=>P1 (asRow 0) fun a5=>P0 (⟨a0,⟨a1,a2,a3,a4,a5⟩⟩:xZ4)
def dec2:List (BV T)→Option xZb:=P1 asStr fun a0=>P1 (asInt .u8) fun a1=>P0 (⟨a0,a1⟩:xZb)
def dec3:List (BV T)→Option xZ2:=P1 asStr fun a0=>P1 (asRow 2) fun a1=>P0 (⟨a0,a1⟩:xZ2)
def dec4:List (BV T)→Option xZ1:=P1 (asInt .u8) fun a0=>P1 (asInt .u8) fun a1=>P1 asStr fun a2=>P1 asStr fun a3=>P1 (asInt .u8) fun a4=>P1 (asInt .i64) fun a5=>P1 (asInt .u64) fun a6=>P1 asStr fun a7=>P0 (⟨a0,a1,a2,a3,⟨a4,a5,a6,a7⟩⟩:xZ1)
def dec5:List (BV T)→Option (List xZ1):=P1 (asRow 4) fun a0=>P0 (a0:List xZ1)
def dec6:List (BV T)→Option (List UInt8):=P1 asStr fun a0=>P0 (a0:List UInt8)
def dec7:List (BV T)→Option xZ3:=P1 (asInt .u8) fun a0=>P1 (asInt .i64) fun a1=>P1 asStr fun a2=>P1 (asInt .u8) fun a3=>P1 (asInt .i64) fun a4=>P1 (asInt .u64) fun a5=>P1 asStr fun a6=>P0 (⟨a0,a1,a2,⟨a3,a4,a5,a6⟩⟩:xZ3)
def dec8:List (BV T)→Option xZ6:=P1 (asInt .i64) fun a0=>P1 (asInt .i64) fun a1=>P1 (asInt .i64) fun a2=>P1 asStr fun a3=>P1 (asRow 0) fun a4=>P0 (⟨a0,a1,a2,a3,a4⟩:xZ6)
def dec9:List (BV T)→Option xZc:=P1 (asRow 3) fun a0=>P1 (asRow 1) fun a1=>P1 (asInt .i64) fun a2=>P1 (asInt .i64) fun a3=>P1 (asInt .i64) fun a4=>P1 asStr fun a5=>P1 (asRow 0) fun a6=>P0 (⟨a0,a1,⟨a2,a3,a4,a5,a6⟩⟩:xZc)
def dec10:List (BV T)→Option xZd
 | [.tr j x]=>castT j 10 x
 | _=>none
def fd10 (t:TypeId) (v:BV T):Option xZd:=match Nat.beq t 132 with
 | true=>(match v with | .agg cs=>(P1 (asInt .u8) fun a0=>P1 (asInt .i64) fun a1=>P1 (asInt .u64) fun a2=>P1 asStr fun a3=>P0 (.lit_ ⟨a0,a1,a2,a3⟩:xZd)) cs | _=>none)
 | false=>match Nat.beq t 136 with
 | true=>(match v with | .agg cs=>(P1 asStr fun a0=>P1 asStr fun a1=>P0 (.of_ a0 a1:xZd)) cs | _=>none)
 | false=>match Nat.beq t 134 with
 | true=>(match v with | .agg cs=>(P1 asStr fun a0=>P0 (.own_ a0:xZd)) cs | _=>none)
 | false=>match Nat.beq t 138 with
 | true=>(match v with | .agg cs=>(P1 asBool fun a0=>P1 (asTr 10) fun a1=>P1 (asTr 10) fun a2=>P0 (.sum_ a0 a1 a2:xZd)) cs | _=>none)
 | false=>none
def dec11:List (BV T)→Option xZ1Z:=P1 (asInt .u8) fun a0=>P1 (asInt .i64) fun a1=>P1 (asInt .u64) fun a2=>P1 asStr fun a3=>P0 (⟨⟨a0,a1,a2,a3⟩⟩:xZ1Z)
def dec12:List (BV T)→Option xZ2M:=P1 asStr fun a0=>P1 asStr fun a1=>P0 (⟨a0,a1⟩:xZ2M)
def dec13:List (BV T)→Option xZ20:=P1 asStr fun a0=>P0 (⟨a0⟩:xZ20)
def dec14:List (BV T)→Option xZ1j:=P1 asBool fun a0=>P1 (asTr 10) fun a1=>P1 (asTr 10) fun a2=>P0 (⟨a0,a1,a2⟩:xZ1j)
def dec15:List (BV T)→Option xZ9
 | [.tr j x]=>castT j 15 x
 | _=>none
def fd15 (t:TypeId) (v:BV T):Option xZ9:=match Nat.beq t 125 with
 | true=>(match v with | .agg cs=>(P1 (asTr 15) fun a0=>P1 (asTr 15) fun a1=>P0 (.and_ a0 a1:xZ9)) cs | _=>none)
 | false=>match Nat.beq t 128 with
 | true=>(match v with | .agg cs=>(P1 (asTr 15) fun a0=>P0 (.not_ a0:xZ9)) cs | _=>none)
 | false=>match Nat.beq t 126 with
 | true=>(match v with | .agg cs=>(P1 (asTr 15) fun a0=>P1 (asTr 15) fun a1=>P0 (.or_ a0 a1:xZ9)) cs | _=>none)
 | false=>match Nat.beq t 130 with
 | true=>(match v with | .agg cs=>(P1 (asInt .u8) fun a0=>P1 (asTr 10) fun a1=>P1 (asTr 10) fun a2=>P0 (.test_ a0 a1 a2:xZ9)) cs | _=>none)
 | false=>none
def dec16:List (BV T)→Option xZx:=P1 (asInt .u8) fun a0=>P1 (asTr 10) fun a1=>P1 (asTr 10) fun a2=>P0 (⟨a0,a1,a2⟩:xZx)
def dec17:List (BV T)→Option xZi:=P1 (asTr 15) fun a0=>P1 (asTr 15) fun a1=>P0 (⟨a0,a1⟩:xZi)
def dec18:List (BV T)→Option xZP:=P1 (asTr 15) fun a0=>P0 (⟨a0⟩:xZP)
def dec19:List (BV T)→Option xZ1r:=P1 asBool fun a0=>P1 asStr fun a1=>P1 asStr fun a2=>P1 (asRow 4) fun a3=>P0 (⟨a0,a1,a2,a3⟩:xZ1r)
def dec:(i:Nat)→List (BV T)→Option (T i)
 | 0=>dec0
 | 1=>dec1
 | 2=>dec2
 | 3=>dec3
 | 4=>dec4
 | 5=>dec5
 | 6=>dec6
 | 7=>dec7
 | 8=>dec8
 | 9=>dec9
 | 10=>dec10
 | 11=>dec11
 | 12=>dec12
 | 13=>dec13
 | 14=>dec14
 | 15=>dec15
 | 16=>dec16
 | 17=>dec17
 | 18=>dec18
 | 19=>dec19
 | _=>fun _=>none
def eA:(i:Nat)→T i→AV
 | 0=>eA0
 | 1=>eA1
 | 2=>eA2
 | 3=>eA3
 | 4=>eA4
 | 5=>eA5
 | 6=>eA6
 | 7=>eA7
 | 8=>eA8
 | 9=>eA9
 | 10=>eA10
 | 11=>eA11
 | 12=>eA12
 | 13=>eA13
 | 14=>eA14
 | 15=>eA15
 | 16=>eA16
 | 17=>eA17
 | 18=>eA18
 | 19=>eA19
 | _=>fun _=>.agg []
def eX:(i:Nat)→T i→AV
 | 10=>eX10
 | 15=>eX15
 | _=>fun _=>.any
def el10 (x:xZd) (R:Type) (K:BV T→Option R):Option R:=match x with
 | .lit_ y0=>K (.ifc 132 (.agg [.int .u8 y0.Kind,.int .i64 y0.N,.int .u64 y0.Bits,.str y0.Text]))
 | .of_ y0 y1=>K (.ifc 136 (.agg [.str y0,.str y1]))
 | .own_ y0=>K (.ifc 134 (.agg [.str y0]))
 | .sum_ y0 y1 y2=>K (.ifc 138 (.agg [.bool y0,.tr 10 y1,.tr 10 y2]))
def el15 (x:xZ9) (R:Type) (K:BV T→Option R):Option R:=match x with
 | .and_ y0 y1=>K (.ifc 125 (.agg [.tr 15 y0,.tr 15 y1]))
 | .not_ y0=>K (.ifc 128 (.agg [.tr 15 y0]))
 | .or_ y0 y1=>K (.ifc 126 (.agg [.tr 15 y0,.tr 15 y1]))
 | .test_ y0 y1 y2=>K (.ifc 130 (.agg [.int .u8 y0,.tr 10 y1,.tr 10 y2]))
def el:(i:Nat)→T i→(R:Type)→(BV T→Option R)→Option R
 | 10=>el10
 | 15=>el15
 | _=>fun _ _ _=>none
def fd:(i:Nat)→TypeId→BV T→Option (T i)
 | 10=>fd10
 | 15=>fd15
 | _=>fun _ _=>none
def fol:List (Nat×Nat):=[(132,10),(136,10),(134,10),(138,10),(125,15),(128,15),(126,15),(130,15)]
def tb:Tb T:={k:=fun i=>[4,6,2,2,8,1,1,7,5,7,1,4,2,1,3,1,3,2,1,4].getD i 0,ag:=fun i=>[true,true,true,true,true,false,false,true,true,true,false,true,true,true,true,false,true,true,true,true].getD i true,eA,enc,dec,eX,el,fo:=hintOf fol,fd}
def sbf (k:Nat):Option (List UInt8→(i:Nat)×List (T i)):=none
theorem sb_ok (k:Nat) (f:List UInt8→(i:Nat)×List (T i)) (s:List UInt8) (h:sbf k=some f):k=1∧tb.k (f s).1=1∧(f s).2.map (tb.eA (f s).1)=s.map byteV:=by cases h
def bof (i:Nat) (_:List (T i)):Option (List UInt8):=none
theorem bo_ok (i:Nat) (l:List (T i)) (s:List UInt8) (h:bof i l=some s):tb.k i=1∧∃ m:List Int,l.map (tb.eA i)=m.map u8V∧s=byS m:=by cases h
theorem xZrn (cs:List (BV T)) (x:xZ0) (h:dec0 cs=some x):LWs (BV.avs tb cs) (eA0 x).cells:=by
 obtain ⟨c0,r0,a0,rfl,h0,h⟩:=xZf h
 obtain ⟨c1,r1,a1,rfl,h1,h⟩:=xZf h
 obtain ⟨c2,r2,a2,rfl,h2,h⟩:=xZf h
 obtain ⟨c3,r3,a3,rfl,h3,h⟩:=xZf h
 obtain ⟨rfl,rfl⟩:=xZ2u h
 exact .cons (xZ11 h0) (.cons (xZ11 h1) (.cons (xZ11 h2) (.cons (xZ1R h3) (.nil))))
theorem xZro (cs:List (BV T)) (x:xZ4) (h:dec1 cs=some x):LWs (BV.avs tb cs) (eA1 x).cells:=by
 obtain ⟨c0,r0,a0,rfl,h0,h⟩:=xZf h
 obtain ⟨c1,r1,a1,rfl,h1,h⟩:=xZf h
 obtain ⟨c2,r2,a2,rfl,h2,h⟩:=xZf h
 obtain ⟨c3,r3,a3,rfl,h3,h⟩:=xZf h
 obtain ⟨c4,r4,a4,rfl,h4,h⟩:=xZf h
 obtain ⟨c5,r5,a5,rfl,h5,h⟩:=xZf h
 obtain ⟨rfl,rfl⟩:=xZ2u h
 exact .cons (xZ1R h0) (.cons (xZ11 h1) (.cons (xZ11 h2) (.cons (xZ11 h3) (.cons (xZ1R h4) (.cons (xZ8s h5) (.nil))))))
theorem xZrp (cs:List (BV T)) (x:xZb) (h:dec2 cs=some x):LWs (BV.avs tb cs) (eA2 x).cells:=by
 obtain ⟨c0,r0,a0,rfl,h0,h⟩:=xZf h
 obtain ⟨c1,r1,a1,rfl,h1,h⟩:=xZf h
 obtain ⟨rfl,rfl⟩:=xZ2u h
 exact .cons (xZ1R h0) (.cons (xZ11 h1) (.nil))
theorem xZrq (cs:List (BV T)) (x:xZ2) (h:dec3 cs=some x):LWs (BV.avs tb cs) (eA3 x).cells:=by
 obtain ⟨c0,r0,a0,rfl,h0,h⟩:=xZf h
 obtain ⟨c1,r1,a1,rfl,h1,h⟩:=xZf h
 obtain ⟨rfl,rfl⟩:=xZ2u h
 exact .cons (xZ1R h0) (.cons (xZ8s h1) (.nil))
theorem xZrr (cs:List (BV T)) (x:xZ1) (h:dec4 cs=some x):LWs (BV.avs tb cs) (eA4 x).cells:=by
 obtain ⟨c0,r0,a0,rfl,h0,h⟩:=xZf h
 obtain ⟨c1,r1,a1,rfl,h1,h⟩:=xZf h
 obtain ⟨c2,r2,a2,rfl,h2,h⟩:=xZf h
 obtain ⟨c3,r3,a3,rfl,h3,h⟩:=xZf h
 obtain ⟨c4,r4,a4,rfl,h4,h⟩:=xZf h
 obtain ⟨c5,r5,a5,rfl,h5,h⟩:=xZf h
 obtain ⟨c6,r6,a6,rfl,h6,h⟩:=xZf h
 obtain ⟨c7,r7,a7,rfl,h7,h⟩:=xZf h
 obtain ⟨rfl,rfl⟩:=xZ2u h
 exact .cons (xZ11 h0) (.cons (xZ11 h1) (.cons (xZ1R h2) (.cons (xZ1R h3) (.cons (xZ11 h4) (.cons (xZ11 h5) (.cons (xZ11 h6) (.cons (xZ1R h7) (.nil))))))))
theorem xZrs (cs:List (BV T)) (x:List xZ1) (h:dec5 cs=some x):LWs (BV.avs tb cs) (eA5 x).cells:=by
 obtain ⟨c0,r0,a0,rfl,h0,h⟩:=xZf h
 obtain ⟨rfl,rfl⟩:=xZ2u h
 exact .cons (xZ8s h0) (.nil)
theorem xZrt (cs:List (BV T)) (x:List UInt8) (h:dec6 cs=some x):LWs (BV.avs tb cs) (eA6 x).cells:=by
 obtain ⟨c0,r0,a0,rfl,h0,h⟩:=xZf h
 obtain ⟨rfl,rfl⟩:=xZ2u h
 exact .cons (xZ1R h0) (.nil)
theorem xZru (cs:List (BV T)) (x:xZ3) (h:dec7 cs=some x):LWs (BV.avs tb cs) (eA7 x).cells:=by
 obtain ⟨c0,r0,a0,rfl,h0,h⟩:=xZf h
 obtain ⟨c1,r1,a1,rfl,h1,h⟩:=xZf h
 obtain ⟨c2,r2,a2,rfl,h2,h⟩:=xZf h
 obtain ⟨c3,r3,a3,rfl,h3,h⟩:=xZf h
 obtain ⟨c4,r4,a4,rfl,h4,h⟩:=xZf h
 obtain ⟨c5,r5,a5,rfl,h5,h⟩:=xZf h
 obtain ⟨c6,r6,a6,rfl,h6,h⟩:=xZf h
 obtain ⟨rfl,rfl⟩:=xZ2u h
 exact .cons (xZ11 h0) (.cons (xZ11 h1) (.cons (xZ1R h2) (.cons (xZ11 h3) (.cons (xZ11 h4) (.cons (xZ11 h5) (.cons (xZ1R h6) (.nil)))))))
theorem xZrv (cs:List (BV T)) (x:xZ6) (h:dec8 cs=some x):LWs (BV.avs tb cs) (eA8 x).cells:=by
 obtain ⟨c0,r0,a0,rfl,h0,h⟩:=xZf h
 obtain ⟨c1,r1,a1,rfl,h1,h⟩:=xZf h
 obtain ⟨c2,r2,a2,rfl,h2,h⟩:=xZf h
 obtain ⟨c3,r3,a3,rfl,h3,h⟩:=xZf h
 obtain ⟨c4,r4,a4,rfl,h4,h⟩:=xZf h
 obtain ⟨rfl,rfl⟩:=xZ2u h
 exact .cons (xZ11 h0) (.cons (xZ11 h1) (.cons (xZ11 h2) (.cons (xZ1R h3) (.cons (xZ8s h4) (.nil)))))
theorem xZrw (cs:List (BV T)) (x:xZc) (h:dec9 cs=some x):LWs (BV.avs tb cs) (eA9 x).cells:=by
 obtain ⟨c0,r0,a0,rfl,h0,h⟩:=xZf h
 obtain ⟨c1,r1,a1,rfl,h1,h⟩:=xZf h
 obtain ⟨c2,r2,a2,rfl,h2,h⟩:=xZf h
 obtain ⟨c3,r3,a3,rfl,h3,h⟩:=xZf h
 obtain ⟨c4,r4,a4,rfl,h4,h⟩:=xZf h
 obtain ⟨c5,r5,a5,rfl,h5,h⟩:=xZf h
 obtain ⟨c6,r6,a6,rfl,h6,h⟩:=xZf h
 obtain ⟨rfl,rfl⟩:=xZ2u h
 exact .cons (xZ8s h0) (.cons (xZ8s h1) (.cons (xZ11 h2) (.cons (xZ11 h3) (.cons (xZ11 h4) (.cons (xZ1R h5) (.cons (xZ8s h6) (.nil)))))))
theorem xZpH (cs:List (BV T)) (x:xZd) (h:dec10 cs=some x):LWs (BV.avs tb cs) (eA10 x).cells:=by
 unfold dec10 at h
 split at h
 ·obtain ⟨e,rfl⟩:=xZe0 h;subst e;exact .refl _
 ·cases h
theorem xZrP (ty:TypeId) (v:BV T) (x:xZd) (h:fd10 ty v=some x):∃ y,eX10 x=.ifc ty y∧(v.av tb).dd=true∧LW (v.av tb) y:=by
 unfold fd10 at h
 split at h
 ·rename_i ht;obtain rfl:=Nat.eq_of_beq_eq_true ht
  split at h
  rotate_left
  ·cases h
  obtain ⟨c0,r0,a0,e0,h0,g0⟩:=xZf h
  cases e0
  obtain ⟨c1,r1,a1,e1,h1,g1⟩:=xZf g0
  cases e1
  obtain ⟨c2,r2,a2,e2,h2,g2⟩:=xZf g1
  cases e2
  obtain ⟨c3,r3,a3,e3,h3,g3⟩:=xZf g2
  cases e3
  obtain ⟨e,rfl⟩:=xZ2u g3
  cases e
  exact ⟨_,rfl,xZhq (dds_c (xZfy h0) (dds_c (xZfy h1) (dds_c (xZfy h2) (dds_c (xZfA h3) (rfl))))),.agg (.cons (xZ11 h0) (.cons (xZ11 h1) (.cons (xZ11 h2) (.cons (xZ1R h3) (.nil)))))⟩
 split at h
 ·rename_i ht;obtain rfl:=Nat.eq_of_beq_eq_true ht
  split at h
  rotate_left
  ·cases h
  obtain ⟨c0,r0,a0,e0,h0,g0⟩:=xZf h
  cases e0
  obtain ⟨c1,r1,a1,e1,h1,g1⟩:=xZf g0
  cases e1
  obtain ⟨e,rfl⟩:=xZ2u g1
  cases e
  exact ⟨_,rfl,xZhq (dds_c (xZfA h0) (dds_c (xZfA h1) (rfl))),.agg (.cons (xZ1R h0) (.cons (xZ1R h1) (.nil)))⟩
 split at h
 ·rename_i ht;obtain rfl:=Nat.eq_of_beq_eq_true ht
  split at h
  rotate_left
  ·cases h
  obtain ⟨c0,r0,a0,e0,h0,g0⟩:=xZf h
  cases e0
  obtain ⟨e,rfl⟩:=xZ2u g0
  cases e
  exact ⟨_,rfl,xZhq (dds_c (xZfA h0) (rfl)),.agg (.cons (xZ1R h0) (.nil))⟩
 split at h
 ·rename_i ht;obtain rfl:=Nat.eq_of_beq_eq_true ht
  split at h
  rotate_left
  ·cases h
  obtain ⟨c0,r0,a0,e0,h0,g0⟩:=xZf h
  cases e0
  obtain ⟨c1,r1,a1,e1,h1,g1⟩:=xZf g0
  cases e1
  obtain ⟨c2,r2,a2,e2,h2,g2⟩:=xZf g1
  cases e2
  obtain ⟨e,rfl⟩:=xZ2u g2
  cases e
  exact ⟨_,rfl,xZhq (dds_c (xZnj h0) (dds_c (xZbj h1) (dds_c (xZbj h2) (rfl)))),.agg (.cons (xZfx h0) (.cons (xZ5H h1) (.cons (xZ5H h2) (.nil))))⟩
 cases h
theorem xZpI (cs:List (BV T)) (x:xZ1Z) (h:dec11 cs=some x):LWs (BV.avs tb cs) (eA11 x).cells:=by
 obtain ⟨c0,r0,a0,rfl,h0,h⟩:=xZf h
 obtain ⟨c1,r1,a1,rfl,h1,h⟩:=xZf h
 obtain ⟨c2,r2,a2,rfl,h2,h⟩:=xZf h
 obtain ⟨c3,r3,a3,rfl,h3,h⟩:=xZf h
 obtain ⟨rfl,rfl⟩:=xZ2u h
 exact .cons (xZ11 h0) (.cons (xZ11 h1) (.cons (xZ11 h2) (.cons (xZ1R h3) (.nil))))
theorem xZpJ (cs:List (BV T)) (x:xZ2M) (h:dec12 cs=some x):LWs (BV.avs tb cs) (eA12 x).cells:=by
 obtain ⟨c0,r0,a0,rfl,h0,h⟩:=xZf h
 obtain ⟨c1,r1,a1,rfl,h1,h⟩:=xZf h
 obtain ⟨rfl,rfl⟩:=xZ2u h
 exact .cons (xZ1R h0) (.cons (xZ1R h1) (.nil))
theorem xZpK (cs:List (BV T)) (x:xZ20) (h:dec13 cs=some x):LWs (BV.avs tb cs) (eA13 x).cells:=by
 obtain ⟨c0,r0,a0,rfl,h0,h⟩:=xZf h
 obtain ⟨rfl,rfl⟩:=xZ2u h
 exact .cons (xZ1R h0) (.nil)
theorem xZpL (cs:List (BV T)) (x:xZ1j) (h:dec14 cs=some x):LWs (BV.avs tb cs) (eA14 x).cells:=by
 obtain ⟨c0,r0,a0,rfl,h0,h⟩:=xZf h
 obtain ⟨c1,r1,a1,rfl,h1,h⟩:=xZf h
 obtain ⟨c2,r2,a2,rfl,h2,h⟩:=xZf h
 obtain ⟨rfl,rfl⟩:=xZ2u h
 exact .cons (xZfx h0) (.cons (xZ5H h1) (.cons (xZ5H h2) (.nil)))
theorem xZpM (cs:List (BV T)) (x:xZ9) (h:dec15 cs=some x):LWs (BV.avs tb cs) (eA15 x).cells:=by
 unfold dec15 at h
 split at h
 ·obtain ⟨e,rfl⟩:=xZe0 h;subst e;exact .refl _
 ·cases h
theorem xZrQ (ty:TypeId) (v:BV T) (x:xZ9) (h:fd15 ty v=some x):∃ y,eX15 x=.ifc ty y∧(v.av tb).dd=true∧LW (v.av tb) y:=by
 unfold fd15 at h
 split at h
 ·rename_i ht;obtain rfl:=Nat.eq_of_beq_eq_true ht
  split at h
  rotate_left
  ·cases h
  obtain ⟨c0,r0,a0,e0,h0,g0⟩:=xZf h
  cases e0
  obtain ⟨c1,r1,a1,e1,h1,g1⟩:=xZf g0
  cases e1
  obtain ⟨e,rfl⟩:=xZ2u g1
  cases e
  exact ⟨_,rfl,xZhq (dds_c (xZbj h0) (dds_c (xZbj h1) (rfl))),.agg (.cons (xZ5H h0) (.cons (xZ5H h1) (.nil)))⟩
 split at h
 ·rename_i ht;obtain rfl:=Nat.eq_of_beq_eq_true ht
  split at h
  rotate_left
  ·cases h
  obtain ⟨c0,r0,a0,e0,h0,g0⟩:=xZf h
  cases e0
  obtain ⟨e,rfl⟩:=xZ2u g0
  cases e
  exact ⟨_,rfl,xZhq (dds_c (xZbj h0) (rfl)),.agg (.cons (xZ5H h0) (.nil))⟩
 split at h
 ·rename_i ht;obtain rfl:=Nat.eq_of_beq_eq_true ht
  split at h
  rotate_left
  ·cases h
  obtain ⟨c0,r0,a0,e0,h0,g0⟩:=xZf h
  cases e0
  obtain ⟨c1,r1,a1,e1,h1,g1⟩:=xZf g0
  cases e1
  obtain ⟨e,rfl⟩:=xZ2u g1
  cases e
  exact ⟨_,rfl,xZhq (dds_c (xZbj h0) (dds_c (xZbj h1) (rfl))),.agg (.cons (xZ5H h0) (.cons (xZ5H h1) (.nil)))⟩
 split at h
 ·rename_i ht;obtain rfl:=Nat.eq_of_beq_eq_true ht
  split at h
  rotate_left
  ·cases h
  obtain ⟨c0,r0,a0,e0,h0,g0⟩:=xZf h
  cases e0
  obtain ⟨c1,r1,a1,e1,h1,g1⟩:=xZf g0
  cases e1
  obtain ⟨c2,r2,a2,e2,h2,g2⟩:=xZf g1
  cases e2
  obtain ⟨e,rfl⟩:=xZ2u g2
  cases e
  exact ⟨_,rfl,xZhq (dds_c (xZfy h0) (dds_c (xZbj h1) (dds_c (xZbj h2) (rfl)))),.agg (.cons (xZ11 h0) (.cons (xZ5H h1) (.cons (xZ5H h2) (.nil))))⟩
 cases h
theorem xZpN (cs:List (BV T)) (x:xZx) (h:dec16 cs=some x):LWs (BV.avs tb cs) (eA16 x).cells:=by
 obtain ⟨c0,r0,a0,rfl,h0,h⟩:=xZf h
 obtain ⟨c1,r1,a1,rfl,h1,h⟩:=xZf h
 obtain ⟨c2,r2,a2,rfl,h2,h⟩:=xZf h
 obtain ⟨rfl,rfl⟩:=xZ2u h
 exact .cons (xZ11 h0) (.cons (xZ5H h1) (.cons (xZ5H h2) (.nil)))
theorem xZpO (cs:List (BV T)) (x:xZi) (h:dec17 cs=some x):LWs (BV.avs tb cs) (eA17 x).cells:=by
 obtain ⟨c0,r0,a0,rfl,h0,h⟩:=xZf h
 obtain ⟨c1,r1,a1,rfl,h1,h⟩:=xZf h
 obtain ⟨rfl,rfl⟩:=xZ2u h
 exact .cons (xZ5H h0) (.cons (xZ5H h1) (.nil))
theorem xZpP (cs:List (BV T)) (x:xZP) (h:dec18 cs=some x):LWs (BV.avs tb cs) (eA18 x).cells:=by
 obtain ⟨c0,r0,a0,rfl,h0,h⟩:=xZf h
 obtain ⟨rfl,rfl⟩:=xZ2u h
 exact .cons (xZ5H h0) (.nil)
theorem xZpQ (cs:List (BV T)) (x:xZ1r) (h:dec19 cs=some x):LWs (BV.avs tb cs) (eA19 x).cells:=by
 obtain ⟨c0,r0,a0,rfl,h0,h⟩:=xZf h
 obtain ⟨c1,r1,a1,rfl,h1,h⟩:=xZf h
 obtain ⟨c2,r2,a2,rfl,h2,h⟩:=xZf h
 obtain ⟨c3,r3,a3,rfl,h3,h⟩:=xZf h
 obtain ⟨rfl,rfl⟩:=xZ2u h
 exact .cons (xZfx h0) (.cons (xZ1R h1) (.cons (xZ1R h2) (.cons (xZ8s h3) (.nil))))
theorem el_ok:∀ (i:Nat) (x:T i) (R:Type) (K:BV T→Option R) (r:R),el i x R K=some r→∃ z,z.av tb=eX i x∧K z=some r
 | 0,x,R,K,r,h=>by cases h
 | 1,x,R,K,r,h=>by cases h
 | 2,x,R,K,r,h=>by cases h
 | 3,x,R,K,r,h=>by cases h
 | 4,x,R,K,r,h=>by cases h
 | 5,x,R,K,r,h=>by cases h
 | 6,x,R,K,r,h=>by cases h
 | 7,x,R,K,r,h=>by cases h
 | 8,x,R,K,r,h=>by cases h
 | 9,x,R,K,r,h=>by cases h
 | 10,x,R,K,r,h=>by cases x<;>exact ⟨_,by kernel_rfl,h⟩
 | 11,x,R,K,r,h=>by cases h
 | 12,x,R,K,r,h=>by cases h
 | 13,x,R,K,r,h=>by cases h
 | 14,x,R,K,r,h=>by cases h
 | 15,x,R,K,r,h=>by cases x<;>exact ⟨_,by kernel_rfl,h⟩
 | 16,x,R,K,r,h=>by cases h
 | 17,x,R,K,r,h=>by cases h
 | 18,x,R,K,r,h=>by cases h
 | 19,x,R,K,r,h=>by cases h
 | n+20,x,R,K,r,h=>by cases h
theorem fd_ok:∀ (i:Nat) (ty:TypeId) (v:BV T) (x:T i),fd i ty v=some x→∃ y,eX i x=.ifc ty y∧(v.av tb).dd=true∧LW (v.av tb) y
 | 0,ty,v,x,h=>by cases h
 | 1,ty,v,x,h=>by cases h
 | 2,ty,v,x,h=>by cases h
 | 3,ty,v,x,h=>by cases h
 | 4,ty,v,x,h=>by cases h
 | 5,ty,v,x,h=>by cases h
 | 6,ty,v,x,h=>by cases h
 | 7,ty,v,x,h=>by cases h
 | 8,ty,v,x,h=>by cases h
 | 9,ty,v,x,h=>by cases h
 | 10,ty,v,x,h=>xZrP ty v x h
 | 11,ty,v,x,h=>by cases h
 | 12,ty,v,x,h=>by cases h
 | 13,ty,v,x,h=>by cases h
 | 14,ty,v,x,h=>by cases h
 | 15,ty,v,x,h=>xZrQ ty v x h
 | 16,ty,v,x,h=>by cases h
 | 17,ty,v,x,h=>by cases h
 | 18,ty,v,x,h=>by cases h
 | 19,ty,v,x,h=>by cases h
 | n+20,ty,v,x,h=>by cases h
theorem tb_ok:tb.Ok where
 enc:=fun i x=>match i with | 0=>(by kernel_rfl) | 1=>(by kernel_rfl) | 2=>(by kernel_rfl) | 3=>(by kernel_rfl) | 4=>(by kernel_rfl) | 5=>(by kernel_rfl) | 6=>(by kernel_rfl) | 7=>(by kernel_rfl) | 8=>(by kernel_rfl) | 9=>(by kernel_rfl) | 10=>(by kernel_rfl) | 11=>(by kernel_rfl) | 12=>(by kernel_rfl) | 13=>(by kernel_rfl) | 14=>(by kernel_rfl) | 15=>(by kernel_rfl) | 16=>(by kernel_rfl) | 17=>(by kernel_rfl) | 18=>(by kernel_rfl) | 19=>(by kernel_rfl) | n+20=>(by kernel_rfl)
 len:=fun i x=>match i with | 0=>(by kernel_rfl) | 1=>(by kernel_rfl) | 2=>(by kernel_rfl) | 3=>(by kernel_rfl) | 4=>(by kernel_rfl) | 5=>(by kernel_rfl) | 6=>(by kernel_rfl) | 7=>(by kernel_rfl) | 8=>(by kernel_rfl) | 9=>(by kernel_rfl) | 10=>(by kernel_rfl) | 11=>(by kernel_rfl) | 12=>(by kernel_rfl) | 13=>(by kernel_rfl) | 14=>(by kernel_rfl) | 15=>(by kernel_rfl) | 16=>(by kernel_rfl) | 17=>(by kernel_rfl) | 18=>(by kernel_rfl) | 19=>(by kernel_rfl) | n+20=>(by kernel_rfl)
 one:=fun i x=>match i with | 0=>(by kernel_rfl) | 1=>(by kernel_rfl) | 2=>(by kernel_rfl) | 3=>(by kernel_rfl) | 4=>(by kernel_rfl) | 5=>(by kernel_rfl) | 6=>(by kernel_rfl) | 7=>(by kernel_rfl) | 8=>(by kernel_rfl) | 9=>(by kernel_rfl) | 10=>(by kernel_rfl) | 11=>(by kernel_rfl) | 12=>(by kernel_rfl) | 13=>(by kernel_rfl) | 14=>(by kernel_rfl) | 15=>(by kernel_rfl) | 16=>(by kernel_rfl) | 17=>(by kernel_rfl) | 18=>(by kernel_rfl) | 19=>(by kernel_rfl) | n+20=>(by kernel_rfl)
 dat:=fun i x=>match i with | 0=>(by kernel_rfl) | 1=>(by kernel_rfl) | 2=>(by kernel_rfl) | 3=>(by kernel_rfl) | 4=>(by kernel_rfl) | 5=>(by kernel_rfl) | 6=>(by kernel_rfl) | 7=>(by kernel_rfl) | 8=>(by kernel_rfl) | 9=>(by kernel_rfl) | 10=>(by kernel_rfl) | 11=>(by kernel_rfl) | 12=>(by kernel_rfl) | 13=>(by kernel_rfl) | 14=>(by kernel_rfl) | 15=>(by kernel_rfl) | 16=>(by kernel_rfl) | 17=>(by kernel_rfl) | 18=>(by kernel_rfl) | 19=>(by kernel_rfl) | n+20=>(by kernel_rfl)
 sg:=fun i x h=>match i with | 0=>(by cases h) | 1=>(by cases h) | 2=>(by cases h) | 3=>(by cases h) | 4=>(by cases h) | 5=>(by kernel_rfl) | 6=>(by kernel_rfl) | 7=>(by cases h) | 8=>(by cases h) | 9=>(by cases h) | 10=>(by kernel_rfl) | 11=>(by cases h) | 12=>(by cases h) | 13=>(by cases h) | 14=>(by cases h) | 15=>(by kernel_rfl) | 16=>(by cases h) | 17=>(by cases h) | 18=>(by cases h) | 19=>(by cases h) | n+20=>(by cases h)
 ag:=fun i x h=>match i with | 0=>(by kernel_rfl) | 1=>(by kernel_rfl) | 2=>(by kernel_rfl) | 3=>(by kernel_rfl) | 4=>(by kernel_rfl) | 5=>(by cases h) | 6=>(by cases h) | 7=>(by kernel_rfl) | 8=>(by kernel_rfl) | 9=>(by kernel_rfl) | 10=>(by cases h) | 11=>(by kernel_rfl) | 12=>(by kernel_rfl) | 13=>(by kernel_rfl) | 14=>(by kernel_rfl) | 15=>(by cases h) | 16=>(by kernel_rfl) | 17=>(by kernel_rfl) | 18=>(by kernel_rfl) | 19=>(by kernel_rfl) | n+20=>(by kernel_rfl)
 dec:=fun i=>match i with | 0=>xZrn | 1=>xZro | 2=>xZrp | 3=>xZrq | 4=>xZrr | 5=>xZrs | 6=>xZrt | 7=>xZru | 8=>xZrv | 9=>xZrw | 10=>xZpH | 11=>xZpI | 12=>xZpJ | 13=>xZpK | 14=>xZpL | 15=>xZpM | 16=>xZpN | 17=>xZpO | 18=>xZpP | 19=>xZpQ | n+20=>fun cs x h=>(by cases h)
 el:=el_ok
 fd:=fd_ok
def xZ70:Con tb:=.s 21 [true] (.c (.el tb_ok 0) .n) (fun N a=>xZ5u N a.1) (R:=Int) (.p (.i .i64)) (fun _=>⟨rfl,(by kernel_rfl)⟩)
def xZaA:Con tb:=.s 6 [true] (.c (.r 4) .n) (fun N a=>xZ8J N a.1) (R:=Int) (.p (.i .i64)) (fun _=>⟨rfl,(by kernel_rfl)⟩)
def xZ63:LQ tb (((List xZ1))×(Int)):=(LQ.m [] [0,3] (.c 0 (.r 4) (.c 3 (.i .i64) .n)) .n .n).re (fun a=>(a.1.1,a.1.2.1)) (fun x=>((x.1,x.2,()),(),())) (fun _=>rfl)
def xZbA (N:Nat) (c:(List xZ1)) (next:Int→Option Int) (v:Int):Option Int:=xZ6e N c (fun u0=>next u0) v
abbrev xZgi (N:Nat):((List xZ1))×(Int)→Option Int:=fun a=>loopV (xZbA N a.1) N a.2
def xZq:Con tb:=.m 156 [false] (.c (.ptr 0 0) .n) (.c (.c (.r 7) (.c (.i .i64) (.c (.i .i64) .n))) .n) .n (fun N a=>xZr N a.2.1.1.1 a.2.1.1.2.1 a.2.1.1.2.2.1) (R:=xZ3×List xZ3×Int×Int) (.m (R:=xZ3×List xZ3×Int×Int) (.el tb_ok 7) (.c (.c (.r 7) (.c (.i .i64) (.c (.i .i64) .n))) .n) .n (fun z=>(z.1,z.2.1.1.1,z.2.1.1.2.1,z.2.1.1.2.2.1)) (fun r=>(r.1,((r.2.1,r.2.2.1,r.2.2.2,()),()),())) (fun _=>rfl))
def xZ1Q:Con tb:=.m 89 [false] (.c (.ptr 0 0) .n) (.c (.c (.r 7) (.c (.i .i64) (.c (.i .i64) .n))) .n) .n (fun N a=>xZn N a.2.1.1.1 a.2.1.1.2.1 a.2.1.1.2.2.1) (R:=Int×List xZ3×Int×Int) (.m (R:=Int×List xZ3×Int×Int) (.i .i64) (.c (.c (.r 7) (.c (.i .i64) (.c (.i .i64) .n))) .n) .n (fun z=>(z.1,z.2.1.1.1,z.2.1.1.2.1,z.2.1.1.2.2.1)) (fun r=>(r.1,((r.2.1,r.2.2.1,r.2.2.2,()),()),())) (fun _=>rfl))
def xZz:Con tb:=.m 167 [false,true] (.c (.ptr 0 0) (.c (.i .i64) .n)) (.c (.c (.r 7) (.c (.i .i64) (.c (.i .i64) .n))) .n) .n (fun N a=>xZk N a.1.2.1 a.2.1.1.1 a.2.1.1.2.1 a.2.1.1.2.2.1) (R:=Int×Int×List xZ3×Int×Int) (.m (R:=Int×Int×List xZ3×Int×Int) (.ifc 16777417 (.ag (.c (.i .i64) (.c (.i .i64) .n)))) (.c (.c (.r 7) (.c (.i .i64) (.c (.i .i64) .n))) .n) .n (fun z=>(z.1.1,z.1.2.1,z.2.1.1.1,z.2.1.1.2.1,z.2.1.1.2.2.1)) (fun r=>((r.1,r.2.1,()),((r.2.2.1,r.2.2.2.1,r.2.2.2.2,()),()),())) (fun _=>rfl))
def xZ1K:Con tb:=.m 166 [false,true] (.c (.ptr 0 0) (.c (.i .i64) .n)) (.c (.c (.r 7) (.c (.i .i64) (.c (.i .i64) .n))) .n) .n (fun N a=>xZ2Q N a.1.2.1 a.2.1.1.1 a.2.1.1.2.1 a.2.1.1.2.2.1) (R:=(Int×Int×List xZ3×Int×Int)⊕(List xZ3×Int×Int)) (.or (.m (R:=Int×Int×List xZ3×Int×Int) (.ifc 16777417 (.ag (.c (.i .i64) (.c (.i .i64) .n)))) (.c (.c (.r 7) (.c (.i .i64) (.c (.i .i64) .n))) .n) .n (fun z=>(z.1.1,z.1.2.1,z.2.1.1.1,z.2.1.1.2.1,z.2.1.1.2.2.1)) (fun r=>((r.1,r.2.1,()),((r.2.2.1,r.2.2.2.1,r.2.2.2.2,()),()),())) (fun _=>rfl)) (.m (R:=List xZ3×Int×Int) (.tu .n) (.c (.c (.r 7) (.c (.i .i64) (.c (.i .i64) .n))) .n) .n (fun z=>(z.2.1.1.1,z.2.1.1.2.1,z.2.1.1.2.2.1)) (fun r=>((),((r.1,r.2.1,r.2.2,()),()),())) (fun _=>rfl)))
def xZt:Con tb:=.m 131 [false,true,true] (.c (.ptr 0 0) (.c (.i .u8) (.c .s .n))) (.c (.c (.r 7) (.c (.i .i64) (.c (.i .i64) .n))) .n) .n (fun N a=>xZg N a.1.2.1 a.1.2.2.1 a.2.1.1.1 a.2.1.1.2.1 a.2.1.1.2.2.1) (R:=Bool×List xZ3×Int×Int) (.m (R:=Bool×List xZ3×Int×Int) .b (.c (.c (.r 7) (.c (.i .i64) (.c (.i .i64) .n))) .n) .n (fun z=>(z.1,z.2.1.1.1,z.2.1.1.2.1,z.2.1.1.2.2.1)) (fun r=>(r.1,((r.2.1,r.2.2.1,r.2.2.2,()),()),())) (fun _=>rfl))
def xZ24:Con tb:=.m 171 [false,true] (.c .e (.c (.i .i64) .n)) .n .n (fun N a=>xZ1o N a.1.2.1) (R:=List xZ1) (.m (R:=List xZ1) (.own 0) .n (.l 4 .n) (fun z=>z.2.2.1) (fun r=>((),(),r,())) (fun _=>rfl))
def xZ2o:Con tb:=.p 157 [true] (.c (.r 5) .n) (fun N a=>xZ4l N a.1) (R:=(List UInt8)⊕(List xZ1)) (.or (.p (.ifc 16777225 .s)) (.p (.r 4))) (fun r=>by rcases r with _ | _<;>exact rfl)
def xZ1l:LQ tb (((List (List xZ1))×(List (List xZ1))×Int)×(Int×Int)):=(LQ.m [] [0,3,9,10,11] (.c 0 (.r 5) (.c 3 (.i .i64) (.c 9 (.r 5) (.c 10 (.i .i64) (.c 11 (.i .i64) .n))))) .n .n).re (fun a=>((a.1.1,a.1.2.2.1,a.1.2.2.2.1),(a.1.2.1,a.1.2.2.2.2.1))) (fun x=>((x.1.1,x.2.1,x.1.2.1,x.1.2.2,x.2.2,()),(),())) (fun _=>rfl)
def xZ1m:LQ tb (((List (List xZ1))×Int)×(Int×(List xZ1))):=(LQ.m [] [6,25,26,27] (.c 6 (.own 0) (.c 25 (.r 5) (.c 26 (.i .i64) (.c 27 (.i .i64) .n)))) .n (.l 4 .n)).re (fun a=>((a.1.2.1,a.1.2.2.1),(a.1.2.2.2.1,a.2.2.1))) (fun x=>(((),x.1.1,x.1.2,x.2.1,()),(),x.2.2,())) (fun _=>rfl)
def xZ3u (N:Nat) (c:(List (List xZ1))×Int) (next:(Int×(List xZ1))→Option ((List UInt8)⊕(List xZ1))) (v:Int×(List xZ1)):Option ((List UInt8)⊕(List xZ1)):=xZ3z N c.1 c.2 (fun u0 u1=>next (u0,u1)) v.1 v.2
abbrev xZ6X (N:Nat):((List (List xZ1))×Int)×(Int×(List xZ1))→Option ((List UInt8)⊕(List xZ1)):=fun a=>loopV (xZ3u N a.1) N a.2
def xZ3t (N:Nat) (c:(List (List xZ1))×(List (List xZ1))×Int) (next:(Int×Int)→Option ((List UInt8)⊕(List xZ1))) (v:Int×Int):Option ((List UInt8)⊕(List xZ1)):=xZ3y N c.1 c.2.1 c.2.2 (fun u0 u1=>next (u0,u1)) v.1 v.2
abbrev xZ6W (N:Nat):((List (List xZ1))×(List (List xZ1))×Int)×(Int×Int)→Option ((List UInt8)⊕(List xZ1)):=fun a=>loopV (xZ3t N a.1) N a.2
def xZ2n:Con tb:=.p 132 [true,true] (.c (.el tb_ok 4) (.c (.r 5) .n)) (fun N a=>xZ1V N a.1 a.2.1) (R:=List xZ1) (.p (.r 4)) (fun _=>rfl)
def xZ1h:Con tb:=.m 170 [false,true] (.c (.ptr 0 0) (.c (.i .u8) .n)) (.c (.c (.r 7) (.c (.i .i64) (.c (.i .i64) .n))) .n) .n (fun N a=>xZS N a.1.2.1 a.2.1.1.1 a.2.1.1.2.1 a.2.1.1.2.2.1) (R:=(Int×Int×List xZ3×Int×Int)⊕(xZ3×List xZ3×Int×Int)) (.or (.m (R:=Int×Int×List xZ3×Int×Int) (.ifc 16777417 (.ag (.c (.i .i64) (.c (.i .i64) .n)))) (.c (.c (.r 7) (.c (.i .i64) (.c (.i .i64) .n))) .n) .n (fun z=>(z.1.1,z.1.2.1,z.2.1.1.1,z.2.1.1.2.1,z.2.1.1.2.2.1)) (fun r=>((r.1,r.2.1,()),((r.2.2.1,r.2.2.2.1,r.2.2.2.2,()),()),())) (fun _=>rfl)) (.m (R:=xZ3×List xZ3×Int×Int) (.el tb_ok 7) (.c (.c (.r 7) (.c (.i .i64) (.c (.i .i64) .n))) .n) .n (fun z=>(z.1,z.2.1.1.1,z.2.1.1.2.1,z.2.1.1.2.2.1)) (fun r=>(r.1,((r.2.1,r.2.2.1,r.2.2.2,()),()),())) (fun _=>rfl)))
def xZ22:Con tb:=.m 174 [false] (.c (.ptr 0 0) .n) (.c (.c (.r 7) (.c (.i .i64) (.c (.i .i64) .n))) .n) .n (fun N a=>xZ1n N a.2.1.1.1 a.2.1.1.2.1 a.2.1.1.2.2.1) (R:=(Int×Int×List xZ3×Int×Int)⊕(List xZ1×List xZ3×Int×Int)) (.or (.m (R:=Int×Int×List xZ3×Int×Int) (.ifc 16777417 (.ag (.c (.i .i64) (.c (.i .i64) .n)))) (.c (.c (.r 7) (.c (.i .i64) (.c (.i .i64) .n))) .n) .n (fun z=>(z.1.1,z.1.2.1,z.2.1.1.1,z.2.1.1.2.1,z.2.1.1.2.2.1)) (fun r=>((r.1,r.2.1,()),((r.2.2.1,r.2.2.2.1,r.2.2.2.2,()),()),())) (fun _=>rfl)) (.m (R:=List xZ1×List xZ3×Int×Int) (.r 4) (.c (.c (.r 7) (.c (.i .i64) (.c (.i .i64) .n))) .n) .n (fun z=>(z.1,z.2.1.1.1,z.2.1.1.2.1,z.2.1.1.2.2.1)) (fun r=>(r.1,((r.2.1,r.2.2.1,r.2.2.2,()),()),())) (fun _=>rfl)))
def xZ2c:Con tb:=.m 168 [false] (.c (.ptr 0 0) .n) (.c (.c (.r 7) (.c (.i .i64) (.c (.i .i64) .n))) .n) .n (fun N a=>xZ2i N a.2.1.1.1 a.2.1.1.2.1 a.2.1.1.2.2.1) (R:=(Int×Int×List xZ3×Int×Int)⊕(List xZ1×List xZ3×Int×Int)) (.or (.m (R:=Int×Int×List xZ3×Int×Int) (.ifc 16777417 (.ag (.c (.i .i64) (.c (.i .i64) .n)))) (.c (.c (.r 7) (.c (.i .i64) (.c (.i .i64) .n))) .n) .n (fun z=>(z.1.1,z.1.2.1,z.2.1.1.1,z.2.1.1.2.1,z.2.1.1.2.2.1)) (fun r=>((r.1,r.2.1,()),((r.2.2.1,r.2.2.2.1,r.2.2.2.2,()),()),())) (fun _=>rfl)) (.m (R:=List xZ1×List xZ3×Int×Int) (.r 4) (.c (.c (.r 7) (.c (.i .i64) (.c (.i .i64) .n))) .n) .n (fun z=>(z.1,z.2.1.1.1,z.2.1.1.2.1,z.2.1.1.2.2.1)) (fun r=>(r.1,((r.2.1,r.2.2.1,r.2.2.2,()),()),())) (fun _=>rfl)))
def xZ1c:LQ tb ((Unit)×((List xZ1)×(List xZ3)×Int×Int)):=(LQ.m [] [0,3] (.c 0 (.ptr 0 0) (.c 3 (.r 4) .n)) (.c (.c (.r 7) (.c (.i .i64) (.c (.i .i64) .n))) .n) .n).re (fun a=>((),(a.1.2.1,a.2.1.1.1,a.2.1.1.2.1,a.2.1.1.2.2.1))) (fun x=>(((),x.2.1,()),((x.2.2.1,x.2.2.2.1,x.2.2.2.2,()),()),())) (fun _=>rfl)
def xZ30 (N:Nat) (c:Unit) (next:((List xZ1)×(List xZ3)×Int×Int)→Option ((Int×Int×List xZ3×Int×Int)⊕(List xZ1×List xZ3×Int×Int))) (v:(List xZ1)×(List xZ3)×Int×Int):Option ((Int×Int×List xZ3×Int×Int)⊕(List xZ1×List xZ3×Int×Int)):=xZ39 N (fun u0 u1 u2 u3=>next (u0,u1,u2,u3)) v.1 v.2.1 v.2.2.1 v.2.2.2
abbrev xZ6v (N:Nat):(Unit)×((List xZ1)×(List xZ3)×Int×Int)→Option ((Int×Int×List xZ3×Int×Int)⊕(List xZ1×List xZ3×Int×Int)):=fun a=>loopV (xZ30 N a.1) N a.2
def xZ5M:Con tb:=.s 60 [true] (.c (.i .u8) .n) (fun N a=>xZ3i N a.1) (R:=List UInt8) (.p .s) (fun _=>⟨rfl,(by kernel_rfl)⟩)
def xZaw:Con tb:=.s 169 [true] (.c .s .n) (fun N a=>xZeq N a.1) (R:=Int) (.p (.i .u8)) (fun _=>⟨rfl,(by kernel_rfl)⟩)
def xZ5Z:LQ tb (((List UInt8))×(Int)):=(LQ.m [] [0,3] (.c 0 .s (.c 3 (.i .u8) .n)) .n .n).re (fun a=>(a.1.1,a.1.2.1)) (fun x=>((x.1,x.2,()),(),())) (fun _=>rfl)
def xZbu (N:Nat) (c:(List UInt8)) (next:Int→Option Int) (v:Int):Option Int:=xZbU N c (fun u0=>next u0) v
abbrev xZgc (N:Nat):((List UInt8))×(Int)→Option Int:=fun a=>loopV (xZbu N a.1) N a.2
def xZ1B:Con tb:=.m 91 [false,true] (.c (.ptr 0 0) (.c (.i .i64) .n)) (.c (.c (.r 7) (.c (.i .i64) (.c (.i .i64) .n))) .n) .n (fun N a=>xZI N a.1.2.1 a.2.1.1.1 a.2.1.1.2.1 a.2.1.1.2.2.1) (R:=(Int×Int×List xZ3×Int×Int)⊕(List xZ1×List xZ3×Int×Int)) (.or (.m (R:=Int×Int×List xZ3×Int×Int) (.ifc 16777417 (.ag (.c (.i .i64) (.c (.i .i64) .n)))) (.c (.c (.r 7) (.c (.i .i64) (.c (.i .i64) .n))) .n) .n (fun z=>(z.1.1,z.1.2.1,z.2.1.1.1,z.2.1.1.2.1,z.2.1.1.2.2.1)) (fun r=>((r.1,r.2.1,()),((r.2.2.1,r.2.2.2.1,r.2.2.2.2,()),()),())) (fun _=>rfl)) (.m (R:=List xZ1×List xZ3×Int×Int) (.r 4) (.c (.c (.r 7) (.c (.i .i64) (.c (.i .i64) .n))) .n) .n (fun z=>(z.1,z.2.1.1.1,z.2.1.1.2.1,z.2.1.1.2.2.1)) (fun r=>(r.1,((r.2.1,r.2.2.1,r.2.2.2,()),()),())) (fun _=>rfl)))
def xZ1k:LQ tb ((Int)×((List xZ1)×(List xZ3)×Int×Int)):=(LQ.m [] [0,1,5] (.c 0 (.ptr 0 0) (.c 1 (.i .i64) (.c 5 (.r 4) .n))) (.c (.c (.r 7) (.c (.i .i64) (.c (.i .i64) .n))) .n) .n).re (fun a=>(a.1.2.1,(a.1.2.2.1,a.2.1.1.1,a.2.1.1.2.1,a.2.1.1.2.2.1))) (fun x=>(((),x.1,x.2.1,()),((x.2.2.1,x.2.2.2.1,x.2.2.2.2,()),()),())) (fun _=>rfl)
def xZ3s (N:Nat) (c:Int) (next:((List xZ1)×(List xZ3)×Int×Int)→Option ((Int×Int×List xZ3×Int×Int)⊕(List xZ1×List xZ3×Int×Int))) (v:(List xZ1)×(List xZ3)×Int×Int):Option ((Int×Int×List xZ3×Int×Int)⊕(List xZ1×List xZ3×Int×Int)):=xZ3w N (xZW N) c (fun u0 u1 u2 u3=>next (u0,u1,u2,u3)) v.1 v.2.1 v.2.2.1 v.2.2.2
abbrev xZ6V (N:Nat):(Int)×((List xZ1)×(List xZ3)×Int×Int)→Option ((Int×Int×List xZ3×Int×Int)⊕(List xZ1×List xZ3×Int×Int)):=fun a=>loopV (xZ3s N a.1) N a.2
def xZ2b:Con tb:=.m 130 [false,true] (.c (.ptr 0 0) (.c (.i .i64) .n)) (.c (.c (.r 7) (.c (.i .i64) (.c (.i .i64) .n))) .n) .n (fun N a=>xZ7T N a.1.2.1 a.2.1.1.1 a.2.1.1.2.1 a.2.1.1.2.2.1) (R:=(Int×Int×List xZ3×Int×Int)⊕(List xZ1×List xZ3×Int×Int)) (.or (.m (R:=Int×Int×List xZ3×Int×Int) (.ifc 16777417 (.ag (.c (.i .i64) (.c (.i .i64) .n)))) (.c (.c (.r 7) (.c (.i .i64) (.c (.i .i64) .n))) .n) .n (fun z=>(z.1.1,z.1.2.1,z.2.1.1.1,z.2.1.1.2.1,z.2.1.1.2.2.1)) (fun r=>((r.1,r.2.1,()),((r.2.2.1,r.2.2.2.1,r.2.2.2.2,()),()),())) (fun _=>rfl)) (.m (R:=List xZ1×List xZ3×Int×Int) (.r 4) (.c (.c (.r 7) (.c (.i .i64) (.c (.i .i64) .n))) .n) .n (fun z=>(z.1,z.2.1.1.1,z.2.1.1.2.1,z.2.1.1.2.2.1)) (fun r=>(r.1,((r.2.1,r.2.2.1,r.2.2.2,()),()),())) (fun _=>rfl)))
def xZ1b:LQ tb ((Int)×((List xZ1)×(List xZ3)×Int×Int)):=(LQ.m [] [0,1,5] (.c 0 (.ptr 0 0) (.c 1 (.i .i64) (.c 5 (.r 4) .n))) (.c (.c (.r 7) (.c (.i .i64) (.c (.i .i64) .n))) .n) .n).re (fun a=>(a.1.2.1,(a.1.2.2.1,a.2.1.1.1,a.2.1.1.2.1,a.2.1.1.2.2.1))) (fun x=>(((),x.1,x.2.1,()),((x.2.2.1,x.2.2.2.1,x.2.2.2.2,()),()),())) (fun _=>rfl)
def xZ2Z (N:Nat) (c:Int) (next:((List xZ1)×(List xZ3)×Int×Int)→Option ((Int×Int×List xZ3×Int×Int)⊕(List xZ1×List xZ3×Int×Int))) (v:(List xZ1)×(List xZ3)×Int×Int):Option ((Int×Int×List xZ3×Int×Int)⊕(List xZ1×List xZ3×Int×Int)):=xZ38 N (xZW N) c (fun u0 u1 u2 u3=>next (u0,u1,u2,u3)) v.1 v.2.1 v.2.2.1 v.2.2.2
abbrev xZ6u (N:Nat):(Int)×((List xZ1)×(List xZ3)×Int×Int)→Option ((Int×Int×List xZ3×Int×Int)⊕(List xZ1×List xZ3×Int×Int)):=fun a=>loopV (xZ2Z N a.1) N a.2
def xZ1g:Con tb:=.m 155 [false,true] (.c (.ptr 0 0) (.c (.i .i64) .n)) (.c (.c (.r 7) (.c (.i .i64) (.c (.i .i64) .n))) .n) .n (fun N a=>xZ6Y N a.1.2.1 a.2.1.1.1 a.2.1.1.2.1 a.2.1.1.2.2.1) (R:=(Int×Int×List xZ3×Int×Int)⊕(List xZ1×List xZ3×Int×Int)) (.or (.m (R:=Int×Int×List xZ3×Int×Int) (.ifc 16777417 (.ag (.c (.i .i64) (.c (.i .i64) .n)))) (.c (.c (.r 7) (.c (.i .i64) (.c (.i .i64) .n))) .n) .n (fun z=>(z.1.1,z.1.2.1,z.2.1.1.1,z.2.1.1.2.1,z.2.1.1.2.2.1)) (fun r=>((r.1,r.2.1,()),((r.2.2.1,r.2.2.2.1,r.2.2.2.2,()),()),())) (fun _=>rfl)) (.m (R:=List xZ1×List xZ3×Int×Int) (.r 4) (.c (.c (.r 7) (.c (.i .i64) (.c (.i .i64) .n))) .n) .n (fun z=>(z.1,z.2.1.1.1,z.2.1.1.2.1,z.2.1.1.2.2.1)) (fun r=>(r.1,((r.2.1,r.2.2.1,r.2.2.2,()),()),())) (fun _=>rfl)))
def xZ4M:Con tb:=.s 38 [true,true] (.c (.el tb_ok 4) (.c (.i .i64) .n)) (fun N a=>xZ3m N a.1 a.2.1) (R:=Bool) (.p .b) (fun _=>⟨rfl,(by kernel_rfl)⟩)
def xZ51:Con tb:=.s 97 [true] (.c (.i .u8) .n) (fun N a=>xZ3R N a.1) (R:=Bool) (.p .b) (fun _=>⟨rfl,(by kernel_rfl)⟩)
def xZ5D:Con tb:=.s 98 [true] (.c .s .n) (fun N a=>xZ3Y N a.1) (R:=Bool) (.p .b) (fun _=>⟨rfl,(by kernel_rfl)⟩)
def xZ9e:Con tb:=.s 99 [true] (.c (.i .u8) .n) (fun N a=>xZ7n N a.1) (R:=Bool) (.p .b) (fun _=>⟨rfl,(by kernel_rfl)⟩)
def xZ9d:Con tb:=.s 61 [true] (.c .s .n) (fun N a=>xZ4k N a.1) (R:=Bool) (.p .b) (fun _=>⟨rfl,(by kernel_rfl)⟩)
def xZ58:LQ tb (((List UInt8))×(Int)):=(LQ.m [] [0,3] (.c 0 .s (.c 3 (.i .i64) .n)) .n .n).re (fun a=>(a.1.1,a.1.2.1)) (fun x=>((x.1,x.2,()),(),())) (fun _=>rfl)
def xZar (N:Nat) (c:(List UInt8)) (next:Int→Option Bool) (v:Int):Option Bool:=xZ5d N c (fun u0=>next u0) v
abbrev xZf1 (N:Nat):((List UInt8))×(Int)→Option Bool:=fun a=>loopV (xZar N a.1) N a.2
def xZaL:Con tb:=.p 100 [true] (.c (.el tb_ok 0) .n) (fun N a=>xZbc N a.1) (R:=Int⊕Int⊕Int⊕(List UInt8)⊕Unit) (.or (.p (.ifc 214 (.i .i64))) (.or (.p (.ifc 215 (.i .i64))) (.or (.p (.ifc 216 (.i .u64))) (.or (.p (.ifc 217 .s)) (.p .ni))))) (fun r=>by rcases r with _ | _ | _ | _ | _<;>exact rfl)
def xZ42:Con tb:=.s 244 [true] (.c (.i .i64) .n) (fun N a=>xZ4a N a.1) (R:=xZ0) (.p (.el tb_ok 0)) (fun _=>⟨rfl,(by kernel_rfl)⟩)
def xZ4P:Con tb:=.s 245 [true] (.c (.i .i64) .n) (fun N a=>xZ3o N a.1) (R:=xZ0) (.p (.el tb_ok 0)) (fun _=>⟨rfl,(by kernel_rfl)⟩)
def xZbe:Con tb:=.s 139 [true] (.c (.i .u64) .n) (fun N a=>xZ7j N a.1) (R:=Nat) (.p (.f .f64)) (fun _=>⟨rfl,(by kernel_rfl)⟩)
def xZ4N:Con tb:=.s 101 [true] (.c (.i .u64) .n) (fun N a=>xZ46 N a.1) (R:=Int) (.p (.i .u64)) (fun _=>⟨rfl,(by kernel_rfl)⟩)
def xZ41:Con tb:=.s 246 [true] (.c (.i .u64) .n) (fun N a=>xZ49 N a.1) (R:=xZ0) (.p (.el tb_ok 0)) (fun _=>⟨rfl,(by kernel_rfl)⟩)
def xZ4s:Con tb:=.s 247 [true] (.c .s .n) (fun N a=>xZ4H N a.1) (R:=xZ0) (.p (.el tb_ok 0)) (fun _=>⟨rfl,(by kernel_rfl)⟩)
def xZ5g:Con tb:=.s 62 [true] (.c (.el tb_ok 0) .n) (fun N a=>xZ2x N a.1) (R:=Int) (.p (.i .i64)) (fun _=>⟨rfl,(by kernel_rfl)⟩)
def xZ5C:Con tb:=.s 40 [true] (.c (.el tb_ok 4) .n) (fun N a=>xZ3X N a.1) (R:=Bool) (.p .b) (fun _=>⟨rfl,(by kernel_rfl)⟩)
def xZ8h:Con tb:=.s 39 [true,false,true] (.c (.el tb_ok 4) (.c (.fn 40 .n .n) (.c (.i .i64) .n))) (fun N a=>xZ8N N a.1 a.2.2.1) (R:=Int) (.p (.i .i64)) (fun _=>⟨rfl,(by kernel_rfl)⟩)
def xZ6l:Con tb:=.s 41 [true] (.c (.el tb_ok 4) .n) (fun N a=>xZ6y N a.1) (R:=Bool) (.p .b) (fun _=>⟨rfl,(by kernel_rfl)⟩)
def xZ8g:Con tb:=.s 39 [true,false,true] (.c (.el tb_ok 4) (.c (.fn 41 .n .n) (.c (.i .i64) .n))) (fun N a=>xZ8M N a.1 a.2.2.1) (R:=Int) (.p (.i .i64)) (fun _=>⟨rfl,(by kernel_rfl)⟩)
def xZc2:Con tb:=.s 42 [true] (.c (.i .u8) .n) (fun N a=>xZa8 N a.1) (R:=Int) (.p (.i .i64)) (fun _=>⟨rfl,(by kernel_rfl)⟩)
def xZ7t:Con tb:=.s 43 [true,true] (.c (.el tb_ok 4) (.c (.i .i64) .n)) (fun N a=>xZ5b N a.1 a.2.1) (R:=Int) (.p (.i .i64)) (fun _=>⟨rfl,(by kernel_rfl)⟩)
def xZ17:Con tb:=.m 27 [false,true,true] (.c (.ptr 0 0) (.c (.i .i64) (.c (.i .i64) .n))) (.c (.c (.r 4) (.c (.i .i64) .n)) .n) .n (fun N a=>xZ4C N a.1.2.1 a.1.2.2.1 a.2.1.1.1 a.2.1.1.2.1) (R:=Int×List xZ1×Int) (.m (R:=Int×List xZ1×Int) (.i .i64) (.c (.c (.r 4) (.c (.i .i64) .n)) .n) .n (fun z=>(z.1,z.2.1.1.1,z.2.1.1.2.1)) (fun r=>(r.1,((r.2.1,r.2.2,()),()),())) (fun _=>rfl))
def xZ1u:LQ tb ((Int×Int×Int×Int×(List UInt8)×(List UInt8)×Int×Int×Int×(List UInt8))×(Int×(List xZ1)×Int)):=(LQ.m [] [0,2,7,57,58] (.c 0 (.ptr 0 0) (.c 2 (.i .i64) (.c 7 (.ptr 1 0) (.c 57 (.i .i64) (.c 58 (.i .i64) .n))))) (.c (.c (.r 4) (.c (.i .i64) .n)) (.c (.c (.i .u8) (.c (.i .u8) (.c .s (.c .s (.c (.i .u8) (.c (.i .i64) (.c (.i .u64) (.c .s .n)))))))) .n)) .n).re (fun a=>((a.1.2.1,a.1.2.2.2.1,a.2.1.2.1.1,a.2.1.2.1.2.1,a.2.1.2.1.2.2.1,a.2.1.2.1.2.2.2.1,a.2.1.2.1.2.2.2.2.1,a.2.1.2.1.2.2.2.2.2.1,a.2.1.2.1.2.2.2.2.2.2.1,a.2.1.2.1.2.2.2.2.2.2.2.1),(a.1.2.2.2.2.1,a.2.1.1.1,a.2.1.1.2.1))) (fun x=>(((),x.1.1,(),x.1.2.1,x.2.1,()),((x.2.2.1,x.2.2.2,()),(x.1.2.2.1,x.1.2.2.2.1,x.1.2.2.2.2.1,x.1.2.2.2.2.2.1,x.1.2.2.2.2.2.2.1,x.1.2.2.2.2.2.2.2.1,x.1.2.2.2.2.2.2.2.2.1,x.1.2.2.2.2.2.2.2.2.2,()),()),())) (fun _=>rfl)
def xZ3F (N:Nat) (c:Int×Int×Int×Int×(List UInt8)×(List UInt8)×Int×Int×Int×(List UInt8)) (next:(Int×(List xZ1)×Int)→Option (Int×List xZ1×Int)) (v:Int×(List xZ1)×Int):Option (Int×List xZ1×Int):=xZ1w N (xZG N) c.1 c.2.1 c.2.2.1 c.2.2.2.1 c.2.2.2.2.1 c.2.2.2.2.2.1 c.2.2.2.2.2.2.1 c.2.2.2.2.2.2.2.1 c.2.2.2.2.2.2.2.2.1 c.2.2.2.2.2.2.2.2.2 (fun u0 u1 u2=>next (u0,u1,u2)) v.1 v.2.1 v.2.2
abbrev xZ7S (N:Nat):(Int×Int×Int×Int×(List UInt8)×(List UInt8)×Int×Int×Int×(List UInt8))×(Int×(List xZ1)×Int)→Option (Int×List xZ1×Int):=fun a=>loopV (xZ3F N a.1) N a.2
def xZ8f:Con tb:=.s 13 [true] (.c (.r 4) .n) (fun N a=>xZ2C N a.1) (R:=Int) (.p (.i .i64)) (fun _=>⟨rfl,(by kernel_rfl)⟩)
def xZ93:Con tb:=.p 54 [true,true,true] (.c (.r 7) (.c (.i .i64) (.c (.i .i64) .n))) (fun N a=>xZ6z N a.1 a.2.1 a.2.2.1) (R:=(List xZ1×Int)⊕(List xZ1×Int×Int×Int)) (.or (.m (R:=List xZ1×Int) (.tu (.c (.r 4) (.c (.i .i64) (.c .ni .n)))) .n .n (fun z=>(z.1.1,z.1.2.1)) (fun r=>((r.1,r.2,(),()),(),())) (fun _=>rfl)) (.m (R:=List xZ1×Int×Int×Int) (.tu (.c (.r 4) (.c (.i .i64) (.o (.ifc 204 (.dp (.c (.i .i64) (.c (.i .i64) .n)))))))) .n .n (fun z=>(z.1.1,z.1.2.1,z.1.2.2.1,z.1.2.2.2.1)) (fun r=>((r.1,r.2.1,r.2.2.1,r.2.2.2,()),(),())) (fun _=>rfl))) (fun r=>by rcases r with _ | _<;>exact rfl)
def xZ23:Con tb:=.clone 138 2 (fun _ s=>shClone 24 s)
def xZ2O:Con tb:=.cloneD 138 2 (fun _ s=>shClone 24 s)
def xZbZ:Con tb:=.p 230 [true,true] (.c (.r 1) (.c .s .n)) (fun N a=>xZ6k N a.1 a.2.1) (R:=xZ6×Bool) (.p (.tu (.c (.el tb_ok 8) (.o .b)))) (fun _=>rfl)
def xZcH:Con tb:=.s 8 [] .n (fun N a=>xZ37 N) (R:=Bool) (.p .b) (fun _=>⟨rfl,(by kernel_rfl)⟩)
def xZay:Con tb:=.s 22 [true] (.c (.r 3) .n) (fun N a=>xZ4W N a.1) (R:=Int) (.p (.i .i64)) (fun _=>⟨rfl,(by kernel_rfl)⟩)
def xZ4A:LQ tb (((List xZ2))×(Int)):=(LQ.m [] [0,3] (.c 0 (.r 3) (.c 3 (.i .i64) .n)) .n .n).re (fun a=>(a.1.1,a.1.2.1)) (fun x=>((x.1,x.2,()),(),())) (fun _=>rfl)
def xZ60:LQ tb (((List xZ2)×Int)×(Int)):=(LQ.m [] [0,3,4] (.c 0 (.r 3) (.c 3 (.i .i64) (.c 4 (.i .i64) .n))) .n .n).re (fun a=>((a.1.1,a.1.2.1),a.1.2.2.1)) (fun x=>((x.1.1,x.1.2,x.2,()),(),())) (fun _=>rfl)
def xZbw (N:Nat) (next0:((List xZ2))×(Int)→Option Int) (c:(List xZ2)×Int) (next:Int→Option Int) (v:Int):Option Int:=xZ3k N c.1 c.2 (fun u0=>next0 (c.1,u0)) (fun u0=>next u0) v
abbrev xZge (N:Nat) (next0:((List xZ2))×(Int)→Option Int):((List xZ2)×Int)×(Int)→Option Int:=fun a=>loopV (xZbw N next0 a.1) N a.2
def xZbv (N:Nat) (c:(List xZ2)) (next:Int→Option Int) (v:Int):Option Int:=xZ3j N c (fun u0=>next u0) v
abbrev xZgd (N:Nat):((List xZ2))×(Int)→Option Int:=fun a=>loopV (xZbv N a.1) N a.2
def xZ8e:Con tb:=.s 24 [true,true] (.c (.r 8) (.c (.i .i64) .n)) (fun N a=>xZ6x N a.1 a.2.1) (R:=Int) (.p (.i .i64)) (fun _=>⟨rfl,(by kernel_rfl)⟩)
def xZ4B:LQ tb (((List xZ6))×(Int)):=(LQ.m [] [0,5] (.c 0 (.r 8) (.c 5 (.i .i64) .n)) .n .n).re (fun a=>(a.1.1,a.1.2.1)) (fun x=>((x.1,x.2,()),(),())) (fun _=>rfl)
def xZ62:LQ tb (((List xZ6)×Int)×(Int)):=(LQ.m [] [0,5,6] (.c 0 (.r 8) (.c 5 (.i .i64) (.c 6 (.i .i64) .n))) .n .n).re (fun a=>((a.1.1,a.1.2.1),a.1.2.2.1)) (fun x=>((x.1.1,x.1.2,x.2,()),(),())) (fun _=>rfl)
def xZbz (N:Nat) (next0:((List xZ6))×(Int)→Option Int) (c:(List xZ6)×Int) (next:Int→Option Int) (v:Int):Option Int:=xZ6d N c.1 c.2 (fun u0=>next0 (c.1,u0)) (fun u0=>next u0) v
abbrev xZgh (N:Nat) (next0:((List xZ6))×(Int)→Option Int):((List xZ6)×Int)×(Int)→Option Int:=fun a=>loopV (xZbz N next0 a.1) N a.2
def xZby (N:Nat) (c:(List xZ6)) (next:Int→Option Int) (v:Int):Option Int:=xZ6c N c (fun u0=>next u0) v
abbrev xZgg (N:Nat):((List xZ6))×(Int)→Option Int:=fun a=>loopV (xZby N a.1) N a.2
def xZaB:Con tb:=.s 23 [true] (.c (.r 1) .n) (fun N a=>xZ8K N a.1) (R:=Int) (.p (.i .i64)) (fun _=>⟨rfl,(by kernel_rfl)⟩)
def xZ64:LQ tb (((List xZ4))×(Int)):=(LQ.m [] [0,3] (.c 0 (.r 1) (.c 3 (.i .i64) .n)) .n .n).re (fun a=>(a.1.1,a.1.2.1)) (fun x=>((x.1,x.2,()),(),())) (fun _=>rfl)
def xZbB (N:Nat) (c:(List xZ4)) (next:Int→Option Int) (v:Int):Option Int:=xZ6f N c (fun u0=>next u0) v
abbrev xZgj (N:Nat):((List xZ4))×(Int)→Option Int:=fun a=>loopV (xZbB N a.1) N a.2
def xZaC:Con tb:=.s 7 [true] (.c (.el tb_ok 9) .n) (fun N a=>xZ8L N a.1) (R:=Int) (.p (.i .i64)) (fun _=>⟨rfl,(by kernel_rfl)⟩)
def xZc1:Con tb:=.p 9 [true] (.c (.r 4) .n) (fun N a=>xZa7 N a.1) (R:=List xZ1) (.p (.r 4)) (fun _=>rfl)
def xZ7d:LQ tb (((List xZ1))×(Int×(List xZ1))):=(LQ.m [(3,none,4)] [0,3,4] (.c 0 (.r 4) (.c 3 (.own 0) (.c 4 (.i .i64) .n))) .n (.l 4 .n)).re (fun a=>(a.1.1,(a.1.2.2.1,a.2.2.1))) (fun x=>((x.1,(),x.2.1,()),(),x.2.2,())) (fun _=>rfl)
def xZcV (N:Nat) (c:(List xZ1)) (next:(Int×(List xZ1))→Option (List xZ1)) (v:Int×(List xZ1)):Option (List xZ1):=xZ7h N c (fun u0 u1=>next (u0,u1)) v.1 v.2
abbrev xZi2 (N:Nat):((List xZ1))×(Int×(List xZ1))→Option (List xZ1):=fun a=>loopV (xZcV N a.1) N a.2
def xZc0:Con tb:=.p 10 [true] (.c (.r 3) .n) (fun N a=>xZcG N a.1) (R:=List xZ2) (.p (.r 3)) (fun _=>rfl)
def xZ5r:LQ tb (((List xZ2))×(Int×(List xZ2))):=(LQ.m [(3,none,3)] [0,3,4] (.c 0 (.r 3) (.c 3 (.own 0) (.c 4 (.i .i64) .n))) .n (.l 3 .n)).re (fun a=>(a.1.1,(a.1.2.2.1,a.2.2.1))) (fun x=>((x.1,(),x.2.1,()),(),x.2.2,())) (fun _=>rfl)
def xZ7c:LQ tb (((List xZ2)×Int×(List UInt8))×(Int×(List xZ2)×(List xZb))):=(LQ.m [(5,some 1,2)] [0,3,4,5,6] (.c 0 (.r 3) (.c 3 (.own 0) (.c 4 (.i .i64) (.c 5 (.ptr 0 0) (.c 6 (.i .i64) .n))))) (.c (.c .s (.c (.own 1) .n)) .n) (.l 3 (.l 2 .n))).re (fun a=>((a.1.1,a.1.2.2.1,a.2.1.1.1),(a.1.2.2.2.2.1,a.2.2.1,a.2.2.2.1))) (fun x=>((x.1.1,(),x.1.2.1,(),x.2.1,()),((x.1.2.2,(),()),()),x.2.2.1,x.2.2.2,())) (fun _=>rfl)
def xZcU (N:Nat) (next0:((List xZ2))×(Int×(List xZ2))→Option (List xZ2)) (c:(List xZ2)×Int×(List UInt8)) (next:(Int×(List xZ2)×(List xZb))→Option (List xZ2)) (v:Int×(List xZ2)×(List xZb)):Option (List xZ2):=xZ7g N c.1 c.2.1 c.2.2 (fun u0 u1=>next0 (c.1,(u0,u1))) (fun u0 u1 u2=>next (u0,u1,u2)) v.1 v.2.1 v.2.2
abbrev xZi1 (N:Nat) (next0:((List xZ2))×(Int×(List xZ2))→Option (List xZ2)):((List xZ2)×Int×(List UInt8))×(Int×(List xZ2)×(List xZb))→Option (List xZ2):=fun a=>loopV (xZcU N next0 a.1) N a.2
def xZcT (N:Nat) (c:(List xZ2)) (next:(Int×(List xZ2))→Option (List xZ2)) (v:Int×(List xZ2)):Option (List xZ2):=xZ7f N c (fun u0 u1=>next (u0,u1)) v.1 v.2
abbrev xZi0 (N:Nat):((List xZ2))×(Int×(List xZ2))→Option (List xZ2):=fun a=>loopV (xZcT N a.1) N a.2
def xZaz:Con tb:=.p 26 [true] (.c (.r 0) .n) (fun N a=>xZ8I N a.1) (R:=List xZ0) (.p (.r 0)) (fun _=>rfl)
def xZ61:LQ tb (((List xZ0))×(Int×(List xZ0))):=(LQ.m [(3,none,0)] [0,3,4] (.c 0 (.r 0) (.c 3 (.own 0) (.c 4 (.i .i64) .n))) .n (.l 0 .n)).re (fun a=>(a.1.1,(a.1.2.2.1,a.2.2.1))) (fun x=>((x.1,(),x.2.1,()),(),x.2.2,())) (fun _=>rfl)
def xZbx (N:Nat) (c:(List xZ0)) (next:(Int×(List xZ0))→Option (List xZ0)) (v:Int×(List xZ0)):Option (List xZ0):=xZ6b N c (fun u0 u1=>next (u0,u1)) v.1 v.2
abbrev xZgf (N:Nat):((List xZ0))×(Int×(List xZ0))→Option (List xZ0):=fun a=>loopV (xZbx N a.1) N a.2
def xZa3:Con tb:=.p 12 [true] (.c (.el tb_ok 8) .n) (fun N a=>xZ89 N a.1) (R:=xZ6) (.p (.el tb_ok 8)) (fun _=>rfl)
def xZ92:Con tb:=.p 11 [true] (.c (.r 1) .n) (fun N a=>xZ7i N a.1) (R:=List xZ4) (.p (.r 1)) (fun _=>rfl)
def xZ53:LQ tb (((List xZ4))×(Int×(List xZ4))):=(LQ.m [(3,none,1)] [0,3,4] (.c 0 (.r 1) (.c 3 (.own 0) (.c 4 (.i .i64) .n))) .n (.l 1 .n)).re (fun a=>(a.1.1,(a.1.2.2.1,a.2.2.1))) (fun x=>((x.1,(),x.2.1,()),(),x.2.2,())) (fun _=>rfl)
def xZam (N:Nat) (c:(List xZ4)) (next:(Int×(List xZ4))→Option (List xZ4)) (v:Int×(List xZ4)):Option (List xZ4):=xZ5a N c (fun u0 u1=>next (u0,u1)) v.1 v.2
abbrev xZeW (N:Nat):((List xZ4))×(Int×(List xZ4))→Option (List xZ4):=fun a=>loopV (xZam N a.1) N a.2
def xZO:Con tb:=.m 29 [false] (.c (.ptr 0 0) .n) (.c (.c (.r 4) (.c (.i .i64) .n)) .n) .n (fun N a=>xZA N a.2.1.1.1 a.2.1.1.2.1) (R:=xZd×List xZ1×Int) (.m (R:=xZd×List xZ1×Int) (.tr 10) (.c (.c (.r 4) (.c (.i .i64) .n)) .n) .n (fun z=>(z.1,z.2.1.1.1,z.2.1.1.2.1)) (fun r=>(r.1,((r.2.1,r.2.2,()),()),())) (fun _=>rfl))
def xZ1x:Con tb:=.m 226 [true,false] (.c (.el tb_ok 11) (.c (.ptr 0 0) .n)) (.c (.c (.r 3) (.c (.r 1) (.c (.i .i64) (.c (.i .i64) (.c (.i .i64) (.c .s (.c (.r 0) .n))))))) .n) .n (fun N a=>xZM N a.1.1 a.2.1.1.1 a.2.1.1.2.1 a.2.1.1.2.2.1 a.2.1.1.2.2.2.1 a.2.1.1.2.2.2.2.1 a.2.1.1.2.2.2.2.2.1 a.2.1.1.2.2.2.2.2.2.1) (R:=xZ0×Bool×List xZ2×List xZ4×Int×Int×Int×List UInt8×List xZ0) (.m (R:=xZ0×Bool×List xZ2×List xZ4×Int×Int×Int×List UInt8×List xZ0) (.tu (.c (.el tb_ok 0) (.o .b))) (.c (.c (.r 3) (.c (.r 1) (.c (.i .i64) (.c (.i .i64) (.c (.i .i64) (.c .s (.c (.r 0) .n))))))) .n) .n (fun z=>(z.1.1,z.1.2,z.2.1.1.1,z.2.1.1.2.1,z.2.1.1.2.2.1,z.2.1.1.2.2.2.1,z.2.1.1.2.2.2.2.1,z.2.1.1.2.2.2.2.2.1,z.2.1.1.2.2.2.2.2.2.1)) (fun r=>((r.1,r.2.1),((r.2.2.1,r.2.2.2.1,r.2.2.2.2.1,r.2.2.2.2.2.1,r.2.2.2.2.2.2.1,r.2.2.2.2.2.2.2.1,r.2.2.2.2.2.2.2.2,()),()),())) (fun _=>rfl))
def xZ9c:Con tb:=.p 96 [true,true] (.c (.r 3) (.c .s .n)) (fun N a=>xZ7m N a.1 a.2.1) (R:=xZ2×Bool) (.p (.tu (.c (.el tb_ok 3) (.o .b)))) (fun _=>rfl)
def xZ57:LQ tb (((List UInt8)×(List xZ2)×Int)×(Int)):=(LQ.m [] [1,4,8,9,10] (.c 1 .s (.c 4 (.ptr 0 0) (.c 8 (.r 3) (.c 9 (.i .i64) (.c 10 (.i .i64) .n))))) (.c (.c (.ls []) (.c .e .n)) .n) .n).re (fun a=>((a.1.1,a.1.2.2.1,a.1.2.2.2.1),a.1.2.2.2.2.1)) (fun x=>((x.1.1,(),x.1.2.1,x.1.2.2,x.2,()),(((),(),()),()),())) (fun _=>rfl)
def xZaq (N:Nat) (c:(List UInt8)×(List xZ2)×Int) (next:Int→Option (xZ2×Bool)) (v:Int):Option (xZ2×Bool):=xZ5c N c.1 c.2.1 c.2.2 (fun u0=>next u0) v
abbrev xZf0 (N:Nat):((List UInt8)×(List xZ2)×Int)×(Int)→Option (xZ2×Bool):=fun a=>loopV (xZaq N a.1) N a.2
def xZ4r:Con tb:=.s 137 [true,true] (.c (.el tb_ok 3) (.c .s .n)) (fun N a=>xZ2R N a.1 a.2.1) (R:=Int×Int) (.p (.tu (.c (.i .i64) (.o (.i .u8))))) (fun _=>⟨rfl,(by kernel_rfl)⟩)
def xZ2l:LQ tb (((List UInt8)×(List xZb)×Int)×(Int)):=(LQ.m [] [1,9,10,11] (.c 1 .s (.c 9 (.r 2) (.c 10 (.i .i64) (.c 11 (.i .i64) .n)))) .n .n).re (fun a=>((a.1.1,a.1.2.1,a.1.2.2.1),a.1.2.2.2.1)) (fun x=>((x.1.1,x.1.2.1,x.1.2.2,x.2,()),(),())) (fun _=>rfl)
def xZ5J (N:Nat) (c:(List UInt8)×(List xZb)×Int) (next:Int→Option (Int×Int)) (v:Int):Option (Int×Int):=xZ2m N c.1 c.2.1 c.2.2 (fun u0=>next u0) v
abbrev xZai (N:Nat):((List UInt8)×(List xZb)×Int)×(Int)→Option (Int×Int):=fun a=>loopV (xZ5J N a.1) N a.2
def xZ2N:Con tb:=.p 228 [true,true,true] (.c (.el tb_ok 8) (.c (.r 3) (.c .s .n))) (fun N a=>xZ2a N a.1 a.2.1 a.2.2.1) (R:=xZ0×Bool) (.p (.tu (.c (.el tb_ok 0) (.o .b)))) (fun _=>rfl)
def xZ1H:Con tb:=.m 229 [true,false] (.c (.el tb_ok 12) (.c (.ptr 0 0) .n)) (.c (.c (.r 3) (.c (.r 1) (.c (.i .i64) (.c (.i .i64) (.c (.i .i64) (.c .s (.c (.r 0) .n))))))) .n) .n (fun N a=>xZl N a.1.1 a.2.1.1.1 a.2.1.1.2.1 a.2.1.1.2.2.1 a.2.1.1.2.2.2.1 a.2.1.1.2.2.2.2.1 a.2.1.1.2.2.2.2.2.1 a.2.1.1.2.2.2.2.2.2.1) (R:=xZ0×Bool×List xZ2×List xZ4×Int×Int×Int×List UInt8×List xZ0) (.m (R:=xZ0×Bool×List xZ2×List xZ4×Int×Int×Int×List UInt8×List xZ0) (.tu (.c (.el tb_ok 0) (.o .b))) (.c (.c (.r 3) (.c (.r 1) (.c (.i .i64) (.c (.i .i64) (.c (.i .i64) (.c .s (.c (.r 0) .n))))))) .n) .n (fun z=>(z.1.1,z.1.2,z.2.1.1.1,z.2.1.1.2.1,z.2.1.1.2.2.1,z.2.1.1.2.2.2.1,z.2.1.1.2.2.2.2.1,z.2.1.1.2.2.2.2.2.1,z.2.1.1.2.2.2.2.2.2.1)) (fun r=>((r.1,r.2.1),((r.2.2.1,r.2.2.2.1,r.2.2.2.2.1,r.2.2.2.2.2.1,r.2.2.2.2.2.2.1,r.2.2.2.2.2.2.2.1,r.2.2.2.2.2.2.2.2,()),()),())) (fun _=>rfl))
def xZ1y:Con tb:=.m 227 [true,false] (.c (.el tb_ok 13) (.c (.ptr 0 0) .n)) (.c (.c (.r 3) (.c (.r 1) (.c (.i .i64) (.c (.i .i64) (.c (.i .i64) (.c .s (.c (.r 0) .n))))))) .n) .n (fun N a=>xZs N a.1.1 a.2.1.1.1 a.2.1.1.2.1 a.2.1.1.2.2.1 a.2.1.1.2.2.2.1 a.2.1.1.2.2.2.2.1 a.2.1.1.2.2.2.2.2.1 a.2.1.1.2.2.2.2.2.2.1) (R:=xZ0×Bool×List xZ2×List xZ4×Int×Int×Int×List UInt8×List xZ0) (.m (R:=xZ0×Bool×List xZ2×List xZ4×Int×Int×Int×List UInt8×List xZ0) (.tu (.c (.el tb_ok 0) (.o .b))) (.c (.c (.r 3) (.c (.r 1) (.c (.i .i64) (.c (.i .i64) (.c (.i .i64) (.c .s (.c (.r 0) .n))))))) .n) .n (fun z=>(z.1.1,z.1.2,z.2.1.1.1,z.2.1.1.2.1,z.2.1.1.2.2.1,z.2.1.1.2.2.2.1,z.2.1.1.2.2.2.2.1,z.2.1.1.2.2.2.2.2.1,z.2.1.1.2.2.2.2.2.2.1)) (fun r=>((r.1,r.2.1),((r.2.2.1,r.2.2.2.1,r.2.2.2.2.1,r.2.2.2.2.2.1,r.2.2.2.2.2.2.1,r.2.2.2.2.2.2.2.1,r.2.2.2.2.2.2.2.2,()),()),())) (fun _=>rfl))
def xZ3S:Con tb:=.s 197 [true] (.c (.i .u8) .n) (fun N a=>xZ1E N a.1) (R:=Bool) (.p .b) (fun _=>⟨rfl,(by kernel_rfl)⟩)
def xZ4o:Con tb:=.s 236 [true,true] (.c (.el tb_ok 0) (.c (.el tb_ok 0) .n)) (fun N a=>xZ34 N a.1 a.2.1) (R:=Bool) (.p .b) (fun _=>⟨rfl,(by kernel_rfl)⟩)
def xZ9f:Con tb:=.s 37 [true] (.c (.i .i64) .n) (fun N a=>xZ3f N a.1) (R:=xZ0) (.p (.el tb_ok 0)) (fun _=>⟨rfl,(by kernel_rfl)⟩)
def xZ50:Con tb:=.p 237 [true,true] (.c (.i .i64) (.c (.i .i64) .n)) (fun N a=>xZN N a.1 a.2.1) (R:=xZ0×Bool) (.p (.tu (.c (.el tb_ok 0) (.o .b)))) (fun _=>rfl)
def xZdB:Con tb:=.s 242 [true] (.c (.i .i64) .n) (fun N a=>xZbb N a.1) (R:=Int) (.p (.i .u64)) (fun _=>⟨rfl,(by kernel_rfl)⟩)
def xZ4n:Con tb:=.s 239 [true] (.c (.el tb_ok 0) .n) (fun N a=>xZL N a.1) (R:=Int) (.p (.i .u64)) (fun _=>⟨rfl,(by kernel_rfl)⟩)
def xZdA:Con tb:=.s 240 [true] (.c (.i .u64) .n) (fun N a=>xZ9Z N a.1) (R:=Int) (.p (.i .u64)) (fun _=>⟨rfl,(by kernel_rfl)⟩)
def xZdz:Con tb:=.s 238 [true,true] (.c (.i .u64) (.c (.i .u64) .n)) (fun N a=>xZ6A N a.1 a.2.1) (R:=Int) (.p (.i .u64)) (fun _=>⟨rfl,(by kernel_rfl)⟩)
def xZ5O:Con tb:=.s 152 [true] (.c (.i .u64) .n) (fun N a=>xZ2I N a.1) (R:=xZ0) (.p (.el tb_ok 0)) (fun _=>⟨rfl,(by kernel_rfl)⟩)
def xZ7r:Con tb:=.p 234 [true,true] (.c (.el tb_ok 0) (.c (.el tb_ok 0) .n)) (fun N a=>xZ1v N a.1 a.2.1) (R:=xZ0×Bool) (.p (.tu (.c (.el tb_ok 0) (.o .b)))) (fun _=>rfl)
def xZ8c:Con tb:=.p 235 [true,true] (.c (.el tb_ok 0) (.c (.el tb_ok 0) .n)) (fun N a=>xZ1M N a.1 a.2.1) (R:=xZ0×Bool) (.p (.tu (.c (.el tb_ok 0) (.o .b)))) (fun _=>rfl)
def xZ13:Con tb:=.m 233 [true,false] (.c (.el tb_ok 14) (.c (.ptr 0 0) .n)) (.c (.c (.r 3) (.c (.r 1) (.c (.i .i64) (.c (.i .i64) (.c (.i .i64) (.c .s (.c (.r 0) .n))))))) .n) .n (fun N a=>xZ1z N a.1.1 a.2.1.1.1 a.2.1.1.2.1 a.2.1.1.2.2.1 a.2.1.1.2.2.2.1 a.2.1.1.2.2.2.2.1 a.2.1.1.2.2.2.2.2.1 a.2.1.1.2.2.2.2.2.2.1) (R:=xZ0×Bool×List xZ2×List xZ4×Int×Int×Int×List UInt8×List xZ0) (.m (R:=xZ0×Bool×List xZ2×List xZ4×Int×Int×Int×List UInt8×List xZ0) (.tu (.c (.el tb_ok 0) (.o .b))) (.c (.c (.r 3) (.c (.r 1) (.c (.i .i64) (.c (.i .i64) (.c (.i .i64) (.c .s (.c (.r 0) .n))))))) .n) .n (fun z=>(z.1.1,z.1.2,z.2.1.1.1,z.2.1.1.2.1,z.2.1.1.2.2.1,z.2.1.1.2.2.2.1,z.2.1.1.2.2.2.2.1,z.2.1.1.2.2.2.2.2.1,z.2.1.1.2.2.2.2.2.2.1)) (fun r=>((r.1,r.2.1),((r.2.2.1,r.2.2.2.1,r.2.2.2.2.1,r.2.2.2.2.2.1,r.2.2.2.2.2.2.1,r.2.2.2.2.2.2.2.1,r.2.2.2.2.2.2.2.2,()),()),())) (fun _=>rfl))
def xZax:Con tb:=.p 15 [true,true,true,true,true] (.c (.r 4) (.c (.i .i64) (.c (.r 3) (.c (.r 1) (.c (.el tb_ok 8) .n))))) (fun N a=>xZ6w N a.1 a.2.1 a.2.2.1 a.2.2.2.1 a.2.2.2.2.1) (R:=xZ0×Bool) (.p (.tu (.c (.el tb_ok 0) (.o .b)))) (fun _=>rfl)
def xZc8:Con tb:=.s 63 [true,true] (.c (.i .u8) (.c (.i .i64) .n)) (fun N a=>xZab N a.1 a.2.1) (R:=Bool) (.p .b) (fun _=>⟨rfl,(by kernel_rfl)⟩)
def xZ6o:Con tb:=.s 140 [true] (.c .s .n) (fun N a=>xZ6C N a.1) (R:=Bool) (.p .b) (fun _=>⟨rfl,(by kernel_rfl)⟩)
def xZ3g:LQ tb (((List UInt8)×(List (List UInt8)))×(Int)):=(LQ.m [] [0,3,4] (.c 0 .s (.c 3 (.own 0) (.c 4 (.i .i64) .n))) .n (.l 6 .n)).re (fun a=>((a.1.1,a.2.2.1),a.1.2.2.1)) (fun x=>((x.1.1,(),x.2,()),(),x.1.2,())) (fun _=>rfl)
def xZ86 (N:Nat) (c:(List UInt8)×(List (List UInt8))) (next:Int→Option Bool) (v:Int):Option Bool:=xZ3n N c.1 c.2 (fun u0=>next u0) v
abbrev xZcB (N:Nat):((List UInt8)×(List (List UInt8)))×(Int)→Option Bool:=fun a=>loopV (xZ86 N a.1) N a.2
def xZaH:Con tb:=.s 102 [true] (.c .s .n) (fun N a=>xZ4Z N a.1) (R:=Bool) (.p .b) (fun _=>⟨rfl,(by kernel_rfl)⟩)
def xZ67:LQ tb (((List UInt8))×(Int)):=(LQ.m [] [0,3] (.c 0 .s (.c 3 (.i .i64) .n)) .n .n).re (fun a=>(a.1.1,a.1.2.1)) (fun x=>((x.1,x.2,()),(),())) (fun _=>rfl)
def xZbE (N:Nat) (c:(List UInt8)) (next:Int→Option Bool) (v:Int):Option Bool:=xZ6h N c (fun u0=>next u0) v
abbrev xZgm (N:Nat):((List UInt8))×(Int)→Option Bool:=fun a=>loopV (xZbE N a.1) N a.2
def xZ7W:Con tb:=.s 141 [true] (.c (.i .u64) .n) (fun N a=>xZ26 N a.1) (R:=Int) (.p (.i .i64)) (fun _=>⟨rfl,(by kernel_rfl)⟩)
def xZ8i:Con tb:=.s 142 [true] (.c (.i .u64) .n) (fun N a=>xZ2D N a.1) (R:=Int) (.p (.i .u64)) (fun _=>⟨rfl,(by kernel_rfl)⟩)
def xZ2S:Con tb:=.s 104 [true] (.c (.i .u64) .n) (fun N a=>xZh N a.1) (R:=Int) (.p (.i .u8)) (fun _=>⟨rfl,(by kernel_rfl)⟩)
def xZ5e:Con tb:=.s 103 [true] (.c (.i .u64) .n) (fun N a=>xZ15 N a.1) (R:=Int) (.p (.i .u64)) (fun _=>⟨rfl,(by kernel_rfl)⟩)
def xZ4b:Con tb:=.s 69 [true] (.c (.el tb_ok 0) .n) (fun N a=>xZ1P N a.1) (R:=Int) (.p (.i .i64)) (fun _=>⟨rfl,(by kernel_rfl)⟩)
def xZ9a:Con tb:=.s 64 [true] (.c (.el tb_ok 4) .n) (fun N a=>xZ7l N a.1) (R:=Int) (.p (.i .i64)) (fun _=>⟨rfl,(by kernel_rfl)⟩)
def xZ9S:LQ tb ((Bool×Int×Int×(List UInt8)×(List UInt8)×Int×Int×Int×(List UInt8))×(Unit)):=(LQ.m [] [1,3,4] (.c 1 (.ptr 0 0) (.c 3 (.ptr 1 0) (.c 4 .b .n))) (.c (.c (.i .u8) (.c (.i .u8) (.c .s (.c .s (.c (.i .u8) (.c (.i .i64) (.c (.i .u64) (.c .s .n)))))))) (.c (.c (.li .u8 0) (.c (.li .i64 0) (.c (.li .u64 0) (.c (.ls []) .n)))) .n)) .n).re (fun a=>((a.1.2.2.1,a.2.1.1.1,a.2.1.1.2.1,a.2.1.1.2.2.1,a.2.1.1.2.2.2.1,a.2.1.1.2.2.2.2.1,a.2.1.1.2.2.2.2.2.1,a.2.1.1.2.2.2.2.2.2.1,a.2.1.1.2.2.2.2.2.2.2.1),())) (fun x=>(((),(),x.1.1,()),((x.1.2.1,x.1.2.2.1,x.1.2.2.2.1,x.1.2.2.2.2.1,x.1.2.2.2.2.2.1,x.1.2.2.2.2.2.2.1,x.1.2.2.2.2.2.2.2.1,x.1.2.2.2.2.2.2.2.2,()),((),(),(),(),()),()),())) (fun _=>rfl)
abbrev xZ9W (N:Nat):(Bool×Int×Int×(List UInt8)×(List UInt8)×Int×Int×Int×(List UInt8))×(Unit)→Option Int:=fun a=>xZ1A N a.1.1 a.1.2.1 a.1.2.2.1 a.1.2.2.2.1 a.1.2.2.2.2.1 a.1.2.2.2.2.2.1 a.1.2.2.2.2.2.2.1 a.1.2.2.2.2.2.2.2.1 a.1.2.2.2.2.2.2.2.2
def xZ8n:Con tb:=.s 65 [true] (.c (.i .u8) .n) (fun N a=>xZ6D N a.1) (R:=Int) (.p (.i .i64)) (fun _=>⟨rfl,(by kernel_rfl)⟩)
def xZc7:Con tb:=.s 66 [true,true] (.c (.i .u8) (.c (.i .i64) .n)) (fun N a=>xZaa N a.1 a.2.1) (R:=Int) (.p (.i .i64)) (fun _=>⟨rfl,(by kernel_rfl)⟩)
def xZ6p:Con tb:=.s 44 [true,true,true,true] (.c (.r 4) (.c (.i .i64) (.c (.i .i64) (.c (.i .i64) .n)))) (fun N a=>xZer N a.1 a.2.1 a.2.2.1 a.2.2.2.1) (R:=Int×Int) (.p (.tu (.c (.i .i64) (.o (.i .i64))))) (fun _=>⟨rfl,(by kernel_rfl)⟩)
def xZ69:LQ tb (((List xZ1)×Int×Int×Int×(List UInt8)×(List UInt8)×Int×Int×Int×(List UInt8))×(Int×Int)):=(LQ.m [] [0,1,3,10,12] (.c 0 (.r 4) (.c 1 (.i .i64) (.c 3 (.i .i64) (.c 10 (.ptr 0 0) (.c 12 (.i .i64) .n))))) (.c (.c (.i .u8) (.c (.i .u8) (.c .s (.c .s (.c (.i .u8) (.c (.i .i64) (.c (.i .u64) (.c .s .n)))))))) .n) .n).re (fun a=>((a.1.1,a.1.2.2.1,a.2.1.1.1,a.2.1.1.2.1,a.2.1.1.2.2.1,a.2.1.1.2.2.2.1,a.2.1.1.2.2.2.2.1,a.2.1.1.2.2.2.2.2.1,a.2.1.1.2.2.2.2.2.2.1,a.2.1.1.2.2.2.2.2.2.2.1),(a.1.2.1,a.1.2.2.2.2.1))) (fun x=>((x.1.1,x.2.1,x.1.2.1,(),x.2.2,()),((x.1.2.2.1,x.1.2.2.2.1,x.1.2.2.2.2.1,x.1.2.2.2.2.2.1,x.1.2.2.2.2.2.2.1,x.1.2.2.2.2.2.2.2.1,x.1.2.2.2.2.2.2.2.2.1,x.1.2.2.2.2.2.2.2.2.2,()),()),())) (fun _=>rfl)
def xZbG (N:Nat) (c:(List xZ1)×Int×Int×Int×(List UInt8)×(List UInt8)×Int×Int×Int×(List UInt8)) (next:(Int×Int)→Option (Int×Int)) (v:Int×Int):Option (Int×Int):=xZ6i N (xZ4c N) c.1 c.2.1 c.2.2.1 (fun u0 u1=>next (u0,u1)) v.1 v.2
abbrev xZgo (N:Nat):((List xZ1)×Int×Int×Int×(List UInt8)×(List UInt8)×Int×Int×Int×(List UInt8))×(Int×Int)→Option (Int×Int):=fun a=>loopV (xZbG N a.1) N a.2
def xZ74:Con tb:=.s 30 [true] (.c (.r 4) .n) (fun N a=>xZ5x N a.1) (R:=Int) (.p (.i .i64)) (fun _=>⟨rfl,(by kernel_rfl)⟩)
def xZaG:Con tb:=.p 67 [true,true] (.c (.r 3) (.c .s .n)) (fun N a=>xZ8Q N a.1 a.2.1) (R:=xZ2×Bool) (.p (.tu (.c (.el tb_ok 3) (.o .b)))) (fun _=>rfl)
def xZ66:LQ tb (((List xZ2)×(List UInt8))×(Int)):=(LQ.m [] [0,1,4,6] (.c 0 (.r 3) (.c 1 .s (.c 4 (.ptr 0 0) (.c 6 (.i .i64) .n)))) (.c (.c (.ls []) (.c .e .n)) .n) .n).re (fun a=>((a.1.1,a.1.2.1),a.1.2.2.2.1)) (fun x=>((x.1.1,x.1.2,(),x.2,()),(((),(),()),()),())) (fun _=>rfl)
def xZbD (N:Nat) (c:(List xZ2)×(List UInt8)) (next:Int→Option (xZ2×Bool)) (v:Int):Option (xZ2×Bool):=xZ6g N c.1 c.2 (fun u0=>next u0) v
abbrev xZgl (N:Nat):((List xZ2)×(List UInt8))×(Int)→Option (xZ2×Bool):=fun a=>loopV (xZbD N a.1) N a.2
def xZdC:Con tb:=.s 68 [true,true] (.c (.el tb_ok 3) (.c .s .n)) (fun N a=>xZbV N a.1 a.2.1) (R:=Int×Int) (.p (.tu (.c (.i .i64) (.o (.i .u8))))) (fun _=>⟨rfl,(by kernel_rfl)⟩)
def xZ8G:LQ tb (((List UInt8)×(List UInt8)×(List xZb))×(Int)):=(LQ.m [] [1,2,6] (.c 1 .s (.c 2 (.ptr 0 0) (.c 6 (.i .i64) .n))) (.c (.c .s (.c (.r 2) .n)) .n) .n).re (fun a=>((a.1.1,a.2.1.1.1,a.2.1.1.2.1),a.1.2.2.1)) (fun x=>((x.1.1,(),x.2,()),((x.1.2.1,x.1.2.2,()),()),())) (fun _=>rfl)
def xZe5 (N:Nat) (c:(List UInt8)×(List UInt8)×(List xZb)) (next:Int→Option (Int×Int)) (v:Int):Option (Int×Int):=xZ8P N c.1 c.2.2 (fun u0=>next u0) v
abbrev xZjH (N:Nat):((List UInt8)×(List UInt8)×(List xZb))×(Int)→Option (Int×Int):=fun a=>loopV (xZe5 N a.1) N a.2
def xZ99:Con tb:=.p 45 [true,true,true] (.c (.r 3) (.c (.el tb_ok 8) (.c .s .n))) (fun N a=>xZ5w N a.1 a.2.1 a.2.2.1) (R:=xZ0×Bool) (.p (.tu (.c (.el tb_ok 0) (.o .b)))) (fun _=>rfl)
def xZaI:Con tb:=.p 46 [true,true] (.c (.r 1) (.c .s .n)) (fun N a=>xZ8S N a.1 a.2.1) (R:=xZ6×Bool) (.p (.tu (.c (.el tb_ok 8) (.o .b)))) (fun _=>rfl)
def xZ6a:LQ tb (((List xZ4)×(List UInt8))×(Int)):=(LQ.m [] [0,1,4,6] (.c 0 (.r 1) (.c 1 .s (.c 4 (.ptr 0 0) (.c 6 (.i .i64) .n)))) (.c (.c (.li .i64 0) (.c (.li .i64 0) (.c (.li .i64 0) (.c (.ls []) (.c .e .n))))) .n) .n).re (fun a=>((a.1.1,a.1.2.1),a.1.2.2.2.1)) (fun x=>((x.1.1,x.1.2,(),x.2,()),(((),(),(),(),(),()),()),())) (fun _=>rfl)
def xZbH (N:Nat) (c:(List xZ4)×(List UInt8)) (next:Int→Option (xZ6×Bool)) (v:Int):Option (xZ6×Bool):=xZ8T N c.1 c.2 (fun u0=>next u0) v
abbrev xZgp (N:Nat):((List xZ4)×(List UInt8))×(Int)→Option (xZ6×Bool):=fun a=>loopV (xZbH N a.1) N a.2
def xZ8o:Con tb:=.s 47 [true,true] (.c (.r 4) (.c (.i .i64) .n)) (fun N a=>xZ48 N a.1 a.2.1) (R:=Int) (.p (.i .i64)) (fun _=>⟨rfl,(by kernel_rfl)⟩)
def xZ68:LQ tb (((List xZ1)×Int)×(Int×Int)):=(LQ.m [] [0,1,5,6] (.c 0 (.r 4) (.c 1 (.i .i64) (.c 5 (.i .i64) (.c 6 (.i .i64) .n)))) .n .n).re (fun a=>((a.1.1,a.1.2.1),(a.1.2.2.1,a.1.2.2.2.1))) (fun x=>((x.1.1,x.1.2,x.2.1,x.2.2,()),(),())) (fun _=>rfl)
def xZbF (N:Nat) (c:(List xZ1)×Int) (next:(Int×Int)→Option Int) (v:Int×Int):Option Int:=xZ8R N c.1 c.2 (fun u0 u1=>next (u0,u1)) v.1 v.2
abbrev xZgn (N:Nat):((List xZ1)×Int)×(Int×Int)→Option Int:=fun a=>loopV (xZbF N a.1) N a.2
def xZ4q:Con tb:=.s 70 [true] (.c (.i .u8) .n) (fun N a=>xZ1O N a.1) (R:=Bool) (.p .b) (fun _=>⟨rfl,(by kernel_rfl)⟩)
def xZ6n:Con tb:=.s 107 [true,true] (.c (.i .u64) (.c (.i .i64) .n)) (fun N a=>xZ1F N a.1 a.2.1) (R:=Int) (.p (.i .u64)) (fun _=>⟨rfl,(by kernel_rfl)⟩)
def xZ65:LQ tb ((Int)×(Int×Int)):=(LQ.m [] [0,1,5] (.c 0 (.i .u64) (.c 1 (.i .i64) (.c 5 (.i .i64) .n))) .n .n).re (fun a=>(a.1.2.1,(a.1.1,a.1.2.2.1))) (fun x=>((x.2.1,x.1,x.2.2,()),(),())) (fun _=>rfl)
def xZbC (N:Nat) (c:Int) (next:(Int×Int)→Option Int) (v:Int×Int):Option Int:=xZ8O N c (fun u0 u1=>next (u0,u1)) v.1 v.2
abbrev xZgk (N:Nat):(Int)×(Int×Int)→Option Int:=fun a=>loopV (xZbC N a.1) N a.2
def xZ72:Con tb:=.s 109 [true,true,true] (.c .b (.c (.i .u64) (.c (.i .i64) .n))) (fun N a=>xZe N a.1 a.2.1 a.2.2.1) (R:=Int) (.p (.i .u64)) (fun _=>⟨rfl,(by kernel_rfl)⟩)
def xZ55:LQ tb ((Bool)×(Int×Int)):=(LQ.m [] [0,1,2] (.c 0 .b (.c 1 (.i .u64) (.c 2 (.i .i64) .n))) .n .n).re (fun a=>(a.1.1,(a.1.2.1,a.1.2.2.1))) (fun x=>((x.1,x.2.1,x.2.2,()),(),())) (fun _=>rfl)
def xZ56:LQ tb ((Bool)×(Int×Int)):=(LQ.m [] [0,1,2] (.c 0 .b (.c 1 (.i .u64) (.c 2 (.i .i64) .n))) .n .n).re (fun a=>(a.1.1,(a.1.2.1,a.1.2.2.1))) (fun x=>((x.1,x.2.1,x.2.2,()),(),())) (fun _=>rfl)
def xZap (N:Nat) (c:Bool) (next:(Int×Int)→Option Int) (v:Int×Int):Option Int:=xZ3M N c (fun u0 u1=>next (u0,u1)) v.1 v.2
abbrev xZeZ (N:Nat):(Bool)×(Int×Int)→Option Int:=fun a=>loopV (xZap N a.1) N a.2
def xZao (N:Nat) (c:Bool) (next:(Int×Int)→Option Int) (v:Int×Int):Option Int:=xZ7U N c (fun u0 u1=>next (u0,u1)) v.1 v.2
abbrev xZeY (N:Nat):(Bool)×(Int×Int)→Option Int:=fun a=>loopV (xZao N a.1) N a.2
def xZ94:Con tb:=.s 110 [true] (.c (.i .i64) .n) (fun N a=>xZ7k N a.1) (R:=Int) (.p (.i .u64)) (fun _=>⟨rfl,(by kernel_rfl)⟩)
def xZ54:LQ tb ((Bool)×(Int×Int)):=(LQ.m [] [3,4,5] (.c 3 .b (.c 4 (.i .u64) (.c 5 (.i .i64) .n))) .n .n).re (fun a=>(a.1.1,(a.1.2.1,a.1.2.2.1))) (fun x=>((x.1,x.2.1,x.2.2,()),(),())) (fun _=>rfl)
def xZan (N:Nat) (c:Bool) (next:(Int×Int)→Option Int) (v:Int×Int):Option Int:=xZ3K N c (fun u0 u1=>next (u0,u1)) v.1 v.2
abbrev xZeX (N:Nat):(Bool)×(Int×Int)→Option Int:=fun a=>loopV (xZan N a.1) N a.2
def xZ8m:Con tb:=.s 73 [true] (.c (.el tb_ok 0) .n) (fun N a=>xZ1G N a.1) (R:=Int) (.p (.i .u64)) (fun _=>⟨rfl,(by kernel_rfl)⟩)
def xZ73:Con tb:=.s 105 [true] (.c (.i .u64) .n) (fun N a=>xZ7 N a.1) (R:=Int) (.p (.i .i64)) (fun _=>⟨rfl,(by kernel_rfl)⟩)
def xZ4p:Con tb:=.s 106 [true] (.c (.i .u64) .n) (fun N a=>xZm N a.1) (R:=Int) (.p (.i .u64)) (fun _=>⟨rfl,(by kernel_rfl)⟩)
def xZ6m:Con tb:=.s 108 [true] (.c (.i .u64) .n) (fun N a=>xZa N a.1) (R:=Bool) (.p .b) (fun _=>⟨rfl,(by kernel_rfl)⟩)
def xZc5:Con tb:=.s 72 [true,true] (.c (.i .u64) (.c (.i .u64) .n)) (fun N a=>xZ4X N a.1 a.2.1) (R:=Int) (.p (.i .u64)) (fun _=>⟨rfl,(by kernel_rfl)⟩)
def xZ5N:Con tb:=.s 71 [true] (.c (.i .u64) .n) (fun N a=>xZ1N N a.1) (R:=xZ0) (.p (.el tb_ok 0)) (fun _=>⟨rfl,(by kernel_rfl)⟩)
def xZ95:Con tb:=.s 74 [true] (.c (.i .i64) .n) (fun N a=>xZ4i N a.1) (R:=xZ0) (.p (.el tb_ok 0)) (fun _=>⟨rfl,(by kernel_rfl)⟩)
def xZ8l:Con tb:=.p 48 [true,true] (.c (.el tb_ok 0) (.c (.el tb_ok 0) .n)) (fun N a=>xZ2G N a.1 a.2.1) (R:=xZ0×Bool) (.p (.tu (.c (.el tb_ok 0) (.o .b)))) (fun _=>rfl)
def xZc6:Con tb:=.s 75 [true] (.c (.i .u64) .n) (fun N a=>xZ4Y N a.1) (R:=Int) (.p (.i .u64)) (fun _=>⟨rfl,(by kernel_rfl)⟩)
def xZ97:Con tb:=.p 49 [true,true] (.c (.el tb_ok 0) (.c (.el tb_ok 0) .n)) (fun N a=>xZ5v N a.1 a.2.1) (R:=xZ0×Bool) (.p (.tu (.c (.el tb_ok 0) (.o .b)))) (fun _=>rfl)
def xZ4O:Con tb:=.p 31 [true,true,true] (.c (.r 4) (.c (.i .i64) (.c (.el tb_ok 9) .n))) (fun N a=>xZ2H N a.1 a.2.1 a.2.2.1) (R:=xZ0×Bool) (.p (.tu (.c (.el tb_ok 0) (.o .b)))) (fun _=>rfl)
def xZaJ:Con tb:=.p 16 [true,true,true] (.c (.r 4) (.c (.i .i64) (.c (.el tb_ok 9) .n))) (fun N a=>xZ6F N a.1 a.2.1 a.2.2.1) (R:=xZ0×Bool) (.p (.tu (.c (.el tb_ok 0) (.o .b)))) (fun _=>rfl)
def xZ12:Con tb:=.m 28 [false] (.c (.ptr 0 0) .n) (.c (.c (.r 4) (.c (.i .i64) .n)) .n) .n (fun N a=>xZ2r N a.2.1.1.1 a.2.1.1.2.1) (R:=xZ9×List xZ1×Int) (.m (R:=xZ9×List xZ1×Int) (.tr 15) (.c (.c (.r 4) (.c (.i .i64) .n)) .n) .n (fun z=>(z.1,z.2.1.1.1,z.2.1.1.2.1)) (fun r=>(r.1,((r.2.1,r.2.2,()),()),())) (fun _=>rfl))
def xZaD:Con tb:=.s 203 [true,true] (.c (.i .u64) (.c (.i .u64) .n)) (fun N a=>xZba N a.1 a.2.1) (R:=Bool) (.p .b) (fun _=>⟨rfl,(by kernel_rfl)⟩)
def xZc3:Con tb:=.s 204 [true,true] (.c (.i .u64) (.c (.i .u64) .n)) (fun N a=>xZa9 N a.1 a.2.1) (R:=Bool) (.p .b) (fun _=>⟨rfl,(by kernel_rfl)⟩)
def xZ5B:Con tb:=.s 200 [true,true] (.c (.i .u64) (.c (.i .u64) .n)) (fun N a=>xZ5E N a.1 a.2.1) (R:=Int×Bool) (.p (.tu (.c (.i .i64) (.o .b)))) (fun _=>⟨rfl,(by kernel_rfl)⟩)
def xZcI:Con tb:=.s 201 [true,true] (.c (.i .i64) (.c (.i .u64) .n)) (fun N a=>xZ3a N a.1 a.2.1) (R:=Int×Bool) (.p (.tu (.c (.i .i64) (.o .b)))) (fun _=>⟨rfl,(by kernel_rfl)⟩)
def xZ5A:Con tb:=.s 214 [true] (.c (.i .u8) .n) (fun N a=>xZ3W N a.1) (R:=Bool) (.p .b) (fun _=>⟨rfl,(by kernel_rfl)⟩)
def xZ4m:Con tb:=.s 207 [true,true] (.c (.i .u8) (.c (.i .u8) .n)) (fun N a=>xZ2P N a.1 a.2.1) (R:=Int) (.p (.i .i64)) (fun _=>⟨rfl,(by kernel_rfl)⟩)
def xZ7p:Con tb:=.s 215 [true] (.c (.i .i64) .n) (fun N a=>xZ59 N a.1) (R:=Bool) (.p .b) (fun _=>⟨rfl,(by kernel_rfl)⟩)
def xZ5z:Con tb:=.s 208 [true,true] (.c (.i .i64) (.c (.i .i64) .n)) (fun N a=>xZ2K N a.1 a.2.1) (R:=Int) (.p (.i .i64)) (fun _=>⟨rfl,(by kernel_rfl)⟩)
def xZc4:Con tb:=.s 210 [true] (.c (.i .u64) .n) (fun N a=>xZ8a N a.1) (R:=Int) (.p (.i .u64)) (fun _=>⟨rfl,(by kernel_rfl)⟩)
def xZ4L:Con tb:=.s 216 [true] (.c (.i .u64) .n) (fun N a=>xZ4V N a.1) (R:=Bool) (.p .b) (fun _=>⟨rfl,(by kernel_rfl)⟩)
def xZ40:Con tb:=.s 209 [true,true] (.c (.i .u64) (.c (.i .u64) .n)) (fun N a=>xZ44 N a.1 a.2.1) (R:=Int) (.p (.i .i64)) (fun _=>⟨rfl,(by kernel_rfl)⟩)
def xZ4K:Con tb:=.s 120 [true] (.c .s .n) (fun N a=>xZ3h N a.1) (R:=Bool) (.p .b) (fun _=>⟨rfl,(by kernel_rfl)⟩)
def xZ3Z:Con tb:=.s 211 [true,true] (.c .s (.c .s .n)) (fun N a=>xZ1U N a.1 a.2.1) (R:=Int) (.p (.i .i64)) (fun _=>⟨rfl,(by kernel_rfl)⟩)
def xZaK:Con tb:=.s 202 [true,true] (.c (.el tb_ok 0) (.c (.el tb_ok 0) .n)) (fun N a=>xZ6G N a.1 a.2.1) (R:=Int) (.p (.i .i64)) (fun _=>⟨rfl,(by kernel_rfl)⟩)
def xZ7s:Con tb:=.s 198 [true,true] (.c (.el tb_ok 0) (.c (.el tb_ok 0) .n)) (fun N a=>xZp N a.1 a.2.1) (R:=Int×Bool) (.p (.tu (.c (.i .i64) (.o .b)))) (fun _=>⟨rfl,(by kernel_rfl)⟩)
def xZ8d:Con tb:=.s 199 [true,true] (.c (.i .u8) (.c (.i .i64) .n)) (fun N a=>xZ10 N a.1 a.2.1) (R:=Bool) (.p .b) (fun _=>⟨rfl,(by kernel_rfl)⟩)
def xZ7q:Con tb:=.s 196 [true,true,true] (.c (.i .u8) (.c (.el tb_ok 0) (.c (.el tb_ok 0) .n))) (fun N a=>xZ2h N a.1 a.2.1 a.2.2.1) (R:=Bool) (.p .b) (fun _=>⟨rfl,(by kernel_rfl)⟩)
def xZU:Con tb:=.m 195 [true,false] (.c (.el tb_ok 16) (.c (.ptr 0 0) .n)) (.c (.c (.r 3) (.c (.r 1) (.c (.i .i64) (.c (.i .i64) (.c (.i .i64) (.c .s (.c (.r 0) .n))))))) .n) .n (fun N a=>xZ8 N a.1.1 a.2.1.1.1 a.2.1.1.2.1 a.2.1.1.2.2.1 a.2.1.1.2.2.2.1 a.2.1.1.2.2.2.2.1 a.2.1.1.2.2.2.2.2.1 a.2.1.1.2.2.2.2.2.2.1) (R:=Bool×List xZ2×List xZ4×Int×Int×Int×List UInt8×List xZ0) (.m (R:=Bool×List xZ2×List xZ4×Int×Int×Int×List UInt8×List xZ0) .b (.c (.c (.r 3) (.c (.r 1) (.c (.i .i64) (.c (.i .i64) (.c (.i .i64) (.c .s (.c (.r 0) .n))))))) .n) .n (fun z=>(z.1,z.2.1.1.1,z.2.1.1.2.1,z.2.1.1.2.2.1,z.2.1.1.2.2.2.1,z.2.1.1.2.2.2.2.1,z.2.1.1.2.2.2.2.2.1,z.2.1.1.2.2.2.2.2.2.1)) (fun r=>(r.1,((r.2.1,r.2.2.1,r.2.2.2.1,r.2.2.2.2.1,r.2.2.2.2.2.1,r.2.2.2.2.2.2.1,r.2.2.2.2.2.2.2,()),()),())) (fun _=>rfl))
def xZJ:Con tb:=.m 192 [true,false] (.c (.el tb_ok 17) (.c (.ptr 0 0) .n)) (.c (.c (.r 3) (.c (.r 1) (.c (.i .i64) (.c (.i .i64) (.c (.i .i64) (.c .s (.c (.r 0) .n))))))) .n) .n (fun N a=>xZ35 N a.1.1 a.2.1.1.1 a.2.1.1.2.1 a.2.1.1.2.2.1 a.2.1.1.2.2.2.1 a.2.1.1.2.2.2.2.1 a.2.1.1.2.2.2.2.2.1 a.2.1.1.2.2.2.2.2.2.1) (R:=Bool×List xZ2×List xZ4×Int×Int×Int×List UInt8×List xZ0) (.m (R:=Bool×List xZ2×List xZ4×Int×Int×Int×List UInt8×List xZ0) .b (.c (.c (.r 3) (.c (.r 1) (.c (.i .i64) (.c (.i .i64) (.c (.i .i64) (.c .s (.c (.r 0) .n))))))) .n) .n (fun z=>(z.1,z.2.1.1.1,z.2.1.1.2.1,z.2.1.1.2.2.1,z.2.1.1.2.2.2.1,z.2.1.1.2.2.2.2.1,z.2.1.1.2.2.2.2.2.1,z.2.1.1.2.2.2.2.2.2.1)) (fun r=>(r.1,((r.2.1,r.2.2.1,r.2.2.2.1,r.2.2.2.2.1,r.2.2.2.2.2.1,r.2.2.2.2.2.2.1,r.2.2.2.2.2.2.2,()),()),())) (fun _=>rfl))
def xZK:Con tb:=.m 194 [true,false] (.c (.el tb_ok 18) (.c (.ptr 0 0) .n)) (.c (.c (.r 3) (.c (.r 1) (.c (.i .i64) (.c (.i .i64) (.c (.i .i64) (.c .s (.c (.r 0) .n))))))) .n) .n (fun N a=>xZ36 N a.1.1 a.2.1.1.1 a.2.1.1.2.1 a.2.1.1.2.2.1 a.2.1.1.2.2.2.1 a.2.1.1.2.2.2.2.1 a.2.1.1.2.2.2.2.2.1 a.2.1.1.2.2.2.2.2.2.1) (R:=Bool×List xZ2×List xZ4×Int×Int×Int×List UInt8×List xZ0) (.m (R:=Bool×List xZ2×List xZ4×Int×Int×Int×List UInt8×List xZ0) .b (.c (.c (.r 3) (.c (.r 1) (.c (.i .i64) (.c (.i .i64) (.c (.i .i64) (.c .s (.c (.r 0) .n))))))) .n) .n (fun z=>(z.1,z.2.1.1.1,z.2.1.1.2.1,z.2.1.1.2.2.1,z.2.1.1.2.2.2.1,z.2.1.1.2.2.2.2.1,z.2.1.1.2.2.2.2.2.1,z.2.1.1.2.2.2.2.2.2.1)) (fun r=>(r.1,((r.2.1,r.2.2.1,r.2.2.2.1,r.2.2.2.2.1,r.2.2.2.2.2.1,r.2.2.2.2.2.2.1,r.2.2.2.2.2.2.2,()),()),())) (fun _=>rfl))
def xZT:Con tb:=.m 193 [true,false] (.c (.el tb_ok 17) (.c (.ptr 0 0) .n)) (.c (.c (.r 3) (.c (.r 1) (.c (.i .i64) (.c (.i .i64) (.c (.i .i64) (.c .s (.c (.r 0) .n))))))) .n) .n (fun N a=>xZ3C N a.1.1 a.2.1.1.1 a.2.1.1.2.1 a.2.1.1.2.2.1 a.2.1.1.2.2.2.1 a.2.1.1.2.2.2.2.1 a.2.1.1.2.2.2.2.2.1 a.2.1.1.2.2.2.2.2.2.1) (R:=Bool×List xZ2×List xZ4×Int×Int×Int×List UInt8×List xZ0) (.m (R:=Bool×List xZ2×List xZ4×Int×Int×Int×List UInt8×List xZ0) .b (.c (.c (.r 3) (.c (.r 1) (.c (.i .i64) (.c (.i .i64) (.c (.i .i64) (.c .s (.c (.r 0) .n))))))) .n) .n (fun z=>(z.1,z.2.1.1.1,z.2.1.1.2.1,z.2.1.1.2.2.1,z.2.1.1.2.2.2.1,z.2.1.1.2.2.2.2.1,z.2.1.1.2.2.2.2.2.1,z.2.1.1.2.2.2.2.2.2.1)) (fun r=>(r.1,((r.2.1,r.2.2.1,r.2.2.2.1,r.2.2.2.2.1,r.2.2.2.2.2.1,r.2.2.2.2.2.2.1,r.2.2.2.2.2.2.2,()),()),())) (fun _=>rfl))
def xZ6Z:Con tb:=.s 14 [true,true,true,true] (.c (.r 4) (.c (.r 3) (.c (.r 1) (.c (.el tb_ok 8) .n)))) (fun N a=>xZ1d N a.1 a.2.1 a.2.2.1 a.2.2.2.1) (R:=Bool) (.p .b) (fun _=>⟨rfl,(by kernel_rfl)⟩)
def xZ7u:Con tb:=.s 143 [true,true] (.c (.i .i64) (.c (.i .u64) .n)) (fun N a=>xZ3L N a.1 a.2.1) (R:=Int) (.p (.i .i64)) (fun _=>⟨rfl,(by kernel_rfl)⟩)
def xZ3T:LQ tb ((Int)×(Int×Int)):=(LQ.m [] [0,5,6] (.c 0 (.i .i64) (.c 5 (.i .u64) (.c 6 (.i .i64) .n))) .n .n).re (fun a=>(a.1.1,(a.1.2.1,a.1.2.2.1))) (fun x=>((x.1,x.2.1,x.2.2,()),(),())) (fun _=>rfl)
def xZ3U:LQ tb ((Int)×(Int×Int×Bool)):=(LQ.m [] [0,5,6,7] (.c 0 (.i .i64) (.c 5 (.i .u64) (.c 6 (.i .i64) (.c 7 .b .n)))) .n .n).re (fun a=>(a.1.1,(a.1.2.1,a.1.2.2.1,a.1.2.2.2.1))) (fun x=>((x.1,x.2.1,x.2.2.1,x.2.2.2,()),(),())) (fun _=>rfl)
def xZ8X (N:Nat) (c:Int) (next:(Int×Int×Bool)→Option Int) (v:Int×Int×Bool):Option Int:=xZ1e N c (fun u0 u1 u2=>next (u0,u1,u2)) v.1 v.2.1 v.2.2
abbrev xZdn (N:Nat):(Int)×(Int×Int×Bool)→Option Int:=fun a=>loopV (xZ8X N a.1) N a.2
def xZ8W (N:Nat) (c:Int) (next:(Int×Int)→Option Int) (v:Int×Int):Option Int:=xZ5F N c (fun u0 u1=>next (u0,u1)) v.1 v.2
abbrev xZdm (N:Nat):(Int)×(Int×Int)→Option Int:=fun a=>loopV (xZ8W N a.1) N a.2
def xZ8k:Con tb:=.s 111 [true,true] (.c (.i .i64) (.c (.i .u64) .n)) (fun N a=>xZ2F N a.1 a.2.1) (R:=Int×Bool) (.p (.tu (.c (.i .i64) (.o .b)))) (fun _=>⟨rfl,(by kernel_rfl)⟩)
def xZ71:Con tb:=.s 113 [true,true] (.c (.i .u64) (.c (.i .u64) .n)) (fun N a=>xZ2w N a.1 a.2.1) (R:=Bool) (.p .b) (fun _=>⟨rfl,(by kernel_rfl)⟩)
def xZ8j:Con tb:=.s 144 [true] (.c (.i .u64) .n) (fun N a=>xZ2E N a.1) (R:=Int) (.p (.i .u64)) (fun _=>⟨rfl,(by kernel_rfl)⟩)
def xZaE:Con tb:=.s 112 [true,true] (.c (.i .u64) (.c (.i .u64) .n)) (fun N a=>xZ1W N a.1 a.2.1) (R:=Bool) (.p .b) (fun _=>⟨rfl,(by kernel_rfl)⟩)
def xZaF:Con tb:=.s 114 [true,true] (.c (.el tb_ok 0) (.c (.el tb_ok 0) .n)) (fun N a=>xZ47 N a.1 a.2.1) (R:=Int) (.p (.i .i64)) (fun _=>⟨rfl,(by kernel_rfl)⟩)
def xZat:LQ tb ((Int×Int×Bool×Int×Int×Int×(List UInt8)×Int×Int×Int×(List UInt8))×(Unit)):=(LQ.m [] [2,3,5,6,7] (.c 2 (.ptr 0 0) (.c 3 (.ptr 1 0) (.c 5 (.i .u64) (.c 6 (.i .u64) (.c 7 .b .n))))) (.c (.c (.i .u8) (.c (.i .i64) (.c (.i .u64) (.c .s .n)))) (.c (.c (.i .u8) (.c (.i .i64) (.c (.i .u64) (.c .s .n)))) .n)) .n).re (fun a=>((a.1.2.2.1,a.1.2.2.2.1,a.1.2.2.2.2.1,a.2.1.1.1,a.2.1.1.2.1,a.2.1.1.2.2.1,a.2.1.1.2.2.2.1,a.2.1.2.1.1,a.2.1.2.1.2.1,a.2.1.2.1.2.2.1,a.2.1.2.1.2.2.2.1),())) (fun x=>(((),(),x.1.1,x.1.2.1,x.1.2.2.1,()),((x.1.2.2.2.1,x.1.2.2.2.2.1,x.1.2.2.2.2.2.1,x.1.2.2.2.2.2.2.1,()),(x.1.2.2.2.2.2.2.2.1,x.1.2.2.2.2.2.2.2.2.1,x.1.2.2.2.2.2.2.2.2.2.1,x.1.2.2.2.2.2.2.2.2.2.2,()),()),())) (fun _=>rfl)
abbrev xZau (N:Nat):(Int×Int×Bool×Int×Int×Int×(List UInt8)×Int×Int×Int×(List UInt8))×(Unit)→Option Int:=fun a=>xZ16 N a.1.1 a.1.2.1 a.1.2.2.1 a.1.2.2.2.1 a.1.2.2.2.2.1 a.1.2.2.2.2.2.2.1 a.1.2.2.2.2.2.2.2.2.1 a.1.2.2.2.2.2.2.2.2.2.2
def xZ98:Con tb:=.s 76 [true,true] (.c (.el tb_ok 0) (.c (.el tb_ok 0) .n)) (fun N a=>xZ3c N a.1 a.2.1) (R:=Int×Bool) (.p (.tu (.c (.i .i64) (.o .b)))) (fun _=>⟨rfl,(by kernel_rfl)⟩)
def xZ96:Con tb:=.s 50 [true,true,true] (.c (.i .u8) (.c (.el tb_ok 0) (.c (.el tb_ok 0) .n))) (fun N a=>xZ4j N a.1 a.2.1 a.2.2.1) (R:=Bool) (.p .b) (fun _=>⟨rfl,(by kernel_rfl)⟩)
def xZ9P:LQ tb ((Int×Bool×Int×Int×Int×(List UInt8)×Int×Int×Int×(List UInt8))×(Unit)):=(LQ.m [] [0,4,5,24] (.c 0 (.i .u8) (.c 4 (.ptr 0 0) (.c 5 (.ptr 1 0) (.c 24 .b .n)))) (.c (.c (.i .u8) (.c (.i .i64) (.c (.i .u64) (.c .s .n)))) (.c (.c (.i .u8) (.c (.i .i64) (.c (.i .u64) (.c .s .n)))) .n)) .n).re (fun a=>((a.1.1,a.1.2.2.2.1,a.2.1.1.1,a.2.1.1.2.1,a.2.1.1.2.2.1,a.2.1.1.2.2.2.1,a.2.1.2.1.1,a.2.1.2.1.2.1,a.2.1.2.1.2.2.1,a.2.1.2.1.2.2.2.1),())) (fun x=>((x.1.1,(),(),x.1.2.1,()),((x.1.2.2.1,x.1.2.2.2.1,x.1.2.2.2.2.1,x.1.2.2.2.2.2.1,()),(x.1.2.2.2.2.2.2.1,x.1.2.2.2.2.2.2.2.1,x.1.2.2.2.2.2.2.2.2.1,x.1.2.2.2.2.2.2.2.2.2,()),()),())) (fun _=>rfl)
def xZ9Q:LQ tb ((Int×Bool×Int×Int×Int×(List UInt8)×Int×Int×Int×(List UInt8))×(Unit)):=(LQ.m [] [0,4,5,40] (.c 0 (.i .u8) (.c 4 (.ptr 0 0) (.c 5 (.ptr 1 0) (.c 40 .b .n)))) (.c (.c (.i .u8) (.c (.i .i64) (.c (.i .u64) (.c .s .n)))) (.c (.c (.i .u8) (.c (.i .i64) (.c (.i .u64) (.c .s .n)))) .n)) .n).re (fun a=>((a.1.1,a.1.2.2.2.1,a.2.1.1.1,a.2.1.1.2.1,a.2.1.1.2.2.1,a.2.1.1.2.2.2.1,a.2.1.2.1.1,a.2.1.2.1.2.1,a.2.1.2.1.2.2.1,a.2.1.2.1.2.2.2.1),())) (fun x=>((x.1.1,(),(),x.1.2.1,()),((x.1.2.2.1,x.1.2.2.2.1,x.1.2.2.2.2.1,x.1.2.2.2.2.2.1,()),(x.1.2.2.2.2.2.2.1,x.1.2.2.2.2.2.2.2.1,x.1.2.2.2.2.2.2.2.2.1,x.1.2.2.2.2.2.2.2.2.2,()),()),())) (fun _=>rfl)
def xZ9R:LQ tb ((Int×Int×Bool)×(Unit)):=(LQ.m [] [0,7,59] (.c 0 (.i .u8) (.c 7 (.i .i64) (.c 59 .b .n))) .n .n).re (fun a=>((a.1.1,a.1.2.1,a.1.2.2.1),())) (fun x=>((x.1.1,x.1.2.1,x.1.2.2,()),(),())) (fun _=>rfl)
abbrev xZ9V (N:Nat):(Int×Int×Bool)×(Unit)→Option Bool:=fun a=>xZ3b N a.1.1 a.1.2.1 a.1.2.2
abbrev xZ9U (N:Nat):(Int×Bool×Int×Int×Int×(List UInt8)×Int×Int×Int×(List UInt8))×(Unit)→Option Bool:=fun a=>xZ2t N a.1.1 a.1.2.1 a.1.2.2.1 a.1.2.2.2.1 a.1.2.2.2.2.1 a.1.2.2.2.2.2.1 a.1.2.2.2.2.2.2.1 a.1.2.2.2.2.2.2.2.1 a.1.2.2.2.2.2.2.2.2.1 a.1.2.2.2.2.2.2.2.2.2
abbrev xZ9T (N:Nat):(Int×Bool×Int×Int×Int×(List UInt8)×Int×Int×Int×(List UInt8))×(Unit)→Option Bool:=fun a=>xZ2s N a.1.1 a.1.2.1 a.1.2.2.1 a.1.2.2.2.1 a.1.2.2.2.2.1 a.1.2.2.2.2.2.1 a.1.2.2.2.2.2.2.1 a.1.2.2.2.2.2.2.2.1 a.1.2.2.2.2.2.2.2.2.1 a.1.2.2.2.2.2.2.2.2.2
def xZ5f:Con tb:=.s 32 [true,true,true] (.c (.r 4) (.c (.i .i64) (.c (.el tb_ok 9) .n))) (fun N a=>xZa0 N a.1 a.2.1 a.2.2.1) (R:=Bool) (.p .b) (fun _=>⟨rfl,(by kernel_rfl)⟩)
def xZ75:Con tb:=.s 17 [true,true] (.c (.r 4) (.c (.el tb_ok 9) .n)) (fun N a=>xZ1f N a.1 a.2.1) (R:=Bool) (.p .b) (fun _=>⟨rfl,(by kernel_rfl)⟩)
def xZ91:Con tb:=.s 18 [true,true,true,true] (.c (.el tb_ok 19) (.c (.r 3) (.c (.r 1) (.c (.el tb_ok 8) .n)))) (fun N a=>xZ5t N a.1 a.2.1 a.2.2.1 a.2.2.2.1) (R:=Bool) (.p .b) (fun _=>⟨rfl,(by kernel_rfl)⟩)
def xZ9b:Con tb:=.s 19 [true,true] (.c (.el tb_ok 19) (.c (.el tb_ok 9) .n)) (fun N a=>xZ5y N a.1 a.2.1) (R:=Bool) (.p .b) (fun _=>⟨rfl,(by kernel_rfl)⟩)
def xZ7V:Con tb:=.s 4 [true,true,true] (.c (.r 4) (.c (.el tb_ok 9) (.c .s .n))) (fun N a=>xZ3l N a.1 a.2.1 a.2.2.1) (R:=Bool) (.p .b) (fun _=>⟨rfl,(by kernel_rfl)⟩)
def xZ2A:LQ tb (((List xZ1)×(List UInt8)×(List xZ1)×(List xZ2)×(List xZ4)×(List xZ2)×(List xZ4)×Int×Int×Int×(List UInt8)×(List xZ0)×Int×Int×Int×(List UInt8)×(List xZ0))×(Int)):=(LQ.m [] [0,2,4,7,8,9,10,11] (.c 0 (.r 4) (.c 2 .s (.c 4 (.ptr 0 0) (.c 7 (.r 4) (.c 8 (.r 3) (.c 9 (.r 1) (.c 10 (.ptr 1 0) (.c 11 (.i .i64) .n)))))))) (.c (.c (.r 3) (.c (.r 1) (.c (.i .i64) (.c (.i .i64) (.c (.i .i64) (.c .s (.c (.r 0) .n))))))) (.c (.c (.i .i64) (.c (.i .i64) (.c (.i .i64) (.c .s (.c (.r 0) .n))))) .n)) .n).re (fun a=>((a.1.1,a.1.2.1,a.1.2.2.2.1,a.1.2.2.2.2.1,a.1.2.2.2.2.2.1,a.2.1.1.1,a.2.1.1.2.1,a.2.1.1.2.2.1,a.2.1.1.2.2.2.1,a.2.1.1.2.2.2.2.1,a.2.1.1.2.2.2.2.2.1,a.2.1.1.2.2.2.2.2.2.1,a.2.1.2.1.1,a.2.1.2.1.2.1,a.2.1.2.1.2.2.1,a.2.1.2.1.2.2.2.1,a.2.1.2.1.2.2.2.2.1),a.1.2.2.2.2.2.2.2.1)) (fun x=>((x.1.1,x.1.2.1,(),x.1.2.2.1,x.1.2.2.2.1,x.1.2.2.2.2.1,(),x.2,()),((x.1.2.2.2.2.2.1,x.1.2.2.2.2.2.2.1,x.1.2.2.2.2.2.2.2.1,x.1.2.2.2.2.2.2.2.2.1,x.1.2.2.2.2.2.2.2.2.2.1,x.1.2.2.2.2.2.2.2.2.2.2.1,x.1.2.2.2.2.2.2.2.2.2.2.2.1,()),(x.1.2.2.2.2.2.2.2.2.2.2.2.2.1,x.1.2.2.2.2.2.2.2.2.2.2.2.2.2.1,x.1.2.2.2.2.2.2.2.2.2.2.2.2.2.2.1,x.1.2.2.2.2.2.2.2.2.2.2.2.2.2.2.2.1,x.1.2.2.2.2.2.2.2.2.2.2.2.2.2.2.2.2,()),()),())) (fun _=>rfl)
def xZ6r (N:Nat) (c:(List xZ1)×(List UInt8)×(List xZ1)×(List xZ2)×(List xZ4)×(List xZ2)×(List xZ4)×Int×Int×Int×(List UInt8)×(List xZ0)×Int×Int×Int×(List UInt8)×(List xZ0)) (next:Int→Option Bool) (v:Int):Option Bool:=xZ45 N c.1 c.2.1 c.2.2.1 c.2.2.2.1 c.2.2.2.2.1 c.2.2.2.2.2.1 c.2.2.2.2.2.2.1 c.2.2.2.2.2.2.2.1 c.2.2.2.2.2.2.2.2.1 c.2.2.2.2.2.2.2.2.2.1 c.2.2.2.2.2.2.2.2.2.2.1 c.2.2.2.2.2.2.2.2.2.2.2.1 c.2.2.2.2.2.2.2.2.2.2.2.2.1 c.2.2.2.2.2.2.2.2.2.2.2.2.2.1 c.2.2.2.2.2.2.2.2.2.2.2.2.2.2.1 c.2.2.2.2.2.2.2.2.2.2.2.2.2.2.2.1 c.2.2.2.2.2.2.2.2.2.2.2.2.2.2.2.2 (fun u0=>next u0) v
abbrev xZb8 (N:Nat):((List xZ1)×(List UInt8)×(List xZ1)×(List xZ2)×(List xZ4)×(List xZ2)×(List xZ4)×Int×Int×Int×(List UInt8)×(List xZ0)×Int×Int×Int×(List UInt8)×(List xZ0))×(Int)→Option Bool:=fun a=>loopV (xZ6r N a.1) N a.2
end
end
end Go.Proofs.YtbanfalnbhcknaaGreatDoor.H
