/- The code, and what each function of it is walked to. No premise beyond what each theorem says. -/
import Derived.Test.YtmllclbhdmajmaaGreatAG1
set_option linter.all false
set_option linter.unusedSimpArgs false
set_option linter.unusedVariables false
namespace Go.Proofs.YtmllclbhdmajmaaGreat.A
open Go
section
open Go.Proofs.Tryz
set_option maxRecDepth 1000000
noncomputable section
theorem hm:prog.follows .mixedOrders=true:=by kernel_rfl
def eA0 (x:List UInt8):AV:=.v (.string (bs x))
def eA1 (x:xZ0):AV:=.agg [.v (.int .u8 x.Kind),.v (.int .u8 x.Op),.v (.string (bs x.Var)),.v (.string (bs x.Name)),.v (.int .u8 x.Val.Kind),.v (.int .i64 x.Val.N),.v (.int .u64 x.Val.Bits),.v (.string (bs x.Val.Text))]
def eA2 (x:xZ2):AV:=.agg [.v (.bool x.Neg),.v (.string (bs x.Var)),.v (.string (bs x.Type_)),.sl 8 (List.map eA1 x.Test)]
def eA3 (x:xZ1):AV:=.agg [.v (.int .u8 x.Kind),.v (.int .i64 x.Place)]
def eA4 (x:xZ5t):AV:=.agg [.v (.int .u8 x.Kind),.v (.int .i64 x.Kids),.v (.int .i64 x.Lo),.v (.int .i64 x.Hi),.v (.string (bs x.Var)),.v (.string (bs x.Type_)),.sl 8 (List.map eA1 x.Test)]
def eA5 (x:xZ3):AV:=.agg [.v (.int .u8 x.Kind),.v (.int .i64 x.At),.v (.string (bs x.Text)),.v (.int .u8 x.Val.Kind),.v (.int .i64 x.Val.N),.v (.int .u64 x.Val.Bits),.v (.string (bs x.Val.Text))]
def eA6 (x:List xZ0):AV:=.sl 8 (List.map eA1 x)
def eA7 (x:xZ7):AV:=.agg [.v (.int .u8 x.Kind),.v (.int .i64 x.N),.v (.int .u64 x.Bits),.v (.string (bs x.Text))]
def eA8 (x:xZ6):AV:=.agg [.sl 2 (List.map eA3 x.Nodes),.sl 4 (List.map eA2 x.Places),.v (.int .i64 x.Within),.v (.string (bs x.By)),.v (.int .u8 x.Mode)]
def eA9 (x:xZ5):AV:=.agg [.v (.int .u64 x.i0),.v (.int .u64 x.i1)]
def eA10 (x:Int):AV:=.v (.int .u64 x)
def eA11 (x:Ent105):AV:=.agg [.v (.int .i64 x.k.at_),.v (.int .u64 x.k.from_.i0),.v (.int .u64 x.k.from_.i1),.v (.int .u64 x.v.i0),.v (.int .u64 x.v.i1)]
def eA12 (x:A102 Bool):AV:=.agg (flm (fun (y1:Bool)=>[.v (.bool y1)]) (A102.l x))
def eA13 (x:Bool):AV:=.v (.bool x)
def eA14 (x:xZ67):AV:=.agg [.sl 2 (List.map eA3 x.i0.Nodes),.sl 4 (List.map eA2 x.i0.Places),.v (.int .i64 x.i0.Within),.v (.string (bs x.i0.By)),.v (.int .u8 x.i0.Mode),.sl 2 (List.map eA3 x.i1.Nodes),.sl 4 (List.map eA2 x.i1.Places),.v (.int .i64 x.i1.Within),.v (.string (bs x.i1.By)),.v (.int .u8 x.i1.Mode)]
abbrev T:Nat→Type
 | 0=>List UInt8
 | 1=>xZ0
 | 2=>xZ2
 | 3=>xZ1
 | 4=>xZ5t
 | 5=>xZ3
 | 6=>List xZ0
 | 7=>xZ7
 | 8=>xZ6
 | 9=>xZ5
 | 10=>Int
 | 11=>Ent105
 | 12=>A102 Bool
 | 13=>Bool
 | 14=>xZ67
 | _=>Unit
def enc:(i:Nat)→T i→List (BV T)
 | 0=>fun (x:List UInt8)=>[.str x]
 | 1=>fun (x:xZ0)=>[.int .u8 x.Kind,.int .u8 x.Op,.str x.Var,.str x.Name,.int .u8 x.Val.Kind,.int .i64 x.Val.N,.int .u64 x.Val.Bits,.str x.Val.Text]
 | 2=>fun (x:xZ2)=>[.bool x.Neg,.str x.Var,.str x.Type_,.sl 1 x.Test]
 | 3=>fun (x:xZ1)=>[.int .u8 x.Kind,.int .i64 x.Place]
 | 4=>fun (x:xZ5t)=>[.int .u8 x.Kind,.int .i64 x.Kids,.int .i64 x.Lo,.int .i64 x.Hi,.str x.Var,.str x.Type_,.sl 1 x.Test]
 | 5=>fun (x:xZ3)=>[.int .u8 x.Kind,.int .i64 x.At,.str x.Text,.int .u8 x.Val.Kind,.int .i64 x.Val.N,.int .u64 x.Val.Bits,.str x.Val.Text]
 | 6=>fun (x:List xZ0)=>[.sl 1 x]
 | 7=>fun (x:xZ7)=>[.int .u8 x.Kind,.int .i64 x.N,.int .u64 x.Bits,.str x.Text]
 | 8=>fun (x:xZ6)=>[.sl 3 x.Nodes,.sl 2 x.Places,.int .i64 x.Within,.str x.By,.int .u8 x.Mode]
 | 9=>fun (x:xZ5)=>[.int .u64 x.i0,.int .u64 x.i1]
 | 10=>fun (x:Int)=>[.int .u64 x]
 | 11=>fun (x:Ent105)=>[.int .i64 x.k.at_,.int .u64 x.k.from_.i0,.int .u64 x.k.from_.i1,.int .u64 x.v.i0,.int .u64 x.v.i1]
 | 12=>fun (x:A102 Bool)=>flm (fun (y1:Bool)=>[.bool y1]) (A102.l x)
 | 13=>fun (x:Bool)=>[.bool x]
 | 14=>fun (x:xZ67)=>[.sl 3 x.i0.Nodes,.sl 2 x.i0.Places,.int .i64 x.i0.Within,.str x.i0.By,.int .u8 x.i0.Mode,.sl 3 x.i1.Nodes,.sl 2 x.i1.Places,.int .i64 x.i1.Within,.str x.i1.By,.int .u8 x.i1.Mode]
 | _=>fun _=>[]
def dec0:List (BV T)→Option (List UInt8):=P1 asStr fun a0=>P0 (a0:List UInt8)
def dec1:List (BV T)→Option xZ0:=P1 (asInt .u8) fun a0=>P1 (asInt .u8) fun a1=>P1 asStr fun a2=>P1 asStr fun a3=>P1 (asInt .u8) fun a4=>P1 (asInt .i64) fun a5=>P1 (asInt .u64) fun a6=>P1 asStr fun a7=>P0 (⟨a0,a1,a2,a3,⟨a4,a5,a6,a7⟩⟩:xZ0)
def dec2:List (BV T)→Option xZ2:=P1 asBool fun a0=>P1 asStr fun a1=>P1 asStr fun a2=>P1 (asRow 1) fun a3=>P0 (⟨a0,a1,a2,a3⟩:xZ2)
def dec3:List (BV T)→Option xZ1:=P1 (asInt .u8) fun a0=>P1 (asInt .i64) fun a1=>P0 (⟨a0,a1⟩:xZ1)
def dec4:List (BV T)→Option xZ5t:=P1 (asInt .u8) fun a0=>P1 (asInt .i64) fun a1=>P1 (asInt .i64) fun a2=>P1 (asInt .i64) fun a3=>P1 asStr fun a4=>P1 asStr fun a5=>P1 (asRow 1) fun a6=>P0 (⟨a0,a1,a2,a3,a4,a5,a6⟩:xZ5t)
def dec5:List (BV T)→Option xZ3:=P1 (asInt .u8) fun a0=>P1 (asInt .i64) fun a1=>P1 asStr fun a2=>P1 (asInt .u8) fun a3=>P1 (asInt .i64) fun a4=>P1 (asInt .u64) fun a5=>P1 asStr fun a6=>P0 (⟨a0,a1,a2,⟨a3,a4,a5,a6⟩⟩:xZ3)
def dec6:List (BV T)→Option (List xZ0):=P1 (asRow 1) fun a0=>P0 (a0:List xZ0)
def dec7:List (BV T)→Option xZ7:=P1 (asInt .u8) fun a0=>P1 (asInt .i64) fun a1=>P1 (asInt .u64) fun a2=>P1 asStr fun a3=>P0 (⟨a0,a1,a2,a3⟩:xZ7)
def dec8:List (BV T)→Option xZ6:=P1 (asRow 3) fun a0=>P1 (asRow 2) fun a1=>P1 (asInt .i64) fun a2=>P1 asStr fun a3=>P1 (asInt .u8) fun a4=>P0 (⟨a0,a1,a2,a3,a4⟩:xZ6)
def dec9:List (BV T)→Option xZ5:=P1 (asInt .u64) fun a0=>P1 (asInt .u64) fun a1=>P0 (⟨a0,a1⟩:xZ5)
def dec10:List (BV T)→Option Int:=P1 (asInt .u64) fun a0=>P0 (a0:Int)
def dec11:List (BV T)→Option Ent105:=P1 (asInt .i64) fun a0=>P1 (asInt .u64) fun a1=>P1 (asInt .u64) fun a2=>P1 (asInt .u64) fun a3=>P1 (asInt .u64) fun a4=>P0 (⟨⟨a0,⟨a1,a2⟩⟩,⟨a3,a4⟩⟩:Ent105)
def dec12:List (BV T)→Option (A102 Bool):=fun cs=>(decN 1 (P1 asBool fun a0=>P0 (a0:Bool)) 102 cs).bind A102.of
def dec13:List (BV T)→Option Bool:=P1 asBool fun a0=>P0 (a0:Bool)
def dec14:List (BV T)→Option xZ67:=P1 (asRow 3) fun a0=>P1 (asRow 2) fun a1=>P1 (asInt .i64) fun a2=>P1 asStr fun a3=>P1 (asInt .u8) fun a4=>P1 (asRow 3) fun a5=>P1 (asRow 2) fun a6=>P1 (asInt .i64) fun a7=>P1 asStr fun a8=>P1 (asInt .u8) fun a9=>P0 (⟨⟨a0,a1,a2,a3,a4⟩,⟨a5,a6,a7,a8,a9⟩⟩:xZ67)
def dec:(i:Nat)→List (BV T)→Option (T i)
 | 0=>dec0
 | 1=>dec1
 | 2=>dec2
 | 3=>dec3
 | 4=>dec4
 | 5=>dec5
 | 6=>dec6
 | 7=>dec7
 | 8=>dec8
 | 9=>dec9
 | 10=>dec10
 | 11=>dec11
 | 12=>dec12
 | 13=>dec13
 | 14=>dec14
 | _=>fun _=>none
def eA:(i:Nat)→T i→AV
 | 0=>eA0
 | 1=>eA1
 | 2=>eA2
 | 3=>eA3
 | 4=>eA4
 | 5=>eA5
 | 6=>eA6
 | 7=>eA7
 | 8=>eA8
 | 9=>eA9
 | 10=>eA10
 | 11=>eA11
 | 12=>eA12
 | 13=>eA13
 | 14=>eA14
 | _=>fun _=>.agg []
def tb:Tb T:={k:=fun i=>[1,8,4,2,7,7,1,4,5,2,1,5,102,1,10].getD i 0,ag:=fun i=>[false,true,true,true,true,true,false,true,true,true,false,true,true,false,true].getD i true,eA,enc,dec}
def sbf (k:Nat):Option (List UInt8→(i:Nat)×List (T i)):=none
theorem sb_ok (k:Nat) (f:List UInt8→(i:Nat)×List (T i)) (s:List UInt8) (h:sbf k=some f):k=1∧tb.k (f s).1=1∧(f s).2.map (tb.eA (f s).1)=s.map byteV:=by cases h
def bof (i:Nat) (_:List (T i)):Option (List UInt8):=none
theorem bo_ok (i:Nat) (l:List (T i)) (s:List UInt8) (h:bof i l=some s):tb.k i=1∧∃ m:List Int,l.map (tb.eA i)=m.map u8V∧s=byS m:=by cases h
theorem xZiG (cs:List (BV T)) (x:List UInt8) (h:dec0 cs=some x):LWs (BV.avs tb cs) (eA0 x).cells:=by
 obtain ⟨c0,r0,a0,rfl,h0,h⟩:=xZg h
 obtain ⟨rfl,rfl⟩:=xZ3U h
 exact .cons (xZ2H h0) (.nil)
theorem xZiH (cs:List (BV T)) (x:xZ0) (h:dec1 cs=some x):LWs (BV.avs tb cs) (eA1 x).cells:=by
 obtain ⟨c0,r0,a0,rfl,h0,h⟩:=xZg h
 obtain ⟨c1,r1,a1,rfl,h1,h⟩:=xZg h
 obtain ⟨c2,r2,a2,rfl,h2,h⟩:=xZg h
 obtain ⟨c3,r3,a3,rfl,h3,h⟩:=xZg h
 obtain ⟨c4,r4,a4,rfl,h4,h⟩:=xZg h
 obtain ⟨c5,r5,a5,rfl,h5,h⟩:=xZg h
 obtain ⟨c6,r6,a6,rfl,h6,h⟩:=xZg h
 obtain ⟨c7,r7,a7,rfl,h7,h⟩:=xZg h
 obtain ⟨rfl,rfl⟩:=xZ3U h
 exact .cons (xZw h0) (.cons (xZw h1) (.cons (xZ2H h2) (.cons (xZ2H h3) (.cons (xZw h4) (.cons (xZw h5) (.cons (xZw h6) (.cons (xZ2H h7) (.nil))))))))
theorem xZiI (cs:List (BV T)) (x:xZ2) (h:dec2 cs=some x):LWs (BV.avs tb cs) (eA2 x).cells:=by
 obtain ⟨c0,r0,a0,rfl,h0,h⟩:=xZg h
 obtain ⟨c1,r1,a1,rfl,h1,h⟩:=xZg h
 obtain ⟨c2,r2,a2,rfl,h2,h⟩:=xZg h
 obtain ⟨c3,r3,a3,rfl,h3,h⟩:=xZg h
 obtain ⟨rfl,rfl⟩:=xZ3U h
 exact .cons (xZam h0) (.cons (xZ2H h1) (.cons (xZ2H h2) (.cons (xZ4K h3) (.nil))))
theorem xZiJ (cs:List (BV T)) (x:xZ1) (h:dec3 cs=some x):LWs (BV.avs tb cs) (eA3 x).cells:=by
 obtain ⟨c0,r0,a0,rfl,h0,h⟩:=xZg h
 obtain ⟨c1,r1,a1,rfl,h1,h⟩:=xZg h
 obtain ⟨rfl,rfl⟩:=xZ3U h
 exact .cons (xZw h0) (.cons (xZw h1) (.nil))
theorem xZiK (cs:List (BV T)) (x:xZ5t) (h:dec4 cs=some x):LWs (BV.avs tb cs) (eA4 x).cells:=by
 obtain ⟨c0,r0,a0,rfl,h0,h⟩:=xZg h
 obtain ⟨c1,r1,a1,rfl,h1,h⟩:=xZg h
 obtain ⟨c2,r2,a2,rfl,h2,h⟩:=xZg h
 obtain ⟨c3,r3,a3,rfl,h3,h⟩:=xZg h
 obtain ⟨c4,r4,a4,rfl,h4,h⟩:=xZg h
 obtain ⟨c5,r5,a5,rfl,h5,h⟩:=xZg h
 obtain ⟨c6,r6,a6,rfl,h6,h⟩:=xZg h
 obtain ⟨rfl,rfl⟩:=xZ3U h
 exact .cons (xZw h0) (.cons (xZw h1) (.cons (xZw h2) (.cons (xZw h3) (.cons (xZ2H h4) (.cons (xZ2H h5) (.cons (xZ4K h6) (.nil)))))))
theorem xZiL (cs:List (BV T)) (x:xZ3) (h:dec5 cs=some x):LWs (BV.avs tb cs) (eA5 x).cells:=by
 obtain ⟨c0,r0,a0,rfl,h0,h⟩:=xZg h
 obtain ⟨c1,r1,a1,rfl,h1,h⟩:=xZg h
 obtain ⟨c2,r2,a2,rfl,h2,h⟩:=xZg h
 obtain ⟨c3,r3,a3,rfl,h3,h⟩:=xZg h
 obtain ⟨c4,r4,a4,rfl,h4,h⟩:=xZg h
 obtain ⟨c5,r5,a5,rfl,h5,h⟩:=xZg h
 obtain ⟨c6,r6,a6,rfl,h6,h⟩:=xZg h
 obtain ⟨rfl,rfl⟩:=xZ3U h
 exact .cons (xZw h0) (.cons (xZw h1) (.cons (xZ2H h2) (.cons (xZw h3) (.cons (xZw h4) (.cons (xZw h5) (.cons (xZ2H h6) (.nil)))))))
theorem xZiM (cs:List (BV T)) (x:List xZ0) (h:dec6 cs=some x):LWs (BV.avs tb cs) (eA6 x).cells:=by
 obtain ⟨c0,r0,a0,rfl,h0,h⟩:=xZg h
 obtain ⟨rfl,rfl⟩:=xZ3U h
 exact .cons (xZ4K h0) (.nil)
theorem xZiN (cs:List (BV T)) (x:xZ7) (h:dec7 cs=some x):LWs (BV.avs tb cs) (eA7 x).cells:=by
 obtain ⟨c0,r0,a0,rfl,h0,h⟩:=xZg h
 obtain ⟨c1,r1,a1,rfl,h1,h⟩:=xZg h
 obtain ⟨c2,r2,a2,rfl,h2,h⟩:=xZg h
 obtain ⟨c3,r3,a3,rfl,h3,h⟩:=xZg h
 obtain ⟨rfl,rfl⟩:=xZ3U h
 exact .cons (xZw h0) (.cons (xZw h1) (.cons (xZw h2) (.cons (xZ2H h3) (.nil))))
theorem xZiO (cs:List (BV T)) (x:xZ6) (h:dec8 cs=some x):LWs (BV.avs tb cs) (eA8 x).cells:=by
 obtain ⟨c0,r0,a0,rfl,h0,h⟩:=xZg h
 obtain ⟨c1,r1,a1,rfl,h1,h⟩:=xZg h
 obtain ⟨c2,r2,a2,rfl,h2,h⟩:=xZg h
 obtain ⟨c3,r3,a3,rfl,h3,h⟩:=xZg h
 obtain ⟨c4,r4,a4,rfl,h4,h⟩:=xZg h
 obtain ⟨rfl,rfl⟩:=xZ3U h
 exact .cons (xZ4K h0) (.cons (xZ4K h1) (.cons (xZw h2) (.cons (xZ2H h3) (.cons (xZw h4) (.nil)))))
theorem xZiP (cs:List (BV T)) (x:xZ5) (h:dec9 cs=some x):LWs (BV.avs tb cs) (eA9 x).cells:=by
 obtain ⟨c0,r0,a0,rfl,h0,h⟩:=xZg h
 obtain ⟨c1,r1,a1,rfl,h1,h⟩:=xZg h
 obtain ⟨rfl,rfl⟩:=xZ3U h
 exact .cons (xZw h0) (.cons (xZw h1) (.nil))
theorem xZhD (cs:List (BV T)) (x:Int) (h:dec10 cs=some x):LWs (BV.avs tb cs) (eA10 x).cells:=by
 obtain ⟨c0,r0,a0,rfl,h0,h⟩:=xZg h
 obtain ⟨rfl,rfl⟩:=xZ3U h
 exact .cons (xZw h0) (.nil)
theorem xZhE (cs:List (BV T)) (x:Ent105) (h:dec11 cs=some x):LWs (BV.avs tb cs) (eA11 x).cells:=by
 obtain ⟨c0,r0,a0,rfl,h0,h⟩:=xZg h
 obtain ⟨c1,r1,a1,rfl,h1,h⟩:=xZg h
 obtain ⟨c2,r2,a2,rfl,h2,h⟩:=xZg h
 obtain ⟨c3,r3,a3,rfl,h3,h⟩:=xZg h
 obtain ⟨c4,r4,a4,rfl,h4,h⟩:=xZg h
 obtain ⟨rfl,rfl⟩:=xZ3U h
 exact .cons (xZw h0) (.cons (xZw h1) (.cons (xZw h2) (.cons (xZw h3) (.cons (xZw h4) (.nil)))))
theorem xZhF (cs:List (BV T)) (x:A102 Bool) (h:dec12 cs=some x):LWs (BV.avs tb cs) (eA12 x).cells:=by
 unfold dec12 at h
 obtain ⟨l,h1,h2⟩:=Option.bind_eq_some_iff.1 h
 have h3:=A102.of_l h2
 have h4:=xZgM (B:=tb) (f:=fun (y1:Bool)=>[.v (.bool y1)]) (fun cs a h=>by
  obtain ⟨c0,r0,a0,rfl,h0,h⟩:=xZg h
  obtain ⟨rfl,rfl⟩:=xZ3U h
  exact .cons (xZam h0) (.nil)) h1
 rw [← h3] at h4
 exact h4
theorem xZhG (cs:List (BV T)) (x:Bool) (h:dec13 cs=some x):LWs (BV.avs tb cs) (eA13 x).cells:=by
 obtain ⟨c0,r0,a0,rfl,h0,h⟩:=xZg h
 obtain ⟨rfl,rfl⟩:=xZ3U h
 exact .cons (xZam h0) (.nil)
theorem xZhH (cs:List (BV T)) (x:xZ67) (h:dec14 cs=some x):LWs (BV.avs tb cs) (eA14 x).cells:=by
 obtain ⟨c0,r0,a0,rfl,h0,h⟩:=xZg h
 obtain ⟨c1,r1,a1,rfl,h1,h⟩:=xZg h
 obtain ⟨c2,r2,a2,rfl,h2,h⟩:=xZg h
 obtain ⟨c3,r3,a3,rfl,h3,h⟩:=xZg h
 obtain ⟨c4,r4,a4,rfl,h4,h⟩:=xZg h
 obtain ⟨c5,r5,a5,rfl,h5,h⟩:=xZg h
 obtain ⟨c6,r6,a6,rfl,h6,h⟩:=xZg h
 obtain ⟨c7,r7,a7,rfl,h7,h⟩:=xZg h
 obtain ⟨c8,r8,a8,rfl,h8,h⟩:=xZg h
 obtain ⟨c9,r9,a9,rfl,h9,h⟩:=xZg h
 obtain ⟨rfl,rfl⟩:=xZ3U h
 exact .cons (xZ4K h0) (.cons (xZ4K h1) (.cons (xZw h2) (.cons (xZ2H h3) (.cons (xZw h4) (.cons (xZ4K h5) (.cons (xZ4K h6) (.cons (xZw h7) (.cons (xZ2H h8) (.cons (xZw h9) (.nil))))))))))
theorem tb_ok:tb.Ok where
 enc:=fun i x=>match i with | 0=>(by kernel_rfl) | 1=>(by kernel_rfl) | 2=>(by kernel_rfl) | 3=>(by kernel_rfl) | 4=>(by kernel_rfl) | 5=>(by kernel_rfl) | 6=>(by kernel_rfl) | 7=>(by kernel_rfl) | 8=>(by kernel_rfl) | 9=>(by kernel_rfl) | 10=>(by kernel_rfl) | 11=>(by kernel_rfl) | 12=>(by kernel_rfl) | 13=>(by kernel_rfl) | 14=>(by kernel_rfl) | n+15=>(by kernel_rfl)
 len:=fun i x=>match i with | 0=>(by kernel_rfl) | 1=>(by kernel_rfl) | 2=>(by kernel_rfl) | 3=>(by kernel_rfl) | 4=>(by kernel_rfl) | 5=>(by kernel_rfl) | 6=>(by kernel_rfl) | 7=>(by kernel_rfl) | 8=>(by kernel_rfl) | 9=>(by kernel_rfl) | 10=>(by kernel_rfl) | 11=>(by kernel_rfl) | 12=>(by kernel_rfl) | 13=>(by kernel_rfl) | 14=>(by kernel_rfl) | n+15=>(by kernel_rfl)
 one:=fun i x=>match i with | 0=>(by kernel_rfl) | 1=>(by kernel_rfl) | 2=>(by kernel_rfl) | 3=>(by kernel_rfl) | 4=>(by kernel_rfl) | 5=>(by kernel_rfl) | 6=>(by kernel_rfl) | 7=>(by kernel_rfl) | 8=>(by kernel_rfl) | 9=>(by kernel_rfl) | 10=>(by kernel_rfl) | 11=>(by kernel_rfl) | 12=>(by kernel_rfl) | 13=>(by kernel_rfl) | 14=>(by kernel_rfl) | n+15=>(by kernel_rfl)
 dat:=fun i x=>match i with | 0=>(by kernel_rfl) | 1=>(by kernel_rfl) | 2=>(by kernel_rfl) | 3=>(by kernel_rfl) | 4=>(by kernel_rfl) | 5=>(by kernel_rfl) | 6=>(by kernel_rfl) | 7=>(by kernel_rfl) | 8=>(by kernel_rfl) | 9=>(by kernel_rfl) | 10=>(by kernel_rfl) | 11=>(by kernel_rfl) | 12=>(by kernel_rfl) | 13=>(by kernel_rfl) | 14=>(by kernel_rfl) | n+15=>(by kernel_rfl)
 sg:=fun i x h=>match i with | 0=>(by kernel_rfl) | 1=>(by cases h) | 2=>(by cases h) | 3=>(by cases h) | 4=>(by cases h) | 5=>(by cases h) | 6=>(by kernel_rfl) | 7=>(by cases h) | 8=>(by cases h) | 9=>(by cases h) | 10=>(by kernel_rfl) | 11=>(by cases h) | 12=>(by cases h) | 13=>(by kernel_rfl) | 14=>(by cases h) | n+15=>(by cases h)
 ag:=fun i x h=>match i with | 0=>(by cases h) | 1=>(by kernel_rfl) | 2=>(by kernel_rfl) | 3=>(by kernel_rfl) | 4=>(by kernel_rfl) | 5=>(by kernel_rfl) | 6=>(by cases h) | 7=>(by kernel_rfl) | 8=>(by kernel_rfl) | 9=>(by kernel_rfl) | 10=>(by cases h) | 11=>(by kernel_rfl) | 12=>(by kernel_rfl) | 13=>(by cases h) | 14=>(by kernel_rfl) | n+15=>(by kernel_rfl)
 dec:=fun i=>match i with | 0=>xZiG | 1=>xZiH | 2=>xZiI | 3=>xZiJ | 4=>xZiK | 5=>xZiL | 6=>xZiM | 7=>xZiN | 8=>xZiO | 9=>xZiP | 10=>xZhD | 11=>xZhE | 12=>xZhF | 13=>xZhG | 14=>xZhH | n+15=>fun cs x h=>(by cases h)
 el:=fun i x R K r h=>by cases h
 fd:=fun i ty v x h=>by cases h
def xZ6q:Con tb:=.s 56 [true] (.c (.el tb_ok 7) .n) (fun N a=>xZ4y N a.1) (R:=Int) (.p (.i .i64)) (fun _=>⟨rfl,(by kernel_rfl)⟩)
def xZ74:Con tb:=.s 28 [true] (.c (.r 1) .n) (fun N a=>xZ60 N a.1) (R:=Int) (.p (.i .i64)) (fun _=>⟨rfl,(by kernel_rfl)⟩)
def xZ3A:LQ tb (((List xZ0))×(Int)):=(LQ.m [] [0,3] (.c 0 (.r 1) (.c 3 (.i .i64) .n)) .n .n).re (fun a=>(a.1.1,a.1.2.1)) (fun x=>((x.1,x.2,()),(),())) (fun _=>rfl)
def xZ7C (N:Nat) (c:(List xZ0)) (next:Int→Option Int) (v:Int):Option Int:=xZ3K N c (fun u0=>next u0) v
abbrev xZaQ (N:Nat):((List xZ0))×(Int)→Option Int:=fun a=>loopV (xZ7C N a.1) N a.2
def xZ5y:Con tb:=.s 42 [true] (.c (.i .u8) .n) (fun N a=>xZ42 N a.1) (R:=Int) (.p (.i .i64)) (fun _=>⟨rfl,(by kernel_rfl)⟩)
def xZ33:Con tb:=.s 17 [true,true] (.c (.r 3) (.c (.i .i64) .n)) (fun N a=>xZ1E N a.1 a.2.1) (R:=Int) (.p (.i .i64)) (fun _=>⟨rfl,(by kernel_rfl)⟩)
def xZ3H:LQ tb (((List xZ1)×Int)×(Int×Int)):=(LQ.m [] [0,1,5,6] (.c 0 (.r 3) (.c 1 (.i .i64) (.c 5 (.i .i64) (.c 6 (.i .i64) .n)))) .n .n).re (fun a=>((a.1.1,a.1.2.1),(a.1.2.2.1,a.1.2.2.2.1))) (fun x=>((x.1.1,x.1.2,x.2.1,x.2.2,()),(),())) (fun _=>rfl)
def xZ7J (N:Nat) (c:(List xZ1)×Int) (next:(Int×Int)→Option Int) (v:Int×Int):Option Int:=xZ64 N c.1 c.2 (fun u0 u1=>next (u0,u1)) v.1 v.2
abbrev xZaX (N:Nat):((List xZ1)×Int)×(Int×Int)→Option Int:=fun a=>loopV (xZ7J N a.1) N a.2
def xZ5x:Con tb:=.s 47 [true] (.c (.el tb_ok 8) .n) (fun N a=>xZ41 N a.1) (R:=Bool) (.p .b) (fun _=>⟨rfl,(by kernel_rfl)⟩)
def xZ3E:LQ tb (((List xZ1)×(List xZ2)×Int×(List UInt8)×Int)×(Int)):=(LQ.m [] [1,3] (.c 1 (.ptr 0 0) (.c 3 (.i .i64) .n)) (.c (.c (.r 3) (.c (.r 2) (.c (.i .i64) (.c .s (.c (.i .u8) .n))))) .n) .n).re (fun a=>((a.2.1.1.1,a.2.1.1.2.1,a.2.1.1.2.2.1,a.2.1.1.2.2.2.1,a.2.1.1.2.2.2.2.1),a.1.2.1)) (fun x=>(((),x.2,()),((x.1.1,x.1.2.1,x.1.2.2.1,x.1.2.2.2.1,x.1.2.2.2.2,()),()),())) (fun _=>rfl)
def xZ7G (N:Nat) (c:(List xZ1)×(List xZ2)×Int×(List UInt8)×Int) (next:Int→Option Bool) (v:Int):Option Bool:=xZ3O N c.1 c.2.1 (fun u0=>next u0) v
abbrev xZaU (N:Nat):((List xZ1)×(List xZ2)×Int×(List UInt8)×Int)×(Int)→Option Bool:=fun a=>loopV (xZ7G N a.1) N a.2
def xZ3h:Con tb:=.s 48 [true,true] (.c (.r 3) (.c (.i .i64) .n)) (fun N a=>xZ6I N a.1 a.2.1) (R:=Int) (.p (.i .i64)) (fun _=>⟨rfl,(by kernel_rfl)⟩)
def xZ3d:LQ tb (((List xZ1)×Int)×(Int×Int×Int)):=(LQ.m [] [0,1,5,6,7] (.c 0 (.r 3) (.c 1 (.i .i64) (.c 5 (.i .i64) (.c 6 (.i .i64) (.c 7 (.i .i64) .n))))) .n .n).re (fun a=>((a.1.1,a.1.2.1),(a.1.2.2.1,a.1.2.2.2.1,a.1.2.2.2.2.1))) (fun x=>((x.1.1,x.1.2,x.2.1,x.2.2.1,x.2.2.2,()),(),())) (fun _=>rfl)
def xZ6X (N:Nat) (c:(List xZ1)×Int) (next:(Int×Int×Int)→Option Int) (v:Int×Int×Int):Option Int:=xZ5b N (xZ3s N) c.1 c.2 (fun u0 u1 u2=>next (u0,u1,u2)) v.1 v.2.1 v.2.2
abbrev xZ9T (N:Nat):((List xZ1)×Int)×(Int×Int×Int)→Option Int:=fun a=>loopV (xZ6X N a.1) N a.2
def xZ76:Con tb:=.s 21 [true] (.c (.el tb_ok 8) .n) (fun N a=>xZ38 N a.1) (R:=Int) (.p (.i .i64)) (fun _=>⟨rfl,(by kernel_rfl)⟩)
def xZ3C:LQ tb (((List xZ1)×(List xZ2)×Int×(List UInt8)×Int)×(Int)):=(LQ.m [] [1,3] (.c 1 (.ptr 0 0) (.c 3 (.i .i64) .n)) (.c (.c (.r 3) (.c (.r 2) (.c (.i .i64) (.c .s (.c (.i .u8) .n))))) .n) .n).re (fun a=>((a.2.1.1.1,a.2.1.1.2.1,a.2.1.1.2.2.1,a.2.1.1.2.2.2.1,a.2.1.1.2.2.2.2.1),a.1.2.1)) (fun x=>(((),x.2,()),((x.1.1,x.1.2.1,x.1.2.2.1,x.1.2.2.2.1,x.1.2.2.2.2,()),()),())) (fun _=>rfl)
def xZ7E (N:Nat) (c:(List xZ1)×(List xZ2)×Int×(List UInt8)×Int) (next:Int→Option Int) (v:Int):Option Int:=xZ3M N c.1 c.2.1 c.2.2.1 c.2.2.2.1 c.2.2.2.2 (fun u0=>next u0) v
abbrev xZaS (N:Nat):((List xZ1)×(List xZ2)×Int×(List UInt8)×Int)×(Int)→Option Int:=fun a=>loopV (xZ7E N a.1) N a.2
def xZ84:Con tb:=.s 41 [true] (.c (.i .u8) .n) (fun N a=>xZ6O N a.1) (R:=Int) (.p (.i .i64)) (fun _=>⟨rfl,(by kernel_rfl)⟩)
def xZ5e:Con tb:=.s 16 [true,true] (.c (.r 3) (.c (.i .i64) .n)) (fun N a=>xZ18 N a.1 a.2.1) (R:=Int) (.p (.i .i64)) (fun _=>⟨rfl,(by kernel_rfl)⟩)
def xZ4r:LQ tb (((List xZ1)×Int)×(Int×Int)):=(LQ.m [] [5,18,19,20] (.c 5 (.i .i64) (.c 18 (.r 3) (.c 19 (.i .i64) (.c 20 (.i .i64) .n)))) .n .n).re (fun a=>((a.1.2.1,a.1.2.2.1),(a.1.1,a.1.2.2.2.1))) (fun x=>((x.2.1,x.1.1,x.1.2,x.2.2,()),(),())) (fun _=>rfl)
def xZ8w (N:Nat) (c:(List xZ1)×Int) (next:(Int×Int)→Option Int) (v:Int×Int):Option Int:=xZ4w N c.1 c.2 (fun u0 u1=>next (u0,u1)) v.1 v.2
abbrev xZbG (N:Nat):((List xZ1)×Int)×(Int×Int)→Option Int:=fun a=>loopV (xZ8w N a.1) N a.2
def xZ2A:Con tb:=.m 76 [true,false] (.c (.el tb_ok 3) (.c (.ptr 0 0) .n)) (.c (.c (.r 3) (.c (.r 2) (.c (.i .i64) (.c .s (.c (.i .u8) .n))))) .n) .n (fun N a=>xZ1L N a.1.1 a.2.1.1.1 a.2.1.1.2.1 a.2.1.1.2.2.1 a.2.1.1.2.2.2.1 a.2.1.1.2.2.2.2.1) (R:=Bool×List xZ1×List xZ2×Int×List UInt8×Int) (.m (R:=Bool×List xZ1×List xZ2×Int×List UInt8×Int) .b (.c (.c (.r 3) (.c (.r 2) (.c (.i .i64) (.c .s (.c (.i .u8) .n))))) .n) .n (fun z=>(z.1,z.2.1.1.1,z.2.1.1.2.1,z.2.1.1.2.2.1,z.2.1.1.2.2.2.1,z.2.1.1.2.2.2.2.1)) (fun r=>(r.1,((r.2.1,r.2.2.1,r.2.2.2.1,r.2.2.2.2.1,r.2.2.2.2.2,()),()),())) (fun _=>rfl))
def xZJ:Con tb:=.m 112 [true,false] (.c (.r 3) (.c (.fn 76 .n (.c (.ptr 0 0) .n)) .n)) (.c (.c (.r 3) (.c (.r 2) (.c (.i .i64) (.c .s (.c (.i .u8) .n))))) .n) .n (fun N a=>xZr N a.1.1 a.2.1.1.1 a.2.1.1.2.1 a.2.1.1.2.2.1 a.2.1.1.2.2.2.1 a.2.1.1.2.2.2.2.1) (R:=Int×List xZ1×List xZ2×Int×List UInt8×Int) (.m (R:=Int×List xZ1×List xZ2×Int×List UInt8×Int) (.i .i64) (.c (.c (.r 3) (.c (.r 2) (.c (.i .i64) (.c .s (.c (.i .u8) .n))))) .n) .n (fun z=>(z.1,z.2.1.1.1,z.2.1.1.2.1,z.2.1.1.2.2.1,z.2.1.1.2.2.2.1,z.2.1.1.2.2.2.2.1)) (fun r=>(r.1,((r.2.1,r.2.2.1,r.2.2.2.1,r.2.2.2.2.1,r.2.2.2.2.2,()),()),())) (fun _=>rfl))
def xZn:LQ tb (((List xZ1)×Int)×(Int×(List xZ1)×(List xZ2)×Int×(List UInt8)×Int)):=(LQ.m [] [0,1,7,8] (.c 0 (.r 3) (.c 1 (.fn 76 .n (.c (.ptr 0 0) .n)) (.c 7 (.i .i64) (.c 8 (.i .i64) .n)))) (.c (.c (.r 3) (.c (.r 2) (.c (.i .i64) (.c .s (.c (.i .u8) .n))))) .n) .n).re (fun a=>((a.1.1,a.1.2.2.1),(a.1.2.2.2.1,a.2.1.1.1,a.2.1.1.2.1,a.2.1.1.2.2.1,a.2.1.1.2.2.2.1,a.2.1.1.2.2.2.2.1))) (fun x=>((x.1.1,((),(),()),x.1.2,x.2.1,()),((x.2.2.1,x.2.2.2.1,x.2.2.2.2.1,x.2.2.2.2.2.1,x.2.2.2.2.2.2,()),()),())) (fun _=>rfl)
def xZ1j (N:Nat) (c:(List xZ1)×Int) (next:(Int×(List xZ1)×(List xZ2)×Int×(List UInt8)×Int)→Option (Int×List xZ1×List xZ2×Int×List UInt8×Int)) (v:Int×(List xZ1)×(List xZ2)×Int×(List UInt8)×Int):Option (Int×List xZ1×List xZ2×Int×List UInt8×Int):=xZo N c.1 c.2 (fun u0 u1 u2 u3 u4 u5=>next (u0,u1,u2,u3,u4,u5)) v.1 v.2.1 v.2.2.1 v.2.2.2.1 v.2.2.2.2.1 v.2.2.2.2.2
abbrev xZ2z (N:Nat):((List xZ1)×Int)×(Int×(List xZ1)×(List xZ2)×Int×(List UInt8)×Int)→Option (Int×List xZ1×List xZ2×Int×List UInt8×Int):=fun a=>loopV (xZ1j N a.1) N a.2
def xZB:Con tb:=.m 75 [true,false] (.c (.r 3) (.c (.fn 76 .n (.c (.ptr 0 0) .n)) .n)) (.c (.c (.r 3) (.c (.r 2) (.c (.i .i64) (.c .s (.c (.i .u8) .n))))) .n) .n (fun N a=>xZm N a.1.1 a.2.1.1.1 a.2.1.1.2.1 a.2.1.1.2.2.1 a.2.1.1.2.2.2.1 a.2.1.1.2.2.2.2.1) (R:=Bool×List xZ1×List xZ2×Int×List UInt8×Int) (.m (R:=Bool×List xZ1×List xZ2×Int×List UInt8×Int) .b (.c (.c (.r 3) (.c (.r 2) (.c (.i .i64) (.c .s (.c (.i .u8) .n))))) .n) .n (fun z=>(z.1,z.2.1.1.1,z.2.1.1.2.1,z.2.1.1.2.2.1,z.2.1.1.2.2.2.1,z.2.1.1.2.2.2.2.1)) (fun r=>(r.1,((r.2.1,r.2.2.1,r.2.2.2.1,r.2.2.2.2.1,r.2.2.2.2.2,()),()),())) (fun _=>rfl))
def xZ83:Con tb:=.s 49 [true] (.c (.el tb_ok 8) .n) (fun N a=>xZ6N N a.1) (R:=Bool) (.p .b) (fun _=>⟨rfl,(by kernel_rfl)⟩)
def xZ6p:Con tb:=.s 44 [true,true] (.c .b (.c .s .n)) (fun N a=>xZ4x N a.1 a.2.1) (R:=List UInt8) (.p .s) (fun _=>⟨rfl,(by kernel_rfl)⟩)
def xZ2B:Con tb:=.s 51 [true,true] (.c (.el tb_ok 9) (.c (.i .i64) .n)) (fun N a=>xZ1W N a.1 a.2.1) (R:=Bool) (.p .b) (fun _=>⟨rfl,(by kernel_rfl)⟩)
def xZ3k:Con tb:=.s 113 [true,true] (.c (.el tb_ok 9) (.c (.i .i64) .n)) (fun N a=>xZ2k N a.1 a.2.1) (R:=xZ5) (.p (.el tb_ok 9)) (fun _=>⟨rfl,(by kernel_rfl)⟩)
def xZ1I:Con tb:=.m 77 [false,true,true] (.c (.ptr 0 0) (.c (.el tb_ok 9) (.c .s .n))) (.c (.c (.r 3) (.c (.r 2) (.c (.i .i64) (.c .s (.c (.i .u8) (.c (.r 0) (.c (.own 0) .n))))))) .n) (.m [.i64,.u64,.u64] 11 .n) (fun N a=>xZ1h N a.1.2.1 a.1.2.2.1 a.2.1.1.1 a.2.1.1.2.1 a.2.1.1.2.2.1 a.2.1.1.2.2.2.1 a.2.1.1.2.2.2.2.1 a.2.1.1.2.2.2.2.2.1 a.2.2.1) (R:=xZ5×List xZ1×List xZ2×Int×List UInt8×Int×List (List UInt8)×List Ent105) (.m (R:=xZ5×List xZ1×List xZ2×Int×List UInt8×Int×List (List UInt8)×List Ent105) (.el tb_ok 9) (.c (.c (.r 3) (.c (.r 2) (.c (.i .i64) (.c .s (.c (.i .u8) (.c (.r 0) (.c (.own 0) .n))))))) .n) (.m [.i64,.u64,.u64] 11 .n) (fun z=>(z.1,z.2.1.1.1,z.2.1.1.2.1,z.2.1.1.2.2.1,z.2.1.1.2.2.2.1,z.2.1.1.2.2.2.2.1,z.2.1.1.2.2.2.2.2.1,z.2.2.1)) (fun r=>(r.1,((r.2.1,r.2.2.1,r.2.2.2.1,r.2.2.2.2.1,r.2.2.2.2.2.1,r.2.2.2.2.2.2.1,(),()),()),r.2.2.2.2.2.2.2,())) (fun _=>rfl))
def xZ17:LQ tb (((List UInt8)×(List (List UInt8))×Int×(List xZ1)×(List xZ2)×Int×(List UInt8)×Int×(List (List UInt8))×Int×Int×(List Ent105))×(Int×Int×Int)):=(LQ.m [] [2,4,6,7,13,14,15] (.c 2 .s (.c 4 (.ptr 1 0) (.c 6 (.ptr 2 0) (.c 7 (.ptr 3 0) (.c 13 (.r 0) (.c 14 (.i .i64) (.c 15 (.i .i64) .n))))))) (.c (.c (.r 3) (.c (.r 2) (.c (.i .i64) (.c .s (.c (.i .u8) (.c (.r 0) (.c (.own 0) .n))))))) (.c (.c (.i .u64) (.c (.i .u64) .n)) (.c (.c (.li .u64 0) (.c (.li .u64 0) .n)) (.c (.c (.i .u64) (.c (.i .u64) .n)) .n)))) (.m [.i64,.u64,.u64] 11 .n)).re (fun a=>((a.1.1,a.1.2.2.2.2.1,a.1.2.2.2.2.2.1,a.2.1.1.1,a.2.1.1.2.1,a.2.1.1.2.2.1,a.2.1.1.2.2.2.1,a.2.1.1.2.2.2.2.1,a.2.1.1.2.2.2.2.2.1,a.2.1.2.1.1,a.2.1.2.1.2.1,a.2.2.1),(a.1.2.2.2.2.2.2.1,a.2.1.2.2.2.1.1,a.2.1.2.2.2.1.2.1))) (fun x=>((x.1.1,(),(),(),x.1.2.1,x.1.2.2.1,x.2.1,()),((x.1.2.2.2.1,x.1.2.2.2.2.1,x.1.2.2.2.2.2.1,x.1.2.2.2.2.2.2.1,x.1.2.2.2.2.2.2.2.1,x.1.2.2.2.2.2.2.2.2.1,(),()),(x.1.2.2.2.2.2.2.2.2.2.1,x.1.2.2.2.2.2.2.2.2.2.2.1,()),((),(),()),(x.2.2.1,x.2.2.2,()),()),x.1.2.2.2.2.2.2.2.2.2.2.2,())) (fun _=>rfl)
def xZ2v (N:Nat) (c:(List UInt8)×(List (List UInt8))×Int×(List xZ1)×(List xZ2)×Int×(List UInt8)×Int×(List (List UInt8))×Int×Int×(List Ent105)) (next:(Int×Int×Int)→Option (xZ5×List xZ1×List xZ2×Int×List UInt8×Int×List (List UInt8)×List Ent105)) (v:Int×Int×Int):Option (xZ5×List xZ1×List xZ2×Int×List UInt8×Int×List (List UInt8)×List Ent105):=xZ19 N c.1 c.2.1 c.2.2.1 c.2.2.2.1 c.2.2.2.2.1 c.2.2.2.2.2.1 c.2.2.2.2.2.2.1 c.2.2.2.2.2.2.2.1 c.2.2.2.2.2.2.2.2.1 c.2.2.2.2.2.2.2.2.2.1 c.2.2.2.2.2.2.2.2.2.2.1 c.2.2.2.2.2.2.2.2.2.2.2 (fun u0 u1 u2=>next (u0,u1,u2)) v.1 v.2.1 v.2.2
abbrev xZ5q (N:Nat):((List UInt8)×(List (List UInt8))×Int×(List xZ1)×(List xZ2)×Int×(List UInt8)×Int×(List (List UInt8))×Int×Int×(List Ent105))×(Int×Int×Int)→Option (xZ5×List xZ1×List xZ2×Int×List UInt8×Int×List (List UInt8)×List Ent105):=fun a=>loopV (xZ2v N a.1) N a.2
def xZ3a:Con tb:=.s 78 [true,true] (.c (.el tb_ok 9) (.c (.el tb_ok 9) .n)) (fun N a=>xZC N a.1 a.2.1) (R:=xZ5) (.p (.el tb_ok 9)) (fun _=>⟨rfl,(by kernel_rfl)⟩)
def xZx:Con tb:=.m 50 [false,true,true] (.c (.ptr 0 0) (.c (.i .i64) (.c (.el tb_ok 9) .n))) (.c (.c (.r 3) (.c (.r 2) (.c (.i .i64) (.c .s (.c (.i .u8) (.c (.r 0) (.c (.own 0) .n))))))) .n) (.m [.i64,.u64,.u64] 11 .n) (fun N a=>xZ1K N a.1.2.1 a.1.2.2.1 a.2.1.1.1 a.2.1.1.2.1 a.2.1.1.2.2.1 a.2.1.1.2.2.2.1 a.2.1.1.2.2.2.2.1 a.2.1.1.2.2.2.2.2.1 a.2.2.1) (R:=xZ5×List xZ1×List xZ2×Int×List UInt8×Int×List (List UInt8)×List Ent105) (.m (R:=xZ5×List xZ1×List xZ2×Int×List UInt8×Int×List (List UInt8)×List Ent105) (.el tb_ok 9) (.c (.c (.r 3) (.c (.r 2) (.c (.i .i64) (.c .s (.c (.i .u8) (.c (.r 0) (.c (.own 0) .n))))))) .n) (.m [.i64,.u64,.u64] 11 .n) (fun z=>(z.1,z.2.1.1.1,z.2.1.1.2.1,z.2.1.1.2.2.1,z.2.1.1.2.2.2.1,z.2.1.1.2.2.2.2.1,z.2.1.1.2.2.2.2.2.1,z.2.2.1)) (fun r=>(r.1,((r.2.1,r.2.2.1,r.2.2.2.1,r.2.2.2.2.1,r.2.2.2.2.2.1,r.2.2.2.2.2.2.1,(),()),()),r.2.2.2.2.2.2.2,())) (fun _=>rfl))
def xZ1H:Con tb:=.m 79 [false,true,true] (.c (.ptr 0 0) (.c (.i .i64) (.c (.el tb_ok 9) .n))) (.c (.c (.r 3) (.c (.r 2) (.c (.i .i64) (.c .s (.c (.i .u8) (.c (.r 0) (.c (.own 0) .n))))))) .n) (.m [.i64,.u64,.u64] 11 .n) (fun N a=>xZ6o N a.1.2.1 a.1.2.2.1 a.2.1.1.1 a.2.1.1.2.1 a.2.1.1.2.2.1 a.2.1.1.2.2.2.1 a.2.1.1.2.2.2.2.1 a.2.1.1.2.2.2.2.2.1 a.2.2.1) (R:=xZ5×List xZ1×List xZ2×Int×List UInt8×Int×List (List UInt8)×List Ent105) (.m (R:=xZ5×List xZ1×List xZ2×Int×List UInt8×Int×List (List UInt8)×List Ent105) (.el tb_ok 9) (.c (.c (.r 3) (.c (.r 2) (.c (.i .i64) (.c .s (.c (.i .u8) (.c (.r 0) (.c (.own 0) .n))))))) .n) (.m [.i64,.u64,.u64] 11 .n) (fun z=>(z.1,z.2.1.1.1,z.2.1.1.2.1,z.2.1.1.2.2.1,z.2.1.1.2.2.2.1,z.2.1.1.2.2.2.2.1,z.2.1.1.2.2.2.2.2.1,z.2.2.1)) (fun r=>(r.1,((r.2.1,r.2.2.1,r.2.2.2.1,r.2.2.2.2.1,r.2.2.2.2.2.1,r.2.2.2.2.2.2.1,(),()),()),r.2.2.2.2.2.2.2,())) (fun _=>rfl))
def xZ16:LQ tb ((Int)×((List xZ1)×(List xZ2)×Int×(List UInt8)×Int×(List (List UInt8))×Int×Int×(List Ent105))):=(LQ.m [] [0,1,6,7] (.c 0 (.ptr 0 0) (.c 1 (.i .i64) (.c 6 (.ptr 1 0) (.c 7 (.ptr 2 0) .n)))) (.c (.c (.r 3) (.c (.r 2) (.c (.i .i64) (.c .s (.c (.i .u8) (.c (.r 0) (.c (.own 0) .n))))))) (.c (.c (.li .u64 0) (.c (.li .u64 0) .n)) (.c (.c (.i .u64) (.c (.i .u64) .n)) .n))) (.m [.i64,.u64,.u64] 11 .n)).re (fun a=>(a.1.2.1,(a.2.1.1.1,a.2.1.1.2.1,a.2.1.1.2.2.1,a.2.1.1.2.2.2.1,a.2.1.1.2.2.2.2.1,a.2.1.1.2.2.2.2.2.1,a.2.1.2.2.1.1,a.2.1.2.2.1.2.1,a.2.2.1))) (fun x=>(((),x.1,(),(),()),((x.2.1,x.2.2.1,x.2.2.2.1,x.2.2.2.2.1,x.2.2.2.2.2.1,x.2.2.2.2.2.2.1,(),()),((),(),()),(x.2.2.2.2.2.2.2.1,x.2.2.2.2.2.2.2.2.1,()),()),x.2.2.2.2.2.2.2.2.2,())) (fun _=>rfl)
def xZ2u (N:Nat) (c:Int) (next:((List xZ1)×(List xZ2)×Int×(List UInt8)×Int×(List (List UInt8))×Int×Int×(List Ent105))→Option (xZ5×List xZ1×List xZ2×Int×List UInt8×Int×List (List UInt8)×List Ent105)) (v:(List xZ1)×(List xZ2)×Int×(List UInt8)×Int×(List (List UInt8))×Int×Int×(List Ent105)):Option (xZ5×List xZ1×List xZ2×Int×List UInt8×Int×List (List UInt8)×List Ent105):=xZ1y N (xZ9 N) c (fun u0 u1 u2 u3 u4 u5 u6 u7 u8=>next (u0,u1,u2,u3,u4,u5,u6,u7,u8)) v.1 v.2.1 v.2.2.1 v.2.2.2.1 v.2.2.2.2.1 v.2.2.2.2.2.1 v.2.2.2.2.2.2.1 v.2.2.2.2.2.2.2.1 v.2.2.2.2.2.2.2.2
abbrev xZ5p (N:Nat):(Int)×((List xZ1)×(List xZ2)×Int×(List UInt8)×Int×(List (List UInt8))×Int×Int×(List Ent105))→Option (xZ5×List xZ1×List xZ2×Int×List UInt8×Int×List (List UInt8)×List Ent105):=fun a=>loopV (xZ2u N a.1) N a.2
def xZ3q:Con tb:=.s 23 [true,true] (.c (.el tb_ok 8) (.c (.r 0) .n)) (fun N a=>xZ3J N a.1 a.2.1) (R:=Bool) (.p .b) (fun _=>⟨rfl,(by kernel_rfl)⟩)
def xZ2D:Con tb:=.clone 104 1 (fun _ s=>shClone 80 s)
def xZ2a:Con tb:=.cloneD 104 1 (fun _ s=>shClone 80 s)
def xZ3S:Con tb:=.s 154 [true] (.c (.el tb_ok 1) .n) (fun N a=>xZ6H N a.1) (R:=Bool) (.p .b) (fun _=>⟨rfl,(by kernel_rfl)⟩)
def xZe:Con tb:=.m 177 [false] (.c (.ptr 0 0) .n) (.c (.c (.r 5) (.c (.i .i64) (.c (.i .i64) .n))) .n) .n (fun N a=>xZf N a.2.1.1.1 a.2.1.1.2.1 a.2.1.1.2.2.1) (R:=xZ3×List xZ3×Int×Int) (.m (R:=xZ3×List xZ3×Int×Int) (.el tb_ok 5) (.c (.c (.r 5) (.c (.i .i64) (.c (.i .i64) .n))) .n) .n (fun z=>(z.1,z.2.1.1.1,z.2.1.1.2.1,z.2.1.1.2.2.1)) (fun r=>(r.1,((r.2.1,r.2.2.1,r.2.2.2,()),()),())) (fun _=>rfl))
def xZ1e:Con tb:=.m 167 [false] (.c (.ptr 0 0) .n) (.c (.c (.r 5) (.c (.i .i64) (.c (.i .i64) .n))) .n) .n (fun N a=>xZc N a.2.1.1.1 a.2.1.1.2.1 a.2.1.1.2.2.1) (R:=Int×List xZ3×Int×Int) (.m (R:=Int×List xZ3×Int×Int) (.i .i64) (.c (.c (.r 5) (.c (.i .i64) (.c (.i .i64) .n))) .n) .n (fun z=>(z.1,z.2.1.1.1,z.2.1.1.2.1,z.2.1.1.2.2.1)) (fun r=>(r.1,((r.2.1,r.2.2.1,r.2.2.2,()),()),())) (fun _=>rfl))
def xZk:Con tb:=.m 182 [false,true] (.c (.ptr 0 0) (.c (.i .i64) .n)) (.c (.c (.r 5) (.c (.i .i64) (.c (.i .i64) .n))) .n) .n (fun N a=>xZb N a.1.2.1 a.2.1.1.1 a.2.1.1.2.1 a.2.1.1.2.2.1) (R:=Int×Int×List xZ3×Int×Int) (.m (R:=Int×Int×List xZ3×Int×Int) (.ifc 16777443 (.ag (.c (.i .i64) (.c (.i .i64) .n)))) (.c (.c (.r 5) (.c (.i .i64) (.c (.i .i64) .n))) .n) .n (fun z=>(z.1.1,z.1.2.1,z.2.1.1.1,z.2.1.1.2.1,z.2.1.1.2.2.1)) (fun r=>((r.1,r.2.1,()),((r.2.2.1,r.2.2.2.1,r.2.2.2.2,()),()),())) (fun _=>rfl))
def xZ1b:Con tb:=.m 181 [false,true] (.c (.ptr 0 0) (.c (.i .i64) .n)) (.c (.c (.r 5) (.c (.i .i64) (.c (.i .i64) .n))) .n) .n (fun N a=>xZ1N N a.1.2.1 a.2.1.1.1 a.2.1.1.2.1 a.2.1.1.2.2.1) (R:=(Int×Int×List xZ3×Int×Int)⊕(List xZ3×Int×Int)) (.or (.m (R:=Int×Int×List xZ3×Int×Int) (.ifc 16777443 (.ag (.c (.i .i64) (.c (.i .i64) .n)))) (.c (.c (.r 5) (.c (.i .i64) (.c (.i .i64) .n))) .n) .n (fun z=>(z.1.1,z.1.2.1,z.2.1.1.1,z.2.1.1.2.1,z.2.1.1.2.2.1)) (fun r=>((r.1,r.2.1,()),((r.2.2.1,r.2.2.2.1,r.2.2.2.2,()),()),())) (fun _=>rfl)) (.m (R:=List xZ3×Int×Int) (.tu .n) (.c (.c (.r 5) (.c (.i .i64) (.c (.i .i64) .n))) .n) .n (fun z=>(z.2.1.1.1,z.2.1.1.2.1,z.2.1.1.2.2.1)) (fun r=>((),((r.1,r.2.1,r.2.2,()),()),())) (fun _=>rfl)))
def xZh:Con tb:=.m 173 [false,true,true] (.c (.ptr 0 0) (.c (.i .u8) (.c .s .n))) (.c (.c (.r 5) (.c (.i .i64) (.c (.i .i64) .n))) .n) .n (fun N a=>xZ8 N a.1.2.1 a.1.2.2.1 a.2.1.1.1 a.2.1.1.2.1 a.2.1.1.2.2.1) (R:=Bool×List xZ3×Int×Int) (.m (R:=Bool×List xZ3×Int×Int) .b (.c (.c (.r 5) (.c (.i .i64) (.c (.i .i64) .n))) .n) .n (fun z=>(z.1,z.2.1.1.1,z.2.1.1.2.1,z.2.1.1.2.2.1)) (fun r=>(r.1,((r.2.1,r.2.2.1,r.2.2.2,()),()),())) (fun _=>rfl))
def xZ1l:Con tb:=.m 186 [false,true] (.c .e (.c (.i .i64) .n)) .n .n (fun N a=>xZR N a.1.2.1) (R:=List xZ0) (.m (R:=List xZ0) (.own 0) .n (.l 1 .n) (fun z=>z.2.2.1) (fun r=>((),(),r,())) (fun _=>rfl))
def xZ1w:Con tb:=.p 178 [true] (.c (.r 6) .n) (fun N a=>xZ2y N a.1) (R:=(List UInt8)⊕(List xZ0)) (.or (.p (.ifc 16777225 .s)) (.p (.r 1))) (fun r=>by rcases r with _ | _<;>exact rfl)
def xZO:LQ tb (((List (List xZ0))×(List (List xZ0))×Int)×(Int×Int)):=(LQ.m [] [0,3,9,10,11] (.c 0 (.r 6) (.c 3 (.i .i64) (.c 9 (.r 6) (.c 10 (.i .i64) (.c 11 (.i .i64) .n))))) .n .n).re (fun a=>((a.1.1,a.1.2.2.1,a.1.2.2.2.1),(a.1.2.1,a.1.2.2.2.2.1))) (fun x=>((x.1.1,x.2.1,x.1.2.1,x.1.2.2,x.2.2,()),(),())) (fun _=>rfl)
def xZP:LQ tb (((List (List xZ0))×Int)×(Int×(List xZ0))):=(LQ.m [] [6,25,26,27] (.c 6 (.own 0) (.c 25 (.r 6) (.c 26 (.i .i64) (.c 27 (.i .i64) .n)))) .n (.l 1 .n)).re (fun a=>((a.1.2.1,a.1.2.2.1),(a.1.2.2.2.1,a.2.2.1))) (fun x=>(((),x.1.1,x.1.2,x.2.1,()),(),x.2.2,())) (fun _=>rfl)
def xZ24 (N:Nat) (c:(List (List xZ0))×Int) (next:(Int×(List xZ0))→Option ((List UInt8)⊕(List xZ0))) (v:Int×(List xZ0)):Option ((List UInt8)⊕(List xZ0)):=xZ28 N c.1 c.2 (fun u0 u1=>next (u0,u1)) v.1 v.2
abbrev xZ4k (N:Nat):((List (List xZ0))×Int)×(Int×(List xZ0))→Option ((List UInt8)⊕(List xZ0)):=fun a=>loopV (xZ24 N a.1) N a.2
def xZ23 (N:Nat) (c:(List (List xZ0))×(List (List xZ0))×Int) (next:(Int×Int)→Option ((List UInt8)⊕(List xZ0))) (v:Int×Int):Option ((List UInt8)⊕(List xZ0)):=xZ27 N c.1 c.2.1 c.2.2 (fun u0 u1=>next (u0,u1)) v.1 v.2
abbrev xZ4j (N:Nat):((List (List xZ0))×(List (List xZ0))×Int)×(Int×Int)→Option ((List UInt8)⊕(List xZ0)):=fun a=>loopV (xZ23 N a.1) N a.2
def xZ1v:Con tb:=.p 174 [true,true] (.c (.el tb_ok 1) (.c (.r 6) .n)) (fun N a=>xZ1g N a.1 a.2.1) (R:=List xZ0) (.p (.r 1)) (fun _=>rfl)
def xZL:Con tb:=.m 185 [false,true] (.c (.ptr 0 0) (.c (.i .u8) .n)) (.c (.c (.r 5) (.c (.i .i64) (.c (.i .i64) .n))) .n) .n (fun N a=>xZv N a.1.2.1 a.2.1.1.1 a.2.1.1.2.1 a.2.1.1.2.2.1) (R:=(Int×Int×List xZ3×Int×Int)⊕(xZ3×List xZ3×Int×Int)) (.or (.m (R:=Int×Int×List xZ3×Int×Int) (.ifc 16777443 (.ag (.c (.i .i64) (.c (.i .i64) .n)))) (.c (.c (.r 5) (.c (.i .i64) (.c (.i .i64) .n))) .n) .n (fun z=>(z.1.1,z.1.2.1,z.2.1.1.1,z.2.1.1.2.1,z.2.1.1.2.2.1)) (fun r=>((r.1,r.2.1,()),((r.2.2.1,r.2.2.2.1,r.2.2.2.2,()),()),())) (fun _=>rfl)) (.m (R:=xZ3×List xZ3×Int×Int) (.el tb_ok 5) (.c (.c (.r 5) (.c (.i .i64) (.c (.i .i64) .n))) .n) .n (fun z=>(z.1,z.2.1.1.1,z.2.1.1.2.1,z.2.1.1.2.2.1)) (fun r=>(r.1,((r.2.1,r.2.2.1,r.2.2.2,()),()),())) (fun _=>rfl)))
def xZ1k:Con tb:=.m 187 [false] (.c (.ptr 0 0) .n) (.c (.c (.r 5) (.c (.i .i64) (.c (.i .i64) .n))) .n) .n (fun N a=>xZQ N a.2.1.1.1 a.2.1.1.2.1 a.2.1.1.2.2.1) (R:=(Int×Int×List xZ3×Int×Int)⊕(List xZ0×List xZ3×Int×Int)) (.or (.m (R:=Int×Int×List xZ3×Int×Int) (.ifc 16777443 (.ag (.c (.i .i64) (.c (.i .i64) .n)))) (.c (.c (.r 5) (.c (.i .i64) (.c (.i .i64) .n))) .n) .n (fun z=>(z.1.1,z.1.2.1,z.2.1.1.1,z.2.1.1.2.1,z.2.1.1.2.2.1)) (fun r=>((r.1,r.2.1,()),((r.2.2.1,r.2.2.2.1,r.2.2.2.2,()),()),())) (fun _=>rfl)) (.m (R:=List xZ0×List xZ3×Int×Int) (.r 1) (.c (.c (.r 5) (.c (.i .i64) (.c (.i .i64) .n))) .n) .n (fun z=>(z.1,z.2.1.1.1,z.2.1.1.2.1,z.2.1.1.2.2.1)) (fun r=>(r.1,((r.2.1,r.2.2.1,r.2.2.2,()),()),())) (fun _=>rfl)))
def xZ1r:Con tb:=.m 183 [false] (.c (.ptr 0 0) .n) (.c (.c (.r 5) (.c (.i .i64) (.c (.i .i64) .n))) .n) .n (fun N a=>xZ1u N a.2.1.1.1 a.2.1.1.2.1 a.2.1.1.2.2.1) (R:=(Int×Int×List xZ3×Int×Int)⊕(List xZ0×List xZ3×Int×Int)) (.or (.m (R:=Int×Int×List xZ3×Int×Int) (.ifc 16777443 (.ag (.c (.i .i64) (.c (.i .i64) .n)))) (.c (.c (.r 5) (.c (.i .i64) (.c (.i .i64) .n))) .n) .n (fun z=>(z.1.1,z.1.2.1,z.2.1.1.1,z.2.1.1.2.1,z.2.1.1.2.2.1)) (fun r=>((r.1,r.2.1,()),((r.2.2.1,r.2.2.2.1,r.2.2.2.2,()),()),())) (fun _=>rfl)) (.m (R:=List xZ0×List xZ3×Int×Int) (.r 1) (.c (.c (.r 5) (.c (.i .i64) (.c (.i .i64) .n))) .n) .n (fun z=>(z.1,z.2.1.1.1,z.2.1.1.2.1,z.2.1.1.2.2.1)) (fun r=>(r.1,((r.2.1,r.2.2.1,r.2.2.2,()),()),())) (fun _=>rfl)))
def xZH:LQ tb ((Unit)×((List xZ0)×(List xZ3)×Int×Int)):=(LQ.m [] [0,3] (.c 0 (.ptr 0 0) (.c 3 (.r 1) .n)) (.c (.c (.r 5) (.c (.i .i64) (.c (.i .i64) .n))) .n) .n).re (fun a=>((),(a.1.2.1,a.2.1.1.1,a.2.1.1.2.1,a.2.1.1.2.2.1))) (fun x=>(((),x.2.1,()),((x.2.2.1,x.2.2.2.1,x.2.2.2.2,()),()),())) (fun _=>rfl)
def xZ1T (N:Nat) (c:Unit) (next:((List xZ0)×(List xZ3)×Int×Int)→Option ((Int×Int×List xZ3×Int×Int)⊕(List xZ0×List xZ3×Int×Int))) (v:(List xZ0)×(List xZ3)×Int×Int):Option ((Int×Int×List xZ3×Int×Int)⊕(List xZ0×List xZ3×Int×Int)):=xZ1Z N (fun u0 u1 u2 u3=>next (u0,u1,u2,u3)) v.1 v.2.1 v.2.2.1 v.2.2.2
abbrev xZ3X (N:Nat):(Unit)×((List xZ0)×(List xZ3)×Int×Int)→Option ((Int×Int×List xZ3×Int×Int)⊕(List xZ0×List xZ3×Int×Int)):=fun a=>loopV (xZ1T N a.1) N a.2
def xZ3p:Con tb:=.s 164 [true] (.c (.i .u8) .n) (fun N a=>xZ5Z N a.1) (R:=List UInt8) (.p .s) (fun _=>⟨rfl,(by kernel_rfl)⟩)
def xZ73:Con tb:=.s 184 [true] (.c .s .n) (fun N a=>xZ9A N a.1) (R:=Int) (.p (.i .u8)) (fun _=>⟨rfl,(by kernel_rfl)⟩)
def xZ3z:LQ tb (((List UInt8))×(Int)):=(LQ.m [] [0,3] (.c 0 .s (.c 3 (.i .u8) .n)) .n .n).re (fun a=>(a.1.1,a.1.2.1)) (fun x=>((x.1,x.2,()),(),())) (fun _=>rfl)
def xZ7B (N:Nat) (c:(List UInt8)) (next:Int→Option Int) (v:Int):Option Int:=xZ7Y N c (fun u0=>next u0) v
abbrev xZaP (N:Nat):((List UInt8))×(Int)→Option Int:=fun a=>loopV (xZ7B N a.1) N a.2
def xZ13:Con tb:=.m 169 [false,true] (.c (.ptr 0 0) (.c (.i .i64) .n)) (.c (.c (.r 5) (.c (.i .i64) (.c (.i .i64) .n))) .n) .n (fun N a=>xZq N a.1.2.1 a.2.1.1.1 a.2.1.1.2.1 a.2.1.1.2.2.1) (R:=(Int×Int×List xZ3×Int×Int)⊕(List xZ0×List xZ3×Int×Int)) (.or (.m (R:=Int×Int×List xZ3×Int×Int) (.ifc 16777443 (.ag (.c (.i .i64) (.c (.i .i64) .n)))) (.c (.c (.r 5) (.c (.i .i64) (.c (.i .i64) .n))) .n) .n (fun z=>(z.1.1,z.1.2.1,z.2.1.1.1,z.2.1.1.2.1,z.2.1.1.2.2.1)) (fun r=>((r.1,r.2.1,()),((r.2.2.1,r.2.2.2.1,r.2.2.2.2,()),()),())) (fun _=>rfl)) (.m (R:=List xZ0×List xZ3×Int×Int) (.r 1) (.c (.c (.r 5) (.c (.i .i64) (.c (.i .i64) .n))) .n) .n (fun z=>(z.1,z.2.1.1.1,z.2.1.1.2.1,z.2.1.1.2.2.1)) (fun r=>(r.1,((r.2.1,r.2.2.1,r.2.2.2,()),()),())) (fun _=>rfl)))
def xZN:LQ tb ((Int)×((List xZ0)×(List xZ3)×Int×Int)):=(LQ.m [] [0,1,5] (.c 0 (.ptr 0 0) (.c 1 (.i .i64) (.c 5 (.r 1) .n))) (.c (.c (.r 5) (.c (.i .i64) (.c (.i .i64) .n))) .n) .n).re (fun a=>(a.1.2.1,(a.1.2.2.1,a.2.1.1.1,a.2.1.1.2.1,a.2.1.1.2.2.1))) (fun x=>(((),x.1,x.2.1,()),((x.2.2.1,x.2.2.2.1,x.2.2.2.2,()),()),())) (fun _=>rfl)
def xZ22 (N:Nat) (c:Int) (next:((List xZ0)×(List xZ3)×Int×Int)→Option ((Int×Int×List xZ3×Int×Int)⊕(List xZ0×List xZ3×Int×Int))) (v:(List xZ0)×(List xZ3)×Int×Int):Option ((Int×Int×List xZ3×Int×Int)⊕(List xZ0×List xZ3×Int×Int)):=xZ26 N (xZy N) c (fun u0 u1 u2 u3=>next (u0,u1,u2,u3)) v.1 v.2.1 v.2.2.1 v.2.2.2
abbrev xZ4i (N:Nat):(Int)×((List xZ0)×(List xZ3)×Int×Int)→Option ((Int×Int×List xZ3×Int×Int)⊕(List xZ0×List xZ3×Int×Int)):=fun a=>loopV (xZ22 N a.1) N a.2
def xZ1q:Con tb:=.m 172 [false,true] (.c (.ptr 0 0) (.c (.i .i64) .n)) (.c (.c (.r 5) (.c (.i .i64) (.c (.i .i64) .n))) .n) .n (fun N a=>xZ5a N a.1.2.1 a.2.1.1.1 a.2.1.1.2.1 a.2.1.1.2.2.1) (R:=(Int×Int×List xZ3×Int×Int)⊕(List xZ0×List xZ3×Int×Int)) (.or (.m (R:=Int×Int×List xZ3×Int×Int) (.ifc 16777443 (.ag (.c (.i .i64) (.c (.i .i64) .n)))) (.c (.c (.r 5) (.c (.i .i64) (.c (.i .i64) .n))) .n) .n (fun z=>(z.1.1,z.1.2.1,z.2.1.1.1,z.2.1.1.2.1,z.2.1.1.2.2.1)) (fun r=>((r.1,r.2.1,()),((r.2.2.1,r.2.2.2.1,r.2.2.2.2,()),()),())) (fun _=>rfl)) (.m (R:=List xZ0×List xZ3×Int×Int) (.r 1) (.c (.c (.r 5) (.c (.i .i64) (.c (.i .i64) .n))) .n) .n (fun z=>(z.1,z.2.1.1.1,z.2.1.1.2.1,z.2.1.1.2.2.1)) (fun r=>(r.1,((r.2.1,r.2.2.1,r.2.2.2,()),()),())) (fun _=>rfl)))
def xZG:LQ tb ((Int)×((List xZ0)×(List xZ3)×Int×Int)):=(LQ.m [] [0,1,5] (.c 0 (.ptr 0 0) (.c 1 (.i .i64) (.c 5 (.r 1) .n))) (.c (.c (.r 5) (.c (.i .i64) (.c (.i .i64) .n))) .n) .n).re (fun a=>(a.1.2.1,(a.1.2.2.1,a.2.1.1.1,a.2.1.1.2.1,a.2.1.1.2.2.1))) (fun x=>(((),x.1,x.2.1,()),((x.2.2.1,x.2.2.2.1,x.2.2.2.2,()),()),())) (fun _=>rfl)
def xZ1S (N:Nat) (c:Int) (next:((List xZ0)×(List xZ3)×Int×Int)→Option ((Int×Int×List xZ3×Int×Int)⊕(List xZ0×List xZ3×Int×Int))) (v:(List xZ0)×(List xZ3)×Int×Int):Option ((Int×Int×List xZ3×Int×Int)⊕(List xZ0×List xZ3×Int×Int)):=xZ1Y N (xZy N) c (fun u0 u1 u2 u3=>next (u0,u1,u2,u3)) v.1 v.2.1 v.2.2.1 v.2.2.2
abbrev xZ3W (N:Nat):(Int)×((List xZ0)×(List xZ3)×Int×Int)→Option ((Int×Int×List xZ3×Int×Int)⊕(List xZ0×List xZ3×Int×Int)):=fun a=>loopV (xZ1S N a.1) N a.2
def xZK:Con tb:=.m 176 [false,true] (.c (.ptr 0 0) (.c (.i .i64) .n)) (.c (.c (.r 5) (.c (.i .i64) (.c (.i .i64) .n))) .n) .n (fun N a=>xZ4l N a.1.2.1 a.2.1.1.1 a.2.1.1.2.1 a.2.1.1.2.2.1) (R:=(Int×Int×List xZ3×Int×Int)⊕(List xZ0×List xZ3×Int×Int)) (.or (.m (R:=Int×Int×List xZ3×Int×Int) (.ifc 16777443 (.ag (.c (.i .i64) (.c (.i .i64) .n)))) (.c (.c (.r 5) (.c (.i .i64) (.c (.i .i64) .n))) .n) .n (fun z=>(z.1.1,z.1.2.1,z.2.1.1.1,z.2.1.1.2.1,z.2.1.1.2.2.1)) (fun r=>((r.1,r.2.1,()),((r.2.2.1,r.2.2.2.1,r.2.2.2.2,()),()),())) (fun _=>rfl)) (.m (R:=List xZ0×List xZ3×Int×Int) (.r 1) (.c (.c (.r 5) (.c (.i .i64) (.c (.i .i64) .n))) .n) .n (fun z=>(z.1,z.2.1.1.1,z.2.1.1.2.1,z.2.1.1.2.2.1)) (fun r=>(r.1,((r.2.1,r.2.2.1,r.2.2.2,()),()),())) (fun _=>rfl)))
def xZ32:Con tb:=.s 151 [true,true] (.c (.el tb_ok 1) (.c (.i .i64) .n)) (fun N a=>xZ5s N a.1 a.2.1) (R:=Bool) (.p .b) (fun _=>⟨rfl,(by kernel_rfl)⟩)
def xZ3b:Con tb:=.s 100 [true] (.c (.i .u8) .n) (fun N a=>xZ5d N a.1) (R:=Bool) (.p .b) (fun _=>⟨rfl,(by kernel_rfl)⟩)
def xZ3m:Con tb:=.s 101 [true] (.c .s .n) (fun N a=>xZ6a N a.1) (R:=Bool) (.p .b) (fun _=>⟨rfl,(by kernel_rfl)⟩)
def xZ6u:Con tb:=.s 102 [true] (.c (.i .u8) .n) (fun N a=>xZ8E N a.1) (R:=Bool) (.p .b) (fun _=>⟨rfl,(by kernel_rfl)⟩)
def xZ6t:Con tb:=.s 61 [true] (.c .s .n) (fun N a=>xZ4C N a.1) (R:=Bool) (.p .b) (fun _=>⟨rfl,(by kernel_rfl)⟩)
def xZ3f:LQ tb (((List UInt8))×(Int)):=(LQ.m [] [0,3] (.c 0 .s (.c 3 (.i .i64) .n)) .n .n).re (fun a=>(a.1.1,a.1.2.1)) (fun x=>((x.1,x.2,()),(),())) (fun _=>rfl)
def xZ6Z (N:Nat) (c:(List UInt8)) (next:Int→Option Bool) (v:Int):Option Bool:=xZ72 N c (fun u0=>next u0) v
abbrev xZ9V (N:Nat):((List UInt8))×(Int)→Option Bool:=fun a=>loopV (xZ6Z N a.1) N a.2
def xZ7b:Con tb:=.p 170 [true] (.c (.el tb_ok 7) .n) (fun N a=>xZ9C N a.1) (R:=Int⊕Int⊕Int⊕(List UInt8)⊕Unit) (.or (.p (.ifc 233 (.i .i64))) (.or (.p (.ifc 234 (.i .i64))) (.or (.p (.ifc 235 (.i .u64))) (.or (.p (.ifc 236 .s)) (.p .ni))))) (fun r=>by rcases r with _ | _ | _ | _ | _<;>exact rfl)
def xZ2m:Con tb:=.s 205 [true] (.c (.i .i64) .n) (fun N a=>xZ45 N a.1) (R:=xZ7) (.p (.el tb_ok 7)) (fun _=>⟨rfl,(by kernel_rfl)⟩)
def xZ34:Con tb:=.s 206 [true] (.c (.i .i64) .n) (fun N a=>xZ39 N a.1) (R:=xZ7) (.p (.el tb_ok 7)) (fun _=>⟨rfl,(by kernel_rfl)⟩)
def xZad:Con tb:=.s 148 [true] (.c (.i .u64) .n) (fun N a=>xZdt N a.1) (R:=Nat) (.p (.f .f64)) (fun _=>⟨rfl,(by kernel_rfl)⟩)
def xZ77:Con tb:=.s 139 [true] (.c (.i .u64) .n) (fun N a=>xZ9B N a.1) (R:=Int) (.p (.i .u64)) (fun _=>⟨rfl,(by kernel_rfl)⟩)
def xZ2l:Con tb:=.s 207 [true] (.c (.i .u64) .n) (fun N a=>xZ44 N a.1) (R:=xZ7) (.p (.el tb_ok 7)) (fun _=>⟨rfl,(by kernel_rfl)⟩)
def xZ2E:Con tb:=.s 208 [true] (.c .s .n) (fun N a=>xZ4D N a.1) (R:=xZ7) (.p (.el tb_ok 7)) (fun _=>⟨rfl,(by kernel_rfl)⟩)
def xZ6v:Con tb:=.s 165 [true] (.c (.el tb_ok 7) .n) (fun N a=>xZ8F N a.1) (R:=Int) (.p (.i .i64)) (fun _=>⟨rfl,(by kernel_rfl)⟩)
def xZ3l:Con tb:=.s 153 [true] (.c (.el tb_ok 1) .n) (fun N a=>xZ69 N a.1) (R:=Bool) (.p .b) (fun _=>⟨rfl,(by kernel_rfl)⟩)
def xZ5w:Con tb:=.s 152 [true,false,true] (.c (.el tb_ok 1) (.c (.fn 153 .n .n) (.c (.i .i64) .n))) (fun N a=>xZ80 N a.1 a.2.2.1) (R:=Int) (.p (.i .i64)) (fun _=>⟨rfl,(by kernel_rfl)⟩)
def xZ5v:Con tb:=.s 152 [true,false,true] (.c (.el tb_ok 1) (.c (.fn 154 .n .n) (.c (.i .i64) .n))) (fun N a=>xZ7Z N a.1 a.2.2.1) (R:=Int) (.p (.i .i64)) (fun _=>⟨rfl,(by kernel_rfl)⟩)
def xZ88:Con tb:=.s 155 [true] (.c (.i .u8) .n) (fun N a=>xZaa N a.1) (R:=Int) (.p (.i .i64)) (fun _=>⟨rfl,(by kernel_rfl)⟩)
def xZ4F:Con tb:=.s 156 [true,true] (.c (.el tb_ok 1) (.c (.i .i64) .n)) (fun N a=>xZ71 N a.1 a.2.1) (R:=Int) (.p (.i .i64)) (fun _=>⟨rfl,(by kernel_rfl)⟩)
def xZD:Con tb:=.m 145 [false,true,true] (.c (.ptr 0 0) (.c (.i .i64) (.c (.i .i64) .n))) (.c (.c (.r 1) (.c (.i .i64) .n)) .n) .n (fun N a=>xZ2R N a.1.2.1 a.1.2.2.1 a.2.1.1.1 a.2.1.1.2.1) (R:=Int×List xZ0×Int) (.m (R:=Int×List xZ0×Int) (.i .i64) (.c (.c (.r 1) (.c (.i .i64) .n)) .n) .n (fun z=>(z.1,z.2.1.1.1,z.2.1.1.2.1)) (fun r=>(r.1,((r.2.1,r.2.2,()),()),())) (fun _=>rfl))
def xZW:LQ tb ((Int×Int×Int×Int×(List UInt8)×(List UInt8)×Int×Int×Int×(List UInt8))×(Int×(List xZ0)×Int)):=(LQ.m [] [0,2,7,57,58] (.c 0 (.ptr 0 0) (.c 2 (.i .i64) (.c 7 (.ptr 1 0) (.c 57 (.i .i64) (.c 58 (.i .i64) .n))))) (.c (.c (.r 1) (.c (.i .i64) .n)) (.c (.c (.i .u8) (.c (.i .u8) (.c .s (.c .s (.c (.i .u8) (.c (.i .i64) (.c (.i .u64) (.c .s .n)))))))) .n)) .n).re (fun a=>((a.1.2.1,a.1.2.2.2.1,a.2.1.2.1.1,a.2.1.2.1.2.1,a.2.1.2.1.2.2.1,a.2.1.2.1.2.2.2.1,a.2.1.2.1.2.2.2.2.1,a.2.1.2.1.2.2.2.2.2.1,a.2.1.2.1.2.2.2.2.2.2.1,a.2.1.2.1.2.2.2.2.2.2.2.1),(a.1.2.2.2.2.1,a.2.1.1.1,a.2.1.1.2.1))) (fun x=>(((),x.1.1,(),x.1.2.1,x.2.1,()),((x.2.2.1,x.2.2.2,()),(x.1.2.2.1,x.1.2.2.2.1,x.1.2.2.2.2.1,x.1.2.2.2.2.2.1,x.1.2.2.2.2.2.2.1,x.1.2.2.2.2.2.2.2.1,x.1.2.2.2.2.2.2.2.2.1,x.1.2.2.2.2.2.2.2.2.2,()),()),())) (fun _=>rfl)
def xZ2c (N:Nat) (c:Int×Int×Int×Int×(List UInt8)×(List UInt8)×Int×Int×Int×(List UInt8)) (next:(Int×(List xZ0)×Int)→Option (Int×List xZ0×Int)) (v:Int×(List xZ0)×Int):Option (Int×List xZ0×Int):=xZ2i N (xZ2s N) c.1 c.2.1 c.2.2.1 c.2.2.2.1 c.2.2.2.2.1 c.2.2.2.2.2.1 c.2.2.2.2.2.2.1 c.2.2.2.2.2.2.2.1 c.2.2.2.2.2.2.2.2.1 c.2.2.2.2.2.2.2.2.2 (fun u0 u1 u2=>next (u0,u1,u2)) v.1 v.2.1 v.2.2
abbrev xZ55 (N:Nat):(Int×Int×Int×Int×(List UInt8)×(List UInt8)×Int×Int×Int×(List UInt8))×(Int×(List xZ0)×Int)→Option (Int×List xZ0×Int):=fun a=>loopV (xZ2c N a.1) N a.2
def xZ91:Con tb:=.s 129 [true] (.c (.r 1) .n) (fun N a=>xZ3Z N a.1) (R:=Int) (.p (.i .i64)) (fun _=>⟨rfl,(by kernel_rfl)⟩)
def xZ6r:Con tb:=.p 162 [true,true,true] (.c (.r 5) (.c (.i .i64) (.c (.i .i64) .n))) (fun N a=>xZ40 N a.1 a.2.1 a.2.2.1) (R:=(List xZ0×Int)⊕(List xZ0×Int×Int×Int)) (.or (.m (R:=List xZ0×Int) (.tu (.c (.r 1) (.c (.i .i64) (.c .ni .n)))) .n .n (fun z=>(z.1.1,z.1.2.1)) (fun r=>((r.1,r.2,(),()),(),())) (fun _=>rfl)) (.m (R:=List xZ0×Int×Int×Int) (.tu (.c (.r 1) (.c (.i .i64) (.o (.ifc 167 (.dp (.c (.i .i64) (.c (.i .i64) .n)))))))) .n .n (fun z=>(z.1.1,z.1.2.1,z.1.2.2.1,z.1.2.2.2.1)) (fun r=>((r.1,r.2.1,r.2.2.1,r.2.2.2,()),(),())) (fun _=>rfl))) (fun r=>by rcases r with _ | _<;>exact rfl)
def xZ8u:Con tb:=.s 8 [] .n (fun N a=>xZ1X N) (R:=Bool) (.p .b) (fun _=>⟨rfl,(by kernel_rfl)⟩)
def xZ75:Con tb:=.s 22 [true] (.c (.r 0) .n) (fun N a=>xZ61 N a.1) (R:=Int) (.p (.i .i64)) (fun _=>⟨rfl,(by kernel_rfl)⟩)
def xZ3B:LQ tb (((List (List UInt8)))×(Int)):=(LQ.m [] [0,3] (.c 0 (.r 0) (.c 3 (.i .i64) .n)) .n .n).re (fun a=>(a.1.1,a.1.2.1)) (fun x=>((x.1,x.2,()),(),())) (fun _=>rfl)
def xZ7D (N:Nat) (c:(List (List UInt8))) (next:Int→Option Int) (v:Int):Option Int:=xZ3L N c (fun u0=>next u0) v
abbrev xZaR (N:Nat):((List (List UInt8)))×(Int)→Option Int:=fun a=>loopV (xZ7D N a.1) N a.2
def xZ86:Con tb:=.p 30 [true] (.c (.r 1) .n) (fun N a=>xZ6Q N a.1) (R:=List xZ0) (.p (.r 1)) (fun _=>rfl)
def xZ4s:LQ tb (((List xZ0))×(Int×(List xZ0))):=(LQ.m [(3,none,1)] [0,3,4] (.c 0 (.r 1) (.c 3 (.own 0) (.c 4 (.i .i64) .n))) .n (.l 1 .n)).re (fun a=>(a.1.1,(a.1.2.2.1,a.2.2.1))) (fun x=>((x.1,(),x.2.1,()),(),x.2.2,())) (fun _=>rfl)
def xZ8x (N:Nat) (c:(List xZ0)) (next:(Int×(List xZ0))→Option (List xZ0)) (v:Int×(List xZ0)):Option (List xZ0):=xZ4z N c (fun u0 u1=>next (u0,u1)) v.1 v.2
abbrev xZbH (N:Nat):((List xZ0))×(Int×(List xZ0))→Option (List xZ0):=fun a=>loopV (xZ8x N a.1) N a.2
def xZ87:Con tb:=.p 15 [true] (.c (.el tb_ok 8) .n) (fun N a=>xZ5r N a.1) (R:=xZ6) (.p (.el tb_ok 8)) (fun _=>rfl)
def xZ4t:LQ tb (((List xZ1)×(List xZ2)×Int×(List UInt8)×Int×Int×(List UInt8)×Int)×(Int×(List xZ1))):=(LQ.m [(3,some 0,3)] [1,2,3,4] (.c 1 (.ptr 0 0) (.c 2 (.ptr 1 0) (.c 3 (.ptr 2 0) (.c 4 (.i .i64) .n)))) (.c (.c (.r 3) (.c (.r 2) (.c (.i .i64) (.c .s (.c (.i .u8) .n))))) (.c (.c .e (.c .e (.c (.li .i64 0) (.c (.ls []) (.c (.li .u8 0) .n))))) (.c (.c (.own 0) (.c .e (.c (.i .i64) (.c .s (.c (.i .u8) .n))))) .n))) (.l 3 .n)).re (fun a=>((a.2.1.1.1,a.2.1.1.2.1,a.2.1.1.2.2.1,a.2.1.1.2.2.2.1,a.2.1.1.2.2.2.2.1,a.2.1.2.2.1.2.2.1,a.2.1.2.2.1.2.2.2.1,a.2.1.2.2.1.2.2.2.2.1),(a.1.2.2.2.1,a.2.2.1))) (fun x=>(((),(),(),x.2.1,()),((x.1.1,x.1.2.1,x.1.2.2.1,x.1.2.2.2.1,x.1.2.2.2.2.1,()),((),(),(),(),(),()),((),(),x.1.2.2.2.2.2.1,x.1.2.2.2.2.2.2.1,x.1.2.2.2.2.2.2.2,()),()),x.2.2,())) (fun _=>rfl)
def xZ4u:LQ tb (((List xZ1)×(List xZ2)×Int×(List UInt8)×Int×Int×(List UInt8)×Int×(List xZ1))×(Int×(List xZ2))):=(LQ.m [(3,some 1,2)] [1,2,3,5] (.c 1 (.ptr 0 0) (.c 2 (.ptr 1 0) (.c 3 (.ptr 2 0) (.c 5 (.i .i64) .n)))) (.c (.c (.r 3) (.c (.r 2) (.c (.i .i64) (.c .s (.c (.i .u8) .n))))) (.c (.c .e (.c .e (.c (.li .i64 0) (.c (.ls []) (.c (.li .u8 0) .n))))) (.c (.c (.own 0) (.c (.own 1) (.c (.i .i64) (.c .s (.c (.i .u8) .n))))) .n))) (.l 3 (.l 2 .n))).re (fun a=>((a.2.1.1.1,a.2.1.1.2.1,a.2.1.1.2.2.1,a.2.1.1.2.2.2.1,a.2.1.1.2.2.2.2.1,a.2.1.2.2.1.2.2.1,a.2.1.2.2.1.2.2.2.1,a.2.1.2.2.1.2.2.2.2.1,a.2.2.1),(a.1.2.2.2.1,a.2.2.2.1))) (fun x=>(((),(),(),x.2.1,()),((x.1.1,x.1.2.1,x.1.2.2.1,x.1.2.2.2.1,x.1.2.2.2.2.1,()),((),(),(),(),(),()),((),(),x.1.2.2.2.2.2.1,x.1.2.2.2.2.2.2.1,x.1.2.2.2.2.2.2.2.1,()),()),x.1.2.2.2.2.2.2.2.2,x.2.2,())) (fun _=>rfl)
def xZ8z (N:Nat) (c:(List xZ1)×(List xZ2)×Int×(List UInt8)×Int×Int×(List UInt8)×Int×(List xZ1)) (next:(Int×(List xZ2))→Option xZ6) (v:Int×(List xZ2)):Option xZ6:=xZ4B N c.2.1 c.2.2.2.2.2.1 c.2.2.2.2.2.2.1 c.2.2.2.2.2.2.2.1 c.2.2.2.2.2.2.2.2 (fun u0 u1=>next (u0,u1)) v.1 v.2
abbrev xZbJ (N:Nat):((List xZ1)×(List xZ2)×Int×(List UInt8)×Int×Int×(List UInt8)×Int×(List xZ1))×(Int×(List xZ2))→Option xZ6:=fun a=>loopV (xZ8z N a.1) N a.2
def xZ8y (N:Nat) (c:(List xZ1)×(List xZ2)×Int×(List UInt8)×Int×Int×(List UInt8)×Int) (next:(Int×(List xZ1))→Option xZ6) (v:Int×(List xZ1)):Option xZ6:=xZ4A N c.1 c.2.1 c.2.2.2.2.2.1 c.2.2.2.2.2.2.1 c.2.2.2.2.2.2.2 (fun u0 u1=>next (u0,u1)) v.1 v.2
abbrev xZbI (N:Nat):((List xZ1)×(List xZ2)×Int×(List UInt8)×Int×Int×(List UInt8)×Int)×(Int×(List xZ1))→Option xZ6:=fun a=>loopV (xZ8y N a.1) N a.2
def xZ5z:Con tb:=.s 46 [true,true] (.c .b (.c .s .n)) (fun N a=>xZ2U N a.1 a.2.1) (R:=List UInt8) (.p .s) (fun _=>⟨rfl,(by kernel_rfl)⟩)
def xZ7a:Con tb:=.p 80 [true,true,true] (.c (.el tb_ok 12) (.c (.r 0) (.c .s .n))) (fun N a=>xZ43 N a.1 a.2.1 a.2.2.1) (R:=A102 Bool) (.p (.el tb_ok 12)) (fun _=>rfl)
def xZ3I:LQ tb (((List (List UInt8))×(List UInt8)×(A102 Bool)×(A102 Bool))×(Int×(A102 Bool))):=(LQ.m [] [1,2,3,6,7,8] (.c 1 (.r 0) (.c 2 .s (.c 3 (.ptr 0 0) (.c 6 (.ptr 1 0) (.c 7 (.ptr 2 0) (.c 8 (.i .i64) .n)))))) (.c (.a tb_ok 12 .n) (.c (.a tb_ok 12 .n) (.c (.a tb_ok 12 .n) .n))) .n).re (fun a=>((a.1.1,a.1.2.1,a.2.1.1.1,a.2.1.2.1.1),(a.1.2.2.2.2.2.1,a.2.1.2.2.1.1))) (fun x=>((x.1.1,x.1.2.1,(),(),(),x.2.1,()),((x.1.2.2.1,()),(x.1.2.2.2,()),(x.2.2,()),()),())) (fun _=>rfl)
def xZ7K (N:Nat) (c:(List (List UInt8))×(List UInt8)×(A102 Bool)×(A102 Bool)) (next:(Int×(A102 Bool))→Option (A102 Bool)) (v:Int×(A102 Bool)):Option (A102 Bool):=xZ3Q N c.1 c.2.1 c.2.2.1 (fun u0 u1=>next (u0,u1)) v.1 v.2
abbrev xZaY (N:Nat):((List (List UInt8))×(List UInt8)×(A102 Bool)×(A102 Bool))×(Int×(A102 Bool))→Option (A102 Bool):=fun a=>loopV (xZ7K N a.1) N a.2
def xZ6s:Con tb:=.p 81 [true,true] (.c (.el tb_ok 12) (.c (.el tb_ok 12) .n)) (fun N a=>xZ2x N a.1 a.2.1) (R:=A102 Bool) (.p (.el tb_ok 12)) (fun _=>rfl)
def xZ3e:LQ tb (((A102 Bool)×(A102 Bool))×(Int×(A102 Bool))):=(LQ.m [] [2,3,4,5] (.c 2 (.ptr 0 0) (.c 3 (.ptr 1 0) (.c 4 (.ptr 2 0) (.c 5 (.i .i64) .n)))) (.c (.a tb_ok 12 .n) (.c (.a tb_ok 12 .n) (.c (.a tb_ok 12 .n) .n))) .n).re (fun a=>((a.2.1.2.1.1,a.2.1.2.2.1.1),(a.1.2.2.2.1,a.2.1.1.1))) (fun x=>(((),(),(),x.2.1,()),((x.2.2,()),(x.1.1,()),(x.1.2,()),()),())) (fun _=>rfl)
def xZ6Y (N:Nat) (c:(A102 Bool)×(A102 Bool)) (next:(Int×(A102 Bool))→Option (A102 Bool)) (v:Int×(A102 Bool)):Option (A102 Bool):=xZ5c N c.1 (fun u0 u1=>next (u0,u1)) v.1 v.2
abbrev xZ9U (N:Nat):((A102 Bool)×(A102 Bool))×(Int×(A102 Bool))→Option (A102 Bool):=fun a=>loopV (xZ6Y N a.1) N a.2
def xZ2C:Con tb:=.p 52 [true,true,true,true] (.c (.el tb_ok 8) (.c (.i .i64) (.c (.el tb_ok 12) (.c (.r 0) .n)))) (fun N a=>xZ65 N a.1 a.2.1 a.2.2.1 a.2.2.2.1) (R:=A102 Bool) (.p (.el tb_ok 12)) (fun _=>rfl)
def xZ2Q:LQ tb ((Int×(List (List UInt8))×(List xZ1)×(List xZ2)×Int×(List UInt8)×Int×(A102 Bool))×(Int×(A102 Bool))):=(LQ.m [] [1,3,4,8,12,14] (.c 1 (.i .i64) (.c 3 (.r 0) (.c 4 (.ptr 0 0) (.c 8 (.ptr 1 0) (.c 12 (.ptr 2 0) (.c 14 (.i .i64) .n)))))) (.c (.c (.r 3) (.c (.r 2) (.c (.i .i64) (.c .s (.c (.i .u8) .n))))) (.c (.a tb_ok 12 .n) (.c (.a tb_ok 12 .n) .n))) .n).re (fun a=>((a.1.1,a.1.2.1,a.2.1.1.1,a.2.1.1.2.1,a.2.1.1.2.2.1,a.2.1.1.2.2.2.1,a.2.1.1.2.2.2.2.1,a.2.1.2.1.1),(a.1.2.2.2.2.2.1,a.2.1.2.2.1.1))) (fun x=>((x.1.1,x.1.2.1,(),(),(),x.2.1,()),((x.1.2.2.1,x.1.2.2.2.1,x.1.2.2.2.2.1,x.1.2.2.2.2.2.1,x.1.2.2.2.2.2.2.1,()),(x.1.2.2.2.2.2.2.2,()),(x.2.2,()),()),())) (fun _=>rfl)
def xZ6C (N:Nat) (c:Int×(List (List UInt8))×(List xZ1)×(List xZ2)×Int×(List UInt8)×Int×(A102 Bool)) (next:(Int×(A102 Bool))→Option (A102 Bool)) (v:Int×(A102 Bool)):Option (A102 Bool):=xZ2T N (xZV N) c.1 c.2.1 c.2.2.1 c.2.2.2.1 c.2.2.2.2.1 c.2.2.2.2.2.1 c.2.2.2.2.2.2.1 (fun u0 u1=>next (u0,u1)) v.1 v.2
abbrev xZ9x (N:Nat):(Int×(List (List UInt8))×(List xZ1)×(List xZ2)×Int×(List UInt8)×Int×(A102 Bool))×(Int×(A102 Bool))→Option (A102 Bool):=fun a=>loopV (xZ6C N a.1) N a.2
def xZ4G:Con tb:=.s 24 [true,true] (.c (.el tb_ok 8) (.c (.r 0) .n)) (fun N a=>xZ3g N a.1 a.2.1) (R:=Bool) (.p .b) (fun _=>⟨rfl,(by kernel_rfl)⟩)
def xZ1B:Con tb:=.s 38 [true,true] (.c (.r 3) (.c (.r 3) .n)) (fun N a=>xZ1d N a.1 a.2.1) (R:=Bool) (.p .b) (fun _=>⟨rfl,(by kernel_rfl)⟩)
def xZX:LQ tb (((List xZ1)×(List xZ1)×Int)×(Int)):=(LQ.m [] [0,1,12,13] (.c 0 (.r 3) (.c 1 (.r 3) (.c 12 (.i .i64) (.c 13 (.i .i64) .n)))) .n .n).re (fun a=>((a.1.1,a.1.2.1,a.1.2.2.1),a.1.2.2.2.1)) (fun x=>((x.1.1,x.1.2.1,x.1.2.2,x.2,()),(),())) (fun _=>rfl)
def xZ2d (N:Nat) (c:(List xZ1)×(List xZ1)×Int) (next:Int→Option Bool) (v:Int):Option Bool:=xZZ N c.1 c.2.1 c.2.2 (fun u0=>next u0) v
abbrev xZ56 (N:Nat):((List xZ1)×(List xZ1)×Int)×(Int)→Option Bool:=fun a=>loopV (xZ2d N a.1) N a.2
def xZ1C:Con tb:=.s 111 [true,true] (.c (.r 1) (.c (.r 1) .n)) (fun N a=>xZ1F N a.1 a.2.1) (R:=Bool) (.p .b) (fun _=>⟨rfl,(by kernel_rfl)⟩)
def xZY:LQ tb (((List xZ0)×(List xZ0)×Int)×(Int)):=(LQ.m [] [0,1,12,13] (.c 0 (.r 1) (.c 1 (.r 1) (.c 12 (.i .i64) (.c 13 (.i .i64) .n)))) .n .n).re (fun a=>((a.1.1,a.1.2.1,a.1.2.2.1),a.1.2.2.2.1)) (fun x=>((x.1.1,x.1.2.1,x.1.2.2,x.2,()),(),())) (fun _=>rfl)
def xZ2e (N:Nat) (c:(List xZ0)×(List xZ0)×Int) (next:Int→Option Bool) (v:Int):Option Bool:=xZ10 N c.1 c.2.1 c.2.2 (fun u0=>next u0) v
abbrev xZ57 (N:Nat):((List xZ0)×(List xZ0)×Int)×(Int)→Option Bool:=fun a=>loopV (xZ2e N a.1) N a.2
def xZ89:Con tb:=.s 74 [true,true] (.c (.r 1) (.c (.r 1) .n)) (fun N a=>xZ6R N a.1 a.2.1) (R:=Bool) (.p .b) (fun _=>⟨rfl,(by kernel_rfl)⟩)
def xZ85:Con tb:=.s 40 [true,true] (.c (.el tb_ok 2) (.c (.el tb_ok 2) .n)) (fun N a=>xZ6P N a.1 a.2.1) (R:=Bool) (.p .b) (fun _=>⟨rfl,(by kernel_rfl)⟩)
def xZE:Con tb:=.s 39 [true,true,false] (.c (.r 2) (.c (.r 2) (.c (.fn 40 .n .n) .n))) (fun N a=>xZp N a.1 a.2.1) (R:=Bool) (.p .b) (fun _=>⟨rfl,(by kernel_rfl)⟩)
def xZl:LQ tb (((List xZ2)×(List xZ2)×Int)×(Int)):=(LQ.m [] [1,2,15,16,17] (.c 1 (.r 2) (.c 2 (.fn 40 .n .n) (.c 15 (.r 2) (.c 16 (.i .i64) (.c 17 (.i .i64) .n))))) .n .n).re (fun a=>((a.1.1,a.1.2.2.1,a.1.2.2.2.1),a.1.2.2.2.2.1)) (fun x=>((x.1.1,((),()),x.1.2.1,x.1.2.2,x.2,()),(),())) (fun _=>rfl)
def xZ1f (N:Nat) (c:(List xZ2)×(List xZ2)×Int) (next:Int→Option Bool) (v:Int):Option Bool:=xZd N c.1 c.2.1 c.2.2 (fun u0=>next u0) v
abbrev xZ2r (N:Nat):((List xZ2)×(List xZ2)×Int)×(Int)→Option Bool:=fun a=>loopV (xZ1f N a.1) N a.2
def xZ82:Con tb:=.s 14 [true,true] (.c (.el tb_ok 8) (.c (.el tb_ok 8) .n)) (fun N a=>xZ6M N a.1 a.2.1) (R:=Bool) (.p .b) (fun _=>⟨rfl,(by kernel_rfl)⟩)
def xZ78:Con tb:=.s 36 [true,true] (.c (.r 1) (.c (.r 1) .n)) (fun N a=>xZ62 N a.1 a.2.1) (R:=Bool) (.p .b) (fun _=>⟨rfl,(by kernel_rfl)⟩)
def xZ3D:LQ tb (((List xZ0)×(List xZ0))×(Int)):=(LQ.m [] [0,1,5] (.c 0 (.r 1) (.c 1 (.r 1) (.c 5 (.i .i64) .n))) .n .n).re (fun a=>((a.1.1,a.1.2.1),a.1.2.2.1)) (fun x=>((x.1.1,x.1.2,x.2,()),(),())) (fun _=>rfl)
def xZ7F (N:Nat) (c:(List xZ0)×(List xZ0)) (next:Int→Option Bool) (v:Int):Option Bool:=xZ3N N c.1 c.2 (fun u0=>next u0) v
abbrev xZaT (N:Nat):((List xZ0)×(List xZ0))×(Int)→Option Bool:=fun a=>loopV (xZ7F N a.1) N a.2
def xZ79:Con tb:=.s 12 [true,true] (.c (.el tb_ok 8) (.c (.el tb_ok 8) .n)) (fun N a=>xZ63 N a.1 a.2.1) (R:=Bool) (.p .b) (fun _=>⟨rfl,(by kernel_rfl)⟩)
def xZ3F:LQ tb (((List xZ1)×(List xZ2)×Int×(List UInt8)×Int×(List xZ1)×(List xZ2)×Int×(List UInt8)×Int)×(Int)):=(LQ.m [] [2,3,5] (.c 2 (.ptr 0 0) (.c 3 (.ptr 1 0) (.c 5 (.i .i64) .n))) (.c (.c (.r 3) (.c (.r 2) (.c (.i .i64) (.c .s (.c (.i .u8) .n))))) (.c (.c (.r 3) (.c (.r 2) (.c (.i .i64) (.c .s (.c (.i .u8) .n))))) .n)) .n).re (fun a=>((a.2.1.1.1,a.2.1.1.2.1,a.2.1.1.2.2.1,a.2.1.1.2.2.2.1,a.2.1.1.2.2.2.2.1,a.2.1.2.1.1,a.2.1.2.1.2.1,a.2.1.2.1.2.2.1,a.2.1.2.1.2.2.2.1,a.2.1.2.1.2.2.2.2.1),a.1.2.2.1)) (fun x=>(((),(),x.2,()),((x.1.1,x.1.2.1,x.1.2.2.1,x.1.2.2.2.1,x.1.2.2.2.2.1,()),(x.1.2.2.2.2.2.1,x.1.2.2.2.2.2.2.1,x.1.2.2.2.2.2.2.2.1,x.1.2.2.2.2.2.2.2.2.1,x.1.2.2.2.2.2.2.2.2.2,()),()),())) (fun _=>rfl)
def xZ3G:LQ tb (((List xZ1)×(List xZ2)×Int×(List UInt8)×Int×(List xZ1)×(List xZ2)×Int×(List UInt8)×Int)×(Int)):=(LQ.m [] [2,3,6] (.c 2 (.ptr 0 0) (.c 3 (.ptr 1 0) (.c 6 (.i .i64) .n))) (.c (.c (.r 3) (.c (.r 2) (.c (.i .i64) (.c .s (.c (.i .u8) .n))))) (.c (.c (.r 3) (.c (.r 2) (.c (.i .i64) (.c .s (.c (.i .u8) .n))))) .n)) .n).re (fun a=>((a.2.1.1.1,a.2.1.1.2.1,a.2.1.1.2.2.1,a.2.1.1.2.2.2.1,a.2.1.1.2.2.2.2.1,a.2.1.2.1.1,a.2.1.2.1.2.1,a.2.1.2.1.2.2.1,a.2.1.2.1.2.2.2.1,a.2.1.2.1.2.2.2.2.1),a.1.2.2.1)) (fun x=>(((),(),x.2,()),((x.1.1,x.1.2.1,x.1.2.2.1,x.1.2.2.2.1,x.1.2.2.2.2.1,()),(x.1.2.2.2.2.2.1,x.1.2.2.2.2.2.2.1,x.1.2.2.2.2.2.2.2.1,x.1.2.2.2.2.2.2.2.2.1,x.1.2.2.2.2.2.2.2.2.2,()),()),())) (fun _=>rfl)
def xZ7I (N:Nat) (c:(List xZ1)×(List xZ2)×Int×(List UInt8)×Int×(List xZ1)×(List xZ2)×Int×(List UInt8)×Int) (next:Int→Option Bool) (v:Int):Option Bool:=xZ2S N c.2.1 c.2.2.2.2.2.2.1 (fun u0=>next u0) v
abbrev xZaW (N:Nat):((List xZ1)×(List xZ2)×Int×(List UInt8)×Int×(List xZ1)×(List xZ2)×Int×(List UInt8)×Int)×(Int)→Option Bool:=fun a=>loopV (xZ7I N a.1) N a.2
def xZ7H (N:Nat) (c:(List xZ1)×(List xZ2)×Int×(List UInt8)×Int×(List xZ1)×(List xZ2)×Int×(List UInt8)×Int) (next:Int→Option Bool) (v:Int):Option Bool:=xZ3P N c.1 c.2.1 c.2.2.2.2.2.1 c.2.2.2.2.2.2.1 (fun u0=>next u0) v
abbrev xZaV (N:Nat):((List xZ1)×(List xZ2)×Int×(List UInt8)×Int×(List xZ1)×(List xZ2)×Int×(List UInt8)×Int)×(Int)→Option Bool:=fun a=>loopV (xZ7H N a.1) N a.2
def xZ4m:Con tb:=.s 4 [true,true,true] (.c (.el tb_ok 14) (.c (.r 0) (.c (.i .i64) .n))) (fun N a=>xZ1M N a.1 a.2.1 a.2.2.1) (R:=Bool) (.p .b) (fun _=>⟨rfl,(by kernel_rfl)⟩)
end
end
end Go.Proofs.YtmllclbhdmajmaaGreat.A
