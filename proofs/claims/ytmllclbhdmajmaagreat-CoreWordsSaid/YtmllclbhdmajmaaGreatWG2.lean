/- The code, and what each function of it is walked to. No premise beyond what each theorem says. -/
import Derived.Test.YtmllclbhdmajmaaGreatWG1
set_option linter.all false
set_option linter.unusedSimpArgs false
set_option linter.unusedVariables false
namespace Go.Proofs.YtmllclbhdmajmaaGreat.W
open Go
section
open Go.Proofs.Tryz
set_option maxRecDepth 1000000
noncomputable section
theorem hm:prog.follows .mixedOrders=true:=by kernel_rfl
def eA0 (x:List UInt8):AV:=.v (.string (bs x))
def eA1 (x:xZ2):AV:=.agg [.v (.int .u8 x.Kind),.v (.int .u8 x.Op),.v (.string (bs x.Var)),.v (.string (bs x.Name)),.v (.int .u8 x.Val.Kind),.v (.int .i64 x.Val.N),.v (.int .u64 x.Val.Bits),.v (.string (bs x.Val.Text))]
def eA2 (x:xZ3):AV:=.agg [.v (.bool x.Neg),.v (.string (bs x.Var)),.v (.string (bs x.Type_)),.sl 8 (List.map eA1 x.Test)]
def eA3 (x:xZ1):AV:=.agg [.v (.int .u8 x.Kind),.v (.int .i64 x.Place)]
def eA4 (x:xZ0):AV:=.agg [.v (.int .u8 x.Kind),.v (.int .i64 x.Kids),.v (.int .i64 x.Lo),.v (.int .i64 x.Hi),.v (.string (bs x.Var)),.v (.string (bs x.Type_)),.sl 8 (List.map eA1 x.Test)]
def eA5 (x:xZ4):AV:=.agg [.v (.int .u8 x.Kind),.v (.int .i64 x.At),.v (.string (bs x.Text)),.v (.int .u8 x.Val.Kind),.v (.int .i64 x.Val.N),.v (.int .u64 x.Val.Bits),.v (.string (bs x.Val.Text))]
def eA6 (x:List xZ2):AV:=.sl 8 (List.map eA1 x)
def eA7 (x:xZa):AV:=.agg [.v (.int .u8 x.Kind),.v (.int .i64 x.N),.v (.int .u64 x.Bits),.v (.string (bs x.Text))]
def eA8 (x:xZ9):AV:=.agg [.sl 7 (List.map eA4 x.Body),.v (.int .i64 x.Within),.v (.string (bs x.By)),.v (.int .u8 x.Mode)]
def eA9 (x:xZn):AV:=.agg [.sl 2 (List.map eA3 x.Nodes),.sl 4 (List.map eA2 x.Places),.v (.int .i64 x.Within),.v (.string (bs x.By)),.v (.int .u8 x.Mode)]
def eA10 (x:xZ8):AV:=.agg [.v (.int .u64 x.i0),.v (.int .u64 x.i1)]
def eA11 (x:Int):AV:=.v (.int .u64 x)
def eA12 (x:Ent105):AV:=.agg [.v (.int .i64 x.k.at_),.v (.int .u64 x.k.from_.i0),.v (.int .u64 x.k.from_.i1),.v (.int .u64 x.v.i0),.v (.int .u64 x.v.i1)]
def eA13 (x:Int):AV:=.v (.int .i64 x)
def eA14 (x:List xZ1):AV:=.sl 2 (List.map eA3 x)
def eA15 (x:A102 Bool):AV:=.agg (flm (fun (y1:Bool)=>[.v (.bool y1)]) (A102.l x))
def eA16 (x:Bool):AV:=.v (.bool x)
abbrev T:Nat→Type
 | 0=>List UInt8
 | 1=>xZ2
 | 2=>xZ3
 | 3=>xZ1
 | 4=>xZ0
 | 5=>xZ4
 | 6=>List xZ2
 | 7=>xZa
 | 8=>xZ9
 | 9=>xZn
 | 10=>xZ8
 | 11=>Int
 | 12=>Ent105
 | 13=>Int
 | 14=>List xZ1
 | 15=>A102 Bool
 | 16=>Bool
 | _=>Unit
def enc:(i:Nat)→T i→List (BV T)
 | 0=>fun (x:List UInt8)=>[.str x]
 | 1=>fun (x:xZ2)=>[.int .u8 x.Kind,.int .u8 x.Op,.str x.Var,.str x.Name,.int .u8 x.Val.Kind,.int .i64 x.Val.N,.int .u64 x.Val.Bits,.str x.Val.Text]
 | 2=>fun (x:xZ3)=>[.bool x.Neg,.str x.Var,.str x.Type_,.sl 1 x.Test]
 | 3=>fun (x:xZ1)=>[.int .u8 x.Kind,.int .i64 x.Place]
 | 4=>fun (x:xZ0)=>[.int .u8 x.Kind,.int .i64 x.Kids,.int .i64 x.Lo,.int .i64 x.Hi,.str x.Var,.str x.Type_,.sl 1 x.Test]
 | 5=>fun (x:xZ4)=>[.int .u8 x.Kind,.int .i64 x.At,.str x.Text,.int .u8 x.Val.Kind,.int .i64 x.Val.N,.int .u64 x.Val.Bits,.str x.Val.Text]
 | 6=>fun (x:List xZ2)=>[.sl 1 x]
 | 7=>fun (x:xZa)=>[.int .u8 x.Kind,.int .i64 x.N,.int .u64 x.Bits,.str x.Text]
 | 8=>fun (x:xZ9)=>[.sl 4 x.Body,.int .i64 x.Within,.str x.By,.int .u8 x.Mode]
 | 9=>fun (x:xZn)=>[.sl 3 x.Nodes,.sl 2 x.Places,.int .i64 x.Within,.str x.By,.int .u8 x.Mode]
 | 10=>fun (x:xZ8)=>[.int .u64 x.i0,.int .u64 x.i1]
 | 11=>fun (x:Int)=>[.int .u64 x]
 | 12=>fun (x:Ent105)=>[.int .i64 x.k.at_,.int .u64 x.k.from_.i0,.int .u64 x.k.from_.i1,.int .u64 x.v.i0,.int .u64 x.v.i1]
 | 13=>fun (x:Int)=>[.int .i64 x]
 | 14=>fun (x:List xZ1)=>[.sl 3 x]
 | 15=>fun (x:A102 Bool)=>flm (fun (y1:Bool)=>[.bool y1]) (A102.l x)
 | 16=>fun (x:Bool)=>[.bool x]
 | _=>fun _=>[]
def dec0:List (BV T)→Option (List UInt8):=P1 asStr fun a0=>P0 (a0:List UInt8)
def dec1:List (BV T)→Option xZ2:=P1 (asInt .u8) fun a0=>P1 (asInt .u8) fun a1=>P1 asStr fun a2=>P1 asStr fun a3=>P1 (asInt .u8) fun a4=>P1 (asInt .i64) fun a5=>P1 (asInt .u64) fun a6=>P1 asStr fun a7=>P0 (⟨a0,a1,a2,a3,⟨a4,a5,a6,a7⟩⟩:xZ2)
def dec2:List (BV T)→Option xZ3:=P1 asBool fun a0=>P1 asStr fun a1=>P1 asStr fun a2=>P1 (asRow 1) fun a3=>P0 (⟨a0,a1,a2,a3⟩:xZ3)
def dec3:List (BV T)→Option xZ1:=P1 (asInt .u8) fun a0=>P1 (asInt .i64) fun a1=>P0 (⟨a0,a1⟩:xZ1)
def dec4:List (BV T)→Option xZ0:=P1 (asInt .u8) fun a0=>P1 (asInt .i64) fun a1=>P1 (asInt .i64) fun a2=>P1 (asInt .i64) fun a3=>P1 asStr fun a4=>P1 asStr fun a5=>P1 (asRow 1) fun a6=>P0 (⟨a0,a1,a2,a3,a4,a5,a6⟩:xZ0)
def dec5:List (BV T)→Option xZ4:=P1 (asInt .u8) fun a0=>P1 (asInt .i64) fun a1=>P1 asStr fun a2=>P1 (asInt .u8) fun a3=>P1 (asInt .i64) fun a4=>P1 (asInt .u64) fun a5=>P1 asStr fun a6=>P0 (⟨a0,a1,a2,⟨a3,a4,a5,a6⟩⟩:xZ4)
def dec6:List (BV T)→Option (List xZ2):=P1 (asRow 1) fun a0=>P0 (a0:List xZ2)
def dec7:List (BV T)→Option xZa:=P1 (asInt .u8) fun a0=>P1 (asInt .i64) fun a1=>P1 (asInt .u64) fun a2=>P1 asStr fun a3=>P0 (⟨a0,a1,a2,a3⟩:xZa)
def dec8:List (BV T)→Option xZ9:=P1 (asRow 4) fun a0=>P1 (asInt .i64) fun a1=>P1 asStr fun a2=>P1 (asInt .u8) fun a3=>P0 (⟨a0,a1,a2,a3⟩:xZ9)
def dec9:List (BV T)→Option xZn:=P1 (asRow 3) fun a0=>P1 (asRow 2) fun a1=>P1 (asInt .i64) fun a2=>P1 asStr fun a3=>P1 (asInt .u8) fun a4=>P0 (⟨a0,a1,a2,a3,a4⟩:xZn)
def dec10:List (BV T)→Option xZ8:=P1 (asInt .u64) fun a0=>P1 (asInt .u64) fun a1=>P0 (⟨a0,a1⟩:xZ8)
def dec11:List (BV T)→Option Int:=P1 (asInt .u64) fun a0=>P0 (a0:Int)
def dec12:List (BV T)→Option Ent105:=P1 (asInt .i64) fun a0=>P1 (asInt .u64) fun a1=>P1 (asInt .u64) fun a2=>P1 (asInt .u64) fun a3=>P1 (asInt .u64) fun a4=>P0 (⟨⟨a0,⟨a1,a2⟩⟩,⟨a3,a4⟩⟩:Ent105)
def dec13:List (BV T)→Option Int:=P1 (asInt .i64) fun a0=>P0 (a0:Int)
def dec14:List (BV T)→Option (List xZ1):=P1 (asRow 3) fun a0=>P0 (a0:List xZ1)
def dec15:List (BV T)→Option (A102 Bool):=fun cs=>(decN 1 (P1 asBool fun a0=>P0 (a0:Bool)) 102 cs).bind A102.of
def dec16:List (BV T)→Option Bool:=P1 asBool fun a0=>P0 (a0:Bool)
def dec:(i:Nat)→List (BV T)→Option (T i)
 | 0=>dec0
 | 1=>dec1
 | 2=>dec2
 | 3=>dec3
 | 4=>dec4
 | 5=>dec5
 | 6=>dec6
 | 7=>dec7
 | 8=>dec8
 | 9=>dec9
 | 10=>dec10
 | 11=>dec11
 | 12=>dec12
 | 13=>dec13
 | 14=>dec14
 | 15=>dec15
 | 16=>dec16
 | _=>fun _=>none
def eA:(i:Nat)→T i→AV
 | 0=>eA0
 | 1=>eA1
 | 2=>eA2
 | 3=>eA3
 | 4=>eA4
 | 5=>eA5
 | 6=>eA6
 | 7=>eA7
 | 8=>eA8
 | 9=>eA9
 | 10=>eA10
 | 11=>eA11
 | 12=>eA12
 | 13=>eA13
 | 14=>eA14
 | 15=>eA15
 | 16=>eA16
 | _=>fun _=>.agg []
def tb:Tb T:={k:=fun i=>[1,8,4,2,7,7,1,4,4,5,2,1,5,1,1,102,1].getD i 0,ag:=fun i=>[false,true,true,true,true,true,false,true,true,true,true,false,true,false,false,true,false].getD i true,eA,enc,dec}
def sbf (k:Nat):Option (List UInt8→(i:Nat)×List (T i)):=none
theorem sb_ok (k:Nat) (f:List UInt8→(i:Nat)×List (T i)) (s:List UInt8) (h:sbf k=some f):k=1∧tb.k (f s).1=1∧(f s).2.map (tb.eA (f s).1)=s.map byteV:=by cases h
def bof (i:Nat) (_:List (T i)):Option (List UInt8):=none
theorem bo_ok (i:Nat) (l:List (T i)) (s:List UInt8) (h:bof i l=some s):tb.k i=1∧∃ m:List Int,l.map (tb.eA i)=m.map u8V∧s=byS m:=by cases h
theorem xZoH (cs:List (BV T)) (x:List UInt8) (h:dec0 cs=some x):LWs (BV.avs tb cs) (eA0 x).cells:=by
 obtain ⟨c0,r0,a0,rfl,h0,h⟩:=xZs h
 obtain ⟨rfl,rfl⟩:=xZ4K h
 exact .cons (xZ4l h0) (.nil)
theorem xZoI (cs:List (BV T)) (x:xZ2) (h:dec1 cs=some x):LWs (BV.avs tb cs) (eA1 x).cells:=by
 obtain ⟨c0,r0,a0,rfl,h0,h⟩:=xZs h
 obtain ⟨c1,r1,a1,rfl,h1,h⟩:=xZs h
 obtain ⟨c2,r2,a2,rfl,h2,h⟩:=xZs h
 obtain ⟨c3,r3,a3,rfl,h3,h⟩:=xZs h
 obtain ⟨c4,r4,a4,rfl,h4,h⟩:=xZs h
 obtain ⟨c5,r5,a5,rfl,h5,h⟩:=xZs h
 obtain ⟨c6,r6,a6,rfl,h6,h⟩:=xZs h
 obtain ⟨c7,r7,a7,rfl,h7,h⟩:=xZs h
 obtain ⟨rfl,rfl⟩:=xZ4K h
 exact .cons (xZL h0) (.cons (xZL h1) (.cons (xZ4l h2) (.cons (xZ4l h3) (.cons (xZL h4) (.cons (xZL h5) (.cons (xZL h6) (.cons (xZ4l h7) (.nil))))))))
theorem xZoJ (cs:List (BV T)) (x:xZ3) (h:dec2 cs=some x):LWs (BV.avs tb cs) (eA2 x).cells:=by
 obtain ⟨c0,r0,a0,rfl,h0,h⟩:=xZs h
 obtain ⟨c1,r1,a1,rfl,h1,h⟩:=xZs h
 obtain ⟨c2,r2,a2,rfl,h2,h⟩:=xZs h
 obtain ⟨c3,r3,a3,rfl,h3,h⟩:=xZs h
 obtain ⟨rfl,rfl⟩:=xZ4K h
 exact .cons (xZe5 h0) (.cons (xZ4l h1) (.cons (xZ4l h2) (.cons (xZ8P h3) (.nil))))
theorem xZoK (cs:List (BV T)) (x:xZ1) (h:dec3 cs=some x):LWs (BV.avs tb cs) (eA3 x).cells:=by
 obtain ⟨c0,r0,a0,rfl,h0,h⟩:=xZs h
 obtain ⟨c1,r1,a1,rfl,h1,h⟩:=xZs h
 obtain ⟨rfl,rfl⟩:=xZ4K h
 exact .cons (xZL h0) (.cons (xZL h1) (.nil))
theorem xZoL (cs:List (BV T)) (x:xZ0) (h:dec4 cs=some x):LWs (BV.avs tb cs) (eA4 x).cells:=by
 obtain ⟨c0,r0,a0,rfl,h0,h⟩:=xZs h
 obtain ⟨c1,r1,a1,rfl,h1,h⟩:=xZs h
 obtain ⟨c2,r2,a2,rfl,h2,h⟩:=xZs h
 obtain ⟨c3,r3,a3,rfl,h3,h⟩:=xZs h
 obtain ⟨c4,r4,a4,rfl,h4,h⟩:=xZs h
 obtain ⟨c5,r5,a5,rfl,h5,h⟩:=xZs h
 obtain ⟨c6,r6,a6,rfl,h6,h⟩:=xZs h
 obtain ⟨rfl,rfl⟩:=xZ4K h
 exact .cons (xZL h0) (.cons (xZL h1) (.cons (xZL h2) (.cons (xZL h3) (.cons (xZ4l h4) (.cons (xZ4l h5) (.cons (xZ8P h6) (.nil)))))))
theorem xZoM (cs:List (BV T)) (x:xZ4) (h:dec5 cs=some x):LWs (BV.avs tb cs) (eA5 x).cells:=by
 obtain ⟨c0,r0,a0,rfl,h0,h⟩:=xZs h
 obtain ⟨c1,r1,a1,rfl,h1,h⟩:=xZs h
 obtain ⟨c2,r2,a2,rfl,h2,h⟩:=xZs h
 obtain ⟨c3,r3,a3,rfl,h3,h⟩:=xZs h
 obtain ⟨c4,r4,a4,rfl,h4,h⟩:=xZs h
 obtain ⟨c5,r5,a5,rfl,h5,h⟩:=xZs h
 obtain ⟨c6,r6,a6,rfl,h6,h⟩:=xZs h
 obtain ⟨rfl,rfl⟩:=xZ4K h
 exact .cons (xZL h0) (.cons (xZL h1) (.cons (xZ4l h2) (.cons (xZL h3) (.cons (xZL h4) (.cons (xZL h5) (.cons (xZ4l h6) (.nil)))))))
theorem xZoN (cs:List (BV T)) (x:List xZ2) (h:dec6 cs=some x):LWs (BV.avs tb cs) (eA6 x).cells:=by
 obtain ⟨c0,r0,a0,rfl,h0,h⟩:=xZs h
 obtain ⟨rfl,rfl⟩:=xZ4K h
 exact .cons (xZ8P h0) (.nil)
theorem xZoO (cs:List (BV T)) (x:xZa) (h:dec7 cs=some x):LWs (BV.avs tb cs) (eA7 x).cells:=by
 obtain ⟨c0,r0,a0,rfl,h0,h⟩:=xZs h
 obtain ⟨c1,r1,a1,rfl,h1,h⟩:=xZs h
 obtain ⟨c2,r2,a2,rfl,h2,h⟩:=xZs h
 obtain ⟨c3,r3,a3,rfl,h3,h⟩:=xZs h
 obtain ⟨rfl,rfl⟩:=xZ4K h
 exact .cons (xZL h0) (.cons (xZL h1) (.cons (xZL h2) (.cons (xZ4l h3) (.nil))))
theorem xZoP (cs:List (BV T)) (x:xZ9) (h:dec8 cs=some x):LWs (BV.avs tb cs) (eA8 x).cells:=by
 obtain ⟨c0,r0,a0,rfl,h0,h⟩:=xZs h
 obtain ⟨c1,r1,a1,rfl,h1,h⟩:=xZs h
 obtain ⟨c2,r2,a2,rfl,h2,h⟩:=xZs h
 obtain ⟨c3,r3,a3,rfl,h3,h⟩:=xZs h
 obtain ⟨rfl,rfl⟩:=xZ4K h
 exact .cons (xZ8P h0) (.cons (xZL h1) (.cons (xZ4l h2) (.cons (xZL h3) (.nil))))
theorem xZoQ (cs:List (BV T)) (x:xZn) (h:dec9 cs=some x):LWs (BV.avs tb cs) (eA9 x).cells:=by
 obtain ⟨c0,r0,a0,rfl,h0,h⟩:=xZs h
 obtain ⟨c1,r1,a1,rfl,h1,h⟩:=xZs h
 obtain ⟨c2,r2,a2,rfl,h2,h⟩:=xZs h
 obtain ⟨c3,r3,a3,rfl,h3,h⟩:=xZs h
 obtain ⟨c4,r4,a4,rfl,h4,h⟩:=xZs h
 obtain ⟨rfl,rfl⟩:=xZ4K h
 exact .cons (xZ8P h0) (.cons (xZ8P h1) (.cons (xZL h2) (.cons (xZ4l h3) (.cons (xZL h4) (.nil)))))
theorem xZnj (cs:List (BV T)) (x:xZ8) (h:dec10 cs=some x):LWs (BV.avs tb cs) (eA10 x).cells:=by
 obtain ⟨c0,r0,a0,rfl,h0,h⟩:=xZs h
 obtain ⟨c1,r1,a1,rfl,h1,h⟩:=xZs h
 obtain ⟨rfl,rfl⟩:=xZ4K h
 exact .cons (xZL h0) (.cons (xZL h1) (.nil))
theorem xZnk (cs:List (BV T)) (x:Int) (h:dec11 cs=some x):LWs (BV.avs tb cs) (eA11 x).cells:=by
 obtain ⟨c0,r0,a0,rfl,h0,h⟩:=xZs h
 obtain ⟨rfl,rfl⟩:=xZ4K h
 exact .cons (xZL h0) (.nil)
theorem xZnl (cs:List (BV T)) (x:Ent105) (h:dec12 cs=some x):LWs (BV.avs tb cs) (eA12 x).cells:=by
 obtain ⟨c0,r0,a0,rfl,h0,h⟩:=xZs h
 obtain ⟨c1,r1,a1,rfl,h1,h⟩:=xZs h
 obtain ⟨c2,r2,a2,rfl,h2,h⟩:=xZs h
 obtain ⟨c3,r3,a3,rfl,h3,h⟩:=xZs h
 obtain ⟨c4,r4,a4,rfl,h4,h⟩:=xZs h
 obtain ⟨rfl,rfl⟩:=xZ4K h
 exact .cons (xZL h0) (.cons (xZL h1) (.cons (xZL h2) (.cons (xZL h3) (.cons (xZL h4) (.nil)))))
theorem xZnm (cs:List (BV T)) (x:Int) (h:dec13 cs=some x):LWs (BV.avs tb cs) (eA13 x).cells:=by
 obtain ⟨c0,r0,a0,rfl,h0,h⟩:=xZs h
 obtain ⟨rfl,rfl⟩:=xZ4K h
 exact .cons (xZL h0) (.nil)
theorem xZnn (cs:List (BV T)) (x:List xZ1) (h:dec14 cs=some x):LWs (BV.avs tb cs) (eA14 x).cells:=by
 obtain ⟨c0,r0,a0,rfl,h0,h⟩:=xZs h
 obtain ⟨rfl,rfl⟩:=xZ4K h
 exact .cons (xZ8P h0) (.nil)
theorem xZno (cs:List (BV T)) (x:A102 Bool) (h:dec15 cs=some x):LWs (BV.avs tb cs) (eA15 x).cells:=by
 unfold dec15 at h
 obtain ⟨l,h1,h2⟩:=Option.bind_eq_some_iff.1 h
 have h3:=A102.of_l h2
 have h4:=xZmm (B:=tb) (f:=fun (y1:Bool)=>[.v (.bool y1)]) (fun cs a h=>by
  obtain ⟨c0,r0,a0,rfl,h0,h⟩:=xZs h
  obtain ⟨rfl,rfl⟩:=xZ4K h
  exact .cons (xZe5 h0) (.nil)) h1
 rw [← h3] at h4
 exact h4
theorem xZnp (cs:List (BV T)) (x:Bool) (h:dec16 cs=some x):LWs (BV.avs tb cs) (eA16 x).cells:=by
 obtain ⟨c0,r0,a0,rfl,h0,h⟩:=xZs h
 obtain ⟨rfl,rfl⟩:=xZ4K h
 exact .cons (xZe5 h0) (.nil)
theorem tb_ok:tb.Ok where
 enc:=fun i x=>match i with | 0=>(by kernel_rfl) | 1=>(by kernel_rfl) | 2=>(by kernel_rfl) | 3=>(by kernel_rfl) | 4=>(by kernel_rfl) | 5=>(by kernel_rfl) | 6=>(by kernel_rfl) | 7=>(by kernel_rfl) | 8=>(by kernel_rfl) | 9=>(by kernel_rfl) | 10=>(by kernel_rfl) | 11=>(by kernel_rfl) | 12=>(by kernel_rfl) | 13=>(by kernel_rfl) | 14=>(by kernel_rfl) | 15=>(by kernel_rfl) | 16=>(by kernel_rfl) | n+17=>(by kernel_rfl)
 len:=fun i x=>match i with | 0=>(by kernel_rfl) | 1=>(by kernel_rfl) | 2=>(by kernel_rfl) | 3=>(by kernel_rfl) | 4=>(by kernel_rfl) | 5=>(by kernel_rfl) | 6=>(by kernel_rfl) | 7=>(by kernel_rfl) | 8=>(by kernel_rfl) | 9=>(by kernel_rfl) | 10=>(by kernel_rfl) | 11=>(by kernel_rfl) | 12=>(by kernel_rfl) | 13=>(by kernel_rfl) | 14=>(by kernel_rfl) | 15=>(by kernel_rfl) | 16=>(by kernel_rfl) | n+17=>(by kernel_rfl)
 one:=fun i x=>match i with | 0=>(by kernel_rfl) | 1=>(by kernel_rfl) | 2=>(by kernel_rfl) | 3=>(by kernel_rfl) | 4=>(by kernel_rfl) | 5=>(by kernel_rfl) | 6=>(by kernel_rfl) | 7=>(by kernel_rfl) | 8=>(by kernel_rfl) | 9=>(by kernel_rfl) | 10=>(by kernel_rfl) | 11=>(by kernel_rfl) | 12=>(by kernel_rfl) | 13=>(by kernel_rfl) | 14=>(by kernel_rfl) | 15=>(by kernel_rfl) | 16=>(by kernel_rfl) | n+17=>(by kernel_rfl)
 dat:=fun i x=>match i with | 0=>(by kernel_rfl) | 1=>(by kernel_rfl) | 2=>(by kernel_rfl) | 3=>(by kernel_rfl) | 4=>(by kernel_rfl) | 5=>(by kernel_rfl) | 6=>(by kernel_rfl) | 7=>(by kernel_rfl) | 8=>(by kernel_rfl) | 9=>(by kernel_rfl) | 10=>(by kernel_rfl) | 11=>(by kernel_rfl) | 12=>(by kernel_rfl) | 13=>(by kernel_rfl) | 14=>(by kernel_rfl) | 15=>(by kernel_rfl) | 16=>(by kernel_rfl) | n+17=>(by kernel_rfl)
 sg:=fun i x h=>match i with | 0=>(by kernel_rfl) | 1=>(by cases h) | 2=>(by cases h) | 3=>(by cases h) | 4=>(by cases h) | 5=>(by cases h) | 6=>(by kernel_rfl) | 7=>(by cases h) | 8=>(by cases h) | 9=>(by cases h) | 10=>(by cases h) | 11=>(by kernel_rfl) | 12=>(by cases h) | 13=>(by kernel_rfl) | 14=>(by kernel_rfl) | 15=>(by cases h) | 16=>(by kernel_rfl) | n+17=>(by cases h)
 ag:=fun i x h=>match i with | 0=>(by cases h) | 1=>(by kernel_rfl) | 2=>(by kernel_rfl) | 3=>(by kernel_rfl) | 4=>(by kernel_rfl) | 5=>(by kernel_rfl) | 6=>(by cases h) | 7=>(by kernel_rfl) | 8=>(by kernel_rfl) | 9=>(by kernel_rfl) | 10=>(by kernel_rfl) | 11=>(by cases h) | 12=>(by kernel_rfl) | 13=>(by cases h) | 14=>(by cases h) | 15=>(by kernel_rfl) | 16=>(by cases h) | n+17=>(by kernel_rfl)
 dec:=fun i=>match i with | 0=>xZoH | 1=>xZoI | 2=>xZoJ | 3=>xZoK | 4=>xZoL | 5=>xZoM | 6=>xZoN | 7=>xZoO | 8=>xZoP | 9=>xZoQ | 10=>xZnj | 11=>xZnk | 12=>xZnl | 13=>xZnm | 14=>xZnn | 15=>xZno | 16=>xZnp | n+17=>fun cs x h=>(by cases h)
 el:=fun i x R K r h=>by cases h
 fd:=fun i ty v x h=>by cases h
def xZ8z:Con tb:=.s 56 [true] (.c (.el tb_ok 7) .n) (fun N a=>xZ6C N a.1) (R:=Int) (.p (.i .i64)) (fun _=>⟨rfl,(by kernel_rfl)⟩)
def xZ7w:Con tb:=.s 28 [true] (.c (.r 1) .n) (fun N a=>xZ5U N a.1) (R:=Int) (.p (.i .i64)) (fun _=>⟨rfl,(by kernel_rfl)⟩)
def xZ5b:LQ tb (((List xZ2))×(Int)):=(LQ.m [] [0,3] (.c 0 (.r 1) (.c 3 (.i .i64) .n)) .n .n).re (fun a=>(a.1.1,a.1.2.1)) (fun x=>((x.1,x.2,()),(),())) (fun _=>rfl)
def xZaE (N:Nat) (c:(List xZ2)) (next:Int→Option Int) (v:Int):Option Int:=xZ5s N c (fun u0=>next u0) v
abbrev xZeB (N:Nat):((List xZ2))×(Int)→Option Int:=fun a=>loopV (xZaE N a.1) N a.2
def xZ9N:Con tb:=.s 7 [true] (.c (.el tb_ok 8) .n) (fun N a=>xZ7U N a.1) (R:=Int) (.p (.i .i64)) (fun _=>⟨rfl,(by kernel_rfl)⟩)
def xZ5c:LQ tb (((List xZ0)×Int×(List UInt8)×Int)×(Int)):=(LQ.m [] [1,3] (.c 1 (.ptr 0 0) (.c 3 (.i .i64) .n)) (.c (.c (.r 4) (.c (.i .i64) (.c .s (.c (.i .u8) .n)))) .n) .n).re (fun a=>((a.2.1.1.1,a.2.1.1.2.1,a.2.1.1.2.2.1,a.2.1.1.2.2.2.1),a.1.2.1)) (fun x=>(((),x.2,()),((x.1.1,x.1.2.1,x.1.2.2.1,x.1.2.2.2,()),()),())) (fun _=>rfl)
def xZaF (N:Nat) (c:(List xZ0)×Int×(List UInt8)×Int) (next:Int→Option Int) (v:Int):Option Int:=xZ5t N c.1 (fun u0=>next u0) v
abbrev xZeC (N:Nat):((List xZ0)×Int×(List UInt8)×Int)×(Int)→Option Int:=fun a=>loopV (xZaF N a.1) N a.2
def xZba:Con tb:=.s 41 [true] (.c (.i .u8) .n) (fun N a=>xZ9o N a.1) (R:=Int) (.p (.i .i64)) (fun _=>⟨rfl,(by kernel_rfl)⟩)
def xZ9j:Con tb:=.s 16 [true,true] (.c (.r 3) (.c (.i .i64) .n)) (fun N a=>xZ1t N a.1 a.2.1) (R:=Int) (.p (.i .i64)) (fun _=>⟨rfl,(by kernel_rfl)⟩)
def xZ6w:LQ tb (((List xZ1)×Int)×(Int×Int)):=(LQ.m [] [5,18,19,20] (.c 5 (.i .i64) (.c 18 (.r 3) (.c 19 (.i .i64) (.c 20 (.i .i64) .n)))) .n .n).re (fun a=>((a.1.2.1,a.1.2.2.1),(a.1.1,a.1.2.2.2.1))) (fun x=>((x.2.1,x.1.1,x.1.2,x.2.2,()),(),())) (fun _=>rfl)
def xZbP (N:Nat) (c:(List xZ1)×Int) (next:(Int×Int)→Option Int) (v:Int×Int):Option Int:=xZ6A N c.1 c.2 (fun u0 u1=>next (u0,u1)) v.1 v.2
abbrev xZg5 (N:Nat):((List xZ1)×Int)×(Int×Int)→Option Int:=fun a=>loopV (xZbP N a.1) N a.2
def xZ3P:Con tb:=.m 76 [true,false] (.c (.el tb_ok 3) (.c (.ptr 0 0) .n)) (.c (.c (.r 3) (.c (.r 2) (.c (.i .i64) (.c .s (.c (.i .u8) .n))))) .n) .n (fun N a=>xZ2n N a.1.1 a.2.1.1.1 a.2.1.1.2.1 a.2.1.1.2.2.1 a.2.1.1.2.2.2.1 a.2.1.1.2.2.2.2.1) (R:=Bool×List xZ1×List xZ3×Int×List UInt8×Int) (.m (R:=Bool×List xZ1×List xZ3×Int×List UInt8×Int) .b (.c (.c (.r 3) (.c (.r 2) (.c (.i .i64) (.c .s (.c (.i .u8) .n))))) .n) .n (fun z=>(z.1,z.2.1.1.1,z.2.1.1.2.1,z.2.1.1.2.2.1,z.2.1.1.2.2.2.1,z.2.1.1.2.2.2.2.1)) (fun r=>(r.1,((r.2.1,r.2.2.1,r.2.2.2.1,r.2.2.2.2.1,r.2.2.2.2.2,()),()),())) (fun _=>rfl))
def xZZ:Con tb:=.m 112 [true,false] (.c (.r 3) (.c (.fn 76 .n (.c (.ptr 0 0) .n)) .n)) (.c (.c (.r 3) (.c (.r 2) (.c (.i .i64) (.c .s (.c (.i .u8) .n))))) .n) .n (fun N a=>xZC N a.1.1 a.2.1.1.1 a.2.1.1.2.1 a.2.1.1.2.2.1 a.2.1.1.2.2.2.1 a.2.1.1.2.2.2.2.1) (R:=Int×List xZ1×List xZ3×Int×List UInt8×Int) (.m (R:=Int×List xZ1×List xZ3×Int×List UInt8×Int) (.i .i64) (.c (.c (.r 3) (.c (.r 2) (.c (.i .i64) (.c .s (.c (.i .u8) .n))))) .n) .n (fun z=>(z.1,z.2.1.1.1,z.2.1.1.2.1,z.2.1.1.2.2.1,z.2.1.1.2.2.2.1,z.2.1.1.2.2.2.2.1)) (fun r=>(r.1,((r.2.1,r.2.2.1,r.2.2.2.1,r.2.2.2.2.1,r.2.2.2.2.2,()),()),())) (fun _=>rfl))
def xZy:LQ tb (((List xZ1)×Int)×(Int×(List xZ1)×(List xZ3)×Int×(List UInt8)×Int)):=(LQ.m [] [0,1,7,8] (.c 0 (.r 3) (.c 1 (.fn 76 .n (.c (.ptr 0 0) .n)) (.c 7 (.i .i64) (.c 8 (.i .i64) .n)))) (.c (.c (.r 3) (.c (.r 2) (.c (.i .i64) (.c .s (.c (.i .u8) .n))))) .n) .n).re (fun a=>((a.1.1,a.1.2.2.1),(a.1.2.2.2.1,a.2.1.1.1,a.2.1.1.2.1,a.2.1.1.2.2.1,a.2.1.1.2.2.2.1,a.2.1.1.2.2.2.2.1))) (fun x=>((x.1.1,((),(),()),x.1.2,x.2.1,()),((x.2.2.1,x.2.2.2.1,x.2.2.2.2.1,x.2.2.2.2.2.1,x.2.2.2.2.2.2,()),()),())) (fun _=>rfl)
def xZ1D (N:Nat) (c:(List xZ1)×Int) (next:(Int×(List xZ1)×(List xZ3)×Int×(List UInt8)×Int)→Option (Int×List xZ1×List xZ3×Int×List UInt8×Int)) (v:Int×(List xZ1)×(List xZ3)×Int×(List UInt8)×Int):Option (Int×List xZ1×List xZ3×Int×List UInt8×Int):=xZz N c.1 c.2 (fun u0 u1 u2 u3 u4 u5=>next (u0,u1,u2,u3,u4,u5)) v.1 v.2.1 v.2.2.1 v.2.2.2.1 v.2.2.2.2.1 v.2.2.2.2.2
abbrev xZ3O (N:Nat):((List xZ1)×Int)×(Int×(List xZ1)×(List xZ3)×Int×(List UInt8)×Int)→Option (Int×List xZ1×List xZ3×Int×List UInt8×Int):=fun a=>loopV (xZ1D N a.1) N a.2
def xZQ:Con tb:=.m 75 [true,false] (.c (.r 3) (.c (.fn 76 .n (.c (.ptr 0 0) .n)) .n)) (.c (.c (.r 3) (.c (.r 2) (.c (.i .i64) (.c .s (.c (.i .u8) .n))))) .n) .n (fun N a=>xZw N a.1.1 a.2.1.1.1 a.2.1.1.2.1 a.2.1.1.2.2.1 a.2.1.1.2.2.2.1 a.2.1.1.2.2.2.2.1) (R:=Bool×List xZ1×List xZ3×Int×List UInt8×Int) (.m (R:=Bool×List xZ1×List xZ3×Int×List UInt8×Int) .b (.c (.c (.r 3) (.c (.r 2) (.c (.i .i64) (.c .s (.c (.i .u8) .n))))) .n) .n (fun z=>(z.1,z.2.1.1.1,z.2.1.1.2.1,z.2.1.1.2.2.1,z.2.1.1.2.2.2.1,z.2.1.1.2.2.2.2.1)) (fun r=>(r.1,((r.2.1,r.2.2.1,r.2.2.2.1,r.2.2.2.2.1,r.2.2.2.2.2,()),()),())) (fun _=>rfl))
def xZb9:Con tb:=.s 49 [true] (.c (.el tb_ok 9) .n) (fun N a=>xZ9n N a.1) (R:=Bool) (.p .b) (fun _=>⟨rfl,(by kernel_rfl)⟩)
def xZ8y:Con tb:=.s 44 [true,true] (.c .b (.c .s .n)) (fun N a=>xZ6B N a.1 a.2.1) (R:=List UInt8) (.p .s) (fun _=>⟨rfl,(by kernel_rfl)⟩)
def xZ3Q:Con tb:=.s 51 [true,true] (.c (.el tb_ok 10) (.c (.i .i64) .n)) (fun N a=>xZ2z N a.1 a.2.1) (R:=Bool) (.p .b) (fun _=>⟨rfl,(by kernel_rfl)⟩)
def xZ4O:Con tb:=.s 113 [true,true] (.c (.el tb_ok 10) (.c (.i .i64) .n)) (fun N a=>xZ3j N a.1 a.2.1) (R:=xZ8) (.p (.el tb_ok 10)) (fun _=>⟨rfl,(by kernel_rfl)⟩)
def xZ2h:Con tb:=.m 77 [false,true,true] (.c (.ptr 0 0) (.c (.el tb_ok 10) (.c .s .n))) (.c (.c (.r 3) (.c (.r 2) (.c (.i .i64) (.c .s (.c (.i .u8) (.c (.r 0) (.c (.own 0) .n))))))) .n) (.m [.i64,.u64,.u64] 12 .n) (fun N a=>xZ1B N a.1.2.1 a.1.2.2.1 a.2.1.1.1 a.2.1.1.2.1 a.2.1.1.2.2.1 a.2.1.1.2.2.2.1 a.2.1.1.2.2.2.2.1 a.2.1.1.2.2.2.2.2.1 a.2.2.1) (R:=xZ8×List xZ1×List xZ3×Int×List UInt8×Int×List (List UInt8)×List Ent105) (.m (R:=xZ8×List xZ1×List xZ3×Int×List UInt8×Int×List (List UInt8)×List Ent105) (.el tb_ok 10) (.c (.c (.r 3) (.c (.r 2) (.c (.i .i64) (.c .s (.c (.i .u8) (.c (.r 0) (.c (.own 0) .n))))))) .n) (.m [.i64,.u64,.u64] 12 .n) (fun z=>(z.1,z.2.1.1.1,z.2.1.1.2.1,z.2.1.1.2.2.1,z.2.1.1.2.2.2.1,z.2.1.1.2.2.2.2.1,z.2.1.1.2.2.2.2.2.1,z.2.2.1)) (fun r=>(r.1,((r.2.1,r.2.2.1,r.2.2.2.1,r.2.2.2.2.1,r.2.2.2.2.2.1,r.2.2.2.2.2.2.1,(),()),()),r.2.2.2.2.2.2.2,())) (fun _=>rfl))
def xZ1n:LQ tb (((List UInt8)×(List (List UInt8))×Int×(List xZ1)×(List xZ3)×Int×(List UInt8)×Int×(List (List UInt8))×Int×Int×(List Ent105))×(Int×Int×Int)):=(LQ.m [] [2,4,6,7,13,14,15] (.c 2 .s (.c 4 (.ptr 1 0) (.c 6 (.ptr 2 0) (.c 7 (.ptr 3 0) (.c 13 (.r 0) (.c 14 (.i .i64) (.c 15 (.i .i64) .n))))))) (.c (.c (.r 3) (.c (.r 2) (.c (.i .i64) (.c .s (.c (.i .u8) (.c (.r 0) (.c (.own 0) .n))))))) (.c (.c (.i .u64) (.c (.i .u64) .n)) (.c (.c (.li .u64 0) (.c (.li .u64 0) .n)) (.c (.c (.i .u64) (.c (.i .u64) .n)) .n)))) (.m [.i64,.u64,.u64] 12 .n)).re (fun a=>((a.1.1,a.1.2.2.2.2.1,a.1.2.2.2.2.2.1,a.2.1.1.1,a.2.1.1.2.1,a.2.1.1.2.2.1,a.2.1.1.2.2.2.1,a.2.1.1.2.2.2.2.1,a.2.1.1.2.2.2.2.2.1,a.2.1.2.1.1,a.2.1.2.1.2.1,a.2.2.1),(a.1.2.2.2.2.2.2.1,a.2.1.2.2.2.1.1,a.2.1.2.2.2.1.2.1))) (fun x=>((x.1.1,(),(),(),x.1.2.1,x.1.2.2.1,x.2.1,()),((x.1.2.2.2.1,x.1.2.2.2.2.1,x.1.2.2.2.2.2.1,x.1.2.2.2.2.2.2.1,x.1.2.2.2.2.2.2.2.1,x.1.2.2.2.2.2.2.2.2.1,(),()),(x.1.2.2.2.2.2.2.2.2.2.1,x.1.2.2.2.2.2.2.2.2.2.2.1,()),((),(),()),(x.2.2.1,x.2.2.2,()),()),x.1.2.2.2.2.2.2.2.2.2.2.2,())) (fun _=>rfl)
def xZ3H (N:Nat) (c:(List UInt8)×(List (List UInt8))×Int×(List xZ1)×(List xZ3)×Int×(List UInt8)×Int×(List (List UInt8))×Int×Int×(List Ent105)) (next:(Int×Int×Int)→Option (xZ8×List xZ1×List xZ3×Int×List UInt8×Int×List (List UInt8)×List Ent105)) (v:Int×Int×Int):Option (xZ8×List xZ1×List xZ3×Int×List UInt8×Int×List (List UInt8)×List Ent105):=xZ1o N c.1 c.2.1 c.2.2.1 c.2.2.2.1 c.2.2.2.2.1 c.2.2.2.2.2.1 c.2.2.2.2.2.2.1 c.2.2.2.2.2.2.2.1 c.2.2.2.2.2.2.2.2.1 c.2.2.2.2.2.2.2.2.2.1 c.2.2.2.2.2.2.2.2.2.2.1 c.2.2.2.2.2.2.2.2.2.2.2 (fun u0 u1 u2=>next (u0,u1,u2)) v.1 v.2.1 v.2.2
abbrev xZ7u (N:Nat):((List UInt8)×(List (List UInt8))×Int×(List xZ1)×(List xZ3)×Int×(List UInt8)×Int×(List (List UInt8))×Int×Int×(List Ent105))×(Int×Int×Int)→Option (xZ8×List xZ1×List xZ3×Int×List UInt8×Int×List (List UInt8)×List Ent105):=fun a=>loopV (xZ3H N a.1) N a.2
def xZ4x:Con tb:=.s 78 [true,true] (.c (.el tb_ok 10) (.c (.el tb_ok 10) .n)) (fun N a=>xZT N a.1 a.2.1) (R:=xZ8) (.p (.el tb_ok 10)) (fun _=>⟨rfl,(by kernel_rfl)⟩)
def xZI:Con tb:=.m 50 [false,true,true] (.c (.ptr 0 0) (.c (.i .i64) (.c (.el tb_ok 10) .n))) (.c (.c (.r 3) (.c (.r 2) (.c (.i .i64) (.c .s (.c (.i .u8) (.c (.r 0) (.c (.own 0) .n))))))) .n) (.m [.i64,.u64,.u64] 12 .n) (fun N a=>xZ2m N a.1.2.1 a.1.2.2.1 a.2.1.1.1 a.2.1.1.2.1 a.2.1.1.2.2.1 a.2.1.1.2.2.2.1 a.2.1.1.2.2.2.2.1 a.2.1.1.2.2.2.2.2.1 a.2.2.1) (R:=xZ8×List xZ1×List xZ3×Int×List UInt8×Int×List (List UInt8)×List Ent105) (.m (R:=xZ8×List xZ1×List xZ3×Int×List UInt8×Int×List (List UInt8)×List Ent105) (.el tb_ok 10) (.c (.c (.r 3) (.c (.r 2) (.c (.i .i64) (.c .s (.c (.i .u8) (.c (.r 0) (.c (.own 0) .n))))))) .n) (.m [.i64,.u64,.u64] 12 .n) (fun z=>(z.1,z.2.1.1.1,z.2.1.1.2.1,z.2.1.1.2.2.1,z.2.1.1.2.2.2.1,z.2.1.1.2.2.2.2.1,z.2.1.1.2.2.2.2.2.1,z.2.2.1)) (fun r=>(r.1,((r.2.1,r.2.2.1,r.2.2.2.1,r.2.2.2.2.1,r.2.2.2.2.2.1,r.2.2.2.2.2.2.1,(),()),()),r.2.2.2.2.2.2.2,())) (fun _=>rfl))
def xZ2g:Con tb:=.m 79 [false,true,true] (.c (.ptr 0 0) (.c (.i .i64) (.c (.el tb_ok 10) .n))) (.c (.c (.r 3) (.c (.r 2) (.c (.i .i64) (.c .s (.c (.i .u8) (.c (.r 0) (.c (.own 0) .n))))))) .n) (.m [.i64,.u64,.u64] 12 .n) (fun N a=>xZ8x N a.1.2.1 a.1.2.2.1 a.2.1.1.1 a.2.1.1.2.1 a.2.1.1.2.2.1 a.2.1.1.2.2.2.1 a.2.1.1.2.2.2.2.1 a.2.1.1.2.2.2.2.2.1 a.2.2.1) (R:=xZ8×List xZ1×List xZ3×Int×List UInt8×Int×List (List UInt8)×List Ent105) (.m (R:=xZ8×List xZ1×List xZ3×Int×List UInt8×Int×List (List UInt8)×List Ent105) (.el tb_ok 10) (.c (.c (.r 3) (.c (.r 2) (.c (.i .i64) (.c .s (.c (.i .u8) (.c (.r 0) (.c (.own 0) .n))))))) .n) (.m [.i64,.u64,.u64] 12 .n) (fun z=>(z.1,z.2.1.1.1,z.2.1.1.2.1,z.2.1.1.2.2.1,z.2.1.1.2.2.2.1,z.2.1.1.2.2.2.2.1,z.2.1.1.2.2.2.2.2.1,z.2.2.1)) (fun r=>(r.1,((r.2.1,r.2.2.1,r.2.2.2.1,r.2.2.2.2.1,r.2.2.2.2.2.1,r.2.2.2.2.2.2.1,(),()),()),r.2.2.2.2.2.2.2,())) (fun _=>rfl))
def xZ1m:LQ tb ((Int)×((List xZ1)×(List xZ3)×Int×(List UInt8)×Int×(List (List UInt8))×Int×Int×(List Ent105))):=(LQ.m [] [0,1,6,7] (.c 0 (.ptr 0 0) (.c 1 (.i .i64) (.c 6 (.ptr 1 0) (.c 7 (.ptr 2 0) .n)))) (.c (.c (.r 3) (.c (.r 2) (.c (.i .i64) (.c .s (.c (.i .u8) (.c (.r 0) (.c (.own 0) .n))))))) (.c (.c (.li .u64 0) (.c (.li .u64 0) .n)) (.c (.c (.i .u64) (.c (.i .u64) .n)) .n))) (.m [.i64,.u64,.u64] 12 .n)).re (fun a=>(a.1.2.1,(a.2.1.1.1,a.2.1.1.2.1,a.2.1.1.2.2.1,a.2.1.1.2.2.2.1,a.2.1.1.2.2.2.2.1,a.2.1.1.2.2.2.2.2.1,a.2.1.2.2.1.1,a.2.1.2.2.1.2.1,a.2.2.1))) (fun x=>(((),x.1,(),(),()),((x.2.1,x.2.2.1,x.2.2.2.1,x.2.2.2.2.1,x.2.2.2.2.2.1,x.2.2.2.2.2.2.1,(),()),((),(),()),(x.2.2.2.2.2.2.2.1,x.2.2.2.2.2.2.2.2.1,()),()),x.2.2.2.2.2.2.2.2.2,())) (fun _=>rfl)
def xZ3G (N:Nat) (c:Int) (next:((List xZ1)×(List xZ3)×Int×(List UInt8)×Int×(List (List UInt8))×Int×Int×(List Ent105))→Option (xZ8×List xZ1×List xZ3×Int×List UInt8×Int×List (List UInt8)×List Ent105)) (v:(List xZ1)×(List xZ3)×Int×(List UInt8)×Int×(List (List UInt8))×Int×Int×(List Ent105)):Option (xZ8×List xZ1×List xZ3×Int×List UInt8×Int×List (List UInt8)×List Ent105):=xZ1Y N (xZc N) c (fun u0 u1 u2 u3 u4 u5 u6 u7 u8=>next (u0,u1,u2,u3,u4,u5,u6,u7,u8)) v.1 v.2.1 v.2.2.1 v.2.2.2.1 v.2.2.2.2.1 v.2.2.2.2.2.1 v.2.2.2.2.2.2.1 v.2.2.2.2.2.2.2.1 v.2.2.2.2.2.2.2.2
abbrev xZ7t (N:Nat):(Int)×((List xZ1)×(List xZ3)×Int×(List UInt8)×Int×(List (List UInt8))×Int×Int×(List Ent105))→Option (xZ8×List xZ1×List xZ3×Int×List UInt8×Int×List (List UInt8)×List Ent105):=fun a=>loopV (xZ3G N a.1) N a.2
def xZ50:Con tb:=.s 23 [true,true] (.c (.el tb_ok 9) (.c (.r 0) .n)) (fun N a=>xZ5r N a.1 a.2.1) (R:=Bool) (.p .b) (fun _=>⟨rfl,(by kernel_rfl)⟩)
def xZ3S:Con tb:=.clone 104 1 (fun _ s=>shClone 80 s)
def xZ1O:Con tb:=.cloneD 104 1 (fun _ s=>shClone 80 s)
def xZ5E:Con tb:=.s 154 [true] (.c (.el tb_ok 1) .n) (fun N a=>xZ5W N a.1) (R:=Bool) (.p .b) (fun _=>⟨rfl,(by kernel_rfl)⟩)
def xZk:Con tb:=.m 177 [false] (.c (.ptr 0 0) .n) (.c (.c (.r 5) (.c (.i .i64) (.c (.i .i64) .n))) .n) .n (fun N a=>xZm N a.2.1.1.1 a.2.1.1.2.1 a.2.1.1.2.2.1) (R:=xZ4×List xZ4×Int×Int) (.m (R:=xZ4×List xZ4×Int×Int) (.el tb_ok 5) (.c (.c (.r 5) (.c (.i .i64) (.c (.i .i64) .n))) .n) .n (fun z=>(z.1,z.2.1.1.1,z.2.1.1.2.1,z.2.1.1.2.2.1)) (fun r=>(r.1,((r.2.1,r.2.2.1,r.2.2.2,()),()),())) (fun _=>rfl))
def xZ1u:Con tb:=.m 167 [false] (.c (.ptr 0 0) .n) (.c (.c (.r 5) (.c (.i .i64) (.c (.i .i64) .n))) .n) .n (fun N a=>xZi N a.2.1.1.1 a.2.1.1.2.1 a.2.1.1.2.2.1) (R:=Int×List xZ4×Int×Int) (.m (R:=Int×List xZ4×Int×Int) (.i .i64) (.c (.c (.r 5) (.c (.i .i64) (.c (.i .i64) .n))) .n) .n (fun z=>(z.1,z.2.1.1.1,z.2.1.1.2.1,z.2.1.1.2.2.1)) (fun r=>(r.1,((r.2.1,r.2.2.1,r.2.2.2,()),()),())) (fun _=>rfl))
def xZu:Con tb:=.m 182 [false,true] (.c (.ptr 0 0) (.c (.i .i64) .n)) (.c (.c (.r 5) (.c (.i .i64) (.c (.i .i64) .n))) .n) .n (fun N a=>xZh N a.1.2.1 a.2.1.1.1 a.2.1.1.2.1 a.2.1.1.2.2.1) (R:=Int×Int×List xZ4×Int×Int) (.m (R:=Int×Int×List xZ4×Int×Int) (.ifc 16777443 (.ag (.c (.i .i64) (.c (.i .i64) .n)))) (.c (.c (.r 5) (.c (.i .i64) (.c (.i .i64) .n))) .n) .n (fun z=>(z.1.1,z.1.2.1,z.2.1.1.1,z.2.1.1.2.1,z.2.1.1.2.2.1)) (fun r=>((r.1,r.2.1,()),((r.2.2.1,r.2.2.2.1,r.2.2.2.2,()),()),())) (fun _=>rfl))
def xZ1r:Con tb:=.m 181 [false,true] (.c (.ptr 0 0) (.c (.i .i64) .n)) (.c (.c (.r 5) (.c (.i .i64) (.c (.i .i64) .n))) .n) .n (fun N a=>xZ2o N a.1.2.1 a.2.1.1.1 a.2.1.1.2.1 a.2.1.1.2.2.1) (R:=(Int×Int×List xZ4×Int×Int)⊕(List xZ4×Int×Int)) (.or (.m (R:=Int×Int×List xZ4×Int×Int) (.ifc 16777443 (.ag (.c (.i .i64) (.c (.i .i64) .n)))) (.c (.c (.r 5) (.c (.i .i64) (.c (.i .i64) .n))) .n) .n (fun z=>(z.1.1,z.1.2.1,z.2.1.1.1,z.2.1.1.2.1,z.2.1.1.2.2.1)) (fun r=>((r.1,r.2.1,()),((r.2.2.1,r.2.2.2.1,r.2.2.2.2,()),()),())) (fun _=>rfl)) (.m (R:=List xZ4×Int×Int) (.tu .n) (.c (.c (.r 5) (.c (.i .i64) (.c (.i .i64) .n))) .n) .n (fun z=>(z.2.1.1.1,z.2.1.1.2.1,z.2.1.1.2.2.1)) (fun r=>((),((r.1,r.2.1,r.2.2,()),()),())) (fun _=>rfl)))
def xZo:Con tb:=.m 173 [false,true,true] (.c (.ptr 0 0) (.c (.i .u8) (.c .s .n))) (.c (.c (.r 5) (.c (.i .i64) (.c (.i .i64) .n))) .n) .n (fun N a=>xZb N a.1.2.1 a.1.2.2.1 a.2.1.1.1 a.2.1.1.2.1 a.2.1.1.2.2.1) (R:=Bool×List xZ4×Int×Int) (.m (R:=Bool×List xZ4×Int×Int) .b (.c (.c (.r 5) (.c (.i .i64) (.c (.i .i64) .n))) .n) .n (fun z=>(z.1,z.2.1.1.1,z.2.1.1.2.1,z.2.1.1.2.2.1)) (fun r=>(r.1,((r.2.1,r.2.2.1,r.2.2.2,()),()),())) (fun _=>rfl))
def xZ1F:Con tb:=.m 186 [false,true] (.c .e (.c (.i .i64) .n)) .n .n (fun N a=>xZ18 N a.1.2.1) (R:=List xZ2) (.m (R:=List xZ2) (.own 0) .n (.l 1 .n) (fun z=>z.2.2.1) (fun r=>((),(),r,())) (fun _=>rfl))
def xZ1V:Con tb:=.p 178 [true] (.c (.r 6) .n) (fun N a=>xZ3M N a.1) (R:=(List UInt8)⊕(List xZ2)) (.or (.p (.ifc 16777225 .s)) (.p (.r 1))) (fun r=>by rcases r with _ | _<;>exact rfl)
def xZ15:LQ tb (((List (List xZ2))×(List (List xZ2))×Int)×(Int×Int)):=(LQ.m [] [0,3,9,10,11] (.c 0 (.r 6) (.c 3 (.i .i64) (.c 9 (.r 6) (.c 10 (.i .i64) (.c 11 (.i .i64) .n))))) .n .n).re (fun a=>((a.1.1,a.1.2.2.1,a.1.2.2.2.1),(a.1.2.1,a.1.2.2.2.2.1))) (fun x=>((x.1.1,x.2.1,x.1.2.1,x.1.2.2,x.2.2,()),(),())) (fun _=>rfl)
def xZ16:LQ tb (((List (List xZ2))×Int)×(Int×(List xZ2))):=(LQ.m [] [6,25,26,27] (.c 6 (.own 0) (.c 25 (.r 6) (.c 26 (.i .i64) (.c 27 (.i .i64) .n)))) .n (.l 1 .n)).re (fun a=>((a.1.2.1,a.1.2.2.1),(a.1.2.2.2.1,a.2.2.1))) (fun x=>(((),x.1.1,x.1.2,x.2.1,()),(),x.2.2,())) (fun _=>rfl)
def xZ2U (N:Nat) (c:(List (List xZ2))×Int) (next:(Int×(List xZ2))→Option ((List UInt8)⊕(List xZ2))) (v:Int×(List xZ2)):Option ((List UInt8)⊕(List xZ2)):=xZ2Z N c.1 c.2 (fun u0 u1=>next (u0,u1)) v.1 v.2
abbrev xZ6l (N:Nat):((List (List xZ2))×Int)×(Int×(List xZ2))→Option ((List UInt8)⊕(List xZ2)):=fun a=>loopV (xZ2U N a.1) N a.2
def xZ2T (N:Nat) (c:(List (List xZ2))×(List (List xZ2))×Int) (next:(Int×Int)→Option ((List UInt8)⊕(List xZ2))) (v:Int×Int):Option ((List UInt8)⊕(List xZ2)):=xZ2Y N c.1 c.2.1 c.2.2 (fun u0 u1=>next (u0,u1)) v.1 v.2
abbrev xZ6k (N:Nat):((List (List xZ2))×(List (List xZ2))×Int)×(Int×Int)→Option ((List UInt8)⊕(List xZ2)):=fun a=>loopV (xZ2T N a.1) N a.2
def xZ1U:Con tb:=.p 174 [true,true] (.c (.el tb_ok 1) (.c (.r 6) .n)) (fun N a=>xZ1y N a.1 a.2.1) (R:=List xZ2) (.p (.r 1)) (fun _=>rfl)
def xZ12:Con tb:=.m 185 [false,true] (.c (.ptr 0 0) (.c (.i .u8) .n)) (.c (.c (.r 5) (.c (.i .i64) (.c (.i .i64) .n))) .n) .n (fun N a=>xZG N a.1.2.1 a.2.1.1.1 a.2.1.1.2.1 a.2.1.1.2.2.1) (R:=(Int×Int×List xZ4×Int×Int)⊕(xZ4×List xZ4×Int×Int)) (.or (.m (R:=Int×Int×List xZ4×Int×Int) (.ifc 16777443 (.ag (.c (.i .i64) (.c (.i .i64) .n)))) (.c (.c (.r 5) (.c (.i .i64) (.c (.i .i64) .n))) .n) .n (fun z=>(z.1.1,z.1.2.1,z.2.1.1.1,z.2.1.1.2.1,z.2.1.1.2.2.1)) (fun r=>((r.1,r.2.1,()),((r.2.2.1,r.2.2.2.1,r.2.2.2.2,()),()),())) (fun _=>rfl)) (.m (R:=xZ4×List xZ4×Int×Int) (.el tb_ok 5) (.c (.c (.r 5) (.c (.i .i64) (.c (.i .i64) .n))) .n) .n (fun z=>(z.1,z.2.1.1.1,z.2.1.1.2.1,z.2.1.1.2.2.1)) (fun r=>(r.1,((r.2.1,r.2.2.1,r.2.2.2,()),()),())) (fun _=>rfl)))
def xZ1E:Con tb:=.m 187 [false] (.c (.ptr 0 0) .n) (.c (.c (.r 5) (.c (.i .i64) (.c (.i .i64) .n))) .n) .n (fun N a=>xZ17 N a.2.1.1.1 a.2.1.1.2.1 a.2.1.1.2.2.1) (R:=(Int×Int×List xZ4×Int×Int)⊕(List xZ2×List xZ4×Int×Int)) (.or (.m (R:=Int×Int×List xZ4×Int×Int) (.ifc 16777443 (.ag (.c (.i .i64) (.c (.i .i64) .n)))) (.c (.c (.r 5) (.c (.i .i64) (.c (.i .i64) .n))) .n) .n (fun z=>(z.1.1,z.1.2.1,z.2.1.1.1,z.2.1.1.2.1,z.2.1.1.2.2.1)) (fun r=>((r.1,r.2.1,()),((r.2.2.1,r.2.2.2.1,r.2.2.2.2,()),()),())) (fun _=>rfl)) (.m (R:=List xZ2×List xZ4×Int×Int) (.r 1) (.c (.c (.r 5) (.c (.i .i64) (.c (.i .i64) .n))) .n) .n (fun z=>(z.1,z.2.1.1.1,z.2.1.1.2.1,z.2.1.1.2.2.1)) (fun r=>(r.1,((r.2.1,r.2.2.1,r.2.2.2,()),()),())) (fun _=>rfl)))
def xZ1N:Con tb:=.m 183 [false] (.c (.ptr 0 0) .n) (.c (.c (.r 5) (.c (.i .i64) (.c (.i .i64) .n))) .n) .n (fun N a=>xZ1T N a.2.1.1.1 a.2.1.1.2.1 a.2.1.1.2.2.1) (R:=(Int×Int×List xZ4×Int×Int)⊕(List xZ2×List xZ4×Int×Int)) (.or (.m (R:=Int×Int×List xZ4×Int×Int) (.ifc 16777443 (.ag (.c (.i .i64) (.c (.i .i64) .n)))) (.c (.c (.r 5) (.c (.i .i64) (.c (.i .i64) .n))) .n) .n (fun z=>(z.1.1,z.1.2.1,z.2.1.1.1,z.2.1.1.2.1,z.2.1.1.2.2.1)) (fun r=>((r.1,r.2.1,()),((r.2.2.1,r.2.2.2.1,r.2.2.2.2,()),()),())) (fun _=>rfl)) (.m (R:=List xZ2×List xZ4×Int×Int) (.r 1) (.c (.c (.r 5) (.c (.i .i64) (.c (.i .i64) .n))) .n) .n (fun z=>(z.1,z.2.1.1.1,z.2.1.1.2.1,z.2.1.1.2.2.1)) (fun r=>(r.1,((r.2.1,r.2.2.1,r.2.2.2,()),()),())) (fun _=>rfl)))
def xZX:LQ tb ((Unit)×((List xZ2)×(List xZ4)×Int×Int)):=(LQ.m [] [0,3] (.c 0 (.ptr 0 0) (.c 3 (.r 1) .n)) (.c (.c (.r 5) (.c (.i .i64) (.c (.i .i64) .n))) .n) .n).re (fun a=>((),(a.1.2.1,a.2.1.1.1,a.2.1.1.2.1,a.2.1.1.2.2.1))) (fun x=>(((),x.2.1,()),((x.2.2.1,x.2.2.2.1,x.2.2.2.2,()),()),())) (fun _=>rfl)
def xZ2w (N:Nat) (c:Unit) (next:((List xZ2)×(List xZ4)×Int×Int)→Option ((Int×Int×List xZ4×Int×Int)⊕(List xZ2×List xZ4×Int×Int))) (v:(List xZ2)×(List xZ4)×Int×Int):Option ((Int×Int×List xZ4×Int×Int)⊕(List xZ2×List xZ4×Int×Int)):=xZ2C N (fun u0 u1 u2 u3=>next (u0,u1,u2,u3)) v.1 v.2.1 v.2.2.1 v.2.2.2
abbrev xZ5T (N:Nat):(Unit)×((List xZ2)×(List xZ4)×Int×Int)→Option ((Int×Int×List xZ4×Int×Int)⊕(List xZ2×List xZ4×Int×Int)):=fun a=>loopV (xZ2w N a.1) N a.2
def xZ4Z:Con tb:=.s 164 [true] (.c (.i .u8) .n) (fun N a=>xZ2K N a.1) (R:=List UInt8) (.p .s) (fun _=>⟨rfl,(by kernel_rfl)⟩)
def xZ9L:Con tb:=.s 184 [true] (.c .s .n) (fun N a=>xZdf N a.1) (R:=Int) (.p (.i .u8)) (fun _=>⟨rfl,(by kernel_rfl)⟩)
def xZ5a:LQ tb (((List UInt8))×(Int)):=(LQ.m [] [0,3] (.c 0 .s (.c 3 (.i .u8) .n)) .n .n).re (fun a=>(a.1.1,a.1.2.1)) (fun x=>((x.1,x.2,()),(),())) (fun _=>rfl)
def xZaD (N:Nat) (c:(List UInt8)) (next:Int→Option Int) (v:Int):Option Int:=xZb7 N c (fun u0=>next u0) v
abbrev xZeA (N:Nat):((List UInt8))×(Int)→Option Int:=fun a=>loopV (xZaD N a.1) N a.2
def xZ1j:Con tb:=.m 169 [false,true] (.c (.ptr 0 0) (.c (.i .i64) .n)) (.c (.c (.r 5) (.c (.i .i64) (.c (.i .i64) .n))) .n) .n (fun N a=>xZB N a.1.2.1 a.2.1.1.1 a.2.1.1.2.1 a.2.1.1.2.2.1) (R:=(Int×Int×List xZ4×Int×Int)⊕(List xZ2×List xZ4×Int×Int)) (.or (.m (R:=Int×Int×List xZ4×Int×Int) (.ifc 16777443 (.ag (.c (.i .i64) (.c (.i .i64) .n)))) (.c (.c (.r 5) (.c (.i .i64) (.c (.i .i64) .n))) .n) .n (fun z=>(z.1.1,z.1.2.1,z.2.1.1.1,z.2.1.1.2.1,z.2.1.1.2.2.1)) (fun r=>((r.1,r.2.1,()),((r.2.2.1,r.2.2.2.1,r.2.2.2.2,()),()),())) (fun _=>rfl)) (.m (R:=List xZ2×List xZ4×Int×Int) (.r 1) (.c (.c (.r 5) (.c (.i .i64) (.c (.i .i64) .n))) .n) .n (fun z=>(z.1,z.2.1.1.1,z.2.1.1.2.1,z.2.1.1.2.2.1)) (fun r=>(r.1,((r.2.1,r.2.2.1,r.2.2.2,()),()),())) (fun _=>rfl)))
def xZ14:LQ tb ((Int)×((List xZ2)×(List xZ4)×Int×Int)):=(LQ.m [] [0,1,5] (.c 0 (.ptr 0 0) (.c 1 (.i .i64) (.c 5 (.r 1) .n))) (.c (.c (.r 5) (.c (.i .i64) (.c (.i .i64) .n))) .n) .n).re (fun a=>(a.1.2.1,(a.1.2.2.1,a.2.1.1.1,a.2.1.1.2.1,a.2.1.1.2.2.1))) (fun x=>(((),x.1,x.2.1,()),((x.2.2.1,x.2.2.2.1,x.2.2.2.2,()),()),())) (fun _=>rfl)
def xZ2S (N:Nat) (c:Int) (next:((List xZ2)×(List xZ4)×Int×Int)→Option ((Int×Int×List xZ4×Int×Int)⊕(List xZ2×List xZ4×Int×Int))) (v:(List xZ2)×(List xZ4)×Int×Int):Option ((Int×Int×List xZ4×Int×Int)⊕(List xZ2×List xZ4×Int×Int)):=xZ2X N (xZK N) c (fun u0 u1 u2 u3=>next (u0,u1,u2,u3)) v.1 v.2.1 v.2.2.1 v.2.2.2
abbrev xZ6j (N:Nat):(Int)×((List xZ2)×(List xZ4)×Int×Int)→Option ((Int×Int×List xZ4×Int×Int)⊕(List xZ2×List xZ4×Int×Int)):=fun a=>loopV (xZ2S N a.1) N a.2
def xZ1M:Con tb:=.m 172 [false,true] (.c (.ptr 0 0) (.c (.i .i64) .n)) (.c (.c (.r 5) (.c (.i .i64) (.c (.i .i64) .n))) .n) .n (fun N a=>xZ7d N a.1.2.1 a.2.1.1.1 a.2.1.1.2.1 a.2.1.1.2.2.1) (R:=(Int×Int×List xZ4×Int×Int)⊕(List xZ2×List xZ4×Int×Int)) (.or (.m (R:=Int×Int×List xZ4×Int×Int) (.ifc 16777443 (.ag (.c (.i .i64) (.c (.i .i64) .n)))) (.c (.c (.r 5) (.c (.i .i64) (.c (.i .i64) .n))) .n) .n (fun z=>(z.1.1,z.1.2.1,z.2.1.1.1,z.2.1.1.2.1,z.2.1.1.2.2.1)) (fun r=>((r.1,r.2.1,()),((r.2.2.1,r.2.2.2.1,r.2.2.2.2,()),()),())) (fun _=>rfl)) (.m (R:=List xZ2×List xZ4×Int×Int) (.r 1) (.c (.c (.r 5) (.c (.i .i64) (.c (.i .i64) .n))) .n) .n (fun z=>(z.1,z.2.1.1.1,z.2.1.1.2.1,z.2.1.1.2.2.1)) (fun r=>(r.1,((r.2.1,r.2.2.1,r.2.2.2,()),()),())) (fun _=>rfl)))
def xZW:LQ tb ((Int)×((List xZ2)×(List xZ4)×Int×Int)):=(LQ.m [] [0,1,5] (.c 0 (.ptr 0 0) (.c 1 (.i .i64) (.c 5 (.r 1) .n))) (.c (.c (.r 5) (.c (.i .i64) (.c (.i .i64) .n))) .n) .n).re (fun a=>(a.1.2.1,(a.1.2.2.1,a.2.1.1.1,a.2.1.1.2.1,a.2.1.1.2.2.1))) (fun x=>(((),x.1,x.2.1,()),((x.2.2.1,x.2.2.2.1,x.2.2.2.2,()),()),())) (fun _=>rfl)
def xZ2v (N:Nat) (c:Int) (next:((List xZ2)×(List xZ4)×Int×Int)→Option ((Int×Int×List xZ4×Int×Int)⊕(List xZ2×List xZ4×Int×Int))) (v:(List xZ2)×(List xZ4)×Int×Int):Option ((Int×Int×List xZ4×Int×Int)⊕(List xZ2×List xZ4×Int×Int)):=xZ2B N (xZK N) c (fun u0 u1 u2 u3=>next (u0,u1,u2,u3)) v.1 v.2.1 v.2.2.1 v.2.2.2
abbrev xZ5S (N:Nat):(Int)×((List xZ2)×(List xZ4)×Int×Int)→Option ((Int×Int×List xZ4×Int×Int)⊕(List xZ2×List xZ4×Int×Int)):=fun a=>loopV (xZ2v N a.1) N a.2
def xZ11:Con tb:=.m 176 [false,true] (.c (.ptr 0 0) (.c (.i .i64) .n)) (.c (.c (.r 5) (.c (.i .i64) (.c (.i .i64) .n))) .n) .n (fun N a=>xZ6n N a.1.2.1 a.2.1.1.1 a.2.1.1.2.1 a.2.1.1.2.2.1) (R:=(Int×Int×List xZ4×Int×Int)⊕(List xZ2×List xZ4×Int×Int)) (.or (.m (R:=Int×Int×List xZ4×Int×Int) (.ifc 16777443 (.ag (.c (.i .i64) (.c (.i .i64) .n)))) (.c (.c (.r 5) (.c (.i .i64) (.c (.i .i64) .n))) .n) .n (fun z=>(z.1.1,z.1.2.1,z.2.1.1.1,z.2.1.1.2.1,z.2.1.1.2.2.1)) (fun r=>((r.1,r.2.1,()),((r.2.2.1,r.2.2.2.1,r.2.2.2.2,()),()),())) (fun _=>rfl)) (.m (R:=List xZ2×List xZ4×Int×Int) (.r 1) (.c (.c (.r 5) (.c (.i .i64) (.c (.i .i64) .n))) .n) .n (fun z=>(z.1,z.2.1.1.1,z.2.1.1.2.1,z.2.1.1.2.2.1)) (fun r=>(r.1,((r.2.1,r.2.2.1,r.2.2.2,()),()),())) (fun _=>rfl)))
def xZ4g:Con tb:=.s 151 [true,true] (.c (.el tb_ok 1) (.c (.i .i64) .n)) (fun N a=>xZ2L N a.1 a.2.1) (R:=Bool) (.p .b) (fun _=>⟨rfl,(by kernel_rfl)⟩)
def xZ4z:Con tb:=.s 100 [true] (.c (.i .u8) .n) (fun N a=>xZ3b N a.1) (R:=Bool) (.p .b) (fun _=>⟨rfl,(by kernel_rfl)⟩)
def xZ4Q:Con tb:=.s 101 [true] (.c .s .n) (fun N a=>xZ3p N a.1) (R:=Bool) (.p .b) (fun _=>⟨rfl,(by kernel_rfl)⟩)
def xZ8J:Con tb:=.s 102 [true] (.c (.i .u8) .n) (fun N a=>xZ6I N a.1) (R:=Bool) (.p .b) (fun _=>⟨rfl,(by kernel_rfl)⟩)
def xZ4J:Con tb:=.s 61 [true] (.c .s .n) (fun N a=>xZ1L N a.1) (R:=Bool) (.p .b) (fun _=>⟨rfl,(by kernel_rfl)⟩)
def xZ4D:LQ tb (((List UInt8))×(Int)):=(LQ.m [] [0,3] (.c 0 .s (.c 3 (.i .i64) .n)) .n .n).re (fun a=>(a.1.1,a.1.2.1)) (fun x=>((x.1,x.2,()),(),())) (fun _=>rfl)
def xZ9H (N:Nat) (c:(List UInt8)) (next:Int→Option Bool) (v:Int):Option Bool:=xZ4G N c (fun u0=>next u0) v
abbrev xZdA (N:Nat):((List UInt8))×(Int)→Option Bool:=fun a=>loopV (xZ9H N a.1) N a.2
def xZa1:Con tb:=.p 170 [true] (.c (.el tb_ok 7) .n) (fun N a=>xZaq N a.1) (R:=Int⊕Int⊕Int⊕(List UInt8)⊕Unit) (.or (.p (.ifc 233 (.i .i64))) (.or (.p (.ifc 234 (.i .i64))) (.or (.p (.ifc 235 (.i .u64))) (.or (.p (.ifc 236 .s)) (.p .ni))))) (fun r=>by rcases r with _ | _ | _ | _ | _<;>exact rfl)
def xZ3s:Con tb:=.s 205 [true] (.c (.i .i64) .n) (fun N a=>xZ3z N a.1) (R:=xZa) (.p (.el tb_ok 7)) (fun _=>⟨rfl,(by kernel_rfl)⟩)
def xZ4k:Con tb:=.s 206 [true] (.c (.i .i64) .n) (fun N a=>xZ2P N a.1) (R:=xZa) (.p (.el tb_ok 7)) (fun _=>⟨rfl,(by kernel_rfl)⟩)
def xZdW:Con tb:=.s 148 [true] (.c (.i .u64) .n) (fun N a=>xZeX N a.1) (R:=Nat) (.p (.f .f64)) (fun _=>⟨rfl,(by kernel_rfl)⟩)
def xZ9R:Con tb:=.s 139 [true] (.c (.i .u64) .n) (fun N a=>xZ7Y N a.1) (R:=Int) (.p (.i .u64)) (fun _=>⟨rfl,(by kernel_rfl)⟩)
def xZ3r:Con tb:=.s 207 [true] (.c (.i .u64) .n) (fun N a=>xZ3y N a.1) (R:=xZa) (.p (.el tb_ok 7)) (fun _=>⟨rfl,(by kernel_rfl)⟩)
def xZ3T:Con tb:=.s 208 [true] (.c .s .n) (fun N a=>xZ46 N a.1) (R:=xZa) (.p (.el tb_ok 7)) (fun _=>⟨rfl,(by kernel_rfl)⟩)
def xZ8L:Con tb:=.s 165 [true] (.c (.el tb_ok 7) .n) (fun N a=>xZ6K N a.1) (R:=Int) (.p (.i .i64)) (fun _=>⟨rfl,(by kernel_rfl)⟩)
def xZ4P:Con tb:=.s 153 [true] (.c (.el tb_ok 1) .n) (fun N a=>xZ3l N a.1) (R:=Bool) (.p .b) (fun _=>⟨rfl,(by kernel_rfl)⟩)
def xZ7y:Con tb:=.s 152 [true,false,true] (.c (.el tb_ok 1) (.c (.fn 153 .n .n) (.c (.i .i64) .n))) (fun N a=>xZ7X N a.1 a.2.2.1) (R:=Int) (.p (.i .i64)) (fun _=>⟨rfl,(by kernel_rfl)⟩)
def xZ7x:Con tb:=.s 152 [true,false,true] (.c (.el tb_ok 1) (.c (.fn 154 .n .n) (.c (.i .i64) .n))) (fun N a=>xZ7W N a.1 a.2.2.1) (R:=Int) (.p (.i .i64)) (fun _=>⟨rfl,(by kernel_rfl)⟩)
def xZbd:Con tb:=.s 155 [true] (.c (.i .u8) .n) (fun N a=>xZ9r N a.1) (R:=Int) (.p (.i .i64)) (fun _=>⟨rfl,(by kernel_rfl)⟩)
def xZ6M:Con tb:=.s 156 [true,true] (.c (.el tb_ok 1) (.c (.i .i64) .n)) (fun N a=>xZ4E N a.1 a.2.1) (R:=Int) (.p (.i .i64)) (fun _=>⟨rfl,(by kernel_rfl)⟩)
def xZU:Con tb:=.m 145 [false,true,true] (.c (.ptr 0 0) (.c (.i .i64) (.c (.i .i64) .n))) (.c (.c (.r 1) (.c (.i .i64) .n)) .n) .n (fun N a=>xZ44 N a.1.2.1 a.1.2.2.1 a.2.1.1.1 a.2.1.1.2.1) (R:=Int×List xZ2×Int) (.m (R:=Int×List xZ2×Int) (.i .i64) (.c (.c (.r 1) (.c (.i .i64) .n)) .n) .n (fun z=>(z.1,z.2.1.1.1,z.2.1.1.2.1)) (fun r=>(r.1,((r.2.1,r.2.2,()),()),())) (fun _=>rfl))
def xZ1e:LQ tb ((Int×Int×Int×Int×(List UInt8)×(List UInt8)×Int×Int×Int×(List UInt8))×(Int×(List xZ2)×Int)):=(LQ.m [] [0,2,7,57,58] (.c 0 (.ptr 0 0) (.c 2 (.i .i64) (.c 7 (.ptr 1 0) (.c 57 (.i .i64) (.c 58 (.i .i64) .n))))) (.c (.c (.r 1) (.c (.i .i64) .n)) (.c (.c (.i .u8) (.c (.i .u8) (.c .s (.c .s (.c (.i .u8) (.c (.i .i64) (.c (.i .u64) (.c .s .n)))))))) .n)) .n).re (fun a=>((a.1.2.1,a.1.2.2.2.1,a.2.1.2.1.1,a.2.1.2.1.2.1,a.2.1.2.1.2.2.1,a.2.1.2.1.2.2.2.1,a.2.1.2.1.2.2.2.2.1,a.2.1.2.1.2.2.2.2.2.1,a.2.1.2.1.2.2.2.2.2.2.1,a.2.1.2.1.2.2.2.2.2.2.2.1),(a.1.2.2.2.2.1,a.2.1.1.1,a.2.1.1.2.1))) (fun x=>(((),x.1.1,(),x.1.2.1,x.2.1,()),((x.2.2.1,x.2.2.2,()),(x.1.2.2.1,x.1.2.2.2.1,x.1.2.2.2.2.1,x.1.2.2.2.2.2.1,x.1.2.2.2.2.2.2.1,x.1.2.2.2.2.2.2.2.1,x.1.2.2.2.2.2.2.2.2.1,x.1.2.2.2.2.2.2.2.2.2,()),()),())) (fun _=>rfl)
def xZ36 (N:Nat) (c:Int×Int×Int×Int×(List UInt8)×(List UInt8)×Int×Int×Int×(List UInt8)) (next:(Int×(List xZ2)×Int)→Option (Int×List xZ2×Int)) (v:Int×(List xZ2)×Int):Option (Int×List xZ2×Int):=xZ1f N (xZA N) c.1 c.2.1 c.2.2.1 c.2.2.2.1 c.2.2.2.2.1 c.2.2.2.2.2.1 c.2.2.2.2.2.2.1 c.2.2.2.2.2.2.2.1 c.2.2.2.2.2.2.2.2.1 c.2.2.2.2.2.2.2.2.2 (fun u0 u1 u2=>next (u0,u1,u2)) v.1 v.2.1 v.2.2
abbrev xZ7c (N:Nat):(Int×Int×Int×Int×(List UInt8)×(List UInt8)×Int×Int×Int×(List UInt8))×(Int×(List xZ2)×Int)→Option (Int×List xZ2×Int):=fun a=>loopV (xZ36 N a.1) N a.2
def xZ9Q:Con tb:=.s 129 [true] (.c (.r 1) .n) (fun N a=>xZ2A N a.1) (R:=Int) (.p (.i .i64)) (fun _=>⟨rfl,(by kernel_rfl)⟩)
def xZ8A:Con tb:=.p 162 [true,true,true] (.c (.r 5) (.c (.i .i64) (.c (.i .i64) .n))) (fun N a=>xZ5X N a.1 a.2.1 a.2.2.1) (R:=(List xZ2×Int)⊕(List xZ2×Int×Int×Int)) (.or (.m (R:=List xZ2×Int) (.tu (.c (.r 1) (.c (.i .i64) (.c .ni .n)))) .n .n (fun z=>(z.1.1,z.1.2.1)) (fun r=>((r.1,r.2,(),()),(),())) (fun _=>rfl)) (.m (R:=List xZ2×Int×Int×Int) (.tu (.c (.r 1) (.c (.i .i64) (.o (.ifc 167 (.dp (.c (.i .i64) (.c (.i .i64) .n)))))))) .n .n (fun z=>(z.1.1,z.1.2.1,z.1.2.2.1,z.1.2.2.2.1)) (fun r=>((r.1,r.2.1,r.2.2.1,r.2.2.2,()),(),())) (fun _=>rfl))) (fun r=>by rcases r with _ | _<;>exact rfl)
def xZbI:Con tb:=.s 8 [] .n (fun N a=>xZ1K N) (R:=Bool) (.p .b) (fun _=>⟨rfl,(by kernel_rfl)⟩)
def xZ9O:Con tb:=.s 22 [true] (.c (.r 0) .n) (fun N a=>xZ7V N a.1) (R:=Int) (.p (.i .i64)) (fun _=>⟨rfl,(by kernel_rfl)⟩)
def xZ5d:LQ tb (((List (List UInt8)))×(Int)):=(LQ.m [] [0,3] (.c 0 (.r 0) (.c 3 (.i .i64) .n)) .n .n).re (fun a=>(a.1.1,a.1.2.1)) (fun x=>((x.1,x.2,()),(),())) (fun _=>rfl)
def xZaG (N:Nat) (c:(List (List UInt8))) (next:Int→Option Int) (v:Int):Option Int:=xZ5u N c (fun u0=>next u0) v
abbrev xZeD (N:Nat):((List (List UInt8)))×(Int)→Option Int:=fun a=>loopV (xZaG N a.1) N a.2
def xZbb:Con tb:=.p 30 [true] (.c (.r 1) .n) (fun N a=>xZ9p N a.1) (R:=List xZ2) (.p (.r 1)) (fun _=>rfl)
def xZ6x:LQ tb (((List xZ2))×(Int×(List xZ2))):=(LQ.m [(3,none,1)] [0,3,4] (.c 0 (.r 1) (.c 3 (.own 0) (.c 4 (.i .i64) .n))) .n (.l 1 .n)).re (fun a=>(a.1.1,(a.1.2.2.1,a.2.2.1))) (fun x=>((x.1,(),x.2.1,()),(),x.2.2,())) (fun _=>rfl)
def xZbQ (N:Nat) (c:(List xZ2)) (next:(Int×(List xZ2))→Option (List xZ2)) (v:Int×(List xZ2)):Option (List xZ2):=xZ6D N c (fun u0 u1=>next (u0,u1)) v.1 v.2
abbrev xZg6 (N:Nat):((List xZ2))×(Int×(List xZ2))→Option (List xZ2):=fun a=>loopV (xZbQ N a.1) N a.2
def xZbc:Con tb:=.p 9 [true] (.c (.el tb_ok 8) .n) (fun N a=>xZ9q N a.1) (R:=xZ9) (.p (.el tb_ok 8)) (fun _=>rfl)
def xZ6y:LQ tb (((List xZ0)×Int×(List UInt8)×Int×Int×(List UInt8)×Int)×(Int×(List xZ0))):=(LQ.m [(3,some 0,4)] [1,2,3,4] (.c 1 (.ptr 0 0) (.c 2 (.ptr 1 0) (.c 3 (.ptr 2 0) (.c 4 (.i .i64) .n)))) (.c (.c (.r 4) (.c (.i .i64) (.c .s (.c (.i .u8) .n)))) (.c (.c .e (.c (.li .i64 0) (.c (.ls []) (.c (.li .u8 0) .n)))) (.c (.c (.own 0) (.c (.i .i64) (.c .s (.c (.i .u8) .n)))) .n))) (.l 4 .n)).re (fun a=>((a.2.1.1.1,a.2.1.1.2.1,a.2.1.1.2.2.1,a.2.1.1.2.2.2.1,a.2.1.2.2.1.2.1,a.2.1.2.2.1.2.2.1,a.2.1.2.2.1.2.2.2.1),(a.1.2.2.2.1,a.2.2.1))) (fun x=>(((),(),(),x.2.1,()),((x.1.1,x.1.2.1,x.1.2.2.1,x.1.2.2.2.1,()),((),(),(),(),()),((),x.1.2.2.2.2.1,x.1.2.2.2.2.2.1,x.1.2.2.2.2.2.2,()),()),x.2.2,())) (fun _=>rfl)
def xZbR (N:Nat) (c:(List xZ0)×Int×(List UInt8)×Int×Int×(List UInt8)×Int) (next:(Int×(List xZ0))→Option xZ9) (v:Int×(List xZ0)):Option xZ9:=xZ6E N c.1 c.2.2.2.2.1 c.2.2.2.2.2.1 c.2.2.2.2.2.2 (fun u0 u1=>next (u0,u1)) v.1 v.2
abbrev xZg7 (N:Nat):((List xZ0)×Int×(List UInt8)×Int×Int×(List UInt8)×Int)×(Int×(List xZ0))→Option xZ9:=fun a=>loopV (xZbR N a.1) N a.2
def xZ2a:Con tb:=.s 127 [true] (.c (.el tb_ok 4) .n) (fun N a=>xZ1H N a.1) (R:=Bool) (.p .b) (fun _=>⟨rfl,(by kernel_rfl)⟩)
def xZ3R:Con tb:=.s 96 [true,true] (.c (.el tb_ok 4) (.c (.i .u8) .n)) (fun N a=>xZ2p N a.1 a.2.1) (R:=Bool) (.p .b) (fun _=>⟨rfl,(by kernel_rfl)⟩)
def xZ4j:Con tb:=.s 128 [true] (.c (.el tb_ok 4) .n) (fun N a=>xZ2O N a.1) (R:=Bool) (.p .b) (fun _=>⟨rfl,(by kernel_rfl)⟩)
def xZ4i:Con tb:=.s 97 [true] (.c (.el tb_ok 4) .n) (fun N a=>xZ2N N a.1) (R:=Bool) (.p .b) (fun _=>⟨rfl,(by kernel_rfl)⟩)
def xZ4R:Con tb:=.s 130 [true] (.c (.el tb_ok 4) .n) (fun N a=>xZO N a.1) (R:=Bool) (.p .b) (fun _=>⟨rfl,(by kernel_rfl)⟩)
def xZ4S:Con tb:=.s 98 [true] (.c (.el tb_ok 4) .n) (fun N a=>xZ3q N a.1) (R:=Bool) (.p .b) (fun _=>⟨rfl,(by kernel_rfl)⟩)
def xZ3d:Con tb:=.s 99 [true] (.c (.el tb_ok 4) .n) (fun N a=>xZ2c N a.1) (R:=Int) (.p (.i .i64)) (fun _=>⟨rfl,(by kernel_rfl)⟩)
def xZ5O:Con tb:=.p 60 [true,true,true] (.c (.r 4) (.c (.i .u8) (.c (.i .i64) .n))) (fun N a=>xZap N a.1 a.2.1 a.2.2.1) (R:=List xZ0×Int) (.p (.tu (.c (.r 4) (.o (.i .i64))))) (fun _=>rfl)
def xZ5q:LQ tb ((Int×Int×Int×Int×Int×Int×(List UInt8)×(List UInt8)×(List xZ2))×((List xZ0)×Int)):=(LQ.m [] [2,8,9,42,43] (.c 2 (.i .i64) (.c 8 (.ptr 0 0) (.c 9 (.r 4) (.c 42 (.i .i64) (.c 43 (.i .i64) .n))))) (.c (.c (.i .u8) (.c (.i .i64) (.c (.i .i64) (.c (.i .i64) (.c .s (.c .s (.c (.r 1) .n))))))) .n) .n).re (fun a=>((a.1.1,a.1.2.2.2.1,a.2.1.1.1,a.2.1.1.2.1,a.2.1.1.2.2.1,a.2.1.1.2.2.2.1,a.2.1.1.2.2.2.2.1,a.2.1.1.2.2.2.2.2.1,a.2.1.1.2.2.2.2.2.2.1),(a.1.2.2.1,a.1.2.2.2.2.1))) (fun x=>((x.1.1,(),x.2.1,x.1.2.1,x.2.2,()),((x.1.2.2.1,x.1.2.2.2.1,x.1.2.2.2.2.1,x.1.2.2.2.2.2.1,x.1.2.2.2.2.2.2.1,x.1.2.2.2.2.2.2.2.1,x.1.2.2.2.2.2.2.2.2,()),()),())) (fun _=>rfl)
def xZaT (N:Nat) (c:Int×Int×Int×Int×Int×Int×(List UInt8)×(List UInt8)×(List xZ2)) (next:((List xZ0)×Int)→Option (List xZ0×Int)) (v:(List xZ0)×Int):Option (List xZ0×Int):=xZ89 N (xZ6o N) c.1 c.2.1 c.2.2.1 (fun u0 u1=>next (u0,u1)) v.1 v.2
abbrev xZeQ (N:Nat):(Int×Int×Int×Int×Int×Int×(List UInt8)×(List UInt8)×(List xZ2))×((List xZ0)×Int)→Option (List xZ0×Int):=fun a=>loopV (xZaT N a.1) N a.2
def xZa0:Con tb:=.s 62 [true] (.c (.i .u8) .n) (fun N a=>xZ64 N a.1) (R:=List UInt8) (.p .s) (fun _=>⟨rfl,(by kernel_rfl)⟩)
def xZ8K:Con tb:=.s 31 [true] (.c (.el tb_ok 8) .n) (fun N a=>xZ6J N a.1) (R:=Int) (.p (.i .i64)) (fun _=>⟨rfl,(by kernel_rfl)⟩)
def xZH:Con tb:=.m 103 [false,true,true] (.c (.ptr 0 0) (.c (.i .u8) (.c (.i .i64) .n))) (.c (.c (.r 4) (.c (.own 0) (.c (.own 1) (.c .b .n)))) .n) (.l 3 (.l 2 .n)) (fun N a=>xZ7 N a.1.2.1 a.1.2.2.1 a.2.1.1.1 a.2.1.1.2.2.2.1 a.2.2.1 a.2.2.2.1) (R:=List xZ0×Bool×List xZ3×List xZ1) (.m (R:=List xZ0×Bool×List xZ3×List xZ1) (.tu .n) (.c (.c (.r 4) (.c (.own 2) (.c (.own 1) (.c .b .n)))) .n) (.d (.l 2 (.l 3 .n))) (fun z=>(z.2.1.1.1,z.2.1.1.2.2.2.1,z.2.2.1,z.2.2.2.1)) (fun r=>((),((r.1,(),(),r.2.1,()),()),r.2.2.1,r.2.2.2,())) (fun _=>rfl))
def xZ9Z:Con tb:=.s 86 [true,true] (.c (.r 4) (.c (.i .i64) .n)) (fun N a=>xZ4v N a.1 a.2.1) (R:=Int) (.p (.i .i64)) (fun _=>⟨rfl,(by kernel_rfl)⟩)
def xZ5p:LQ tb (((List xZ0)×Int)×(Int×Int)):=(LQ.m [] [5,18,19,20] (.c 5 (.i .i64) (.c 18 (.r 4) (.c 19 (.i .i64) (.c 20 (.i .i64) .n)))) .n .n).re (fun a=>((a.1.2.1,a.1.2.2.1),(a.1.1,a.1.2.2.2.1))) (fun x=>((x.2.1,x.1.1,x.1.2,x.2.2,()),(),())) (fun _=>rfl)
def xZaS (N:Nat) (c:(List xZ0)×Int) (next:(Int×Int)→Option Int) (v:Int×Int):Option Int:=xZ88 N c.1 c.2 (fun u0 u1=>next (u0,u1)) v.1 v.2
abbrev xZeP (N:Nat):((List xZ0)×Int)×(Int×Int)→Option Int:=fun a=>loopV (xZaS N a.1) N a.2
def xZ21:Con tb:=.m 63 [false,true] (.c (.ptr 0 0) (.c (.i .i64) .n)) (.c (.c (.r 4) (.c (.own 0) (.c (.own 1) (.c .b .n)))) .n) (.l 3 (.l 2 .n)) (fun N a=>xZ25 N a.1.2.1 a.2.1.1.1 a.2.1.1.2.2.2.1 a.2.2.1 a.2.2.2.1) (R:=List xZ0×Bool×List xZ1×List xZ3) (.m (R:=List xZ0×Bool×List xZ1×List xZ3) (.tu .n) (.c (.c (.r 4) (.c (.own 2) (.c (.own 3) (.c .b .n)))) .n) (.d (.d (.l 3 (.l 2 .n)))) (fun z=>(z.2.1.1.1,z.2.1.1.2.2.2.1,z.2.2.1,z.2.2.2.1)) (fun r=>((),((r.1,(),(),r.2.1,()),()),r.2.2.1,r.2.2.2,())) (fun _=>rfl))
def xZv:Con tb:=.m 32 [false,true] (.c (.ptr 0 0) (.c (.i .i64) .n)) (.c (.c (.r 4) (.c (.own 0) (.c (.own 1) (.c .b .n)))) .n) (.l 3 (.l 2 .n)) (fun N a=>xZ26 N a.1.2.1 a.2.1.1.1 a.2.1.1.2.2.2.1 a.2.2.1 a.2.2.2.1) (R:=List xZ0×Bool×List xZ1×List xZ3) (.m (R:=List xZ0×Bool×List xZ1×List xZ3) (.tu .n) (.c (.c (.r 4) (.c (.own 2) (.c (.own 3) (.c .b .n)))) .n) (.d (.d (.l 3 (.l 2 .n)))) (fun z=>(z.2.1.1.1,z.2.1.1.2.2.2.1,z.2.2.1,z.2.2.2.1)) (fun r=>((),((r.1,(),(),r.2.1,()),()),r.2.2.1,r.2.2.2,())) (fun _=>rfl))
def xZ2f:Con tb:=.m 64 [false,true] (.c (.ptr 0 0) (.c (.i .i64) .n)) (.c (.c (.r 4) (.c (.own 0) (.c (.own 1) (.c .b .n)))) .n) (.l 3 (.l 2 .n)) (fun N a=>xZ8w N a.1.2.1 a.2.1.1.1 a.2.1.1.2.2.2.1 a.2.2.1 a.2.2.2.1) (R:=List xZ0×Bool×List xZ1×List xZ3) (.m (R:=List xZ0×Bool×List xZ1×List xZ3) (.tu .n) (.c (.c (.r 4) (.c (.own 2) (.c (.own 3) (.c .b .n)))) .n) (.d (.d (.l 3 (.l 2 .n)))) (fun z=>(z.2.1.1.1,z.2.1.1.2.2.2.1,z.2.2.1,z.2.2.2.1)) (fun r=>((),((r.1,(),(),r.2.1,()),()),r.2.2.1,r.2.2.2,())) (fun _=>rfl))
def xZ1q:Con tb:=.m 105 [false,true,true] (.c (.ptr 0 0) (.c (.i .u8) (.c (.i .i64) .n))) (.c (.c (.r 4) (.c (.own 0) (.c (.own 1) (.c .b .n)))) .n) (.l 3 (.l 2 .n)) (fun N a=>xZ7T N a.1.2.1 a.1.2.2.1 a.2.1.1.1 a.2.1.1.2.2.2.1 a.2.2.1 a.2.2.2.1) (R:=List xZ0×Bool×List xZ1×List xZ3) (.m (R:=List xZ0×Bool×List xZ1×List xZ3) (.tu .n) (.c (.c (.r 4) (.c (.own 2) (.c (.own 3) (.c .b .n)))) .n) (.d (.d (.l 3 (.l 2 .n)))) (fun z=>(z.2.1.1.1,z.2.1.1.2.2.2.1,z.2.2.1,z.2.2.2.1)) (fun r=>((),((r.1,(),(),r.2.1,()),()),r.2.2.1,r.2.2.2,())) (fun _=>rfl))
def xZ1d:LQ tb ((Int)×(Int×Int×(List xZ0)×Bool×(List xZ1)×(List xZ3))):=(LQ.m [(0,some 1,3),(0,some 2,2)] [0,1,6,7] (.c 0 (.ptr 0 0) (.c 1 (.i .u8) (.c 6 (.i .i64) (.c 7 (.i .i64) .n)))) (.c (.c (.r 4) (.c (.own 2) (.c (.own 3) (.c .b .n)))) .n) (.d (.d (.l 3 (.l 2 .n))))).re (fun a=>(a.1.2.1,(a.1.2.2.1,a.1.2.2.2.1,a.2.1.1.1,a.2.1.1.2.2.2.1,a.2.2.1,a.2.2.2.1))) (fun x=>(((),x.1,x.2.1,x.2.2.1,()),((x.2.2.2.1,(),(),x.2.2.2.2.1,()),()),x.2.2.2.2.2.1,x.2.2.2.2.2.2,())) (fun _=>rfl)
def xZ35 (N:Nat) (c:Int) (next:(Int×Int×(List xZ0)×Bool×(List xZ1)×(List xZ3))→Option (List xZ0×Bool×List xZ1×List xZ3)) (v:Int×Int×(List xZ0)×Bool×(List xZ1)×(List xZ3)):Option (List xZ0×Bool×List xZ1×List xZ3):=xZ1S N (xZ5 N) c (fun u0 u1 u2 u3 u4 u5=>next (u0,u1,u2,u3,u4,u5)) v.1 v.2.1 v.2.2.1 v.2.2.2.1 v.2.2.2.2.1 v.2.2.2.2.2
abbrev xZ7b (N:Nat):(Int)×(Int×Int×(List xZ0)×Bool×(List xZ1)×(List xZ3))→Option (List xZ0×Bool×List xZ1×List xZ3):=fun a=>loopV (xZ35 N a.1) N a.2
def xZ2d:Con tb:=.m 65 [false,true] (.c (.ptr 0 0) (.c (.i .i64) .n)) (.c (.c (.r 4) (.c (.own 0) (.c (.own 1) (.c .b .n)))) .n) (.l 3 (.l 2 .n)) (fun N a=>xZ8u N a.1.2.1 a.2.1.1.1 a.2.1.1.2.2.2.1 a.2.2.1 a.2.2.2.1) (R:=List xZ0×Bool×List xZ1×List xZ3) (.m (R:=List xZ0×Bool×List xZ1×List xZ3) (.tu .n) (.c (.c (.r 4) (.c (.own 2) (.c (.own 3) (.c .b .n)))) .n) (.d (.d (.l 3 (.l 2 .n)))) (fun z=>(z.2.1.1.1,z.2.1.1.2.2.2.1,z.2.2.1,z.2.2.2.1)) (fun r=>((),((r.1,(),(),r.2.1,()),()),r.2.2.1,r.2.2.2,())) (fun _=>rfl))
def xZ2e:Con tb:=.m 66 [false,true] (.c (.ptr 0 0) (.c (.i .i64) .n)) (.c (.c (.r 4) (.c (.own 0) (.c (.own 1) (.c .b .n)))) .n) (.l 3 (.l 2 .n)) (fun N a=>xZ8v N a.1.2.1 a.2.1.1.1 a.2.1.1.2.2.2.1 a.2.2.1 a.2.2.2.1) (R:=List xZ0×Bool×List xZ1×List xZ3) (.m (R:=List xZ0×Bool×List xZ1×List xZ3) (.tu .n) (.c (.c (.r 4) (.c (.own 2) (.c (.own 3) (.c .b .n)))) .n) (.d (.d (.l 3 (.l 2 .n)))) (fun z=>(z.2.1.1.1,z.2.1.1.2.2.2.1,z.2.2.1,z.2.2.2.1)) (fun r=>((),((r.1,(),(),r.2.1,()),()),r.2.2.1,r.2.2.2,())) (fun _=>rfl))
def xZ1l:LQ tb ((Int×Int×Int×Int×Int×(List UInt8)×(List UInt8)×(List xZ2))×(Int×(List xZ0)×Bool×(List xZ1)×(List xZ3))):=(LQ.m [(0,some 1,3),(0,some 2,2)] [0,1,4,5] (.c 0 (.ptr 0 0) (.c 1 (.i .i64) (.c 4 (.ptr 1 0) (.c 5 (.i .i64) .n)))) (.c (.c (.r 4) (.c (.own 2) (.c (.own 3) (.c .b .n)))) (.c (.c (.i .u8) (.c (.i .i64) (.c (.i .i64) (.c (.i .i64) (.c .s (.c .s (.c (.r 1) .n))))))) .n)) (.d (.d (.l 3 (.l 2 .n))))).re (fun a=>((a.1.2.1,a.2.1.2.1.1,a.2.1.2.1.2.1,a.2.1.2.1.2.2.1,a.2.1.2.1.2.2.2.1,a.2.1.2.1.2.2.2.2.1,a.2.1.2.1.2.2.2.2.2.1,a.2.1.2.1.2.2.2.2.2.2.1),(a.1.2.2.2.1,a.2.1.1.1,a.2.1.1.2.2.2.1,a.2.2.1,a.2.2.2.1))) (fun x=>(((),x.1.1,(),x.2.1,()),((x.2.2.1,(),(),x.2.2.2.1,()),(x.1.2.1,x.1.2.2.1,x.1.2.2.2.1,x.1.2.2.2.2.1,x.1.2.2.2.2.2.1,x.1.2.2.2.2.2.2.1,x.1.2.2.2.2.2.2.2,()),()),x.2.2.2.2.1,x.2.2.2.2.2,())) (fun _=>rfl)
def xZ3F (N:Nat) (c:Int×Int×Int×Int×Int×(List UInt8)×(List UInt8)×(List xZ2)) (next:(Int×(List xZ0)×Bool×(List xZ1)×(List xZ3))→Option (List xZ0×Bool×List xZ1×List xZ3)) (v:Int×(List xZ0)×Bool×(List xZ1)×(List xZ3)):Option (List xZ0×Bool×List xZ1×List xZ3):=xZS N (xZ5 N) c.1 c.2.2.2.1 c.2.2.2.2.1 (fun u0 u1 u2 u3 u4=>next (u0,u1,u2,u3,u4)) v.1 v.2.1 v.2.2.1 v.2.2.2.1 v.2.2.2.2
abbrev xZ7s (N:Nat):(Int×Int×Int×Int×Int×(List UInt8)×(List UInt8)×(List xZ2))×(Int×(List xZ0)×Bool×(List xZ1)×(List xZ3))→Option (List xZ0×Bool×List xZ1×List xZ3):=fun a=>loopV (xZ3F N a.1) N a.2
def xZ10:Con tb:=.m 106 [false,true,true] (.c (.ptr 0 0) (.c (.i .i64) (.c (.i .i64) .n))) (.c (.c (.r 4) (.c (.own 0) (.c (.own 1) (.c .b .n)))) .n) (.l 3 (.l 2 .n)) (fun N a=>xZ6m N a.1.2.1 a.1.2.2.1 a.2.1.1.1 a.2.1.1.2.2.2.1 a.2.2.1 a.2.2.2.1) (R:=List xZ0×Bool×List xZ1×List xZ3) (.m (R:=List xZ0×Bool×List xZ1×List xZ3) (.tu .n) (.c (.c (.r 4) (.c (.own 2) (.c (.own 3) (.c .b .n)))) .n) (.d (.d (.l 3 (.l 2 .n)))) (fun z=>(z.2.1.1.1,z.2.1.1.2.2.2.1,z.2.2.1,z.2.2.2.1)) (fun r=>((),((r.1,(),(),r.2.1,()),()),r.2.2.1,r.2.2.2,())) (fun _=>rfl))
def xZ9M:Con tb:=.p 10 [true] (.c (.el tb_ok 8) .n) (fun N a=>xZ4q N a.1) (R:=xZn×Int) (.p (.tu (.c (.el tb_ok 9) (.o (.i .i64))))) (fun _=>rfl)
def xZ5G:Con tb:=.s 109 [true] (.c .s .n) (fun N a=>xZ5Y N a.1) (R:=Bool) (.p .b) (fun _=>⟨rfl,(by kernel_rfl)⟩)
def xZ2J:LQ tb (((List UInt8)×(List (List UInt8)))×(Int)):=(LQ.m [] [0,3,4] (.c 0 .s (.c 3 (.own 0) (.c 4 (.i .i64) .n))) .n (.l 0 .n)).re (fun a=>((a.1.1,a.2.2.1),a.1.2.2.1)) (fun x=>((x.1.1,(),x.2,()),(),x.1.2,())) (fun _=>rfl)
def xZ7o (N:Nat) (c:(List UInt8)×(List (List UInt8))) (next:Int→Option Bool) (v:Int):Option Bool:=xZ2M N c.1 c.2 (fun u0=>next u0) v
abbrev xZbE (N:Nat):((List UInt8)×(List (List UInt8)))×(Int)→Option Bool:=fun a=>loopV (xZ7o N a.1) N a.2
def xZ5F:Con tb:=.s 68 [true] (.c .s .n) (fun N a=>xZ27 N a.1) (R:=Bool) (.p .b) (fun _=>⟨rfl,(by kernel_rfl)⟩)
def xZ5f:LQ tb (((List UInt8))×(Int)):=(LQ.m [] [0,3] (.c 0 .s (.c 3 (.i .i64) .n)) .n .n).re (fun a=>(a.1.1,a.1.2.1)) (fun x=>((x.1,x.2,()),(),())) (fun _=>rfl)
def xZaI (N:Nat) (c:(List UInt8)) (next:Int→Option Bool) (v:Int):Option Bool:=xZ5w N c (fun u0=>next u0) v
abbrev xZeF (N:Nat):((List UInt8))×(Int)→Option Bool:=fun a=>loopV (xZaI N a.1) N a.2
def xZbg:Con tb:=.s 157 [true,true] (.c (.i .u8) (.c (.i .i64) .n)) (fun N a=>xZ9t N a.1 a.2.1) (R:=Bool) (.p .b) (fun _=>⟨rfl,(by kernel_rfl)⟩)
def xZbe:Con tb:=.s 179 [true] (.c (.i .u64) .n) (fun N a=>xZ3J N a.1) (R:=Int) (.p (.i .i64)) (fun _=>⟨rfl,(by kernel_rfl)⟩)
def xZ9S:Con tb:=.s 180 [true] (.c (.i .u64) .n) (fun N a=>xZ4r N a.1) (R:=Int) (.p (.i .u64)) (fun _=>⟨rfl,(by kernel_rfl)⟩)
def xZ9T:Con tb:=.s 175 [true] (.c (.i .u64) .n) (fun N a=>xZ7Z N a.1) (R:=Int) (.p (.i .u8)) (fun _=>⟨rfl,(by kernel_rfl)⟩)
def xZ8B:Con tb:=.s 171 [true] (.c (.i .u64) .n) (fun N a=>xZ2D N a.1) (R:=Int) (.p (.i .u64)) (fun _=>⟨rfl,(by kernel_rfl)⟩)
def xZ8C:Con tb:=.s 166 [true] (.c (.el tb_ok 7) .n) (fun N a=>xZ4N N a.1) (R:=Int) (.p (.i .i64)) (fun _=>⟨rfl,(by kernel_rfl)⟩)
def xZ8E:Con tb:=.s 158 [true] (.c (.el tb_ok 1) .n) (fun N a=>xZ6G N a.1) (R:=Int) (.p (.i .i64)) (fun _=>⟨rfl,(by kernel_rfl)⟩)
def xZ93:LQ tb ((Bool×Int×Int×(List UInt8)×(List UInt8)×Int×Int×Int×(List UInt8))×(Unit)):=(LQ.m [] [1,3,4] (.c 1 (.ptr 0 0) (.c 3 (.ptr 1 0) (.c 4 .b .n))) (.c (.c (.i .u8) (.c (.i .u8) (.c .s (.c .s (.c (.i .u8) (.c (.i .i64) (.c (.i .u64) (.c .s .n)))))))) (.c (.c (.li .u8 0) (.c (.li .i64 0) (.c (.li .u64 0) (.c (.ls []) .n)))) .n)) .n).re (fun a=>((a.1.2.2.1,a.2.1.1.1,a.2.1.1.2.1,a.2.1.1.2.2.1,a.2.1.1.2.2.2.1,a.2.1.1.2.2.2.2.1,a.2.1.1.2.2.2.2.2.1,a.2.1.1.2.2.2.2.2.2.1,a.2.1.1.2.2.2.2.2.2.2.1),())) (fun x=>(((),(),x.1.1,()),((x.1.2.1,x.1.2.2.1,x.1.2.2.2.1,x.1.2.2.2.2.1,x.1.2.2.2.2.2.1,x.1.2.2.2.2.2.2.1,x.1.2.2.2.2.2.2.2.1,x.1.2.2.2.2.2.2.2.2,()),((),(),(),(),()),()),())) (fun _=>rfl)
abbrev xZ99 (N:Nat):(Bool×Int×Int×(List UInt8)×(List UInt8)×Int×Int×Int×(List UInt8))×(Unit)→Option Int:=fun a=>xZ1h N a.1.1 a.1.2.1 a.1.2.2.1 a.1.2.2.2.1 a.1.2.2.2.2.1 a.1.2.2.2.2.2.1 a.1.2.2.2.2.2.2.1 a.1.2.2.2.2.2.2.2.1 a.1.2.2.2.2.2.2.2.2
def xZ9U:Con tb:=.s 159 [true] (.c (.i .u8) .n) (fun N a=>xZ80 N a.1) (R:=Int) (.p (.i .i64)) (fun _=>⟨rfl,(by kernel_rfl)⟩)
def xZbf:Con tb:=.s 160 [true,true] (.c (.i .u8) (.c (.i .i64) .n)) (fun N a=>xZ9s N a.1 a.2.1) (R:=Int) (.p (.i .i64)) (fun _=>⟨rfl,(by kernel_rfl)⟩)
def xZ5H:Con tb:=.s 146 [true,true,true,true] (.c (.r 1) (.c (.i .i64) (.c (.i .i64) (.c (.i .i64) .n)))) (fun N a=>xZdg N a.1 a.2.1 a.2.2.1 a.2.2.2.1) (R:=Int×Int) (.p (.tu (.c (.i .i64) (.o (.i .i64))))) (fun _=>⟨rfl,(by kernel_rfl)⟩)
def xZ5g:LQ tb (((List xZ2)×Int×Int×Int×(List UInt8)×(List UInt8)×Int×Int×Int×(List UInt8))×(Int×Int)):=(LQ.m [] [0,1,3,10,12] (.c 0 (.r 1) (.c 1 (.i .i64) (.c 3 (.i .i64) (.c 10 (.ptr 0 0) (.c 12 (.i .i64) .n))))) (.c (.c (.i .u8) (.c (.i .u8) (.c .s (.c .s (.c (.i .u8) (.c (.i .i64) (.c (.i .u64) (.c .s .n)))))))) .n) .n).re (fun a=>((a.1.1,a.1.2.2.1,a.2.1.1.1,a.2.1.1.2.1,a.2.1.1.2.2.1,a.2.1.1.2.2.2.1,a.2.1.1.2.2.2.2.1,a.2.1.1.2.2.2.2.2.1,a.2.1.1.2.2.2.2.2.2.1,a.2.1.1.2.2.2.2.2.2.2.1),(a.1.2.1,a.1.2.2.2.2.1))) (fun x=>((x.1.1,x.2.1,x.1.2.1,(),x.2.2,()),((x.1.2.2.1,x.1.2.2.2.1,x.1.2.2.2.2.1,x.1.2.2.2.2.2.1,x.1.2.2.2.2.2.2.1,x.1.2.2.2.2.2.2.2.1,x.1.2.2.2.2.2.2.2.2.1,x.1.2.2.2.2.2.2.2.2.2,()),()),())) (fun _=>rfl)
def xZaJ (N:Nat) (c:(List xZ2)×Int×Int×Int×(List UInt8)×(List UInt8)×Int×Int×Int×(List UInt8)) (next:(Int×Int)→Option (Int×Int)) (v:Int×Int):Option (Int×Int):=xZ5x N (xZ3A N) c.1 c.2.1 c.2.2.1 (fun u0 u1=>next (u0,u1)) v.1 v.2
abbrev xZeG (N:Nat):((List xZ2)×Int×Int×Int×(List UInt8)×(List UInt8)×Int×Int×Int×(List UInt8))×(Int×Int)→Option (Int×Int):=fun a=>loopV (xZaJ N a.1) N a.2
def xZ8D:Con tb:=.s 131 [true] (.c (.r 1) .n) (fun N a=>xZ6F N a.1) (R:=Int) (.p (.i .i64)) (fun _=>⟨rfl,(by kernel_rfl)⟩)
def xZ8G:Con tb:=.s 107 [true] (.c (.el tb_ok 4) .n) (fun N a=>xZ2G N a.1) (R:=Int) (.p (.i .i64)) (fun _=>⟨rfl,(by kernel_rfl)⟩)
def xZ94:LQ tb ((Bool×Int×Int×Int×Int×(List UInt8)×(List UInt8)×(List xZ2))×(Unit)):=(LQ.m [] [1,3] (.c 1 (.ptr 0 0) (.c 3 .b .n)) (.c (.c (.i .u8) (.c (.i .i64) (.c (.i .i64) (.c (.i .i64) (.c .s (.c .s (.c (.r 1) .n))))))) .n) .n).re (fun a=>((a.1.2.1,a.2.1.1.1,a.2.1.1.2.1,a.2.1.1.2.2.1,a.2.1.1.2.2.2.1,a.2.1.1.2.2.2.2.1,a.2.1.1.2.2.2.2.2.1,a.2.1.1.2.2.2.2.2.2.1),())) (fun x=>(((),x.1.1,()),((x.1.2.1,x.1.2.2.1,x.1.2.2.2.1,x.1.2.2.2.2.1,x.1.2.2.2.2.2.1,x.1.2.2.2.2.2.2.1,x.1.2.2.2.2.2.2.2,()),()),())) (fun _=>rfl)
def xZ95:LQ tb ((Bool×Bool×Int×Int×Int×Int×(List UInt8)×(List UInt8)×(List xZ2))×(Unit)):=(LQ.m [] [1,3,4] (.c 1 (.ptr 0 0) (.c 3 .b (.c 4 .b .n))) (.c (.c (.i .u8) (.c (.i .i64) (.c (.i .i64) (.c (.i .i64) (.c .s (.c .s (.c (.r 1) .n))))))) .n) .n).re (fun a=>((a.1.2.1,a.1.2.2.1,a.2.1.1.1,a.2.1.1.2.1,a.2.1.1.2.2.1,a.2.1.1.2.2.2.1,a.2.1.1.2.2.2.2.1,a.2.1.1.2.2.2.2.2.1,a.2.1.1.2.2.2.2.2.2.1),())) (fun x=>(((),x.1.1,x.1.2.1,()),((x.1.2.2.1,x.1.2.2.2.1,x.1.2.2.2.2.1,x.1.2.2.2.2.2.1,x.1.2.2.2.2.2.2.1,x.1.2.2.2.2.2.2.2.1,x.1.2.2.2.2.2.2.2.2,()),()),())) (fun _=>rfl)
def xZ96:LQ tb ((Bool×Bool×Int×Int×Int×Int×(List UInt8)×(List UInt8)×(List xZ2))×(Unit)):=(LQ.m [] [1,3,31] (.c 1 (.ptr 0 0) (.c 3 .b (.c 31 .b .n))) (.c (.c (.i .u8) (.c (.i .i64) (.c (.i .i64) (.c (.i .i64) (.c .s (.c .s (.c (.r 1) .n))))))) .n) .n).re (fun a=>((a.1.2.1,a.1.2.2.1,a.2.1.1.1,a.2.1.1.2.1,a.2.1.1.2.2.1,a.2.1.1.2.2.2.1,a.2.1.1.2.2.2.2.1,a.2.1.1.2.2.2.2.2.1,a.2.1.1.2.2.2.2.2.2.1),())) (fun x=>(((),x.1.1,x.1.2.1,()),((x.1.2.2.1,x.1.2.2.2.1,x.1.2.2.2.2.1,x.1.2.2.2.2.2.1,x.1.2.2.2.2.2.2.1,x.1.2.2.2.2.2.2.2.1,x.1.2.2.2.2.2.2.2.2,()),()),())) (fun _=>rfl)
def xZ97:LQ tb ((Bool×Bool×Int×Int×Int×Int×(List UInt8)×(List UInt8)×(List xZ2))×(Unit)):=(LQ.m [] [1,3,81] (.c 1 (.ptr 0 0) (.c 3 .b (.c 81 .b .n))) (.c (.c (.i .u8) (.c (.i .i64) (.c (.i .i64) (.c (.i .i64) (.c .s (.c .s (.c (.r 1) .n))))))) .n) .n).re (fun a=>((a.1.2.1,a.1.2.2.1,a.2.1.1.1,a.2.1.1.2.1,a.2.1.1.2.2.1,a.2.1.1.2.2.2.1,a.2.1.1.2.2.2.2.1,a.2.1.1.2.2.2.2.2.1,a.2.1.1.2.2.2.2.2.2.1),())) (fun x=>(((),x.1.1,x.1.2.1,()),((x.1.2.2.1,x.1.2.2.2.1,x.1.2.2.2.2.1,x.1.2.2.2.2.2.1,x.1.2.2.2.2.2.2.1,x.1.2.2.2.2.2.2.2.1,x.1.2.2.2.2.2.2.2.2,()),()),())) (fun _=>rfl)
def xZ98:LQ tb ((Bool×Bool×Int×Int×Int×Int×(List UInt8)×(List UInt8)×(List xZ2))×(Unit)):=(LQ.m [] [1,3,100] (.c 1 (.ptr 0 0) (.c 3 .b (.c 100 .b .n))) (.c (.c (.i .u8) (.c (.i .i64) (.c (.i .i64) (.c (.i .i64) (.c .s (.c .s (.c (.r 1) .n))))))) .n) .n).re (fun a=>((a.1.2.1,a.1.2.2.1,a.2.1.1.1,a.2.1.1.2.1,a.2.1.1.2.2.1,a.2.1.1.2.2.2.1,a.2.1.1.2.2.2.2.1,a.2.1.1.2.2.2.2.2.1,a.2.1.1.2.2.2.2.2.2.1),())) (fun x=>(((),x.1.1,x.1.2.1,()),((x.1.2.2.1,x.1.2.2.2.1,x.1.2.2.2.2.1,x.1.2.2.2.2.2.1,x.1.2.2.2.2.2.2.1,x.1.2.2.2.2.2.2.2.1,x.1.2.2.2.2.2.2.2.2,()),()),())) (fun _=>rfl)
abbrev xZ9e (N:Nat):(Bool×Bool×Int×Int×Int×Int×(List UInt8)×(List UInt8)×(List xZ2))×(Unit)→Option Int:=fun a=>xZ1i N a.1.1 a.1.2.1 a.1.2.2.1 a.1.2.2.2.1 a.1.2.2.2.2.1 a.1.2.2.2.2.2.1 a.1.2.2.2.2.2.2.1 a.1.2.2.2.2.2.2.2.1 a.1.2.2.2.2.2.2.2.2
abbrev xZ9d (N:Nat):(Bool×Bool×Int×Int×Int×Int×(List UInt8)×(List UInt8)×(List xZ2))×(Unit)→Option Int:=fun a=>xZj N a.1.1 a.1.2.1 a.1.2.2.1 a.1.2.2.2.1 a.1.2.2.2.2.1 a.1.2.2.2.2.2.1 a.1.2.2.2.2.2.2.1 a.1.2.2.2.2.2.2.2.1 a.1.2.2.2.2.2.2.2.2
abbrev xZ9c (N:Nat):(Bool×Bool×Int×Int×Int×Int×(List UInt8)×(List UInt8)×(List xZ2))×(Unit)→Option Int:=fun a=>xZY N a.1.1 a.1.2.1 a.1.2.2.1 a.1.2.2.2.1 a.1.2.2.2.2.1 a.1.2.2.2.2.2.1 a.1.2.2.2.2.2.2.1 a.1.2.2.2.2.2.2.2.1 a.1.2.2.2.2.2.2.2.2
abbrev xZ9b (N:Nat):(Bool×Bool×Int×Int×Int×Int×(List UInt8)×(List UInt8)×(List xZ2))×(Unit)→Option Int:=fun a=>xZ2H N a.1.1 a.1.2.1 a.1.2.2.1 a.1.2.2.2.1 a.1.2.2.2.2.1 a.1.2.2.2.2.2.1 a.1.2.2.2.2.2.2.1 a.1.2.2.2.2.2.2.2.1 a.1.2.2.2.2.2.2.2.2
abbrev xZ9a (N:Nat):(Bool×Int×Int×Int×Int×(List UInt8)×(List UInt8)×(List xZ2))×(Unit)→Option Int:=fun a=>xZ61 N a.1.1 a.1.2.1 a.1.2.2.1 a.1.2.2.2.1 a.1.2.2.2.2.1 a.1.2.2.2.2.2.1 a.1.2.2.2.2.2.2.1 a.1.2.2.2.2.2.2.2
def xZ5I:Con tb:=.s 108 [true] (.c (.el tb_ok 4) .n) (fun N a=>xZ4s N a.1) (R:=Int) (.p (.i .i64)) (fun _=>⟨rfl,(by kernel_rfl)⟩)
def xZ5J:Con tb:=.s 67 [true,true,true,true] (.c (.r 4) (.c (.i .i64) (.c (.i .u8) (.c (.i .i64) .n)))) (fun N a=>xZan N a.1 a.2.1 a.2.2.1 a.2.2.2.1) (R:=Int×Int) (.p (.tu (.c (.i .i64) (.o (.i .i64))))) (fun _=>⟨rfl,(by kernel_rfl)⟩)
def xZ5i:LQ tb (((List xZ0)×Int×Int×Int×Int×Int×(List UInt8)×(List UInt8)×(List xZ2))×(Int×Int)):=(LQ.m [] [0,1,3,10,12] (.c 0 (.r 4) (.c 1 (.i .i64) (.c 3 (.i .i64) (.c 10 (.ptr 0 0) (.c 12 (.i .i64) .n))))) (.c (.c (.i .u8) (.c (.i .i64) (.c (.i .i64) (.c (.i .i64) (.c .s (.c .s (.c (.r 1) .n))))))) .n) .n).re (fun a=>((a.1.1,a.1.2.2.1,a.2.1.1.1,a.2.1.1.2.1,a.2.1.1.2.2.1,a.2.1.1.2.2.2.1,a.2.1.1.2.2.2.2.1,a.2.1.1.2.2.2.2.2.1,a.2.1.1.2.2.2.2.2.2.1),(a.1.2.1,a.1.2.2.2.2.1))) (fun x=>((x.1.1,x.2.1,x.1.2.1,(),x.2.2,()),((x.1.2.2.1,x.1.2.2.2.1,x.1.2.2.2.2.1,x.1.2.2.2.2.2.1,x.1.2.2.2.2.2.2.1,x.1.2.2.2.2.2.2.2.1,x.1.2.2.2.2.2.2.2.2,()),()),())) (fun _=>rfl)
def xZaL (N:Nat) (c:(List xZ0)×Int×Int×Int×Int×Int×(List UInt8)×(List UInt8)×(List xZ2)) (next:(Int×Int)→Option (Int×Int)) (v:Int×Int):Option (Int×Int):=xZ28 N (xZ3B N) c.1 c.2.1 c.2.2.1 c.2.2.2.1 c.2.2.2.2.1 c.2.2.2.2.2.1 c.2.2.2.2.2.2.1 c.2.2.2.2.2.2.2.1 c.2.2.2.2.2.2.2.2 (fun u0 u1=>next (u0,u1)) v.1 v.2
abbrev xZeI (N:Nat):((List xZ0)×Int×Int×Int×Int×Int×(List UInt8)×(List UInt8)×(List xZ2))×(Int×Int)→Option (Int×Int):=fun a=>loopV (xZaL N a.1) N a.2
def xZ9W:Con tb:=.s 69 [true] (.c (.i .u8) .n) (fun N a=>xZ60 N a.1) (R:=List UInt8) (.p .s) (fun _=>⟨rfl,(by kernel_rfl)⟩)
def xZ8F:Con tb:=.s 33 [true] (.c (.el tb_ok 8) .n) (fun N a=>xZ6H N a.1) (R:=Int) (.p (.i .i64)) (fun _=>⟨rfl,(by kernel_rfl)⟩)
def xZ5K:Con tb:=.s 45 [true] (.c (.el tb_ok 4) .n) (fun N a=>xZ1z N a.1) (R:=Bool) (.p .b) (fun _=>⟨rfl,(by kernel_rfl)⟩)
def xZ9V:Con tb:=.s 110 [true,true] (.c (.r 4) (.c (.i .i64) .n)) (fun N a=>xZ81 N a.1 a.2.1) (R:=Int) (.p (.i .i64)) (fun _=>⟨rfl,(by kernel_rfl)⟩)
def xZ5h:LQ tb (((List xZ0)×Int)×(Int×Int)):=(LQ.m [] [0,1,5,6] (.c 0 (.r 4) (.c 1 (.i .i64) (.c 5 (.i .i64) (.c 6 (.i .i64) .n)))) .n .n).re (fun a=>((a.1.1,a.1.2.1),(a.1.2.2.1,a.1.2.2.2.1))) (fun x=>((x.1.1,x.1.2,x.2.1,x.2.2,()),(),())) (fun _=>rfl)
def xZaK (N:Nat) (c:(List xZ0)×Int) (next:(Int×Int)→Option Int) (v:Int×Int):Option Int:=xZ5y N c.1 c.2 (fun u0 u1=>next (u0,u1)) v.1 v.2
abbrev xZeH (N:Nat):((List xZ0)×Int)×(Int×Int)→Option Int:=fun a=>loopV (xZaK N a.1) N a.2
def xZ5M:Con tb:=.p 70 [true,true] (.c (.r 4) (.c (.i .i64) .n)) (fun N a=>xZ4u N a.1 a.2.1) (R:=List Int) (.p (.r 13)) (fun _=>rfl)
def xZ5n:LQ tb (((List xZ0)×Int)×(Int×Int×(List Int))):=(LQ.m [(5,none,13)] [0,1,5,6,7] (.c 0 (.r 4) (.c 1 (.i .i64) (.c 5 (.own 0) (.c 6 (.i .i64) (.c 7 (.i .i64) .n))))) .n (.l 13 .n)).re (fun a=>((a.1.1,a.1.2.1),(a.1.2.2.2.1,a.1.2.2.2.2.1,a.2.2.1))) (fun x=>((x.1.1,x.1.2,(),x.2.1,x.2.2.1,()),(),x.2.2.2,())) (fun _=>rfl)
def xZaQ (N:Nat) (c:(List xZ0)×Int) (next:(Int×Int×(List Int))→Option (List Int)) (v:Int×Int×(List Int)):Option (List Int):=xZ86 N c.1 c.2 (fun u0 u1 u2=>next (u0,u1,u2)) v.1 v.2.1 v.2.2
abbrev xZeN (N:Nat):((List xZ0)×Int)×(Int×Int×(List Int))→Option (List Int):=fun a=>loopV (xZaQ N a.1) N a.2
def xZ4I:Con tb:=.s 34 [true,true] (.c (.r 4) (.c (.i .i64) .n)) (fun N a=>xZ9i N a.1 a.2.1) (R:=Int×Int) (.p (.tu (.c (.i .i64) (.o (.i .i64))))) (fun _=>⟨rfl,(by kernel_rfl)⟩)
def xZ4B:LQ tb (((List xZ0)×(List Int)×Int×Int×Int×Int×(List UInt8)×(List UInt8)×(List xZ2))×(Int×Int×Int)):=(LQ.m [] [0,6,7,8,9,10] (.c 0 (.r 4) (.c 6 (.ptr 0 0) (.c 7 (.r 13) (.c 8 (.i .i64) (.c 9 (.i .i64) (.c 10 (.i .i64) .n)))))) (.c (.c (.i .u8) (.c (.i .i64) (.c (.i .i64) (.c (.i .i64) (.c .s (.c .s (.c (.r 1) .n))))))) .n) .n).re (fun a=>((a.1.1,a.1.2.2.1,a.2.1.1.1,a.2.1.1.2.1,a.2.1.1.2.2.1,a.2.1.1.2.2.2.1,a.2.1.1.2.2.2.2.1,a.2.1.1.2.2.2.2.2.1,a.2.1.1.2.2.2.2.2.2.1),(a.1.2.2.2.1,a.1.2.2.2.2.1,a.1.2.2.2.2.2.1))) (fun x=>((x.1.1,(),x.1.2.1,x.2.1,x.2.2.1,x.2.2.2,()),((x.1.2.2.1,x.1.2.2.2.1,x.1.2.2.2.2.1,x.1.2.2.2.2.2.1,x.1.2.2.2.2.2.2.1,x.1.2.2.2.2.2.2.2.1,x.1.2.2.2.2.2.2.2.2,()),()),())) (fun _=>rfl)
def xZ9F (N:Nat) (c:(List xZ0)×(List Int)×Int×Int×Int×Int×(List UInt8)×(List UInt8)×(List xZ2)) (next:(Int×Int×Int)→Option (Int×Int)) (v:Int×Int×Int):Option (Int×Int):=xZ4F N (xZ1I N) c.1 c.2.1 c.2.2.1 c.2.2.2.2.1 c.2.2.2.2.2.1 (fun u0 u1 u2=>next (u0,u1,u2)) v.1 v.2.1 v.2.2
abbrev xZdy (N:Nat):((List xZ0)×(List Int)×Int×Int×Int×Int×(List UInt8)×(List UInt8)×(List xZ2))×(Int×Int×Int)→Option (Int×Int):=fun a=>loopV (xZ9F N a.1) N a.2
def xZ5L:Con tb:=.p 73 [true,true,true] (.c (.i .u8) (.c (.r 3) (.c (.r 3) .n))) (fun N a=>xZ29 N a.1 a.2.1 a.2.2.1) (R:=List xZ1) (.p (.r 3)) (fun _=>rfl)
def xZ5N:Con tb:=.p 71 [true,true] (.c (.i .u8) (.c (.r 14) .n)) (fun N a=>xZ1a N a.1 a.2.1) (R:=List xZ1) (.p (.r 3)) (fun _=>rfl)
def xZ4h:Con tb:=.p 35 [true,true,true] (.c (.r 4) (.c (.i .i64) (.c (.r 2) .n))) (fun N a=>xZao N a.1 a.2.1 a.2.2.1) (R:=List xZ1×List xZ3) (.p (.tu (.c (.r 3) (.o (.r 2))))) (fun _=>rfl)
def xZ5l:LQ tb (((List xZ0)×(List Int)×Int×Int×Int×Int×(List UInt8)×(List UInt8)×(List xZ2))×((List xZ3)×Int×(List (List xZ1)))):=(LQ.m [(10,none,14)] [0,2,8,10,12,13] (.c 0 (.r 4) (.c 2 (.r 2) (.c 8 (.ptr 0 0) (.c 10 (.own 0) (.c 12 (.r 13) (.c 13 (.i .i64) .n)))))) (.c (.c (.i .u8) (.c (.i .i64) (.c (.i .i64) (.c (.i .i64) (.c .s (.c .s (.c (.r 1) .n))))))) .n) (.l 14 .n)).re (fun a=>((a.1.1,a.1.2.2.2.2.1,a.2.1.1.1,a.2.1.1.2.1,a.2.1.1.2.2.1,a.2.1.1.2.2.2.1,a.2.1.1.2.2.2.2.1,a.2.1.1.2.2.2.2.2.1,a.2.1.1.2.2.2.2.2.2.1),(a.1.2.1,a.1.2.2.2.2.2.1,a.2.2.1))) (fun x=>((x.1.1,x.2.1,(),(),x.1.2.1,x.2.2.1,()),((x.1.2.2.1,x.1.2.2.2.1,x.1.2.2.2.2.1,x.1.2.2.2.2.2.1,x.1.2.2.2.2.2.2.1,x.1.2.2.2.2.2.2.2.1,x.1.2.2.2.2.2.2.2.2,()),()),x.2.2.2,())) (fun _=>rfl)
def xZ5m:LQ tb (((List xZ0)×Int×Int×Int×Int×Int×(List UInt8)×(List UInt8)×(List xZ2))×((List xZ3)×Int×(List (List xZ1)))):=(LQ.m [(10,none,14)] [0,1,2,8,10,14] (.c 0 (.r 4) (.c 1 (.i .i64) (.c 2 (.r 2) (.c 8 (.ptr 0 0) (.c 10 (.own 0) (.c 14 (.i .i64) .n)))))) (.c (.c (.i .u8) (.c (.i .i64) (.c (.i .i64) (.c (.i .i64) (.c .s (.c .s (.c (.r 1) .n))))))) .n) (.l 14 .n)).re (fun a=>((a.1.1,a.1.2.1,a.2.1.1.1,a.2.1.1.2.1,a.2.1.1.2.2.1,a.2.1.1.2.2.2.1,a.2.1.1.2.2.2.2.1,a.2.1.1.2.2.2.2.2.1,a.2.1.1.2.2.2.2.2.2.1),(a.1.2.2.1,a.1.2.2.2.2.2.1,a.2.2.1))) (fun x=>((x.1.1,x.1.2.1,x.2.1,(),(),x.2.2.1,()),((x.1.2.2.1,x.1.2.2.2.1,x.1.2.2.2.2.1,x.1.2.2.2.2.2.1,x.1.2.2.2.2.2.2.1,x.1.2.2.2.2.2.2.2.1,x.1.2.2.2.2.2.2.2.2,()),()),x.2.2.2,())) (fun _=>rfl)
def xZaO (N:Nat) (c:(List xZ0)×(List Int)×Int×Int×Int×Int×(List UInt8)×(List UInt8)×(List xZ2)) (next:((List xZ3)×Int×(List (List xZ1)))→Option (List xZ1×List xZ3)) (v:(List xZ3)×Int×(List (List xZ1))):Option (List xZ1×List xZ3):=xZ84 N (xZ1g N) c.1 c.2.1 c.2.2.1 (fun u0 u1 u2=>next (u0,u1,u2)) v.1 v.2.1 v.2.2
abbrev xZeL (N:Nat):((List xZ0)×(List Int)×Int×Int×Int×Int×(List UInt8)×(List UInt8)×(List xZ2))×((List xZ3)×Int×(List (List xZ1)))→Option (List xZ1×List xZ3):=fun a=>loopV (xZaO N a.1) N a.2
def xZaP (N:Nat) (c:(List xZ0)×Int×Int×Int×Int×Int×(List UInt8)×(List UInt8)×(List xZ2)) (next:((List xZ3)×Int×(List (List xZ1)))→Option (List xZ1×List xZ3)) (v:(List xZ3)×Int×(List (List xZ1))):Option (List xZ1×List xZ3):=xZ85 N (xZ1g N) c.1 c.2.1 c.2.2.2.2.1 c.2.2.2.2.2.1 (fun u0 u1 u2=>next (u0,u1,u2)) v.1 v.2.1 v.2.2
abbrev xZeM (N:Nat):((List xZ0)×Int×Int×Int×Int×Int×(List UInt8)×(List UInt8)×(List xZ2))×((List xZ3)×Int×(List (List xZ1)))→Option (List xZ1×List xZ3):=fun a=>loopV (xZaP N a.1) N a.2
def xZ4y:Con tb:=.p 72 [true,true,true,true] (.c (.r 4) (.c (.i .i64) (.c (.i .i64) (.c (.r 2) .n)))) (fun N a=>xZdE N a.1 a.2.1 a.2.2.1 a.2.2.2.1) (R:=List xZ1×List xZ3) (.p (.tu (.c (.r 3) (.o (.r 2))))) (fun _=>rfl)
def xZ8H:Con tb:=.p 11 [true] (.c (.el tb_ok 8) .n) (fun N a=>xZ3K N a.1) (R:=xZn×Int) (.p (.tu (.c (.el tb_ok 9) (.o (.i .i64))))) (fun _=>rfl)
def xZ7z:Con tb:=.s 42 [true] (.c (.i .u8) .n) (fun N a=>xZ63 N a.1) (R:=Int) (.p (.i .i64)) (fun _=>⟨rfl,(by kernel_rfl)⟩)
def xZ7B:Con tb:=.s 17 [true,true] (.c (.r 3) (.c (.i .i64) .n)) (fun N a=>xZ4t N a.1 a.2.1) (R:=Int) (.p (.i .i64)) (fun _=>⟨rfl,(by kernel_rfl)⟩)
def xZ5k:LQ tb (((List xZ1)×Int)×(Int×Int)):=(LQ.m [] [0,1,5,6] (.c 0 (.r 3) (.c 1 (.i .i64) (.c 5 (.i .i64) (.c 6 (.i .i64) .n)))) .n .n).re (fun a=>((a.1.1,a.1.2.1),(a.1.2.2.1,a.1.2.2.2.1))) (fun x=>((x.1.1,x.1.2,x.2.1,x.2.2,()),(),())) (fun _=>rfl)
def xZaN (N:Nat) (c:(List xZ1)×Int) (next:(Int×Int)→Option Int) (v:Int×Int):Option Int:=xZ83 N c.1 c.2 (fun u0 u1=>next (u0,u1)) v.1 v.2
abbrev xZeK (N:Nat):((List xZ1)×Int)×(Int×Int)→Option Int:=fun a=>loopV (xZaN N a.1) N a.2
def xZ9X:Con tb:=.s 47 [true] (.c (.el tb_ok 9) .n) (fun N a=>xZ82 N a.1) (R:=Bool) (.p .b) (fun _=>⟨rfl,(by kernel_rfl)⟩)
def xZ5j:LQ tb (((List xZ1)×(List xZ3)×Int×(List UInt8)×Int)×(Int)):=(LQ.m [] [1,3] (.c 1 (.ptr 0 0) (.c 3 (.i .i64) .n)) (.c (.c (.r 3) (.c (.r 2) (.c (.i .i64) (.c .s (.c (.i .u8) .n))))) .n) .n).re (fun a=>((a.2.1.1.1,a.2.1.1.2.1,a.2.1.1.2.2.1,a.2.1.1.2.2.2.1,a.2.1.1.2.2.2.2.1),a.1.2.1)) (fun x=>(((),x.2,()),((x.1.1,x.1.2.1,x.1.2.2.1,x.1.2.2.2.1,x.1.2.2.2.2,()),()),())) (fun _=>rfl)
def xZaM (N:Nat) (c:(List xZ1)×(List xZ3)×Int×(List UInt8)×Int) (next:Int→Option Bool) (v:Int):Option Bool:=xZ5z N c.1 c.2.1 (fun u0=>next u0) v
abbrev xZeJ (N:Nat):((List xZ1)×(List xZ3)×Int×(List UInt8)×Int)×(Int)→Option Bool:=fun a=>loopV (xZaM N a.1) N a.2
def xZ4H:Con tb:=.s 48 [true,true] (.c (.r 3) (.c (.i .i64) .n)) (fun N a=>xZ9h N a.1 a.2.1) (R:=Int) (.p (.i .i64)) (fun _=>⟨rfl,(by kernel_rfl)⟩)
def xZ4A:LQ tb (((List xZ1)×Int)×(Int×Int×Int)):=(LQ.m [] [0,1,5,6,7] (.c 0 (.r 3) (.c 1 (.i .i64) (.c 5 (.i .i64) (.c 6 (.i .i64) (.c 7 (.i .i64) .n))))) .n .n).re (fun a=>((a.1.1,a.1.2.1),(a.1.2.2.1,a.1.2.2.2.1,a.1.2.2.2.2.1))) (fun x=>((x.1.1,x.1.2,x.2.1,x.2.2.1,x.2.2.2,()),(),())) (fun _=>rfl)
def xZ9E (N:Nat) (c:(List xZ1)×Int) (next:(Int×Int×Int)→Option Int) (v:Int×Int×Int):Option Int:=xZ7e N (xZ52 N) c.1 c.2 (fun u0 u1 u2=>next (u0,u1,u2)) v.1 v.2.1 v.2.2
abbrev xZdx (N:Nat):((List xZ1)×Int)×(Int×Int×Int)→Option Int:=fun a=>loopV (xZ9E N a.1) N a.2
def xZ9P:Con tb:=.s 21 [true] (.c (.el tb_ok 9) .n) (fun N a=>xZ5V N a.1) (R:=Int) (.p (.i .i64)) (fun _=>⟨rfl,(by kernel_rfl)⟩)
def xZ5e:LQ tb (((List xZ1)×(List xZ3)×Int×(List UInt8)×Int)×(Int)):=(LQ.m [] [1,3] (.c 1 (.ptr 0 0) (.c 3 (.i .i64) .n)) (.c (.c (.r 3) (.c (.r 2) (.c (.i .i64) (.c .s (.c (.i .u8) .n))))) .n) .n).re (fun a=>((a.2.1.1.1,a.2.1.1.2.1,a.2.1.1.2.2.1,a.2.1.1.2.2.2.1,a.2.1.1.2.2.2.2.1),a.1.2.1)) (fun x=>(((),x.2,()),((x.1.1,x.1.2.1,x.1.2.2.1,x.1.2.2.2.1,x.1.2.2.2.2,()),()),())) (fun _=>rfl)
def xZaH (N:Nat) (c:(List xZ1)×(List xZ3)×Int×(List UInt8)×Int) (next:Int→Option Int) (v:Int):Option Int:=xZ5v N c.1 c.2.1 c.2.2.1 c.2.2.2.1 c.2.2.2.2 (fun u0=>next u0) v
abbrev xZeE (N:Nat):((List xZ1)×(List xZ3)×Int×(List UInt8)×Int)×(Int)→Option Int:=fun a=>loopV (xZaH N a.1) N a.2
def xZ7C:Con tb:=.s 46 [true,true] (.c .b (.c .s .n)) (fun N a=>xZ5B N a.1 a.2.1) (R:=List UInt8) (.p .s) (fun _=>⟨rfl,(by kernel_rfl)⟩)
def xZ9Y:Con tb:=.p 80 [true,true,true] (.c (.el tb_ok 15) (.c (.r 0) (.c .s .n))) (fun N a=>xZ87 N a.1 a.2.1 a.2.2.1) (R:=A102 Bool) (.p (.el tb_ok 15)) (fun _=>rfl)
def xZ5o:LQ tb (((List (List UInt8))×(List UInt8)×(A102 Bool)×(A102 Bool))×(Int×(A102 Bool))):=(LQ.m [] [1,2,3,6,7,8] (.c 1 (.r 0) (.c 2 .s (.c 3 (.ptr 0 0) (.c 6 (.ptr 1 0) (.c 7 (.ptr 2 0) (.c 8 (.i .i64) .n)))))) (.c (.a tb_ok 15 .n) (.c (.a tb_ok 15 .n) (.c (.a tb_ok 15 .n) .n))) .n).re (fun a=>((a.1.1,a.1.2.1,a.2.1.1.1,a.2.1.2.1.1),(a.1.2.2.2.2.2.1,a.2.1.2.2.1.1))) (fun x=>((x.1.1,x.1.2.1,(),(),(),x.2.1,()),((x.1.2.2.1,()),(x.1.2.2.2,()),(x.2.2,()),()),())) (fun _=>rfl)
def xZaR (N:Nat) (c:(List (List UInt8))×(List UInt8)×(A102 Bool)×(A102 Bool)) (next:(Int×(A102 Bool))→Option (A102 Bool)) (v:Int×(A102 Bool)):Option (A102 Bool):=xZ5C N c.1 c.2.1 c.2.2.1 (fun u0 u1=>next (u0,u1)) v.1 v.2
abbrev xZeO (N:Nat):((List (List UInt8))×(List UInt8)×(A102 Bool)×(A102 Bool))×(Int×(A102 Bool))→Option (A102 Bool):=fun a=>loopV (xZaR N a.1) N a.2
def xZ8I:Con tb:=.p 81 [true,true] (.c (.el tb_ok 15) (.c (.el tb_ok 15) .n)) (fun N a=>xZ3L N a.1 a.2.1) (R:=A102 Bool) (.p (.el tb_ok 15)) (fun _=>rfl)
def xZ4C:LQ tb (((A102 Bool)×(A102 Bool))×(Int×(A102 Bool))):=(LQ.m [] [2,3,4,5] (.c 2 (.ptr 0 0) (.c 3 (.ptr 1 0) (.c 4 (.ptr 2 0) (.c 5 (.i .i64) .n)))) (.c (.a tb_ok 15 .n) (.c (.a tb_ok 15 .n) (.c (.a tb_ok 15 .n) .n))) .n).re (fun a=>((a.2.1.2.1.1,a.2.1.2.2.1.1),(a.1.2.2.2.1,a.2.1.1.1))) (fun x=>(((),(),(),x.2.1,()),((x.2.2,()),(x.1.1,()),(x.1.2,()),()),())) (fun _=>rfl)
def xZ9G (N:Nat) (c:(A102 Bool)×(A102 Bool)) (next:(Int×(A102 Bool))→Option (A102 Bool)) (v:Int×(A102 Bool)):Option (A102 Bool):=xZ7g N c.1 (fun u0 u1=>next (u0,u1)) v.1 v.2
abbrev xZdz (N:Nat):((A102 Bool)×(A102 Bool))×(Int×(A102 Bool))→Option (A102 Bool):=fun a=>loopV (xZ9G N a.1) N a.2
def xZ31:Con tb:=.p 53 [true,true,true,true] (.c (.r 4) (.c (.i .i64) (.c (.el tb_ok 15) (.c (.r 0) .n)))) (fun N a=>xZ7f N a.1 a.2.1 a.2.2.1 a.2.2.2.1) (R:=A102 Bool) (.p (.el tb_ok 15)) (fun _=>rfl)
def xZ3e:LQ tb (((List xZ0)×(List (List UInt8))×(List Int)×(A102 Bool)×Int×Int×Int×Int×(List UInt8)×(List UInt8)×(List xZ2))×(Int×(A102 Bool)×(A102 Bool))):=(LQ.m [] [0,3,6,8,9,11,12,13] (.c 0 (.r 4) (.c 3 (.r 0) (.c 6 (.ptr 0 0) (.c 8 (.ptr 1 0) (.c 9 (.ptr 2 0) (.c 11 (.r 13) (.c 12 (.ptr 3 0) (.c 13 (.i .i64) .n)))))))) (.c (.a tb_ok 15 .n) (.c (.a tb_ok 15 .n) (.c (.c (.i .u8) (.c (.i .i64) (.c (.i .i64) (.c (.i .i64) (.c .s (.c .s (.c (.r 1) .n))))))) (.c (.a tb_ok 15 .n) .n)))) .n).re (fun a=>((a.1.1,a.1.2.1,a.1.2.2.2.2.2.1,a.2.1.2.1.1,a.2.1.2.2.1.1,a.2.1.2.2.1.2.1,a.2.1.2.2.1.2.2.1,a.2.1.2.2.1.2.2.2.1,a.2.1.2.2.1.2.2.2.2.1,a.2.1.2.2.1.2.2.2.2.2.1,a.2.1.2.2.1.2.2.2.2.2.2.1),(a.1.2.2.2.2.2.2.2.1,a.2.1.1.1,a.2.1.2.2.2.1.1))) (fun x=>((x.1.1,x.1.2.1,(),(),(),x.1.2.2.1,(),x.2.1,()),((x.2.2.1,()),(x.1.2.2.2.1,()),(x.1.2.2.2.2.1,x.1.2.2.2.2.2.1,x.1.2.2.2.2.2.2.1,x.1.2.2.2.2.2.2.2.1,x.1.2.2.2.2.2.2.2.2.1,x.1.2.2.2.2.2.2.2.2.2.1,x.1.2.2.2.2.2.2.2.2.2.2,()),(x.2.2.2,()),()),())) (fun _=>rfl)
def xZ3f:LQ tb (((List xZ0)×Int×(List (List UInt8))×(A102 Bool)×Int×Int×Int×Int×(List UInt8)×(List UInt8)×(List xZ2))×(Int×(A102 Bool))):=(LQ.m [] [0,1,3,6,8,9,14] (.c 0 (.r 4) (.c 1 (.i .i64) (.c 3 (.r 0) (.c 6 (.ptr 0 0) (.c 8 (.ptr 1 0) (.c 9 (.ptr 2 0) (.c 14 (.i .i64) .n))))))) (.c (.a tb_ok 15 .n) (.c (.a tb_ok 15 .n) (.c (.c (.i .u8) (.c (.i .i64) (.c (.i .i64) (.c (.i .i64) (.c .s (.c .s (.c (.r 1) .n))))))) .n))) .n).re (fun a=>((a.1.1,a.1.2.1,a.1.2.2.1,a.2.1.2.1.1,a.2.1.2.2.1.1,a.2.1.2.2.1.2.1,a.2.1.2.2.1.2.2.1,a.2.1.2.2.1.2.2.2.1,a.2.1.2.2.1.2.2.2.2.1,a.2.1.2.2.1.2.2.2.2.2.1,a.2.1.2.2.1.2.2.2.2.2.2.1),(a.1.2.2.2.2.2.2.1,a.2.1.1.1))) (fun x=>((x.1.1,x.1.2.1,x.1.2.2.1,(),(),(),x.2.1,()),((x.2.2,()),(x.1.2.2.2.1,()),(x.1.2.2.2.2.1,x.1.2.2.2.2.2.1,x.1.2.2.2.2.2.2.1,x.1.2.2.2.2.2.2.2.1,x.1.2.2.2.2.2.2.2.2.1,x.1.2.2.2.2.2.2.2.2.2.1,x.1.2.2.2.2.2.2.2.2.2.2,()),()),())) (fun _=>rfl)
def xZ3g:LQ tb (((List xZ0)×Int×(List (List UInt8))×(A102 Bool)×Int×Int×Int×Int×(List UInt8)×(List UInt8)×(List xZ2))×(Int×(A102 Bool)×(A102 Bool))):=(LQ.m [] [0,1,3,6,8,9,15,16] (.c 0 (.r 4) (.c 1 (.i .i64) (.c 3 (.r 0) (.c 6 (.ptr 0 0) (.c 8 (.ptr 1 0) (.c 9 (.ptr 2 0) (.c 15 (.ptr 3 0) (.c 16 (.i .i64) .n)))))))) (.c (.a tb_ok 15 .n) (.c (.a tb_ok 15 .n) (.c (.c (.i .u8) (.c (.i .i64) (.c (.i .i64) (.c (.i .i64) (.c .s (.c .s (.c (.r 1) .n))))))) (.c (.a tb_ok 15 .n) .n)))) .n).re (fun a=>((a.1.1,a.1.2.1,a.1.2.2.1,a.2.1.2.1.1,a.2.1.2.2.1.1,a.2.1.2.2.1.2.1,a.2.1.2.2.1.2.2.1,a.2.1.2.2.1.2.2.2.1,a.2.1.2.2.1.2.2.2.2.1,a.2.1.2.2.1.2.2.2.2.2.1,a.2.1.2.2.1.2.2.2.2.2.2.1),(a.1.2.2.2.2.2.2.2.1,a.2.1.1.1,a.2.1.2.2.2.1.1))) (fun x=>((x.1.1,x.1.2.1,x.1.2.2.1,(),(),(),(),x.2.1,()),((x.2.2.1,()),(x.1.2.2.2.1,()),(x.1.2.2.2.2.1,x.1.2.2.2.2.2.1,x.1.2.2.2.2.2.2.1,x.1.2.2.2.2.2.2.2.1,x.1.2.2.2.2.2.2.2.2.1,x.1.2.2.2.2.2.2.2.2.2.1,x.1.2.2.2.2.2.2.2.2.2.2,()),(x.2.2.2,()),()),())) (fun _=>rfl)
def xZ3h:LQ tb (((List xZ0)×Int×(List (List UInt8))×(A102 Bool)×Int×Int×Int×Int×(List UInt8)×(List UInt8)×(List xZ2))×(Int×(A102 Bool))):=(LQ.m [] [0,1,3,8,9,15,17] (.c 0 (.r 4) (.c 1 (.i .i64) (.c 3 (.r 0) (.c 8 (.ptr 0 0) (.c 9 (.ptr 1 0) (.c 15 (.ptr 2 0) (.c 17 (.i .i64) .n))))))) (.c (.a tb_ok 15 .n) (.c (.c (.i .u8) (.c (.i .i64) (.c (.i .i64) (.c (.i .i64) (.c .s (.c .s (.c (.r 1) .n))))))) (.c (.a tb_ok 15 .n) .n))) .n).re (fun a=>((a.1.1,a.1.2.1,a.1.2.2.1,a.2.1.1.1,a.2.1.2.1.1,a.2.1.2.1.2.1,a.2.1.2.1.2.2.1,a.2.1.2.1.2.2.2.1,a.2.1.2.1.2.2.2.2.1,a.2.1.2.1.2.2.2.2.2.1,a.2.1.2.1.2.2.2.2.2.2.1),(a.1.2.2.2.2.2.2.1,a.2.1.2.2.1.1))) (fun x=>((x.1.1,x.1.2.1,x.1.2.2.1,(),(),(),x.2.1,()),((x.1.2.2.2.1,()),(x.1.2.2.2.2.1,x.1.2.2.2.2.2.1,x.1.2.2.2.2.2.2.1,x.1.2.2.2.2.2.2.2.1,x.1.2.2.2.2.2.2.2.2.1,x.1.2.2.2.2.2.2.2.2.2.1,x.1.2.2.2.2.2.2.2.2.2.2,()),(x.2.2,()),()),())) (fun _=>rfl)
def xZ8d (N:Nat) (c:(List xZ0)×(List (List UInt8))×(List Int)×(A102 Bool)×Int×Int×Int×Int×(List UInt8)×(List UInt8)×(List xZ2)) (next:(Int×(A102 Bool)×(A102 Bool))→Option (A102 Bool)) (v:Int×(A102 Bool)×(A102 Bool)):Option (A102 Bool):=xZ3m N (xZx N) c.1 c.2.1 c.2.2.1 c.2.2.2.2.1 (fun u0 u1 u2=>next (u0,u1,u2)) v.1 v.2.1 v.2.2
abbrev xZco (N:Nat):((List xZ0)×(List (List UInt8))×(List Int)×(A102 Bool)×Int×Int×Int×Int×(List UInt8)×(List UInt8)×(List xZ2))×(Int×(A102 Bool)×(A102 Bool))→Option (A102 Bool):=fun a=>loopV (xZ8d N a.1) N a.2
def xZ8g (N:Nat) (c:(List xZ0)×Int×(List (List UInt8))×(A102 Bool)×Int×Int×Int×Int×(List UInt8)×(List UInt8)×(List xZ2)) (next:(Int×(A102 Bool))→Option (A102 Bool)) (v:Int×(A102 Bool)):Option (A102 Bool):=xZ3o N (xZx N) c.1 c.2.1 c.2.2.1 c.2.2.2.2.2.2.2.1 (fun u0 u1=>next (u0,u1)) v.1 v.2
abbrev xZcr (N:Nat):((List xZ0)×Int×(List (List UInt8))×(A102 Bool)×Int×Int×Int×Int×(List UInt8)×(List UInt8)×(List xZ2))×(Int×(A102 Bool))→Option (A102 Bool):=fun a=>loopV (xZ8g N a.1) N a.2
def xZ8f (N:Nat) (c:(List xZ0)×Int×(List (List UInt8))×(A102 Bool)×Int×Int×Int×Int×(List UInt8)×(List UInt8)×(List xZ2)) (next:(Int×(A102 Bool)×(A102 Bool))→Option (A102 Bool)) (v:Int×(A102 Bool)×(A102 Bool)):Option (A102 Bool):=xZ3n N (xZx N) c.1 c.2.1 c.2.2.1 c.2.2.2.2.2.2.2.1 (fun u0 u1 u2=>next (u0,u1,u2)) v.1 v.2.1 v.2.2
abbrev xZcq (N:Nat):((List xZ0)×Int×(List (List UInt8))×(A102 Bool)×Int×Int×Int×Int×(List UInt8)×(List UInt8)×(List xZ2))×(Int×(A102 Bool)×(A102 Bool))→Option (A102 Bool):=fun a=>loopV (xZ8f N a.1) N a.2
def xZ8e (N:Nat) (c:(List xZ0)×Int×(List (List UInt8))×(A102 Bool)×Int×Int×Int×Int×(List UInt8)×(List UInt8)×(List xZ2)) (next:(Int×(A102 Bool))→Option (A102 Bool)) (v:Int×(A102 Bool)):Option (A102 Bool):=xZ4W N (xZx N) c.1 c.2.1 c.2.2.1 c.2.2.2.2.2.2.1 c.2.2.2.2.2.2.2.1 (fun u0 u1=>next (u0,u1)) v.1 v.2
abbrev xZcp (N:Nat):((List xZ0)×Int×(List (List UInt8))×(A102 Bool)×Int×Int×Int×Int×(List UInt8)×(List UInt8)×(List xZ2))×(Int×(A102 Bool))→Option (A102 Bool):=fun a=>loopV (xZ8e N a.1) N a.2
def xZ7A:Con tb:=.s 25 [true,true] (.c (.el tb_ok 8) (.c (.r 0) .n)) (fun N a=>xZ5A N a.1 a.2.1) (R:=Bool) (.p .b) (fun _=>⟨rfl,(by kernel_rfl)⟩)
def xZ8b:Con tb:=.s 5 [true,true] (.c (.el tb_ok 8) (.c (.r 0) .n)) (fun N a=>xZ3k N a.1 a.2.1) (R:=Bool) (.p .b) (fun _=>⟨rfl,(by kernel_rfl)⟩)
end
end
end Go.Proofs.YtmllclbhdmajmaaGreat.W
