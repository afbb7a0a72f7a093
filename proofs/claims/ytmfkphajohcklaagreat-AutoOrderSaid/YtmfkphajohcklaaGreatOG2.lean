/- The code, and what each function of it is walked to. No premise beyond what each theorem says. -/
import Derived.Test.YtmfkphajohcklaaGreatOG1
set_option linter.all false
set_option linter.unusedSimpArgs false
set_option linter.unusedVariables false
namespace Go.Proofs.YtmfkphajohcklaaGreat.O
open Go
section
open Go.Proofs.Tryz
set_option maxRecDepth 1000000
noncomputable section
theorem hm:prog.follows .mixedOrders=true:=by kernel_rfl
def eA0 (x:Int):AV:=.v (.int .i64 x)
def eA1 (x:xZ2):AV:=.agg [.v (.int .u8 x.Kind),.v (.int .u8 x.Op),.v (.string (bs x.Var)),.v (.string (bs x.Name)),.v (.int .u8 x.Val.Kind),.v (.int .i64 x.Val.N),.v (.int .u64 x.Val.Bits),.v (.string (bs x.Val.Text))]
def eA2 (x:xZ4):AV:=.agg [.v (.bool x.Neg),.v (.string (bs x.Var)),.v (.string (bs x.Type_)),.sl 8 (List.map eA1 x.Test)]
def eA3 (x:xZ5Z):AV:=.agg [.v (.int .u8 x.Kind),.v (.int .i64 x.Kids),.v (.int .i64 x.Lo),.v (.int .i64 x.Hi),.v (.string (bs x.Var)),.v (.string (bs x.Type_)),.sl 8 (List.map eA1 x.Test)]
def eA4 (x:xZ1):AV:=.agg [.v (.int .u8 x.Kind),.v (.int .i64 x.Place)]
def eA5 (x:xZ3):AV:=.agg [.v (.int .u8 x.Kind),.v (.int .i64 x.At),.v (.string (bs x.Text)),.v (.int .u8 x.Val.Kind),.v (.int .i64 x.Val.N),.v (.int .u64 x.Val.Bits),.v (.string (bs x.Val.Text))]
def eA6 (x:List xZ2):AV:=.sl 8 (List.map eA1 x)
def eA7 (x:xZe):AV:=.agg [.v (.int .u8 x.Kind),.v (.int .i64 x.N),.v (.int .u64 x.Bits),.v (.string (bs x.Text))]
def eA8 (x:xZy):AV:=.agg [.sl 2 (List.map eA4 x.Nodes),.sl 4 (List.map eA2 x.Places),.v (.int .i64 x.Within),.v (.string (bs x.By)),.v (.int .u8 x.Mode)]
def eA9 (x:A24 Bool):AV:=.agg (flm (fun (y1:Bool)=>[.v (.bool y1)]) (A24.l x))
def eA10 (x:Bool):AV:=.v (.bool x)
def eA11 (x:Int):AV:=.v (.int .u32 x)
def eA12 (x:xZS):AV:=.agg [.v (.bool x.null),.v (.int .u32 x.first),.v (.int .u32 x.last)]
def eA13 (x:xZ2X):AV:=.agg [.v (.bool x.Null),.v (.int .u32 x.First),.v (.int .u32 x.Last),.sl 1 (List.map eA11 x.Next)]
def eA14 (x:xZ0):AV:=.agg [.v (.int .i64 x.To),.v (.int .u32 x.Negs)]
def eA15 (x:Ent125):AV:=.agg [.v (.int .i64 x.k.To),.v (.int .u32 x.k.Negs)]
def eA16 (x:List xZ0):AV:=.sl 2 (List.map eA14 x)
def eA17 (x:List Int):AV:=.sl 1 (List.map eA11 x)
def eA18 (x:xZ1T):AV:=.agg [.sl 2 (List.map eA14 x.Start),.sl 1 (List.map eA16 x.Next),.sl 1 (List.map eA17 x.Ends)]
abbrev T:Nat→Type
 | 0=>Int
 | 1=>xZ2
 | 2=>xZ4
 | 3=>xZ5Z
 | 4=>xZ1
 | 5=>xZ3
 | 6=>List xZ2
 | 7=>xZe
 | 8=>xZy
 | 9=>A24 Bool
 | 10=>Bool
 | 11=>Int
 | 12=>xZS
 | 13=>xZ2X
 | 14=>xZ0
 | 15=>Ent125
 | 16=>List xZ0
 | 17=>List Int
 | 18=>xZ1T
 | _=>Unit
def enc:(i:Nat)→T i→List (BV T)
 | 0=>fun (x:Int)=>[.int .i64 x]
 | 1=>fun (x:xZ2)=>[.int .u8 x.Kind,.int .u8 x.Op,.str x.Var,.str x.Name,.int .u8 x.Val.Kind,.int .i64 x.Val.N,.int .u64 x.Val.Bits,.str x.Val.Text]
 | 2=>fun (x:xZ4)=>[.bool x.Neg,.str x.Var,.str x.Type_,.sl 1 x.Test]
 | 3=>fun (x:xZ5Z)=>[.int .u8 x.Kind,.int .i64 x.Kids,.int .i64 x.Lo,.int .i64 x.Hi,.str x.Var,.str x.Type_,.sl 1 x.Test]
 | 4=>fun (x:xZ1)=>[.int .u8 x.Kind,.int .i64 x.Place]
 | 5=>fun (x:xZ3)=>[.int .u8 x.Kind,.int .i64 x.At,.str x.Text,.int .u8 x.Val.Kind,.int .i64 x.Val.N,.int .u64 x.Val.Bits,.str x.Val.Text]
 | 6=>fun (x:List xZ2)=>[.sl 1 x]
 | 7=>fun (x:xZe)=>[.int .u8 x.Kind,.int .i64 x.N,.int .u64 x.Bits,.str x.Text]
 | 8=>fun (x:xZy)=>[.sl 4 x.Nodes,.sl 2 x.Places,.int .i64 x.Within,.str x.By,.int .u8 x.Mode]
 | 9=>fun (x:A24 Bool)=>flm (fun (y1:Bool)=>[.bool y1]) (A24.l x)
 | 10=>fun (x:Bool)=>[.bool x]
 | 11=>fun (x:Int)=>[.int .u32 x]
 | 12=>fun (x:xZS)=>[.bool x.null,.int .u32 x.first,.int .u32 x.last]
 | 13=>fun (x:xZ2X)=>[.bool x.Null,.int .u32 x.First,.int .u32 x.Last,.sl 11 x.Next]
 | 14=>fun (x:xZ0)=>[.int .i64 x.To,.int .u32 x.Negs]
 | 15=>fun (x:Ent125)=>[.int .i64 x.k.To,.int .u32 x.k.Negs]
 | 16=>fun (x:List xZ0)=>[.sl 14 x]
 | 17=>fun (x:List Int)=>[.sl 11 x]
 | 18=>fun (x:xZ1T)=>[.sl 14 x.Start,.sl 16 x.Next,.sl 17 x.Ends]
 | _=>fun _=>[]
def dec0:List (BV T)→Option Int:=P1 (asInt .i64) fun a0=>P0 (a0:Int)
def dec1:List (BV T)→Option xZ2:=P1 (asInt .u8) fun a0=>P1 (asInt .u8) fun a1=>P1 asStr fun a2=>P1 asStr fun a3=>P1 (asInt .u8) fun a4=>P1 (asInt .i64) fun a5=>P1 (asInt .u64) fun a6=>P1 asStr fun a7=>P0 (⟨a0,a1,a2,a3,⟨a4,a5,a6,a7⟩⟩:xZ2)
def dec2:List (BV T)→Option xZ4:=P1 asBool fun a0=>P1 asStr fun a1=>P1 asStr fun a2=>P1 (asRow 1) fun a3=>P0 (⟨a0,a1,a2,a3⟩:xZ4)
def dec3:List (BV T)→Option xZ5Z:=P1 (asInt .u8) fun a0=>P1 (asInt .i64) fun a1=>P1 (asInt .i64) fun a2=>P1 (asInt .i64) fun a3=>P1 asStr fun a4=>P1 asStr fun a5=>P1 (asRow 1) fun a6=>P0 (⟨a0,a1,a2,a3,a4,a5,a6⟩:xZ5Z)
def dec4:List (BV T)→Option xZ1:=P1 (asInt .u8) fun a0=>P1 (asInt .i64) fun a1=>P0 (⟨a0,a1⟩:xZ1)
def dec5:List (BV T)→Option xZ3:=P1 (asInt .u8) fun a0=>P1 (asInt .i64) fun a1=>P1 asStr fun a2=>P1 (asInt .u8) fun a3=>P1 (asInt .i64) fun a4=>P1 (asInt .u64) fun a5=>P1 asStr fun a6=>P0 (⟨a0,a1,a2,⟨a3,a4,a5,a6⟩⟩:xZ3)
def dec6:List (BV T)→Option (List xZ2):=P1 (asRow 1) fun a0=>P0 (a0:List xZ2)
def dec7:List (BV T)→Option xZe:=P1 (asInt .u8) fun a0=>P1 (asInt .i64) fun a1=>P1 (asInt .u64) fun a2=>P1 asStr fun a3=>P0 (⟨a0,a1,a2,a3⟩:xZe)
def dec8:List (BV T)→Option xZy:=P1 (asRow 4) fun a0=>P1 (asRow 2) fun a1=>P1 (asInt .i64) fun a2=>P1 asStr fun a3=>P1 (asInt .u8) fun a4=>P0 (⟨a0,a1,a2,a3,a4⟩:xZy)
def dec9:List (BV T)→Option (A24 Bool):=fun cs=>(decN 1 (P1 asBool fun a0=>P0 (a0:Bool)) 24 cs).bind A24.of
def dec10:List (BV T)→Option Bool:=P1 asBool fun a0=>P0 (a0:Bool)
def dec11:List (BV T)→Option Int:=P1 (asInt .u32) fun a0=>P0 (a0:Int)
def dec12:List (BV T)→Option xZS:=P1 asBool fun a0=>P1 (asInt .u32) fun a1=>P1 (asInt .u32) fun a2=>P0 (⟨a0,a1,a2⟩:xZS)
def dec13:List (BV T)→Option xZ2X:=P1 asBool fun a0=>P1 (asInt .u32) fun a1=>P1 (asInt .u32) fun a2=>P1 (asRow 11) fun a3=>P0 (⟨a0,a1,a2,a3⟩:xZ2X)
def dec14:List (BV T)→Option xZ0:=P1 (asInt .i64) fun a0=>P1 (asInt .u32) fun a1=>P0 (⟨a0,a1⟩:xZ0)
def dec15:List (BV T)→Option Ent125:=P1 (asInt .i64) fun a0=>P1 (asInt .u32) fun a1=>P0 (⟨⟨a0,a1⟩,⟨⟩⟩:Ent125)
def dec16:List (BV T)→Option (List xZ0):=P1 (asRow 14) fun a0=>P0 (a0:List xZ0)
def dec17:List (BV T)→Option (List Int):=P1 (asRow 11) fun a0=>P0 (a0:List Int)
def dec18:List (BV T)→Option xZ1T:=P1 (asRow 14) fun a0=>P1 (asRow 16) fun a1=>P1 (asRow 17) fun a2=>P0 (⟨a0,a1,a2⟩:xZ1T)
def dec:(i:Nat)→List (BV T)→Option (T i)
 | 0=>dec0
 | 1=>dec1
 | 2=>dec2
 | 3=>dec3
 | 4=>dec4
 | 5=>dec5
 | 6=>dec6
 | 7=>dec7
 | 8=>dec8
 | 9=>dec9
 | 10=>dec10
 | 11=>dec11
 | 12=>dec12
 | 13=>dec13
 | 14=>dec14
 | 15=>dec15
 | 16=>dec16
 | 17=>dec17
 | 18=>dec18
 | _=>fun _=>none
def eA:(i:Nat)→T i→AV
 | 0=>eA0
 | 1=>eA1
 | 2=>eA2
 | 3=>eA3
 | 4=>eA4
 | 5=>eA5
 | 6=>eA6
 | 7=>eA7
 | 8=>eA8
 | 9=>eA9
 | 10=>eA10
 | 11=>eA11
 | 12=>eA12
 | 13=>eA13
 | 14=>eA14
 | 15=>eA15
 | 16=>eA16
 | 17=>eA17
 | 18=>eA18
 | _=>fun _=>.agg []
def tb:Tb T:={k:=fun i=>[1,8,4,7,2,7,1,4,5,24,1,1,3,4,2,2,1,1,3].getD i 0,ag:=fun i=>[false,true,true,true,true,true,false,true,true,true,false,false,true,true,true,true,false,false,true].getD i true,eA,enc,dec}
def sbf (k:Nat):Option (List UInt8→(i:Nat)×List (T i)):=none
theorem sb_ok (k:Nat) (f:List UInt8→(i:Nat)×List (T i)) (s:List UInt8) (h:sbf k=some f):k=1∧tb.k (f s).1=1∧(f s).2.map (tb.eA (f s).1)=s.map byteV:=by cases h
def bof (i:Nat) (_:List (T i)):Option (List UInt8):=none
theorem bo_ok (i:Nat) (l:List (T i)) (s:List UInt8) (h:bof i l=some s):tb.k i=1∧∃ m:List Int,l.map (tb.eA i)=m.map u8V∧s=byS m:=by cases h
theorem xZnV (cs:List (BV T)) (x:Int) (h:dec0 cs=some x):LWs (BV.avs tb cs) (eA0 x).cells:=by
 obtain ⟨c0,r0,a0,rfl,h0,h⟩:=xZ1I h
 obtain ⟨rfl,rfl⟩:=xZ8e h
 exact .cons (xZ3f h0) (.nil)
theorem xZnW (cs:List (BV T)) (x:xZ2) (h:dec1 cs=some x):LWs (BV.avs tb cs) (eA1 x).cells:=by
 obtain ⟨c0,r0,a0,rfl,h0,h⟩:=xZ1I h
 obtain ⟨c1,r1,a1,rfl,h1,h⟩:=xZ1I h
 obtain ⟨c2,r2,a2,rfl,h2,h⟩:=xZ1I h
 obtain ⟨c3,r3,a3,rfl,h3,h⟩:=xZ1I h
 obtain ⟨c4,r4,a4,rfl,h4,h⟩:=xZ1I h
 obtain ⟨c5,r5,a5,rfl,h5,h⟩:=xZ1I h
 obtain ⟨c6,r6,a6,rfl,h6,h⟩:=xZ1I h
 obtain ⟨c7,r7,a7,rfl,h7,h⟩:=xZ1I h
 obtain ⟨rfl,rfl⟩:=xZ8e h
 exact .cons (xZ3f h0) (.cons (xZ3f h1) (.cons (xZ9i h2) (.cons (xZ9i h3) (.cons (xZ3f h4) (.cons (xZ3f h5) (.cons (xZ3f h6) (.cons (xZ9i h7) (.nil))))))))
theorem xZnX (cs:List (BV T)) (x:xZ4) (h:dec2 cs=some x):LWs (BV.avs tb cs) (eA2 x).cells:=by
 obtain ⟨c0,r0,a0,rfl,h0,h⟩:=xZ1I h
 obtain ⟨c1,r1,a1,rfl,h1,h⟩:=xZ1I h
 obtain ⟨c2,r2,a2,rfl,h2,h⟩:=xZ1I h
 obtain ⟨c3,r3,a3,rfl,h3,h⟩:=xZ1I h
 obtain ⟨rfl,rfl⟩:=xZ8e h
 exact .cons (xZcJ h0) (.cons (xZ9i h1) (.cons (xZ9i h2) (.cons (xZ8Q h3) (.nil))))
theorem xZnY (cs:List (BV T)) (x:xZ5Z) (h:dec3 cs=some x):LWs (BV.avs tb cs) (eA3 x).cells:=by
 obtain ⟨c0,r0,a0,rfl,h0,h⟩:=xZ1I h
 obtain ⟨c1,r1,a1,rfl,h1,h⟩:=xZ1I h
 obtain ⟨c2,r2,a2,rfl,h2,h⟩:=xZ1I h
 obtain ⟨c3,r3,a3,rfl,h3,h⟩:=xZ1I h
 obtain ⟨c4,r4,a4,rfl,h4,h⟩:=xZ1I h
 obtain ⟨c5,r5,a5,rfl,h5,h⟩:=xZ1I h
 obtain ⟨c6,r6,a6,rfl,h6,h⟩:=xZ1I h
 obtain ⟨rfl,rfl⟩:=xZ8e h
 exact .cons (xZ3f h0) (.cons (xZ3f h1) (.cons (xZ3f h2) (.cons (xZ3f h3) (.cons (xZ9i h4) (.cons (xZ9i h5) (.cons (xZ8Q h6) (.nil)))))))
theorem xZnZ (cs:List (BV T)) (x:xZ1) (h:dec4 cs=some x):LWs (BV.avs tb cs) (eA4 x).cells:=by
 obtain ⟨c0,r0,a0,rfl,h0,h⟩:=xZ1I h
 obtain ⟨c1,r1,a1,rfl,h1,h⟩:=xZ1I h
 obtain ⟨rfl,rfl⟩:=xZ8e h
 exact .cons (xZ3f h0) (.cons (xZ3f h1) (.nil))
theorem xZo0 (cs:List (BV T)) (x:xZ3) (h:dec5 cs=some x):LWs (BV.avs tb cs) (eA5 x).cells:=by
 obtain ⟨c0,r0,a0,rfl,h0,h⟩:=xZ1I h
 obtain ⟨c1,r1,a1,rfl,h1,h⟩:=xZ1I h
 obtain ⟨c2,r2,a2,rfl,h2,h⟩:=xZ1I h
 obtain ⟨c3,r3,a3,rfl,h3,h⟩:=xZ1I h
 obtain ⟨c4,r4,a4,rfl,h4,h⟩:=xZ1I h
 obtain ⟨c5,r5,a5,rfl,h5,h⟩:=xZ1I h
 obtain ⟨c6,r6,a6,rfl,h6,h⟩:=xZ1I h
 obtain ⟨rfl,rfl⟩:=xZ8e h
 exact .cons (xZ3f h0) (.cons (xZ3f h1) (.cons (xZ9i h2) (.cons (xZ3f h3) (.cons (xZ3f h4) (.cons (xZ3f h5) (.cons (xZ9i h6) (.nil)))))))
theorem xZo1 (cs:List (BV T)) (x:List xZ2) (h:dec6 cs=some x):LWs (BV.avs tb cs) (eA6 x).cells:=by
 obtain ⟨c0,r0,a0,rfl,h0,h⟩:=xZ1I h
 obtain ⟨rfl,rfl⟩:=xZ8e h
 exact .cons (xZ8Q h0) (.nil)
theorem xZo2 (cs:List (BV T)) (x:xZe) (h:dec7 cs=some x):LWs (BV.avs tb cs) (eA7 x).cells:=by
 obtain ⟨c0,r0,a0,rfl,h0,h⟩:=xZ1I h
 obtain ⟨c1,r1,a1,rfl,h1,h⟩:=xZ1I h
 obtain ⟨c2,r2,a2,rfl,h2,h⟩:=xZ1I h
 obtain ⟨c3,r3,a3,rfl,h3,h⟩:=xZ1I h
 obtain ⟨rfl,rfl⟩:=xZ8e h
 exact .cons (xZ3f h0) (.cons (xZ3f h1) (.cons (xZ3f h2) (.cons (xZ9i h3) (.nil))))
theorem xZo3 (cs:List (BV T)) (x:xZy) (h:dec8 cs=some x):LWs (BV.avs tb cs) (eA8 x).cells:=by
 obtain ⟨c0,r0,a0,rfl,h0,h⟩:=xZ1I h
 obtain ⟨c1,r1,a1,rfl,h1,h⟩:=xZ1I h
 obtain ⟨c2,r2,a2,rfl,h2,h⟩:=xZ1I h
 obtain ⟨c3,r3,a3,rfl,h3,h⟩:=xZ1I h
 obtain ⟨c4,r4,a4,rfl,h4,h⟩:=xZ1I h
 obtain ⟨rfl,rfl⟩:=xZ8e h
 exact .cons (xZ8Q h0) (.cons (xZ8Q h1) (.cons (xZ3f h2) (.cons (xZ9i h3) (.cons (xZ3f h4) (.nil)))))
theorem xZo4 (cs:List (BV T)) (x:A24 Bool) (h:dec9 cs=some x):LWs (BV.avs tb cs) (eA9 x).cells:=by
 unfold dec9 at h
 obtain ⟨l,h1,h2⟩:=Option.bind_eq_some_iff.1 h
 have h3:=A24.of_l h2
 have h4:=xZlL (B:=tb) (f:=fun (y1:Bool)=>[.v (.bool y1)]) (fun cs a h=>by
  obtain ⟨c0,r0,a0,rfl,h0,h⟩:=xZ1I h
  obtain ⟨rfl,rfl⟩:=xZ8e h
  exact .cons (xZcJ h0) (.nil)) h1
 rw [← h3] at h4
 exact h4
theorem xZmB (cs:List (BV T)) (x:Bool) (h:dec10 cs=some x):LWs (BV.avs tb cs) (eA10 x).cells:=by
 obtain ⟨c0,r0,a0,rfl,h0,h⟩:=xZ1I h
 obtain ⟨rfl,rfl⟩:=xZ8e h
 exact .cons (xZcJ h0) (.nil)
theorem xZmC (cs:List (BV T)) (x:Int) (h:dec11 cs=some x):LWs (BV.avs tb cs) (eA11 x).cells:=by
 obtain ⟨c0,r0,a0,rfl,h0,h⟩:=xZ1I h
 obtain ⟨rfl,rfl⟩:=xZ8e h
 exact .cons (xZ3f h0) (.nil)
theorem xZmD (cs:List (BV T)) (x:xZS) (h:dec12 cs=some x):LWs (BV.avs tb cs) (eA12 x).cells:=by
 obtain ⟨c0,r0,a0,rfl,h0,h⟩:=xZ1I h
 obtain ⟨c1,r1,a1,rfl,h1,h⟩:=xZ1I h
 obtain ⟨c2,r2,a2,rfl,h2,h⟩:=xZ1I h
 obtain ⟨rfl,rfl⟩:=xZ8e h
 exact .cons (xZcJ h0) (.cons (xZ3f h1) (.cons (xZ3f h2) (.nil)))
theorem xZmE (cs:List (BV T)) (x:xZ2X) (h:dec13 cs=some x):LWs (BV.avs tb cs) (eA13 x).cells:=by
 obtain ⟨c0,r0,a0,rfl,h0,h⟩:=xZ1I h
 obtain ⟨c1,r1,a1,rfl,h1,h⟩:=xZ1I h
 obtain ⟨c2,r2,a2,rfl,h2,h⟩:=xZ1I h
 obtain ⟨c3,r3,a3,rfl,h3,h⟩:=xZ1I h
 obtain ⟨rfl,rfl⟩:=xZ8e h
 exact .cons (xZcJ h0) (.cons (xZ3f h1) (.cons (xZ3f h2) (.cons (xZ8Q h3) (.nil))))
theorem xZmF (cs:List (BV T)) (x:xZ0) (h:dec14 cs=some x):LWs (BV.avs tb cs) (eA14 x).cells:=by
 obtain ⟨c0,r0,a0,rfl,h0,h⟩:=xZ1I h
 obtain ⟨c1,r1,a1,rfl,h1,h⟩:=xZ1I h
 obtain ⟨rfl,rfl⟩:=xZ8e h
 exact .cons (xZ3f h0) (.cons (xZ3f h1) (.nil))
theorem xZmG (cs:List (BV T)) (x:Ent125) (h:dec15 cs=some x):LWs (BV.avs tb cs) (eA15 x).cells:=by
 obtain ⟨c0,r0,a0,rfl,h0,h⟩:=xZ1I h
 obtain ⟨c1,r1,a1,rfl,h1,h⟩:=xZ1I h
 obtain ⟨rfl,rfl⟩:=xZ8e h
 exact .cons (xZ3f h0) (.cons (xZ3f h1) (.nil))
theorem xZmH (cs:List (BV T)) (x:List xZ0) (h:dec16 cs=some x):LWs (BV.avs tb cs) (eA16 x).cells:=by
 obtain ⟨c0,r0,a0,rfl,h0,h⟩:=xZ1I h
 obtain ⟨rfl,rfl⟩:=xZ8e h
 exact .cons (xZ8Q h0) (.nil)
theorem xZmI (cs:List (BV T)) (x:List Int) (h:dec17 cs=some x):LWs (BV.avs tb cs) (eA17 x).cells:=by
 obtain ⟨c0,r0,a0,rfl,h0,h⟩:=xZ1I h
 obtain ⟨rfl,rfl⟩:=xZ8e h
 exact .cons (xZ8Q h0) (.nil)
theorem xZmJ (cs:List (BV T)) (x:xZ1T) (h:dec18 cs=some x):LWs (BV.avs tb cs) (eA18 x).cells:=by
 obtain ⟨c0,r0,a0,rfl,h0,h⟩:=xZ1I h
 obtain ⟨c1,r1,a1,rfl,h1,h⟩:=xZ1I h
 obtain ⟨c2,r2,a2,rfl,h2,h⟩:=xZ1I h
 obtain ⟨rfl,rfl⟩:=xZ8e h
 exact .cons (xZ8Q h0) (.cons (xZ8Q h1) (.cons (xZ8Q h2) (.nil)))
theorem tb_ok:tb.Ok where
 enc:=fun i x=>match i with | 0=>(by kernel_rfl) | 1=>(by kernel_rfl) | 2=>(by kernel_rfl) | 3=>(by kernel_rfl) | 4=>(by kernel_rfl) | 5=>(by kernel_rfl) | 6=>(by kernel_rfl) | 7=>(by kernel_rfl) | 8=>(by kernel_rfl) | 9=>(by kernel_rfl) | 10=>(by kernel_rfl) | 11=>(by kernel_rfl) | 12=>(by kernel_rfl) | 13=>(by kernel_rfl) | 14=>(by kernel_rfl) | 15=>(by kernel_rfl) | 16=>(by kernel_rfl) | 17=>(by kernel_rfl) | 18=>(by kernel_rfl) | n+19=>(by kernel_rfl)
 len:=fun i x=>match i with | 0=>(by kernel_rfl) | 1=>(by kernel_rfl) | 2=>(by kernel_rfl) | 3=>(by kernel_rfl) | 4=>(by kernel_rfl) | 5=>(by kernel_rfl) | 6=>(by kernel_rfl) | 7=>(by kernel_rfl) | 8=>(by kernel_rfl) | 9=>(by kernel_rfl) | 10=>(by kernel_rfl) | 11=>(by kernel_rfl) | 12=>(by kernel_rfl) | 13=>(by kernel_rfl) | 14=>(by kernel_rfl) | 15=>(by kernel_rfl) | 16=>(by kernel_rfl) | 17=>(by kernel_rfl) | 18=>(by kernel_rfl) | n+19=>(by kernel_rfl)
 one:=fun i x=>match i with | 0=>(by kernel_rfl) | 1=>(by kernel_rfl) | 2=>(by kernel_rfl) | 3=>(by kernel_rfl) | 4=>(by kernel_rfl) | 5=>(by kernel_rfl) | 6=>(by kernel_rfl) | 7=>(by kernel_rfl) | 8=>(by kernel_rfl) | 9=>(by kernel_rfl) | 10=>(by kernel_rfl) | 11=>(by kernel_rfl) | 12=>(by kernel_rfl) | 13=>(by kernel_rfl) | 14=>(by kernel_rfl) | 15=>(by kernel_rfl) | 16=>(by kernel_rfl) | 17=>(by kernel_rfl) | 18=>(by kernel_rfl) | n+19=>(by kernel_rfl)
 dat:=fun i x=>match i with | 0=>(by kernel_rfl) | 1=>(by kernel_rfl) | 2=>(by kernel_rfl) | 3=>(by kernel_rfl) | 4=>(by kernel_rfl) | 5=>(by kernel_rfl) | 6=>(by kernel_rfl) | 7=>(by kernel_rfl) | 8=>(by kernel_rfl) | 9=>(by kernel_rfl) | 10=>(by kernel_rfl) | 11=>(by kernel_rfl) | 12=>(by kernel_rfl) | 13=>(by kernel_rfl) | 14=>(by kernel_rfl) | 15=>(by kernel_rfl) | 16=>(by kernel_rfl) | 17=>(by kernel_rfl) | 18=>(by kernel_rfl) | n+19=>(by kernel_rfl)
 sg:=fun i x h=>match i with | 0=>(by kernel_rfl) | 1=>(by cases h) | 2=>(by cases h) | 3=>(by cases h) | 4=>(by cases h) | 5=>(by cases h) | 6=>(by kernel_rfl) | 7=>(by cases h) | 8=>(by cases h) | 9=>(by cases h) | 10=>(by kernel_rfl) | 11=>(by kernel_rfl) | 12=>(by cases h) | 13=>(by cases h) | 14=>(by cases h) | 15=>(by cases h) | 16=>(by kernel_rfl) | 17=>(by kernel_rfl) | 18=>(by cases h) | n+19=>(by cases h)
 ag:=fun i x h=>match i with | 0=>(by cases h) | 1=>(by kernel_rfl) | 2=>(by kernel_rfl) | 3=>(by kernel_rfl) | 4=>(by kernel_rfl) | 5=>(by kernel_rfl) | 6=>(by cases h) | 7=>(by kernel_rfl) | 8=>(by kernel_rfl) | 9=>(by kernel_rfl) | 10=>(by cases h) | 11=>(by cases h) | 12=>(by kernel_rfl) | 13=>(by kernel_rfl) | 14=>(by kernel_rfl) | 15=>(by kernel_rfl) | 16=>(by cases h) | 17=>(by cases h) | 18=>(by kernel_rfl) | n+19=>(by kernel_rfl)
 dec:=fun i=>match i with | 0=>xZnV | 1=>xZnW | 2=>xZnX | 3=>xZnY | 4=>xZnZ | 5=>xZo0 | 6=>xZo1 | 7=>xZo2 | 8=>xZo3 | 9=>xZo4 | 10=>xZmB | 11=>xZmC | 12=>xZmD | 13=>xZmE | 14=>xZmF | 15=>xZmG | 16=>xZmH | 17=>xZmI | 18=>xZmJ | n+19=>fun cs x h=>(by cases h)
 el:=fun i x R K r h=>by cases h
 fd:=fun i ty v x h=>by cases h
def xZbB:Con tb:=.s 34 [true] (.c (.el tb_ok 7) .n) (fun N a=>xZa4 N a.1) (R:=Int) (.p (.i .i64)) (fun _=>⟨rfl,(by kernel_rfl)⟩)
def xZcj:Con tb:=.s 18 [true] (.c (.r 1) .n) (fun N a=>xZbo N a.1) (R:=Int) (.p (.i .i64)) (fun _=>⟨rfl,(by kernel_rfl)⟩)
def xZ96:LQ tb (((List xZ2))×(Int)):=(LQ.m [] [0,3] (.c 0 (.r 1) (.c 3 (.i .i64) .n)) .n .n).re (fun a=>(a.1.1,a.1.2.1)) (fun x=>((x.1,x.2,()),(),())) (fun _=>rfl)
def xZcU (N:Nat) (c:(List xZ2)) (next:Int→Option Int) (v:Int):Option Int:=xZ9c N c (fun u0=>next u0) v
abbrev xZg7 (N:Nat):((List xZ2))×(Int)→Option Int:=fun a=>loopV (xZcU N a.1) N a.2
def xZb6:Con tb:=.s 36 [true] (.c (.i .u8) .n) (fun N a=>xZ9p N a.1) (R:=Int) (.p (.i .i64)) (fun _=>⟨rfl,(by kernel_rfl)⟩)
def xZb7:Con tb:=.s 35 [true,true] (.c (.r 4) (.c (.i .i64) .n)) (fun N a=>xZ8C N a.1 a.2.1) (R:=Int) (.p (.i .i64)) (fun _=>⟨rfl,(by kernel_rfl)⟩)
def xZ99:LQ tb (((List xZ1)×Int)×(Int×Int)):=(LQ.m [] [0,1,5,6] (.c 0 (.r 4) (.c 1 (.i .i64) (.c 5 (.i .i64) (.c 6 (.i .i64) .n)))) .n .n).re (fun a=>((a.1.1,a.1.2.1),(a.1.2.2.1,a.1.2.2.2.1))) (fun x=>((x.1.1,x.1.2,x.2.1,x.2.2,()),(),())) (fun _=>rfl)
def xZcX (N:Nat) (c:(List xZ1)×Int) (next:(Int×Int)→Option Int) (v:Int×Int):Option Int:=xZbr N c.1 c.2 (fun u0 u1=>next (u0,u1)) v.1 v.2
abbrev xZga (N:Nat):((List xZ1)×Int)×(Int×Int)→Option Int:=fun a=>loopV (xZcX N a.1) N a.2
def xZcm:Con tb:=.s 19 [true] (.c (.el tb_ok 8) .n) (fun N a=>xZbq N a.1) (R:=Bool) (.p .b) (fun _=>⟨rfl,(by kernel_rfl)⟩)
def xZ98:LQ tb (((List xZ1)×(List xZ4)×Int×(List UInt8)×Int)×(Int)):=(LQ.m [] [1,3] (.c 1 (.ptr 0 0) (.c 3 (.i .i64) .n)) (.c (.c (.r 4) (.c (.r 2) (.c (.i .i64) (.c .s (.c (.i .u8) .n))))) .n) .n).re (fun a=>((a.2.1.1.1,a.2.1.1.2.1,a.2.1.1.2.2.1,a.2.1.1.2.2.2.1,a.2.1.1.2.2.2.2.1),a.1.2.1)) (fun x=>(((),x.2,()),((x.1.1,x.1.2.1,x.1.2.2.1,x.1.2.2.2.1,x.1.2.2.2.2,()),()),())) (fun _=>rfl)
def xZcW (N:Nat) (c:(List xZ1)×(List xZ4)×Int×(List UInt8)×Int) (next:Int→Option Bool) (v:Int):Option Bool:=xZ9e N c.1 c.2.1 (fun u0=>next u0) v
abbrev xZg9 (N:Nat):((List xZ1)×(List xZ4)×Int×(List UInt8)×Int)×(Int)→Option Bool:=fun a=>loopV (xZcW N a.1) N a.2
def xZ8K:Con tb:=.s 20 [true,true] (.c (.r 4) (.c (.i .i64) .n)) (fun N a=>xZbT N a.1 a.2.1) (R:=Int) (.p (.i .i64)) (fun _=>⟨rfl,(by kernel_rfl)⟩)
def xZ8G:LQ tb (((List xZ1)×Int)×(Int×Int×Int)):=(LQ.m [] [0,1,5,6,7] (.c 0 (.r 4) (.c 1 (.i .i64) (.c 5 (.i .i64) (.c 6 (.i .i64) (.c 7 (.i .i64) .n))))) .n .n).re (fun a=>((a.1.1,a.1.2.1),(a.1.2.2.1,a.1.2.2.2.1,a.1.2.2.2.2.1))) (fun x=>((x.1.1,x.1.2,x.2.1,x.2.2.1,x.2.2.2,()),(),())) (fun _=>rfl)
def xZcc (N:Nat) (c:(List xZ1)×Int) (next:(Int×Int×Int)→Option Int) (v:Int×Int×Int):Option Int:=xZaI N (xZ8V N) c.1 c.2 (fun u0 u1 u2=>next (u0,u1,u2)) v.1 v.2.1 v.2.2
abbrev xZfc (N:Nat):((List xZ1)×Int)×(Int×Int×Int)→Option Int:=fun a=>loopV (xZcc N a.1) N a.2
def xZck:Con tb:=.s 6 [true] (.c (.el tb_ok 8) .n) (fun N a=>xZbp N a.1) (R:=Int) (.p (.i .i64)) (fun _=>⟨rfl,(by kernel_rfl)⟩)
def xZ97:LQ tb (((List xZ1)×(List xZ4)×Int×(List UInt8)×Int)×(Int)):=(LQ.m [] [1,3] (.c 1 (.ptr 0 0) (.c 3 (.i .i64) .n)) (.c (.c (.r 4) (.c (.r 2) (.c (.i .i64) (.c .s (.c (.i .u8) .n))))) .n) .n).re (fun a=>((a.2.1.1.1,a.2.1.1.2.1,a.2.1.1.2.2.1,a.2.1.1.2.2.2.1,a.2.1.1.2.2.2.2.1),a.1.2.1)) (fun x=>(((),x.2,()),((x.1.1,x.1.2.1,x.1.2.2.1,x.1.2.2.2.1,x.1.2.2.2.2,()),()),())) (fun _=>rfl)
def xZcV (N:Nat) (c:(List xZ1)×(List xZ4)×Int×(List UInt8)×Int) (next:Int→Option Int) (v:Int):Option Int:=xZ9d N c.1 c.2.1 c.2.2.1 c.2.2.2.1 c.2.2.2.2 (fun u0=>next u0) v
abbrev xZg8 (N:Nat):((List xZ1)×(List xZ4)×Int×(List UInt8)×Int)×(Int)→Option Int:=fun a=>loopV (xZcV N a.1) N a.2
def xZdi:Con tb:=.s 73 [true] (.c (.i .u8) .n) (fun N a=>xZbY N a.1) (R:=Int) (.p (.i .i64)) (fun _=>⟨rfl,(by kernel_rfl)⟩)
def xZdh:Con tb:=.s 53 [true,true] (.c (.r 4) (.c (.i .i64) .n)) (fun N a=>xZbX N a.1 a.2.1) (R:=Int) (.p (.i .i64)) (fun _=>⟨rfl,(by kernel_rfl)⟩)
def xZ9X:LQ tb (((List xZ1)×Int)×(Int×Int)):=(LQ.m [] [5,18,19,20] (.c 5 (.i .i64) (.c 18 (.r 4) (.c 19 (.i .i64) (.c 20 (.i .i64) .n)))) .n .n).re (fun a=>((a.1.2.1,a.1.2.2.1),(a.1.1,a.1.2.2.2.1))) (fun x=>((x.2.1,x.1.1,x.1.2,x.2.2,()),(),())) (fun _=>rfl)
def xZdK (N:Nat) (c:(List xZ1)×Int) (next:(Int×Int)→Option Int) (v:Int×Int):Option Int:=xZa2 N c.1 c.2 (fun u0 u1=>next (u0,u1)) v.1 v.2
abbrev xZgR (N:Nat):((List xZ1)×Int)×(Int×Int)→Option Int:=fun a=>loopV (xZdK N a.1) N a.2
def xZbA:Con tb:=.s 30 [true] (.c (.el tb_ok 8) .n) (fun N a=>xZa3 N a.1) (R:=Bool) (.p .b) (fun _=>⟨rfl,(by kernel_rfl)⟩)
def xZ8F:LQ tb (((List xZ1)×Int×(List xZ1)×(List xZ4)×Int×(List UInt8)×Int)×(Int×(A24 Bool))):=(LQ.m [] [1,3,32,33,34] (.c 1 (.ptr 0 0) (.c 3 (.ptr 1 0) (.c 32 (.r 4) (.c 33 (.i .i64) (.c 34 (.i .i64) .n))))) (.c (.c (.r 4) (.c (.r 2) (.c (.i .i64) (.c .s (.c (.i .u8) .n))))) (.c (.a tb_ok 9 .n) .n)) .n).re (fun a=>((a.1.2.2.1,a.1.2.2.2.1,a.2.1.1.1,a.2.1.1.2.1,a.2.1.1.2.2.1,a.2.1.1.2.2.2.1,a.2.1.1.2.2.2.2.1),(a.1.2.2.2.2.1,a.2.1.2.1.1))) (fun x=>(((),(),x.1.1,x.1.2.1,x.2.1,()),((x.1.2.2.1,x.1.2.2.2.1,x.1.2.2.2.2.1,x.1.2.2.2.2.2.1,x.1.2.2.2.2.2.2,()),(x.2.2,()),()),())) (fun _=>rfl)
def xZcb (N:Nat) (c:(List xZ1)×Int×(List xZ1)×(List xZ4)×Int×(List UInt8)×Int) (next:(Int×(A24 Bool))→Option Bool) (v:Int×(A24 Bool)):Option Bool:=xZ8J N c.1 c.2.1 c.2.2.2.1 (fun u0 u1=>next (u0,u1)) v.1 v.2
abbrev xZfb (N:Nat):((List xZ1)×Int×(List xZ1)×(List xZ4)×Int×(List UInt8)×Int)×(Int×(A24 Bool))→Option Bool:=fun a=>loopV (xZcb N a.1) N a.2
def xZ7P:Con tb:=.s 13 [true,true] (.c (.i .u32) (.c (.i .i64) .n)) (fun N a=>xZ4N N a.1 a.2.1) (R:=Bool) (.p .b) (fun _=>⟨rfl,(by kernel_rfl)⟩)
def xZ5k:Con tb:=.m 54 [false,true,true] (.c (.ptr 0 0) (.c (.i .u32) (.c (.i .u32) .n))) (.c (.c (.r 4) (.c (.i .i64) (.c (.own 0) .n))) .n) (.l 11 .n) (fun N a=>xZ3j N a.1.2.1 a.1.2.2.1 a.2.1.1.1 a.2.1.1.2.1 a.2.2.1) (R:=List xZ1×Int×List Int) (.m (R:=List xZ1×Int×List Int) (.tu .n) (.c (.c (.r 4) (.c (.i .i64) (.c (.own 0) .n))) .n) (.l 11 .n) (fun z=>(z.2.1.1.1,z.2.1.1.2.1,z.2.2.1)) (fun r=>((),((r.1,r.2.1,(),()),()),r.2.2,())) (fun _=>rfl))
def xZ3F:LQ tb ((Int×Int×Int×(List xZ1)×Int)×(Int×(List Int))):=(LQ.m [] [0,1,2,11,12] (.c 0 (.ptr 0 0) (.c 1 (.i .u32) (.c 2 (.i .u32) (.c 11 (.i .i64) (.c 12 (.i .i64) .n))))) (.c (.c (.r 4) (.c (.i .i64) (.c (.own 0) .n))) .n) (.l 11 .n)).re (fun a=>((a.1.2.1,a.1.2.2.1,a.1.2.2.2.1,a.2.1.1.1,a.2.1.1.2.1),(a.1.2.2.2.2.1,a.2.2.1))) (fun x=>(((),x.1.1,x.1.2.1,x.1.2.2.1,x.2.1,()),((x.1.2.2.2.1,x.1.2.2.2.2,(),()),()),x.2.2,())) (fun _=>rfl)
def xZ7a (N:Nat) (c:Int×Int×Int×(List xZ1)×Int) (next:(Int×(List Int))→Option (List xZ1×Int×List Int)) (v:Int×(List Int)):Option (List xZ1×Int×List Int):=xZ54 N c.1 c.2.1 c.2.2.1 c.2.2.2.1 c.2.2.2.2 (fun u0 u1=>next (u0,u1)) v.1 v.2
abbrev xZ9K (N:Nat):(Int×Int×Int×(List xZ1)×Int)×(Int×(List Int))→Option (List xZ1×Int×List Int):=fun a=>loopV (xZ7a N a.1) N a.2
def xZ2Z:Con tb:=.m 31 [false] (.c (.ptr 0 0) .n) (.c (.c (.r 4) (.c (.i .i64) (.c (.own 0) .n))) .n) (.l 11 .n) (fun N a=>xZ7J N a.2.1.1.1 a.2.1.1.2.1 a.2.2.1) (R:=xZS×List xZ1×Int×List Int) (.m (R:=xZS×List xZ1×Int×List Int) (.el tb_ok 12) (.c (.c (.r 4) (.c (.i .i64) (.c (.own 0) .n))) .n) (.l 11 .n) (fun z=>(z.1,z.2.1.1.1,z.2.1.1.2.1,z.2.2.1)) (fun r=>(r.1,((r.2.1,r.2.2.1,(),()),()),r.2.2.2,())) (fun _=>rfl))
def xZb3:Con tb:=.p 14 [true] (.c (.el tb_ok 8) .n) (fun N a=>xZ57 N a.1) (R:=xZ2X×Int) (.p (.tu (.c (.el tb_ok 13) (.o (.i .i64))))) (fun _=>rfl)
def xZ4W:Con tb:=.m 23 [false] (.c (.ptr 0 0) .n) (.c (.c (.r 4) (.c (.r 2) (.c (.i .i64) (.c .s (.c (.i .u8) (.c .b (.c (.i .u32) (.c (.i .u32) (.c (.r 11) (.c (.i .u32) .n)))))))))) .n) .n (fun N a=>xZ3J N a.2.1.1.1 a.2.1.1.2.1 a.2.1.1.2.2.1 a.2.1.1.2.2.2.1 a.2.1.1.2.2.2.2.1 a.2.1.1.2.2.2.2.2.1 a.2.1.1.2.2.2.2.2.2.1 a.2.1.1.2.2.2.2.2.2.2.1 a.2.1.1.2.2.2.2.2.2.2.2.1 a.2.1.1.2.2.2.2.2.2.2.2.2.1) (R:=Bool×List xZ1×List xZ4×Int×List UInt8×Int×Bool×Int×Int×List Int×Int) (.m (R:=Bool×List xZ1×List xZ4×Int×List UInt8×Int×Bool×Int×Int×List Int×Int) .b (.c (.c (.r 4) (.c (.r 2) (.c (.i .i64) (.c .s (.c (.i .u8) (.c .b (.c (.i .u32) (.c (.i .u32) (.c (.r 11) (.c (.i .u32) .n)))))))))) .n) .n (fun z=>(z.1,z.2.1.1.1,z.2.1.1.2.1,z.2.1.1.2.2.1,z.2.1.1.2.2.2.1,z.2.1.1.2.2.2.2.1,z.2.1.1.2.2.2.2.2.1,z.2.1.1.2.2.2.2.2.2.1,z.2.1.1.2.2.2.2.2.2.2.1,z.2.1.1.2.2.2.2.2.2.2.2.1,z.2.1.1.2.2.2.2.2.2.2.2.2.1)) (fun r=>(r.1,((r.2.1,r.2.2.1,r.2.2.2.1,r.2.2.2.2.1,r.2.2.2.2.2.1,r.2.2.2.2.2.2.1,r.2.2.2.2.2.2.2.1,r.2.2.2.2.2.2.2.2.1,r.2.2.2.2.2.2.2.2.2.1,r.2.2.2.2.2.2.2.2.2.2,()),()),())) (fun _=>rfl))
def xZ2o:LQ tb (((List xZ1)×(List xZ4)×Int×(List UInt8)×Int×Bool×Int×Int×(List Int)×Int)×(Int×Bool)):=(LQ.m [] [0,3,4] (.c 0 (.ptr 0 0) (.c 3 (.i .u32) (.c 4 .b .n))) (.c (.c (.r 4) (.c (.r 2) (.c (.i .i64) (.c .s (.c (.i .u8) (.c .b (.c (.i .u32) (.c (.i .u32) (.c (.r 11) (.c (.i .u32) .n)))))))))) .n) .n).re (fun a=>((a.2.1.1.1,a.2.1.1.2.1,a.2.1.1.2.2.1,a.2.1.1.2.2.2.1,a.2.1.1.2.2.2.2.1,a.2.1.1.2.2.2.2.2.1,a.2.1.1.2.2.2.2.2.2.1,a.2.1.1.2.2.2.2.2.2.2.1,a.2.1.1.2.2.2.2.2.2.2.2.1,a.2.1.1.2.2.2.2.2.2.2.2.2.1),(a.1.2.1,a.1.2.2.1))) (fun x=>(((),x.2.1,x.2.2,()),((x.1.1,x.1.2.1,x.1.2.2.1,x.1.2.2.2.1,x.1.2.2.2.2.1,x.1.2.2.2.2.2.1,x.1.2.2.2.2.2.2.1,x.1.2.2.2.2.2.2.2.1,x.1.2.2.2.2.2.2.2.2.1,x.1.2.2.2.2.2.2.2.2.2,()),()),())) (fun _=>rfl)
def xZ3k:LQ tb ((Int×(List xZ1)×(List xZ4)×Int×(List UInt8)×Int×Bool×Int×Int×(List Int)×Int)×(Int×Bool×Int)):=(LQ.m [] [0,3,4,20,21] (.c 0 (.ptr 0 0) (.c 3 (.i .u32) (.c 4 .b (.c 20 (.i .i64) (.c 21 (.i .i64) .n))))) (.c (.c (.r 4) (.c (.r 2) (.c (.i .i64) (.c .s (.c (.i .u8) (.c .b (.c (.i .u32) (.c (.i .u32) (.c (.r 11) (.c (.i .u32) .n)))))))))) .n) .n).re (fun a=>((a.1.2.2.2.1,a.2.1.1.1,a.2.1.1.2.1,a.2.1.1.2.2.1,a.2.1.1.2.2.2.1,a.2.1.1.2.2.2.2.1,a.2.1.1.2.2.2.2.2.1,a.2.1.1.2.2.2.2.2.2.1,a.2.1.1.2.2.2.2.2.2.2.1,a.2.1.1.2.2.2.2.2.2.2.2.1,a.2.1.1.2.2.2.2.2.2.2.2.2.1),(a.1.2.1,a.1.2.2.1,a.1.2.2.2.2.1))) (fun x=>(((),x.2.1,x.2.2.1,x.1.1,x.2.2.2,()),((x.1.2.1,x.1.2.2.1,x.1.2.2.2.1,x.1.2.2.2.2.1,x.1.2.2.2.2.2.1,x.1.2.2.2.2.2.2.1,x.1.2.2.2.2.2.2.2.1,x.1.2.2.2.2.2.2.2.2.1,x.1.2.2.2.2.2.2.2.2.2.1,x.1.2.2.2.2.2.2.2.2.2.2,()),()),())) (fun _=>rfl)
def xZ6i (N:Nat) (next0:((List xZ1)×(List xZ4)×Int×(List UInt8)×Int×Bool×Int×Int×(List Int)×Int)×(Int×Bool)→Option (Bool×List xZ1×List xZ4×Int×List UInt8×Int×Bool×Int×Int×List Int×Int)) (c:Int×(List xZ1)×(List xZ4)×Int×(List UInt8)×Int×Bool×Int×Int×(List Int)×Int) (next:(Int×Bool×Int)→Option (Bool×List xZ1×List xZ4×Int×List UInt8×Int×Bool×Int×Int×List Int×Int)) (v:Int×Bool×Int):Option (Bool×List xZ1×List xZ4×Int×List UInt8×Int×Bool×Int×Int×List Int×Int):=xZ4D N c.1 c.2.2.2.2.2.2.2.2.2.1 (fun u0 u1=>next0 ((c.2.1,c.2.2.1,c.2.2.2.1,c.2.2.2.2.1,c.2.2.2.2.2.1,c.2.2.2.2.2.2.1,c.2.2.2.2.2.2.2.1,c.2.2.2.2.2.2.2.2.1,c.2.2.2.2.2.2.2.2.2.1,c.2.2.2.2.2.2.2.2.2.2),(u0,u1))) (fun u0 u1 u2=>next (u0,u1,u2)) v.1 v.2.1 v.2.2
abbrev xZ9b (N:Nat) (next0:((List xZ1)×(List xZ4)×Int×(List UInt8)×Int×Bool×Int×Int×(List Int)×Int)×(Int×Bool)→Option (Bool×List xZ1×List xZ4×Int×List UInt8×Int×Bool×Int×Int×List Int×Int)):(Int×(List xZ1)×(List xZ4)×Int×(List UInt8)×Int×Bool×Int×Int×(List Int)×Int)×(Int×Bool×Int)→Option (Bool×List xZ1×List xZ4×Int×List UInt8×Int×Bool×Int×Int×List Int×Int):=fun a=>loopV (xZ6i N next0 a.1) N a.2
def xZ6h (N:Nat) (c:(List xZ1)×(List xZ4)×Int×(List UInt8)×Int×Bool×Int×Int×(List Int)×Int) (next:(Int×Bool)→Option (Bool×List xZ1×List xZ4×Int×List UInt8×Int×Bool×Int×Int×List Int×Int)) (v:Int×Bool):Option (Bool×List xZ1×List xZ4×Int×List UInt8×Int×Bool×Int×Int×List Int×Int):=xZ4C N c.1 c.2.1 c.2.2.1 c.2.2.2.1 c.2.2.2.2.1 c.2.2.2.2.2.1 c.2.2.2.2.2.2.1 c.2.2.2.2.2.2.2.1 c.2.2.2.2.2.2.2.2.1 c.2.2.2.2.2.2.2.2.2 (fun u0 u1=>next (u0,u1)) v.1 v.2
abbrev xZ9a (N:Nat):((List xZ1)×(List xZ4)×Int×(List UInt8)×Int×Bool×Int×Int×(List Int)×Int)×(Int×Bool)→Option (Bool×List xZ1×List xZ4×Int×List UInt8×Int×Bool×Int×Int×List Int×Int):=fun a=>loopV (xZ6h N a.1) N a.2
def xZ8N:Con tb:=.s 99 [true] (.c (.i .u64) .n) (fun N a=>xZ4m N a.1) (R:=Int) (.p (.i .i64)) (fun _=>⟨rfl,(by kernel_rfl)⟩)
def xZ7o:Con tb:=.s 63 [true] (.c (.i .u64) .n) (fun N a=>xZ61 N a.1) (R:=Int) (.p (.i .i64)) (fun _=>⟨rfl,(by kernel_rfl)⟩)
def xZab:Con tb:=.s 100 [true] (.c (.i .i64) .n) (fun N a=>xZ8I N a.1) (R:=Bool) (.p .b) (fun _=>⟨rfl,(by kernel_rfl)⟩)
def xZ8M:Con tb:=.s 65 [true,true] (.c (.i .i64) (.c (.i .i64) .n)) (fun N a=>xZ7M N a.1 a.2.1) (R:=Int) (.p (.i .i64)) (fun _=>⟨rfl,(by kernel_rfl)⟩)
def xZ6Q:Con tb:=.s 101 [true] (.c (.i .u32) .n) (fun N a=>xZ3V N a.1) (R:=Bool) (.p .b) (fun _=>⟨rfl,(by kernel_rfl)⟩)
def xZ7O:Con tb:=.s 66 [true,true] (.c (.i .u32) (.c (.i .u32) .n)) (fun N a=>xZ5Q N a.1 a.2.1) (R:=Int) (.p (.i .i64)) (fun _=>⟨rfl,(by kernel_rfl)⟩)
def xZch:Con tb:=.s 64 [true] (.c (.r 0) .n) (fun N a=>xZcH N a.1) (R:=Int) (.p (.i .i64)) (fun _=>⟨rfl,(by kernel_rfl)⟩)
def xZ94:LQ tb (((List Int)×Int)×(Int)):=(LQ.m [] [3,6,7,8] (.c 3 (.li .i64 0) (.c 6 (.r 0) (.c 7 (.i .i64) (.c 8 (.i .i64) .n)))) .n .n).re (fun a=>((a.1.2.1,a.1.2.2.1),a.1.2.2.2.1)) (fun x=>(((),x.1.1,x.1.2,x.2,()),(),())) (fun _=>rfl)
def xZcS (N:Nat) (c:(List Int)×Int) (next:Int→Option Int) (v:Int):Option Int:=xZdc N c.1 c.2 (fun u0=>next u0) v
abbrev xZg5 (N:Nat):((List Int)×Int)×(Int)→Option Int:=fun a=>loopV (xZcS N a.1) 8 a.2
def xZ5F:Con tb:=.s 44 [true,true] (.c (.el tb_ok 14) (.c (.el tb_ok 14) .n)) (fun N a=>xZ1M N a.1 a.2.1) (R:=Int) (.p (.i .i64)) (fun _=>⟨rfl,(by kernel_rfl)⟩)
def xZ29:Con tb:=.m 90 [false,true,true,false] (.c (.own 0) (.c (.i .i64) (.c (.i .i64) (.c (.fn 44 .n .n) .n)))) .n (.l 14 .n) (fun N a=>xZ1e N a.1.2.1 a.1.2.2.1 a.2.2.1) (R:=List xZ0) (.m (R:=List xZ0) (.tu .n) .n (.l 14 .n) (fun z=>z.2.2.1) (fun r=>((),(),r,())) (fun _=>rfl))
def xZx:LQ tb ((Int×Int)×(Int×(List xZ0))):=(LQ.m [] [0,1,2,3,8] (.c 0 (.own 0) (.c 1 (.i .i64) (.c 2 (.i .i64) (.c 3 (.fn 44 .n .n) (.c 8 (.i .i64) .n))))) .n (.l 14 .n)).re (fun a=>((a.1.2.1,a.1.2.2.1),(a.1.2.2.2.2.1,a.2.2.1))) (fun x=>(((),x.1.1,x.1.2,((),()),x.2.1,()),(),x.2.2,())) (fun _=>rfl)
def xZX:LQ tb ((Int×Int×Int)×(Int×(List xZ0))):=(LQ.m [] [0,1,2,3,8,9] (.c 0 (.own 0) (.c 1 (.i .i64) (.c 2 (.i .i64) (.c 3 (.fn 44 .n .n) (.c 8 (.i .i64) (.c 9 (.i .i64) .n)))))) .n (.l 14 .n)).re (fun a=>((a.1.2.1,a.1.2.2.1,a.1.2.2.2.2.1),(a.1.2.2.2.2.2.1,a.2.2.1))) (fun x=>(((),x.1.1,x.1.2.1,((),()),x.1.2.2,x.2.1,()),(),x.2.2,())) (fun _=>rfl)
def xZ3i (N:Nat) (next0:(Int×Int)×(Int×(List xZ0))→Option (List xZ0)) (c:Int×Int×Int) (next:(Int×(List xZ0))→Option (List xZ0)) (v:Int×(List xZ0)):Option (List xZ0):=xZ21 N c.1 c.2.2 (fun u0 u1=>next0 ((c.1,c.2.1),(u0,u1))) (fun u0 u1=>next (u0,u1)) v.1 v.2
abbrev xZ5s (N:Nat) (next0:(Int×Int)×(Int×(List xZ0))→Option (List xZ0)):(Int×Int×Int)×(Int×(List xZ0))→Option (List xZ0):=fun a=>loopV (xZ3i N next0 a.1) N a.2
def xZ3h (N:Nat) (c:Int×Int) (next:(Int×(List xZ0))→Option (List xZ0)) (v:Int×(List xZ0)):Option (List xZ0):=xZ20 N c.1 c.2 (fun u0 u1=>next (u0,u1)) v.1 v.2
abbrev xZ5r (N:Nat):(Int×Int)×(Int×(List xZ0))→Option (List xZ0):=fun a=>loopV (xZ3h N a.1) N a.2
def xZ2F:Con tb:=.m 135 [false,true,true,true,false] (.c (.own 0) (.c (.i .i64) (.c (.i .i64) (.c (.i .i64) (.c (.fn 44 .n .n) .n))))) .n (.l 14 .n) (fun N a=>xZ13 N a.1.2.1 a.1.2.2.1 a.1.2.2.2.1 a.2.2.1) (R:=List xZ0) (.m (R:=List xZ0) (.tu .n) .n (.l 14 .n) (fun z=>z.2.2.1) (fun r=>((),(),r,())) (fun _=>rfl))
def xZ1y:LQ tb ((Int×Int)×(Int×(List xZ0))):=(LQ.m [] [0,2,3,4,10] (.c 0 (.own 0) (.c 2 (.i .i64) (.c 3 (.i .i64) (.c 4 (.fn 44 .n .n) (.c 10 (.i .i64) .n))))) .n (.l 14 .n)).re (fun a=>((a.1.2.1,a.1.2.2.1),(a.1.2.2.2.2.1,a.2.2.1))) (fun x=>(((),x.1.1,x.1.2,((),()),x.2.1,()),(),x.2.2,())) (fun _=>rfl)
def xZ3Y (N:Nat) (c:Int×Int) (next:(Int×(List xZ0))→Option (List xZ0)) (v:Int×(List xZ0)):Option (List xZ0):=xZ2t N c.1 c.2 (fun u0 u1=>next (u0,u1)) v.1 v.2
abbrev xZ6x (N:Nat):(Int×Int)×(Int×(List xZ0))→Option (List xZ0):=fun a=>loopV (xZ3Y N a.1) N a.2
def xZ2E:Con tb:=.m 91 [false,true,true,false] (.c (.own 0) (.c (.i .i64) (.c (.i .i64) (.c (.fn 44 .n .n) .n)))) .n (.l 14 .n) (fun N a=>xZ1R N a.1.2.1 a.1.2.2.1 a.2.2.1) (R:=List xZ0) (.m (R:=List xZ0) (.tu .n) .n (.l 14 .n) (fun z=>z.2.2.1) (fun r=>((),(),r,())) (fun _=>rfl))
def xZ1w:LQ tb ((Int×Int)×(Int×(List xZ0))):=(LQ.m [] [0,3,8,9,10,11] (.c 0 (.own 0) (.c 3 (.fn 44 .n .n) (.c 8 (.i .i64) (.c 9 (.li .i64 0) (.c 10 (.i .i64) (.c 11 (.i .i64) .n)))))) .n (.l 14 .n)).re (fun a=>((a.1.2.2.1,a.1.2.2.2.2.1),(a.1.2.2.2.2.2.1,a.2.2.1))) (fun x=>(((),((),()),x.1.1,(),x.1.2,x.2.1,()),(),x.2.2,())) (fun _=>rfl)
def xZ1x:LQ tb ((Int)×(Int×(List xZ0))):=(LQ.m [] [0,3,8,9,12] (.c 0 (.own 0) (.c 3 (.fn 44 .n .n) (.c 8 (.i .i64) (.c 9 (.li .i64 0) (.c 12 (.i .i64) .n))))) .n (.l 14 .n)).re (fun a=>(a.1.2.2.1,(a.1.2.2.2.2.1,a.2.2.1))) (fun x=>(((),((),()),x.1,(),x.2.1,()),(),x.2.2,())) (fun _=>rfl)
def xZ3X (N:Nat) (c:Int) (next:(Int×(List xZ0))→Option (List xZ0)) (v:Int×(List xZ0)):Option (List xZ0):=xZ2s N c (fun u0 u1=>next (u0,u1)) v.1 v.2
abbrev xZ6w (N:Nat):(Int)×(Int×(List xZ0))→Option (List xZ0):=fun a=>loopV (xZ3X N a.1) N a.2
def xZ3W (N:Nat) (c:Int×Int) (next:(Int×(List xZ0))→Option (List xZ0)) (v:Int×(List xZ0)):Option (List xZ0):=xZ2r N c.1 c.2 (fun u0 u1=>next (u0,u1)) v.1 v.2
abbrev xZ6v (N:Nat):(Int×Int)×(Int×(List xZ0))→Option (List xZ0):=fun a=>loopV (xZ3W N a.1) N a.2
def xZ4P:Con tb:=.s 136 [true] (.c (.i .i64) .n) (fun N a=>xZ3S N a.1) (R:=Int) (.p (.i .u64)) (fun _=>⟨rfl,(by kernel_rfl)⟩)
def xZ3D:Con tb:=.m 137 [false] (.c (.ptr 0 0) .n) (.c (.c (.i .u64) .n) .n) .n (fun N a=>xZ2R N a.2.1.1.1) (R:=Int×Int) (.m (R:=Int×Int) (.i .u64) (.c (.c (.i .u64) .n) .n) .n (fun z=>(z.1,z.2.1.1.1)) (fun r=>(r.1,((r.2,()),()),())) (fun _=>rfl))
def xZ28:Con tb:=.m 92 [false,true,true,false] (.c (.own 0) (.c (.i .i64) (.c (.i .i64) (.c (.fn 44 .n .n) .n)))) .n (.l 14 .n) (fun N a=>xZ1d N a.1.2.1 a.1.2.2.1 a.2.2.1) (R:=List xZ0) (.m (R:=List xZ0) (.tu .n) .n (.l 14 .n) (fun z=>z.2.2.1) (fun r=>((),(),r,())) (fun _=>rfl))
def xZW:LQ tb ((Int×Int×Int)×(Int×Int×(List xZ0))):=(LQ.m [] [0,1,8,9,10,11] (.c 0 (.own 0) (.c 1 (.i .i64) (.c 8 (.i .i64) (.c 9 (.ptr 0 0) (.c 10 (.i .u64) (.c 11 (.i .i64) .n)))))) (.c (.c (.i .u64) .n) .n) (.l 14 .n)).re (fun a=>((a.1.2.1,a.1.2.2.1,a.1.2.2.2.2.1),(a.1.2.2.2.2.2.1,a.2.1.1.1,a.2.2.1))) (fun x=>(((),x.1.1,x.1.2.1,(),x.1.2.2,x.2.1,()),((x.2.2.1,()),()),x.2.2.2,())) (fun _=>rfl)
def xZ3g (N:Nat) (c:Int×Int×Int) (next:(Int×Int×(List xZ0))→Option (List xZ0)) (v:Int×Int×(List xZ0)):Option (List xZ0):=xZ1Z N c.1 c.2.1 c.2.2 (fun u0 u1 u2=>next (u0,u1,u2)) v.1 v.2.1 v.2.2
abbrev xZ5q (N:Nat):(Int×Int×Int)×(Int×Int×(List xZ0))→Option (List xZ0):=fun a=>loopV (xZ3g N a.1) N a.2
def xZ30:Con tb:=.m 161 [false,true,true,false,false] (.c (.own 0) (.c (.i .i64) (.c (.i .i64) (.c (.ptr 0 0) (.c (.fn 44 .n .n) .n))))) (.c (.c (.i .i64) .n) .n) (.l 14 .n) (fun N a=>xZI N a.1.2.1 a.1.2.2.1 a.2.1.1.1 a.2.2.1) (R:=Int×Int×Int×List xZ0) (.m (R:=Int×Int×Int×List xZ0) (.tu (.c (.i .i64) (.o (.i .i64)))) (.c (.c (.i .i64) .n) .n) (.l 14 .n) (fun z=>(z.1.1,z.1.2,z.2.1.1.1,z.2.2.1)) (fun r=>((r.1,r.2.1),((r.2.2.1,()),()),r.2.2.2,())) (fun _=>rfl))
def xZ22:Con tb:=.m 139 [false,true,true,true,false,false] (.c (.own 0) (.c (.i .i64) (.c (.i .i64) (.c (.i .i64) (.c (.ptr 0 0) (.c (.fn 44 .n .n) .n)))))) (.c (.c (.i .i64) .n) .n) (.l 14 .n) (fun N a=>xZu N a.1.2.1 a.1.2.2.1 a.1.2.2.2.1 a.2.1.1.1 a.2.2.1) (R:=Int×Int×List xZ0) (.m (R:=Int×Int×List xZ0) (.i .i64) (.c (.c (.i .i64) .n) .n) (.l 14 .n) (fun z=>(z.1,z.2.1.1.1,z.2.2.1)) (fun r=>(r.1,((r.2.1,()),()),r.2.2,())) (fun _=>rfl))
def xZ24:Con tb:=.m 138 [false,true,false,false] (.c (.own 0) (.c (.i .i64) (.c (.ptr 0 0) (.c (.fn 44 .n .n) .n)))) (.c (.c (.i .i64) .n) .n) (.l 14 .n) (fun N a=>xZf N a.1.2.1 a.2.1.1.1 a.2.2.1) (R:=Int×Int×List xZ0) (.m (R:=Int×Int×List xZ0) (.i .i64) (.c (.c (.i .i64) .n) .n) (.l 14 .n) (fun z=>(z.1,z.2.1.1.1,z.2.2.1)) (fun r=>(r.1,((r.2.1,()),()),r.2.2,())) (fun _=>rfl))
def xZ2h:Con tb:=.m 93 [false,true,true,false] (.c (.own 0) (.c (.i .i64) (.c (.i .i64) (.c (.fn 44 .n .n) .n)))) .n (.l 14 .n) (fun N a=>xZL N a.1.2.1 a.1.2.2.1 a.2.2.1) (R:=Int×Int×List xZ0) (.m (R:=Int×Int×List xZ0) (.tu (.c (.i .i64) (.o (.i .i64)))) .n (.l 14 .n) (fun z=>(z.1.1,z.1.2,z.2.2.1)) (fun r=>((r.1,r.2.1),(),r.2.2,())) (fun _=>rfl))
def xZ2d:Con tb:=.m 94 [false,true,true,false] (.c (.own 0) (.c (.i .i64) (.c (.i .i64) (.c (.fn 44 .n .n) .n)))) .n (.l 14 .n) (fun N a=>xZ1k N a.1.2.1 a.1.2.2.1 a.2.2.1) (R:=List xZ0) (.m (R:=List xZ0) (.tu .n) .n (.l 14 .n) (fun z=>z.2.2.1) (fun r=>((),(),r,())) (fun _=>rfl))
def xZ15:LQ tb ((Unit)×(Int×Int×(List xZ0))):=(LQ.m [] [0,8,9] (.c 0 (.own 0) (.c 8 (.i .i64) (.c 9 (.i .i64) .n))) .n (.l 14 .n)).re (fun a=>((),(a.1.2.1,a.1.2.2.1,a.2.2.1))) (fun x=>(((),x.2.1,x.2.2.1,()),(),x.2.2.2,())) (fun _=>rfl)
def xZ3o (N:Nat) (c:Unit) (next:(Int×Int×(List xZ0))→Option (List xZ0)) (v:Int×Int×(List xZ0)):Option (List xZ0):=xZ26 N (fun u0 u1 u2=>next (u0,u1,u2)) v.1 v.2.1 v.2.2
abbrev xZ5A (N:Nat):(Unit)×(Int×Int×(List xZ0))→Option (List xZ0):=fun a=>loopV (xZ3o N a.1) N a.2
def xZ1t:Con tb:=.m 95 [false,true,true,false] (.c (.own 0) (.c (.i .i64) (.c (.i .i64) (.c (.fn 44 .n .n) .n)))) .n (.l 14 .n) (fun N a=>xZG N a.1.2.1 a.1.2.2.1 a.2.2.1) (R:=Bool×List xZ0) (.m (R:=Bool×List xZ0) .b .n (.l 14 .n) (fun z=>(z.1,z.2.2.1)) (fun r=>(r.1,(),r.2,())) (fun _=>rfl))
def xZa:LQ tb ((Int×Int)×(Int×Int×(List xZ0))):=(LQ.m [] [0,1,2,3,9,10] (.c 0 (.own 0) (.c 1 (.i .i64) (.c 2 (.i .i64) (.c 3 (.fn 44 .n .n) (.c 9 (.i .i64) (.c 10 (.i .i64) .n)))))) .n (.l 14 .n)).re (fun a=>((a.1.2.1,a.1.2.2.1),(a.1.2.2.2.2.1,a.1.2.2.2.2.2.1,a.2.2.1))) (fun x=>(((),x.1.1,x.1.2,((),()),x.2.1,x.2.2.1,()),(),x.2.2.2,())) (fun _=>rfl)
def xZz:LQ tb ((Int×Int×Int×(List xZ0))×(Int)):=(LQ.m [] [0,1,2,3,9,10] (.c 0 (.own 0) (.c 1 (.i .i64) (.c 2 (.i .i64) (.c 3 (.fn 44 .n .n) (.c 9 (.i .i64) (.c 10 (.i .i64) .n)))))) .n (.l 14 .n)).re (fun a=>((a.1.2.1,a.1.2.2.1,a.1.2.2.2.2.2.1,a.2.2.1),a.1.2.2.2.2.1)) (fun x=>(((),x.1.1,x.1.2.1,((),()),x.2,x.1.2.2.1,()),(),x.1.2.2.2,())) (fun _=>rfl)
def xZA:LQ tb ((Int×Int×Int×Int)×(Int×(List xZ0))):=(LQ.m [] [0,1,2,3,9,10,11] (.c 0 (.own 0) (.c 1 (.i .i64) (.c 2 (.i .i64) (.c 3 (.fn 44 .n .n) (.c 9 (.i .i64) (.c 10 (.i .i64) (.c 11 (.i .i64) .n))))))) .n (.l 14 .n)).re (fun a=>((a.1.2.1,a.1.2.2.1,a.1.2.2.2.2.1,a.1.2.2.2.2.2.1),(a.1.2.2.2.2.2.2.1,a.2.2.1))) (fun x=>(((),x.1.1,x.1.2.1,((),()),x.1.2.2.1,x.1.2.2.2,x.2.1,()),(),x.2.2,())) (fun _=>rfl)
def xZl:LQ tb ((Int×Int×Int×Int)×(Int×(List xZ0))):=(LQ.m [] [0,1,2,3,9,10,12] (.c 0 (.own 0) (.c 1 (.i .i64) (.c 2 (.i .i64) (.c 3 (.fn 44 .n .n) (.c 9 (.i .i64) (.c 10 (.i .i64) (.c 12 (.i .i64) .n))))))) .n (.l 14 .n)).re (fun a=>((a.1.2.1,a.1.2.2.1,a.1.2.2.2.2.1,a.1.2.2.2.2.2.1),(a.1.2.2.2.2.2.2.1,a.2.2.1))) (fun x=>(((),x.1.1,x.1.2.1,((),()),x.1.2.2.1,x.1.2.2.2,x.2.1,()),(),x.2.2,())) (fun _=>rfl)
def xZ2x (N:Nat) (next0:(Int×Int)×(Int×Int×(List xZ0))→Option (Bool×List xZ0)) (c:Int×Int×Int×Int) (next:(Int×(List xZ0))→Option (Bool×List xZ0)) (v:Int×(List xZ0)):Option (Bool×List xZ0):=xZ8 N c.2.1 c.2.2.1 c.2.2.2 (fun u0 u1 u2=>next0 ((c.1,c.2.1),(u0,u1,u2))) (fun u0 u1=>next (u0,u1)) v.1 v.2
abbrev xZ2y (N:Nat) (next0:(Int×Int)×(Int×Int×(List xZ0))→Option (Bool×List xZ0)):(Int×Int×Int×Int)×(Int×(List xZ0))→Option (Bool×List xZ0):=fun a=>loopV (xZ2x N next0 a.1) N a.2
def xZ2w (N:Nat) (next0:(Int×Int)×(Int×Int×(List xZ0))→Option (Bool×List xZ0)) (c:Int×Int×Int×Int) (next:(Int×(List xZ0))→Option (Bool×List xZ0)) (v:Int×(List xZ0)):Option (Bool×List xZ0):=xZm N c.2.1 c.2.2.1 c.2.2.2 (fun u0 u1 u2=>next0 ((c.1,c.2.1),(u0,u1,u2))) (fun u0 u1=>next (u0,u1)) v.1 v.2
abbrev xZ4I (N:Nat) (next0:(Int×Int)×(Int×Int×(List xZ0))→Option (Bool×List xZ0)):(Int×Int×Int×Int)×(Int×(List xZ0))→Option (Bool×List xZ0):=fun a=>loopV (xZ2w N next0 a.1) N a.2
def xZ2v (N:Nat) (next0:(Int×Int)×(Int×Int×(List xZ0))→Option (Bool×List xZ0)) (c:Int×Int×Int×(List xZ0)) (next:Int→Option (Bool×List xZ0)) (v:Int):Option (Bool×List xZ0):=xZ1h N c.1 c.2.1 c.2.2.1 c.2.2.2 (fun u0 u1 u2=>next0 ((c.1,c.2.1),(u0,u1,u2))) (fun u0=>next u0) v
abbrev xZ4H (N:Nat) (next0:(Int×Int)×(Int×Int×(List xZ0))→Option (Bool×List xZ0)):(Int×Int×Int×(List xZ0))×(Int)→Option (Bool×List xZ0):=fun a=>loopV (xZ2v N next0 a.1) N a.2
def xZ2u (N:Nat) (c:Int×Int) (next:(Int×Int×(List xZ0))→Option (Bool×List xZ0)) (v:Int×Int×(List xZ0)):Option (Bool×List xZ0):=xZ1g N c.1 c.2 (fun u0 u1 u2=>next (u0,u1,u2)) v.1 v.2.1 v.2.2
abbrev xZ4G (N:Nat):(Int×Int)×(Int×Int×(List xZ0))→Option (Bool×List xZ0):=fun a=>loopV (xZ2u N a.1) N a.2
def xZ25:Con tb:=.m 96 [false,true,true,true,false] (.c (.own 0) (.c (.i .i64) (.c (.i .i64) (.c (.i .i64) (.c (.fn 44 .n .n) .n))))) .n (.l 14 .n) (fun N a=>xZ16 N a.1.2.1 a.1.2.2.1 a.1.2.2.2.1 a.2.2.1) (R:=Int×List xZ0) (.m (R:=Int×List xZ0) (.i .i64) .n (.l 14 .n) (fun z=>(z.1,z.2.2.1)) (fun r=>(r.1,(),r.2,())) (fun _=>rfl))
def xZj:LQ tb ((Int)×(Int×Int×(List xZ0))):=(LQ.m [] [0,1,4,11,12] (.c 0 (.own 0) (.c 1 (.i .i64) (.c 4 (.fn 44 .n .n) (.c 11 (.i .i64) (.c 12 (.i .i64) .n))))) .n (.l 14 .n)).re (fun a=>(a.1.2.1,(a.1.2.2.2.1,a.1.2.2.2.2.1,a.2.2.1))) (fun x=>(((),x.1,((),()),x.2.1,x.2.2.1,()),(),x.2.2.2,())) (fun _=>rfl)
def xZT:LQ tb ((Int×Int×(List xZ0))×(Int)):=(LQ.m [] [0,1,4,11,12] (.c 0 (.own 0) (.c 1 (.i .i64) (.c 4 (.fn 44 .n .n) (.c 11 (.i .i64) (.c 12 (.i .i64) .n))))) .n (.l 14 .n)).re (fun a=>((a.1.2.1,a.1.2.2.2.2.1,a.2.2.1),a.1.2.2.2.1)) (fun x=>(((),x.1.1,((),()),x.2,x.1.2.1,()),(),x.1.2.2,())) (fun _=>rfl)
def xZU:LQ tb ((Int×Int×(List xZ0))×(Int)):=(LQ.m [] [0,1,4,11,12] (.c 0 (.own 0) (.c 1 (.i .i64) (.c 4 (.fn 44 .n .n) (.c 11 (.i .i64) (.c 12 (.i .i64) .n))))) .n (.l 14 .n)).re (fun a=>((a.1.2.1,a.1.2.2.2.1,a.2.2.1),a.1.2.2.2.2.1)) (fun x=>(((),x.1.1,((),()),x.1.2.1,x.2,()),(),x.1.2.2,())) (fun _=>rfl)
def xZ3c (N:Nat) (next0:(Int)×(Int×Int×(List xZ0))→Option (Int×List xZ0)) (c:Int×Int×(List xZ0)) (next:Int→Option (Int×List xZ0)) (v:Int):Option (Int×List xZ0):=xZw N c.1 c.2.1 c.2.2 (fun u0 u1 u2=>next0 (c.1,(u0,u1,u2))) (fun u0=>next u0) v
abbrev xZ5j (N:Nat) (next0:(Int)×(Int×Int×(List xZ0))→Option (Int×List xZ0)):(Int×Int×(List xZ0))×(Int)→Option (Int×List xZ0):=fun a=>loopV (xZ3c N next0 a.1) N a.2
def xZ3b (N:Nat) (next0:(Int)×(Int×Int×(List xZ0))→Option (Int×List xZ0)) (c:Int×Int×(List xZ0)) (next:Int→Option (Int×List xZ0)) (v:Int):Option (Int×List xZ0):=xZ1S N c.1 c.2.1 c.2.2 (fun u0 u1 u2=>next0 (c.1,(u0,u1,u2))) (fun u0=>next u0) v
abbrev xZ5i (N:Nat) (next0:(Int)×(Int×Int×(List xZ0))→Option (Int×List xZ0)):(Int×Int×(List xZ0))×(Int)→Option (Int×List xZ0):=fun a=>loopV (xZ3b N next0 a.1) N a.2
def xZ3a (N:Nat) (c:Int) (next:(Int×Int×(List xZ0))→Option (Int×List xZ0)) (v:Int×Int×(List xZ0)):Option (Int×List xZ0):=xZV N c (fun u0 u1 u2=>next (u0,u1,u2)) v.1 v.2.1 v.2.2
abbrev xZ5h (N:Nat):(Int)×(Int×Int×(List xZ0))→Option (Int×List xZ0):=fun a=>loopV (xZ3a N a.1) N a.2
def xZ2A:Con tb:=.m 97 [false,true,true,true,false] (.c (.own 0) (.c (.i .i64) (.c (.i .i64) (.c (.i .i64) (.c (.fn 44 .n .n) .n))))) .n (.l 14 .n) (fun N a=>xZ1G N a.1.2.1 a.1.2.2.1 a.1.2.2.2.1 a.2.2.1) (R:=Int×Bool×List xZ0) (.m (R:=Int×Bool×List xZ0) (.tu (.c (.i .i64) (.o .b))) .n (.l 14 .n) (fun z=>(z.1.1,z.1.2,z.2.2.1)) (fun r=>((r.1,r.2.1),(),r.2.2,())) (fun _=>rfl))
def xZ1n:LQ tb ((Int×Int×(List xZ0))×(Int)):=(LQ.m [] [0,1,4,12,13] (.c 0 (.own 0) (.c 1 (.i .i64) (.c 4 (.fn 44 .n .n) (.c 12 (.i .i64) (.c 13 (.i .i64) .n))))) .n (.l 14 .n)).re (fun a=>((a.1.2.1,a.1.2.2.2.2.1,a.2.2.1),a.1.2.2.2.1)) (fun x=>(((),x.1.1,((),()),x.2,x.1.2.1,()),(),x.1.2.2,())) (fun _=>rfl)
def xZ1o:LQ tb ((Int×Int×(List xZ0))×(Int)):=(LQ.m [] [0,1,4,12,13] (.c 0 (.own 0) (.c 1 (.i .i64) (.c 4 (.fn 44 .n .n) (.c 12 (.i .i64) (.c 13 (.i .i64) .n))))) .n (.l 14 .n)).re (fun a=>((a.1.2.1,a.1.2.2.2.1,a.2.2.1),a.1.2.2.2.2.1)) (fun x=>(((),x.1.1,((),()),x.1.2.1,x.2,()),(),x.1.2.2,())) (fun _=>rfl)
def xZs:LQ tb ((Int)×(Int×Int×(List xZ0))):=(LQ.m [] [0,1,4,12,13] (.c 0 (.own 0) (.c 1 (.i .i64) (.c 4 (.fn 44 .n .n) (.c 12 (.i .i64) (.c 13 (.i .i64) .n))))) .n (.l 14 .n)).re (fun a=>(a.1.2.1,(a.1.2.2.2.1,a.1.2.2.2.2.1,a.2.2.1))) (fun x=>(((),x.1,((),()),x.2.1,x.2.2.1,()),(),x.2.2.2,())) (fun _=>rfl)
def xZ1p:LQ tb ((Int×Int×(List xZ0))×(Int)):=(LQ.m [] [0,1,4,12,13] (.c 0 (.own 0) (.c 1 (.i .i64) (.c 4 (.fn 44 .n .n) (.c 12 (.i .i64) (.c 13 (.i .i64) .n))))) .n (.l 14 .n)).re (fun a=>((a.1.2.1,a.1.2.2.2.2.1,a.2.2.1),a.1.2.2.2.1)) (fun x=>(((),x.1.1,((),()),x.2,x.1.2.1,()),(),x.1.2.2,())) (fun _=>rfl)
def xZ1q:LQ tb ((Int×Int×(List xZ0))×(Int)):=(LQ.m [] [0,1,4,12,13] (.c 0 (.own 0) (.c 1 (.i .i64) (.c 4 (.fn 44 .n .n) (.c 12 (.i .i64) (.c 13 (.i .i64) .n))))) .n (.l 14 .n)).re (fun a=>((a.1.2.1,a.1.2.2.2.1,a.2.2.1),a.1.2.2.2.2.1)) (fun x=>(((),x.1.1,((),()),x.1.2.1,x.2,()),(),x.1.2.2,())) (fun _=>rfl)
def xZ3Q (N:Nat) (next4:(Int)×(Int×Int×(List xZ0))→Option (Int×Bool×List xZ0)) (c:Int×Int×(List xZ0)) (next:Int→Option (Int×Bool×List xZ0)) (v:Int):Option (Int×Bool×List xZ0):=xZO N c.1 c.2.1 c.2.2 (fun u0 u1 u2=>next4 (c.1,(u0,u1,u2))) (fun u0=>next u0) v
abbrev xZ6f (N:Nat) (next4:(Int)×(Int×Int×(List xZ0))→Option (Int×Bool×List xZ0)):(Int×Int×(List xZ0))×(Int)→Option (Int×Bool×List xZ0):=fun a=>loopV (xZ3Q N next4 a.1) N a.2
def xZ3P (N:Nat) (next4:(Int)×(Int×Int×(List xZ0))→Option (Int×Bool×List xZ0)) (c:Int×Int×(List xZ0)) (next:Int→Option (Int×Bool×List xZ0)) (v:Int):Option (Int×Bool×List xZ0):=xZ2l N c.1 c.2.1 c.2.2 (fun u0 u1 u2=>next4 (c.1,(u0,u1,u2))) (fun u0=>next u0) v
abbrev xZ6e (N:Nat) (next4:(Int)×(Int×Int×(List xZ0))→Option (Int×Bool×List xZ0)):(Int×Int×(List xZ0))×(Int)→Option (Int×Bool×List xZ0):=fun a=>loopV (xZ3P N next4 a.1) N a.2
def xZ3O (N:Nat) (c:Int) (next:(Int×Int×(List xZ0))→Option (Int×Bool×List xZ0)) (v:Int×Int×(List xZ0)):Option (Int×Bool×List xZ0):=xZN N c (fun u0 u1 u2=>next (u0,u1,u2)) v.1 v.2.1 v.2.2
abbrev xZ6d (N:Nat):(Int)×(Int×Int×(List xZ0))→Option (Int×Bool×List xZ0):=fun a=>loopV (xZ3O N a.1) N a.2
def xZ3N (N:Nat) (c:Int×Int×(List xZ0)) (next:Int→Option (Int×Bool×List xZ0)) (v:Int):Option (Int×Bool×List xZ0):=xZM N c.1 c.2.1 c.2.2 (fun u0=>next u0) v
abbrev xZ6c (N:Nat):(Int×Int×(List xZ0))×(Int)→Option (Int×Bool×List xZ0):=fun a=>loopV (xZ3N N a.1) N a.2
def xZ3M (N:Nat) (c:Int×Int×(List xZ0)) (next:Int→Option (Int×Bool×List xZ0)) (v:Int):Option (Int×Bool×List xZ0):=xZ2k N c.1 c.2.1 c.2.2 (fun u0=>next u0) v
abbrev xZ6b (N:Nat):(Int×Int×(List xZ0))×(Int)→Option (Int×Bool×List xZ0):=fun a=>loopV (xZ3M N a.1) N a.2
def xZ17:Con tb:=.m 62 [false,true,true,true,false] (.c (.own 0) (.c (.i .i64) (.c (.i .i64) (.c (.i .i64) (.c (.fn 44 .n .n) .n))))) .n (.l 14 .n) (fun N a=>xZ2V N a.1.2.1 a.1.2.2.1 a.1.2.2.2.1 a.2.2.1) (R:=List xZ0) (.m (R:=List xZ0) (.tu .n) .n (.l 14 .n) (fun z=>z.2.2.1) (fun r=>((),(),r,())) (fun _=>rfl))
def xZg:LQ tb ((Unit)×(Int×Int×Int×Bool×Bool×(List xZ0))):=(LQ.m [] [0,1,2,3,4,10,11] (.c 0 (.own 0) (.c 1 (.i .i64) (.c 2 (.i .i64) (.c 3 (.i .i64) (.c 4 (.fn 44 .n .n) (.c 10 .b (.c 11 .b .n))))))) .n (.l 14 .n)).re (fun a=>((),(a.1.2.1,a.1.2.2.1,a.1.2.2.2.1,a.1.2.2.2.2.2.1,a.1.2.2.2.2.2.2.1,a.2.2.1))) (fun x=>(((),x.2.1,x.2.2.1,x.2.2.2.1,((),()),x.2.2.2.2.1,x.2.2.2.2.2.1,()),(),x.2.2.2.2.2.2,())) (fun _=>rfl)
def xZ40:LQ tb ((Int×Int×Int×Bool×Bool×Int×(List xZ0))×(Unit)):=(LQ.m [] [0,1,2,3,4,10,11,12] (.c 0 (.own 0) (.c 1 (.i .i64) (.c 2 (.i .i64) (.c 3 (.i .i64) (.c 4 (.fn 44 .n .n) (.c 10 .b (.c 11 .b (.c 12 (.i .i64) .n)))))))) .n (.l 14 .n)).re (fun a=>((a.1.2.1,a.1.2.2.1,a.1.2.2.2.1,a.1.2.2.2.2.2.1,a.1.2.2.2.2.2.2.1,a.1.2.2.2.2.2.2.2.1,a.2.2.1),())) (fun x=>(((),x.1.1,x.1.2.1,x.1.2.2.1,((),()),x.1.2.2.2.1,x.1.2.2.2.2.1,x.1.2.2.2.2.2.1,()),(),x.1.2.2.2.2.2.2,())) (fun _=>rfl)
def xZ41:LQ tb ((Int×Int×Int×Bool×Bool×Int×Int×Int×(List xZ0))×(Unit)):=(LQ.m [] [0,1,2,3,4,10,11,12,13,14] (.c 0 (.own 0) (.c 1 (.i .i64) (.c 2 (.i .i64) (.c 3 (.i .i64) (.c 4 (.fn 44 .n .n) (.c 10 .b (.c 11 .b (.c 12 (.i .i64) (.c 13 (.i .i64) (.c 14 (.i .i64) .n)))))))))) .n (.l 14 .n)).re (fun a=>((a.1.2.1,a.1.2.2.1,a.1.2.2.2.1,a.1.2.2.2.2.2.1,a.1.2.2.2.2.2.2.1,a.1.2.2.2.2.2.2.2.1,a.1.2.2.2.2.2.2.2.2.1,a.1.2.2.2.2.2.2.2.2.2.1,a.2.2.1),())) (fun x=>(((),x.1.1,x.1.2.1,x.1.2.2.1,((),()),x.1.2.2.2.1,x.1.2.2.2.2.1,x.1.2.2.2.2.2.1,x.1.2.2.2.2.2.2.1,x.1.2.2.2.2.2.2.2.1,()),(),x.1.2.2.2.2.2.2.2.2,())) (fun _=>rfl)
def xZ42:LQ tb ((Int×Int×Int×Bool×Bool×Int×Int×Bool×(List xZ0))×(Unit)):=(LQ.m [] [0,1,2,3,4,10,11,12,13,75] (.c 0 (.own 0) (.c 1 (.i .i64) (.c 2 (.i .i64) (.c 3 (.i .i64) (.c 4 (.fn 44 .n .n) (.c 10 .b (.c 11 .b (.c 12 (.i .i64) (.c 13 (.i .i64) (.c 75 .b .n)))))))))) .n (.l 14 .n)).re (fun a=>((a.1.2.1,a.1.2.2.1,a.1.2.2.2.1,a.1.2.2.2.2.2.1,a.1.2.2.2.2.2.2.1,a.1.2.2.2.2.2.2.2.1,a.1.2.2.2.2.2.2.2.2.1,a.1.2.2.2.2.2.2.2.2.2.1,a.2.2.1),())) (fun x=>(((),x.1.1,x.1.2.1,x.1.2.2.1,((),()),x.1.2.2.2.1,x.1.2.2.2.2.1,x.1.2.2.2.2.2.1,x.1.2.2.2.2.2.2.1,x.1.2.2.2.2.2.2.2.1,()),(),x.1.2.2.2.2.2.2.2.2,())) (fun _=>rfl)
def xZ43:LQ tb ((Int×Int×Int×Bool×Bool×Int×Int×Bool×(List xZ0))×(Unit)):=(LQ.m [] [0,1,2,3,4,10,11,12,13,97] (.c 0 (.own 0) (.c 1 (.i .i64) (.c 2 (.i .i64) (.c 3 (.i .i64) (.c 4 (.fn 44 .n .n) (.c 10 .b (.c 11 .b (.c 12 (.i .i64) (.c 13 (.i .i64) (.c 97 .b .n)))))))))) .n (.l 14 .n)).re (fun a=>((a.1.2.1,a.1.2.2.1,a.1.2.2.2.1,a.1.2.2.2.2.2.1,a.1.2.2.2.2.2.2.1,a.1.2.2.2.2.2.2.2.1,a.1.2.2.2.2.2.2.2.2.1,a.1.2.2.2.2.2.2.2.2.2.1,a.2.2.1),())) (fun x=>(((),x.1.1,x.1.2.1,x.1.2.2.1,((),()),x.1.2.2.2.1,x.1.2.2.2.2.1,x.1.2.2.2.2.2.1,x.1.2.2.2.2.2.2.1,x.1.2.2.2.2.2.2.2.1,()),(),x.1.2.2.2.2.2.2.2.2,())) (fun _=>rfl)
abbrev xZ47 (N:Nat) (next0:(Unit)×(Int×Int×Int×Bool×Bool×(List xZ0))→Option (List xZ0)):(Int×Int×Int×Bool×Bool×Int×Int×Bool×(List xZ0))×(Unit)→Option (List xZ0):=fun a=>xZb N (xZ5 N) a.1.1 a.1.2.1 a.1.2.2.1 a.1.2.2.2.1 a.1.2.2.2.2.1 a.1.2.2.2.2.2.1 a.1.2.2.2.2.2.2.1 a.1.2.2.2.2.2.2.2.1 a.1.2.2.2.2.2.2.2.2 (fun u0 u1 u2 u3 u4 u5=>next0 ((),(u0,u1,u2,u3,u4,u5)))
abbrev xZ46 (N:Nat) (next0:(Unit)×(Int×Int×Int×Bool×Bool×(List xZ0))→Option (List xZ0)):(Int×Int×Int×Bool×Bool×Int×Int×Bool×(List xZ0))×(Unit)→Option (List xZ0):=fun a=>xZv N (xZ5 N) a.1.1 a.1.2.1 a.1.2.2.1 a.1.2.2.2.1 a.1.2.2.2.2.1 a.1.2.2.2.2.2.1 a.1.2.2.2.2.2.2.1 a.1.2.2.2.2.2.2.2.1 a.1.2.2.2.2.2.2.2.2 (fun u0 u1 u2 u3 u4 u5=>next0 ((),(u0,u1,u2,u3,u4,u5)))
abbrev xZ45 (N:Nat) (next0:(Unit)×(Int×Int×Int×Bool×Bool×(List xZ0))→Option (List xZ0)):(Int×Int×Int×Bool×Bool×Int×Int×Int×(List xZ0))×(Unit)→Option (List xZ0):=fun a=>xZQ N (xZ5 N) a.1.1 a.1.2.1 a.1.2.2.1 a.1.2.2.2.1 a.1.2.2.2.2.1 a.1.2.2.2.2.2.1 a.1.2.2.2.2.2.2.1 a.1.2.2.2.2.2.2.2.1 a.1.2.2.2.2.2.2.2.2 (fun u0 u1 u2 u3 u4 u5=>next0 ((),(u0,u1,u2,u3,u4,u5)))
abbrev xZ44 (N:Nat) (next0:(Unit)×(Int×Int×Int×Bool×Bool×(List xZ0))→Option (List xZ0)):(Int×Int×Int×Bool×Bool×Int×(List xZ0))×(Unit)→Option (List xZ0):=fun a=>xZP N (xZ5 N) a.1.1 a.1.2.1 a.1.2.2.1 a.1.2.2.2.1 a.1.2.2.2.2.1 a.1.2.2.2.2.2.1 a.1.2.2.2.2.2.2 (fun u0 u1 u2 u3 u4 u5=>next0 ((),(u0,u1,u2,u3,u4,u5)))
def xZ4a (N:Nat) (c:Unit) (next:(Int×Int×Int×Bool×Bool×(List xZ0))→Option (List xZ0)) (v:Int×Int×Int×Bool×Bool×(List xZ0)):Option (List xZ0):=xZ2C N (xZ5 N) (fun u0 u1 u2 u3 u4 u5=>next (u0,u1,u2,u3,u4,u5)) v.1 v.2.1 v.2.2.1 v.2.2.2.1 v.2.2.2.2.1 v.2.2.2.2.2
abbrev xZ6N (N:Nat):(Unit)×(Int×Int×Int×Bool×Bool×(List xZ0))→Option (List xZ0):=fun a=>loopV (xZ4a N a.1) N a.2
def xZ3T:Con tb:=.m 43 [false,false] (.c (.own 0) (.c (.fn 44 .n .n) .n)) .n (.l 14 .n) (fun N a=>xZ2H N a.2.2.1) (R:=List xZ0) (.m (R:=List xZ0) (.tu .n) .n (.l 14 .n) (fun z=>z.2.2.1) (fun r=>((),(),r,())) (fun _=>rfl))
def xZ39:Con tb:=.s 108 [true,true] (.c (.i .u32) (.c (.i .u32) .n)) (fun N a=>xZo N a.1 a.2.1) (R:=Bool) (.p .b) (fun _=>⟨rfl,(by kernel_rfl)⟩)
def xZ2q:Con tb:=.m 102 [false,true,true] (.c (.own 0) (.c (.i .i64) (.c (.i .i64) .n))) .n (.l 11 .n) (fun N a=>xZ1A N a.1.2.1 a.1.2.2.1 a.2.2.1) (R:=List Int) (.m (R:=List Int) (.tu .n) .n (.l 11 .n) (fun z=>z.2.2.1) (fun r=>((),(),r,())) (fun _=>rfl))
def xZH:LQ tb ((Int×Int)×(Int×(List Int))):=(LQ.m [] [0,1,2,6] (.c 0 (.own 0) (.c 1 (.i .i64) (.c 2 (.i .i64) (.c 6 (.i .i64) .n)))) .n (.l 11 .n)).re (fun a=>((a.1.2.1,a.1.2.2.1),(a.1.2.2.2.1,a.2.2.1))) (fun x=>(((),x.1.1,x.1.2,x.2.1,()),(),x.2.2,())) (fun _=>rfl)
def xZ1j:LQ tb ((Int×Int×Int)×(Int×(List Int))):=(LQ.m [] [0,1,2,6,7] (.c 0 (.own 0) (.c 1 (.i .i64) (.c 2 (.i .i64) (.c 6 (.i .i64) (.c 7 (.i .i64) .n))))) .n (.l 11 .n)).re (fun a=>((a.1.2.1,a.1.2.2.1,a.1.2.2.2.1),(a.1.2.2.2.2.1,a.2.2.1))) (fun x=>(((),x.1.1,x.1.2.1,x.1.2.2,x.2.1,()),(),x.2.2,())) (fun _=>rfl)
def xZ3z (N:Nat) (next0:(Int×Int)×(Int×(List Int))→Option (List Int)) (c:Int×Int×Int) (next:(Int×(List Int))→Option (List Int)) (v:Int×(List Int)):Option (List Int):=xZ2g N c.1 c.2.2 (fun u0 u1=>next0 ((c.1,c.2.1),(u0,u1))) (fun u0 u1=>next (u0,u1)) v.1 v.2
abbrev xZ5X (N:Nat) (next0:(Int×Int)×(Int×(List Int))→Option (List Int)):(Int×Int×Int)×(Int×(List Int))→Option (List Int):=fun a=>loopV (xZ3z N next0 a.1) N a.2
def xZ3y (N:Nat) (c:Int×Int) (next:(Int×(List Int))→Option (List Int)) (v:Int×(List Int)):Option (List Int):=xZ2f N c.1 c.2 (fun u0 u1=>next (u0,u1)) v.1 v.2
abbrev xZ5W (N:Nat):(Int×Int)×(Int×(List Int))→Option (List Int):=fun a=>loopV (xZ3y N a.1) N a.2
def xZ3e:Con tb:=.m 140 [false,true,true,true] (.c (.own 0) (.c (.i .i64) (.c (.i .i64) (.c (.i .i64) .n)))) .n (.l 11 .n) (fun N a=>xZ1m N a.1.2.1 a.1.2.2.1 a.1.2.2.2.1 a.2.2.1) (R:=List Int) (.m (R:=List Int) (.tu .n) .n (.l 11 .n) (fun z=>z.2.2.1) (fun r=>((),(),r,())) (fun _=>rfl))
def xZ1X:LQ tb ((Int×Int)×(Int×(List Int))):=(LQ.m [] [0,2,3,8] (.c 0 (.own 0) (.c 2 (.i .i64) (.c 3 (.i .i64) (.c 8 (.i .i64) .n)))) .n (.l 11 .n)).re (fun a=>((a.1.2.1,a.1.2.2.1),(a.1.2.2.2.1,a.2.2.1))) (fun x=>(((),x.1.1,x.1.2,x.2.1,()),(),x.2.2,())) (fun _=>rfl)
def xZ4q (N:Nat) (c:Int×Int) (next:(Int×(List Int))→Option (List Int)) (v:Int×(List Int)):Option (List Int):=xZ2W N c.1 c.2 (fun u0 u1=>next (u0,u1)) v.1 v.2
abbrev xZ7n (N:Nat):(Int×Int)×(Int×(List Int))→Option (List Int):=fun a=>loopV (xZ4q N a.1) N a.2
def xZ3d:Con tb:=.m 103 [false,true,true] (.c (.own 0) (.c (.i .i64) (.c (.i .i64) .n))) .n (.l 11 .n) (fun N a=>xZ2b N a.1.2.1 a.1.2.2.1 a.2.2.1) (R:=List Int) (.m (R:=List Int) (.tu .n) .n (.l 11 .n) (fun z=>z.2.2.1) (fun r=>((),(),r,())) (fun _=>rfl))
def xZ1V:LQ tb ((Int×Int)×(Int×(List Int))):=(LQ.m [] [0,6,7,8,9] (.c 0 (.own 0) (.c 6 (.i .i64) (.c 7 (.li .i64 0) (.c 8 (.i .i64) (.c 9 (.i .i64) .n))))) .n (.l 11 .n)).re (fun a=>((a.1.2.1,a.1.2.2.2.1),(a.1.2.2.2.2.1,a.2.2.1))) (fun x=>(((),x.1.1,(),x.1.2,x.2.1,()),(),x.2.2,())) (fun _=>rfl)
def xZ1W:LQ tb ((Int)×(Int×(List Int))):=(LQ.m [] [0,6,7,10] (.c 0 (.own 0) (.c 6 (.i .i64) (.c 7 (.li .i64 0) (.c 10 (.i .i64) .n)))) .n (.l 11 .n)).re (fun a=>(a.1.2.1,(a.1.2.2.2.1,a.2.2.1))) (fun x=>(((),x.1,(),x.2.1,()),(),x.2.2,())) (fun _=>rfl)
def xZ4p (N:Nat) (c:Int) (next:(Int×(List Int))→Option (List Int)) (v:Int×(List Int)):Option (List Int):=xZ2U N c (fun u0 u1=>next (u0,u1)) v.1 v.2
abbrev xZ7m (N:Nat):(Int)×(Int×(List Int))→Option (List Int):=fun a=>loopV (xZ4p N a.1) N a.2
def xZ4o (N:Nat) (c:Int×Int) (next:(Int×(List Int))→Option (List Int)) (v:Int×(List Int)):Option (List Int):=xZ2T N c.1 c.2 (fun u0 u1=>next (u0,u1)) v.1 v.2
abbrev xZ7l (N:Nat):(Int×Int)×(Int×(List Int))→Option (List Int):=fun a=>loopV (xZ4o N a.1) N a.2
def xZ2p:Con tb:=.m 104 [false,true,true] (.c (.own 0) (.c (.i .i64) (.c (.i .i64) .n))) .n (.l 11 .n) (fun N a=>xZ1z N a.1.2.1 a.1.2.2.1 a.2.2.1) (R:=List Int) (.m (R:=List Int) (.tu .n) .n (.l 11 .n) (fun z=>z.2.2.1) (fun r=>((),(),r,())) (fun _=>rfl))
def xZ1i:LQ tb ((Int×Int×Int)×(Int×Int×(List Int))):=(LQ.m [] [0,1,6,7,8,9] (.c 0 (.own 0) (.c 1 (.i .i64) (.c 6 (.i .i64) (.c 7 (.ptr 0 0) (.c 8 (.i .u64) (.c 9 (.i .i64) .n)))))) (.c (.c (.i .u64) .n) .n) (.l 11 .n)).re (fun a=>((a.1.2.1,a.1.2.2.1,a.1.2.2.2.2.1),(a.1.2.2.2.2.2.1,a.2.1.1.1,a.2.2.1))) (fun x=>(((),x.1.1,x.1.2.1,(),x.1.2.2,x.2.1,()),((x.2.2.1,()),()),x.2.2.2,())) (fun _=>rfl)
def xZ3x (N:Nat) (c:Int×Int×Int) (next:(Int×Int×(List Int))→Option (List Int)) (v:Int×Int×(List Int)):Option (List Int):=xZ2e N c.1 c.2.1 c.2.2 (fun u0 u1 u2=>next (u0,u1,u2)) v.1 v.2.1 v.2.2
abbrev xZ5V (N:Nat):(Int×Int×Int)×(Int×Int×(List Int))→Option (List Int):=fun a=>loopV (xZ3x N a.1) N a.2
def xZ3r:Con tb:=.m 162 [false,true,true,false] (.c (.own 0) (.c (.i .i64) (.c (.i .i64) (.c (.ptr 0 0) .n)))) (.c (.c (.i .i64) .n) .n) (.l 11 .n) (fun N a=>xZZ N a.1.2.1 a.1.2.2.1 a.2.1.1.1 a.2.2.1) (R:=Int×Int×Int×List Int) (.m (R:=Int×Int×Int×List Int) (.tu (.c (.i .i64) (.o (.i .i64)))) (.c (.c (.i .i64) .n) .n) (.l 11 .n) (fun z=>(z.1.1,z.1.2,z.2.1.1.1,z.2.2.1)) (fun r=>((r.1,r.2.1),((r.2.2.1,()),()),r.2.2.2,())) (fun _=>rfl))
def xZ2n:Con tb:=.m 142 [false,true,true,true,false] (.c (.own 0) (.c (.i .i64) (.c (.i .i64) (.c (.i .i64) (.c (.ptr 0 0) .n))))) (.c (.c (.i .i64) .n) .n) (.l 11 .n) (fun N a=>xZD N a.1.2.1 a.1.2.2.1 a.1.2.2.2.1 a.2.1.1.1 a.2.2.1) (R:=Int×Int×List Int) (.m (R:=Int×Int×List Int) (.i .i64) (.c (.c (.i .i64) .n) .n) (.l 11 .n) (fun z=>(z.1,z.2.1.1.1,z.2.2.1)) (fun r=>(r.1,((r.2.1,()),()),r.2.2,())) (fun _=>rfl))
def xZ2i:Con tb:=.m 141 [false,true,false] (.c (.own 0) (.c (.i .i64) (.c (.ptr 0 0) .n))) (.c (.c (.i .i64) .n) .n) (.l 11 .n) (fun N a=>xZi N a.1.2.1 a.2.1.1.1 a.2.2.1) (R:=Int×Int×List Int) (.m (R:=Int×Int×List Int) (.i .i64) (.c (.c (.i .i64) .n) .n) (.l 11 .n) (fun z=>(z.1,z.2.1.1.1,z.2.2.1)) (fun r=>(r.1,((r.2.1,()),()),r.2.2,())) (fun _=>rfl))
def xZ2D:Con tb:=.m 105 [false,true,true] (.c (.own 0) (.c (.i .i64) (.c (.i .i64) .n))) .n (.l 11 .n) (fun N a=>xZY N a.1.2.1 a.1.2.2.1 a.2.2.1) (R:=Int×Int×List Int) (.m (R:=Int×Int×List Int) (.tu (.c (.i .i64) (.o (.i .i64)))) .n (.l 11 .n) (fun z=>(z.1.1,z.1.2,z.2.2.1)) (fun r=>((r.1,r.2.1),(),r.2.2,())) (fun _=>rfl))
def xZ2B:Con tb:=.m 106 [false,true,true] (.c (.own 0) (.c (.i .i64) (.c (.i .i64) .n))) .n (.l 11 .n) (fun N a=>xZ1H N a.1.2.1 a.1.2.2.1 a.2.2.1) (R:=List Int) (.m (R:=List Int) (.tu .n) .n (.l 11 .n) (fun z=>z.2.2.1) (fun r=>((),(),r,())) (fun _=>rfl))
def xZ1r:LQ tb ((Unit)×(Int×Int×(List Int))):=(LQ.m [] [0,6,7] (.c 0 (.own 0) (.c 6 (.i .i64) (.c 7 (.i .i64) .n))) .n (.l 11 .n)).re (fun a=>((),(a.1.2.1,a.1.2.2.1,a.2.2.1))) (fun x=>(((),x.2.1,x.2.2.1,()),(),x.2.2.2,())) (fun _=>rfl)
def xZ3R (N:Nat) (c:Unit) (next:(Int×Int×(List Int))→Option (List Int)) (v:Int×Int×(List Int)):Option (List Int):=xZ2m N (fun u0 u1 u2=>next (u0,u1,u2)) v.1 v.2.1 v.2.2
abbrev xZ6g (N:Nat):(Unit)×(Int×Int×(List Int))→Option (List Int):=fun a=>loopV (xZ3R N a.1) N a.2
def xZ1K:Con tb:=.m 107 [false,true,true] (.c (.own 0) (.c (.i .i64) (.c (.i .i64) .n))) .n (.l 11 .n) (fun N a=>xZR N a.1.2.1 a.1.2.2.1 a.2.2.1) (R:=Bool×List Int) (.m (R:=Bool×List Int) .b .n (.l 11 .n) (fun z=>(z.1,z.2.2.1)) (fun r=>(r.1,(),r.2,())) (fun _=>rfl))
def xZc:LQ tb ((Int×Int)×(Int×Int×(List Int))):=(LQ.m [] [0,1,2,7,8] (.c 0 (.own 0) (.c 1 (.i .i64) (.c 2 (.i .i64) (.c 7 (.i .i64) (.c 8 (.i .i64) .n))))) .n (.l 11 .n)).re (fun a=>((a.1.2.1,a.1.2.2.1),(a.1.2.2.2.1,a.1.2.2.2.2.1,a.2.2.1))) (fun x=>(((),x.1.1,x.1.2,x.2.1,x.2.2.1,()),(),x.2.2.2,())) (fun _=>rfl)
def xZJ:LQ tb ((Int×Int×Int×(List Int))×(Int)):=(LQ.m [] [0,1,2,7,8] (.c 0 (.own 0) (.c 1 (.i .i64) (.c 2 (.i .i64) (.c 7 (.i .i64) (.c 8 (.i .i64) .n))))) .n (.l 11 .n)).re (fun a=>((a.1.2.1,a.1.2.2.1,a.1.2.2.2.2.1,a.2.2.1),a.1.2.2.2.1)) (fun x=>(((),x.1.1,x.1.2.1,x.2,x.1.2.2.1,()),(),x.1.2.2.2,())) (fun _=>rfl)
def xZK:LQ tb ((Int×Int×Int×Int)×(Int×(List Int))):=(LQ.m [] [0,1,2,7,8,9] (.c 0 (.own 0) (.c 1 (.i .i64) (.c 2 (.i .i64) (.c 7 (.i .i64) (.c 8 (.i .i64) (.c 9 (.i .i64) .n)))))) .n (.l 11 .n)).re (fun a=>((a.1.2.1,a.1.2.2.1,a.1.2.2.2.1,a.1.2.2.2.2.1),(a.1.2.2.2.2.2.1,a.2.2.1))) (fun x=>(((),x.1.1,x.1.2.1,x.1.2.2.1,x.1.2.2.2,x.2.1,()),(),x.2.2,())) (fun _=>rfl)
def xZq:LQ tb ((Int×Int×Int×Int)×(Int×(List Int))):=(LQ.m [] [0,1,2,7,8,10] (.c 0 (.own 0) (.c 1 (.i .i64) (.c 2 (.i .i64) (.c 7 (.i .i64) (.c 8 (.i .i64) (.c 10 (.i .i64) .n)))))) .n (.l 11 .n)).re (fun a=>((a.1.2.1,a.1.2.2.1,a.1.2.2.2.1,a.1.2.2.2.2.1),(a.1.2.2.2.2.2.1,a.2.2.1))) (fun x=>(((),x.1.1,x.1.2.1,x.1.2.2.1,x.1.2.2.2,x.2.1,()),(),x.2.2,())) (fun _=>rfl)
def xZ2O (N:Nat) (next0:(Int×Int)×(Int×Int×(List Int))→Option (Bool×List Int)) (c:Int×Int×Int×Int) (next:(Int×(List Int))→Option (Bool×List Int)) (v:Int×(List Int)):Option (Bool×List Int):=xZ9 N c.2.1 c.2.2.1 c.2.2.2 (fun u0 u1 u2=>next0 ((c.1,c.2.1),(u0,u1,u2))) (fun u0 u1=>next (u0,u1)) v.1 v.2
abbrev xZ2P (N:Nat) (next0:(Int×Int)×(Int×Int×(List Int))→Option (Bool×List Int)):(Int×Int×Int×Int)×(Int×(List Int))→Option (Bool×List Int):=fun a=>loopV (xZ2O N next0 a.1) N a.2
def xZ2N (N:Nat) (next0:(Int×Int)×(Int×Int×(List Int))→Option (Bool×List Int)) (c:Int×Int×Int×Int) (next:(Int×(List Int))→Option (Bool×List Int)) (v:Int×(List Int)):Option (Bool×List Int):=xZr N c.2.1 c.2.2.1 c.2.2.2 (fun u0 u1 u2=>next0 ((c.1,c.2.1),(u0,u1,u2))) (fun u0 u1=>next (u0,u1)) v.1 v.2
abbrev xZ53 (N:Nat) (next0:(Int×Int)×(Int×Int×(List Int))→Option (Bool×List Int)):(Int×Int×Int×Int)×(Int×(List Int))→Option (Bool×List Int):=fun a=>loopV (xZ2N N next0 a.1) N a.2
def xZ2M (N:Nat) (next0:(Int×Int)×(Int×Int×(List Int))→Option (Bool×List Int)) (c:Int×Int×Int×(List Int)) (next:Int→Option (Bool×List Int)) (v:Int):Option (Bool×List Int):=xZ1F N c.1 c.2.1 c.2.2.1 c.2.2.2 (fun u0 u1 u2=>next0 ((c.1,c.2.1),(u0,u1,u2))) (fun u0=>next u0) v
abbrev xZ52 (N:Nat) (next0:(Int×Int)×(Int×Int×(List Int))→Option (Bool×List Int)):(Int×Int×Int×(List Int))×(Int)→Option (Bool×List Int):=fun a=>loopV (xZ2M N next0 a.1) N a.2
def xZ2L (N:Nat) (c:Int×Int) (next:(Int×Int×(List Int))→Option (Bool×List Int)) (v:Int×Int×(List Int)):Option (Bool×List Int):=xZ1E N c.1 c.2 (fun u0 u1 u2=>next (u0,u1,u2)) v.1 v.2.1 v.2.2
abbrev xZ51 (N:Nat):(Int×Int)×(Int×Int×(List Int))→Option (Bool×List Int):=fun a=>loopV (xZ2L N a.1) N a.2
def xZ2j:Con tb:=.m 109 [false,true,true,true] (.c (.own 0) (.c (.i .i64) (.c (.i .i64) (.c (.i .i64) .n)))) .n (.l 11 .n) (fun N a=>xZ1s N a.1.2.1 a.1.2.2.1 a.1.2.2.2.1 a.2.2.1) (R:=Int×List Int) (.m (R:=Int×List Int) (.i .i64) .n (.l 11 .n) (fun z=>(z.1,z.2.2.1)) (fun r=>(r.1,(),r.2,())) (fun _=>rfl))
def xZp:LQ tb ((Int)×(Int×Int×(List Int))):=(LQ.m [] [0,1,9,10] (.c 0 (.own 0) (.c 1 (.i .i64) (.c 9 (.i .i64) (.c 10 (.i .i64) .n)))) .n (.l 11 .n)).re (fun a=>(a.1.2.1,(a.1.2.2.1,a.1.2.2.2.1,a.2.2.1))) (fun x=>(((),x.1,x.2.1,x.2.2.1,()),(),x.2.2.2,())) (fun _=>rfl)
def xZ1b:LQ tb ((Int×Int×(List Int))×(Int)):=(LQ.m [] [0,1,9,10] (.c 0 (.own 0) (.c 1 (.i .i64) (.c 9 (.i .i64) (.c 10 (.i .i64) .n)))) .n (.l 11 .n)).re (fun a=>((a.1.2.1,a.1.2.2.2.1,a.2.2.1),a.1.2.2.1)) (fun x=>(((),x.1.1,x.2,x.1.2.1,()),(),x.1.2.2,())) (fun _=>rfl)
def xZ1c:LQ tb ((Int×Int×(List Int))×(Int)):=(LQ.m [] [0,1,9,10] (.c 0 (.own 0) (.c 1 (.i .i64) (.c 9 (.i .i64) (.c 10 (.i .i64) .n)))) .n (.l 11 .n)).re (fun a=>((a.1.2.1,a.1.2.2.1,a.2.2.1),a.1.2.2.2.1)) (fun x=>(((),x.1.1,x.1.2.1,x.2,()),(),x.1.2.2,())) (fun _=>rfl)
def xZ3u (N:Nat) (next0:(Int)×(Int×Int×(List Int))→Option (Int×List Int)) (c:Int×Int×(List Int)) (next:Int→Option (Int×List Int)) (v:Int):Option (Int×List Int):=xZE N c.1 c.2.1 c.2.2 (fun u0 u1 u2=>next0 (c.1,(u0,u1,u2))) (fun u0=>next u0) v
abbrev xZ5O (N:Nat) (next0:(Int)×(Int×Int×(List Int))→Option (Int×List Int)):(Int×Int×(List Int))×(Int)→Option (Int×List Int):=fun a=>loopV (xZ3u N next0 a.1) N a.2
def xZ3t (N:Nat) (next0:(Int)×(Int×Int×(List Int))→Option (Int×List Int)) (c:Int×Int×(List Int)) (next:Int→Option (Int×List Int)) (v:Int):Option (Int×List Int):=xZ2c N c.1 c.2.1 c.2.2 (fun u0 u1 u2=>next0 (c.1,(u0,u1,u2))) (fun u0=>next u0) v
abbrev xZ5N (N:Nat) (next0:(Int)×(Int×Int×(List Int))→Option (Int×List Int)):(Int×Int×(List Int))×(Int)→Option (Int×List Int):=fun a=>loopV (xZ3t N next0 a.1) N a.2
def xZ3s (N:Nat) (c:Int) (next:(Int×Int×(List Int))→Option (Int×List Int)) (v:Int×Int×(List Int)):Option (Int×List Int):=xZ1f N c (fun u0 u1 u2=>next (u0,u1,u2)) v.1 v.2.1 v.2.2
abbrev xZ5M (N:Nat):(Int)×(Int×Int×(List Int))→Option (Int×List Int):=fun a=>loopV (xZ3s N a.1) N a.2
def xZ31:Con tb:=.m 110 [false,true,true,true] (.c (.own 0) (.c (.i .i64) (.c (.i .i64) (.c (.i .i64) .n)))) .n (.l 11 .n) (fun N a=>xZ23 N a.1.2.1 a.1.2.2.1 a.1.2.2.2.1 a.2.2.1) (R:=Int×Bool×List Int) (.m (R:=Int×Bool×List Int) (.tu (.c (.i .i64) (.o .b))) .n (.l 11 .n) (fun z=>(z.1.1,z.1.2,z.2.2.1)) (fun r=>((r.1,r.2.1),(),r.2.2,())) (fun _=>rfl))
def xZ1N:LQ tb ((Int×Int×(List Int))×(Int)):=(LQ.m [] [0,1,10,11] (.c 0 (.own 0) (.c 1 (.i .i64) (.c 10 (.i .i64) (.c 11 (.i .i64) .n)))) .n (.l 11 .n)).re (fun a=>((a.1.2.1,a.1.2.2.2.1,a.2.2.1),a.1.2.2.1)) (fun x=>(((),x.1.1,x.2,x.1.2.1,()),(),x.1.2.2,())) (fun _=>rfl)
def xZ1O:LQ tb ((Int×Int×(List Int))×(Int)):=(LQ.m [] [0,1,10,11] (.c 0 (.own 0) (.c 1 (.i .i64) (.c 10 (.i .i64) (.c 11 (.i .i64) .n)))) .n (.l 11 .n)).re (fun a=>((a.1.2.1,a.1.2.2.1,a.2.2.1),a.1.2.2.2.1)) (fun x=>(((),x.1.1,x.1.2.1,x.2,()),(),x.1.2.2,())) (fun _=>rfl)
def xZB:LQ tb ((Int)×(Int×Int×(List Int))):=(LQ.m [] [0,1,10,11] (.c 0 (.own 0) (.c 1 (.i .i64) (.c 10 (.i .i64) (.c 11 (.i .i64) .n)))) .n (.l 11 .n)).re (fun a=>(a.1.2.1,(a.1.2.2.1,a.1.2.2.2.1,a.2.2.1))) (fun x=>(((),x.1,x.2.1,x.2.2.1,()),(),x.2.2.2,())) (fun _=>rfl)
def xZ1P:LQ tb ((Int×Int×(List Int))×(Int)):=(LQ.m [] [0,1,10,11] (.c 0 (.own 0) (.c 1 (.i .i64) (.c 10 (.i .i64) (.c 11 (.i .i64) .n)))) .n (.l 11 .n)).re (fun a=>((a.1.2.1,a.1.2.2.2.1,a.2.2.1),a.1.2.2.1)) (fun x=>(((),x.1.1,x.2,x.1.2.1,()),(),x.1.2.2,())) (fun _=>rfl)
def xZ1Q:LQ tb ((Int×Int×(List Int))×(Int)):=(LQ.m [] [0,1,10,11] (.c 0 (.own 0) (.c 1 (.i .i64) (.c 10 (.i .i64) (.c 11 (.i .i64) .n)))) .n (.l 11 .n)).re (fun a=>((a.1.2.1,a.1.2.2.1,a.2.2.1),a.1.2.2.2.1)) (fun x=>(((),x.1.1,x.1.2.1,x.2,()),(),x.1.2.2,())) (fun _=>rfl)
def xZ4i (N:Nat) (next4:(Int)×(Int×Int×(List Int))→Option (Int×Bool×List Int)) (c:Int×Int×(List Int)) (next:Int→Option (Int×Bool×List Int)) (v:Int):Option (Int×Bool×List Int):=xZ12 N c.1 c.2.1 c.2.2 (fun u0 u1 u2=>next4 (c.1,(u0,u1,u2))) (fun u0=>next u0) v
abbrev xZ74 (N:Nat) (next4:(Int)×(Int×Int×(List Int))→Option (Int×Bool×List Int)):(Int×Int×(List Int))×(Int)→Option (Int×Bool×List Int):=fun a=>loopV (xZ4i N next4 a.1) N a.2
def xZ4h (N:Nat) (next4:(Int)×(Int×Int×(List Int))→Option (Int×Bool×List Int)) (c:Int×Int×(List Int)) (next:Int→Option (Int×Bool×List Int)) (v:Int):Option (Int×Bool×List Int):=xZ2J N c.1 c.2.1 c.2.2 (fun u0 u1 u2=>next4 (c.1,(u0,u1,u2))) (fun u0=>next u0) v
abbrev xZ73 (N:Nat) (next4:(Int)×(Int×Int×(List Int))→Option (Int×Bool×List Int)):(Int×Int×(List Int))×(Int)→Option (Int×Bool×List Int):=fun a=>loopV (xZ4h N next4 a.1) N a.2
def xZ4g (N:Nat) (c:Int) (next:(Int×Int×(List Int))→Option (Int×Bool×List Int)) (v:Int×Int×(List Int)):Option (Int×Bool×List Int):=xZ11 N c (fun u0 u1 u2=>next (u0,u1,u2)) v.1 v.2.1 v.2.2
abbrev xZ72 (N:Nat):(Int)×(Int×Int×(List Int))→Option (Int×Bool×List Int):=fun a=>loopV (xZ4g N a.1) N a.2
def xZ4f (N:Nat) (c:Int×Int×(List Int)) (next:Int→Option (Int×Bool×List Int)) (v:Int):Option (Int×Bool×List Int):=xZ10 N c.1 c.2.1 c.2.2 (fun u0=>next u0) v
abbrev xZ71 (N:Nat):(Int×Int×(List Int))×(Int)→Option (Int×Bool×List Int):=fun a=>loopV (xZ4f N a.1) N a.2
def xZ4e (N:Nat) (c:Int×Int×(List Int)) (next:Int→Option (Int×Bool×List Int)) (v:Int):Option (Int×Bool×List Int):=xZ2I N c.1 c.2.1 c.2.2 (fun u0=>next u0) v
abbrev xZ70 (N:Nat):(Int×Int×(List Int))×(Int)→Option (Int×Bool×List Int):=fun a=>loopV (xZ4e N a.1) N a.2
def xZ1u:Con tb:=.m 67 [false,true,true,true] (.c (.own 0) (.c (.i .i64) (.c (.i .i64) (.c (.i .i64) .n)))) .n (.l 11 .n) (fun N a=>xZ3m N a.1.2.1 a.1.2.2.1 a.1.2.2.2.1 a.2.2.1) (R:=List Int) (.m (R:=List Int) (.tu .n) .n (.l 11 .n) (fun z=>z.2.2.1) (fun r=>((),(),r,())) (fun _=>rfl))
def xZk:LQ tb ((Unit)×(Int×Int×Int×Bool×Bool×(List Int))):=(LQ.m [] [0,1,2,3,8,9] (.c 0 (.own 0) (.c 1 (.i .i64) (.c 2 (.i .i64) (.c 3 (.i .i64) (.c 8 .b (.c 9 .b .n)))))) .n (.l 11 .n)).re (fun a=>((),(a.1.2.1,a.1.2.2.1,a.1.2.2.2.1,a.1.2.2.2.2.1,a.1.2.2.2.2.2.1,a.2.2.1))) (fun x=>(((),x.2.1,x.2.2.1,x.2.2.2.1,x.2.2.2.2.1,x.2.2.2.2.2.1,()),(),x.2.2.2.2.2.2,())) (fun _=>rfl)
def xZ4s:LQ tb ((Int×Int×Int×Bool×Bool×Int×(List Int))×(Unit)):=(LQ.m [] [0,1,2,3,8,9,10] (.c 0 (.own 0) (.c 1 (.i .i64) (.c 2 (.i .i64) (.c 3 (.i .i64) (.c 8 .b (.c 9 .b (.c 10 (.i .i64) .n))))))) .n (.l 11 .n)).re (fun a=>((a.1.2.1,a.1.2.2.1,a.1.2.2.2.1,a.1.2.2.2.2.1,a.1.2.2.2.2.2.1,a.1.2.2.2.2.2.2.1,a.2.2.1),())) (fun x=>(((),x.1.1,x.1.2.1,x.1.2.2.1,x.1.2.2.2.1,x.1.2.2.2.2.1,x.1.2.2.2.2.2.1,()),(),x.1.2.2.2.2.2.2,())) (fun _=>rfl)
def xZ4t:LQ tb ((Int×Int×Int×Bool×Bool×Int×Int×Int×(List Int))×(Unit)):=(LQ.m [] [0,1,2,3,8,9,10,11,12] (.c 0 (.own 0) (.c 1 (.i .i64) (.c 2 (.i .i64) (.c 3 (.i .i64) (.c 8 .b (.c 9 .b (.c 10 (.i .i64) (.c 11 (.i .i64) (.c 12 (.i .i64) .n))))))))) .n (.l 11 .n)).re (fun a=>((a.1.2.1,a.1.2.2.1,a.1.2.2.2.1,a.1.2.2.2.2.1,a.1.2.2.2.2.2.1,a.1.2.2.2.2.2.2.1,a.1.2.2.2.2.2.2.2.1,a.1.2.2.2.2.2.2.2.2.1,a.2.2.1),())) (fun x=>(((),x.1.1,x.1.2.1,x.1.2.2.1,x.1.2.2.2.1,x.1.2.2.2.2.1,x.1.2.2.2.2.2.1,x.1.2.2.2.2.2.2.1,x.1.2.2.2.2.2.2.2.1,()),(),x.1.2.2.2.2.2.2.2.2,())) (fun _=>rfl)
def xZ4u:LQ tb ((Int×Int×Int×Bool×Bool×Int×Int×Bool×(List Int))×(Unit)):=(LQ.m [] [0,1,2,3,8,9,10,11,68] (.c 0 (.own 0) (.c 1 (.i .i64) (.c 2 (.i .i64) (.c 3 (.i .i64) (.c 8 .b (.c 9 .b (.c 10 (.i .i64) (.c 11 (.i .i64) (.c 68 .b .n))))))))) .n (.l 11 .n)).re (fun a=>((a.1.2.1,a.1.2.2.1,a.1.2.2.2.1,a.1.2.2.2.2.1,a.1.2.2.2.2.2.1,a.1.2.2.2.2.2.2.1,a.1.2.2.2.2.2.2.2.1,a.1.2.2.2.2.2.2.2.2.1,a.2.2.1),())) (fun x=>(((),x.1.1,x.1.2.1,x.1.2.2.1,x.1.2.2.2.1,x.1.2.2.2.2.1,x.1.2.2.2.2.2.1,x.1.2.2.2.2.2.2.1,x.1.2.2.2.2.2.2.2.1,()),(),x.1.2.2.2.2.2.2.2.2,())) (fun _=>rfl)
def xZ4v:LQ tb ((Int×Int×Int×Bool×Bool×Int×Int×Bool×(List Int))×(Unit)):=(LQ.m [] [0,1,2,3,8,9,10,11,87] (.c 0 (.own 0) (.c 1 (.i .i64) (.c 2 (.i .i64) (.c 3 (.i .i64) (.c 8 .b (.c 9 .b (.c 10 (.i .i64) (.c 11 (.i .i64) (.c 87 .b .n))))))))) .n (.l 11 .n)).re (fun a=>((a.1.2.1,a.1.2.2.1,a.1.2.2.2.1,a.1.2.2.2.2.1,a.1.2.2.2.2.2.1,a.1.2.2.2.2.2.2.1,a.1.2.2.2.2.2.2.2.1,a.1.2.2.2.2.2.2.2.2.1,a.2.2.1),())) (fun x=>(((),x.1.1,x.1.2.1,x.1.2.2.1,x.1.2.2.2.1,x.1.2.2.2.2.1,x.1.2.2.2.2.2.1,x.1.2.2.2.2.2.2.1,x.1.2.2.2.2.2.2.2.1,()),(),x.1.2.2.2.2.2.2.2.2,())) (fun _=>rfl)
abbrev xZ4z (N:Nat) (next0:(Unit)×(Int×Int×Int×Bool×Bool×(List Int))→Option (List Int)):(Int×Int×Int×Bool×Bool×Int×Int×Bool×(List Int))×(Unit)→Option (List Int):=fun a=>xZd N (xZ7 N) a.1.1 a.1.2.1 a.1.2.2.1 a.1.2.2.2.1 a.1.2.2.2.2.1 a.1.2.2.2.2.2.1 a.1.2.2.2.2.2.2.1 a.1.2.2.2.2.2.2.2.1 a.1.2.2.2.2.2.2.2.2 (fun u0 u1 u2 u3 u4 u5=>next0 ((),(u0,u1,u2,u3,u4,u5)))
abbrev xZ4y (N:Nat) (next0:(Unit)×(Int×Int×Int×Bool×Bool×(List Int))→Option (List Int)):(Int×Int×Int×Bool×Bool×Int×Int×Bool×(List Int))×(Unit)→Option (List Int):=fun a=>xZF N (xZ7 N) a.1.1 a.1.2.1 a.1.2.2.1 a.1.2.2.2.1 a.1.2.2.2.2.1 a.1.2.2.2.2.2.1 a.1.2.2.2.2.2.2.1 a.1.2.2.2.2.2.2.2.1 a.1.2.2.2.2.2.2.2.2 (fun u0 u1 u2 u3 u4 u5=>next0 ((),(u0,u1,u2,u3,u4,u5)))
abbrev xZ4x (N:Nat) (next0:(Unit)×(Int×Int×Int×Bool×Bool×(List Int))→Option (List Int)):(Int×Int×Int×Bool×Bool×Int×Int×Int×(List Int))×(Unit)→Option (List Int):=fun a=>xZ1a N (xZ7 N) a.1.1 a.1.2.1 a.1.2.2.1 a.1.2.2.2.1 a.1.2.2.2.2.1 a.1.2.2.2.2.2.1 a.1.2.2.2.2.2.2.1 a.1.2.2.2.2.2.2.2.1 a.1.2.2.2.2.2.2.2.2 (fun u0 u1 u2 u3 u4 u5=>next0 ((),(u0,u1,u2,u3,u4,u5)))
abbrev xZ4w (N:Nat) (next0:(Unit)×(Int×Int×Int×Bool×Bool×(List Int))→Option (List Int)):(Int×Int×Int×Bool×Bool×Int×(List Int))×(Unit)→Option (List Int):=fun a=>xZ19 N (xZ7 N) a.1.1 a.1.2.1 a.1.2.2.1 a.1.2.2.2.1 a.1.2.2.2.2.1 a.1.2.2.2.2.2.1 a.1.2.2.2.2.2.2 (fun u0 u1 u2 u3 u4 u5=>next0 ((),(u0,u1,u2,u3,u4,u5)))
def xZ4F (N:Nat) (c:Unit) (next:(Int×Int×Int×Bool×Bool×(List Int))→Option (List Int)) (v:Int×Int×Int×Bool×Bool×(List Int)):Option (List Int):=xZ38 N (xZ7 N) (fun u0 u1 u2 u3 u4 u5=>next (u0,u1,u2,u3,u4,u5)) v.1 v.2.1 v.2.2.1 v.2.2.2.1 v.2.2.2.2.1 v.2.2.2.2.2
abbrev xZ7F (N:Nat):(Unit)×(Int×Int×Int×Bool×Bool×(List Int))→Option (List Int):=fun a=>loopV (xZ4F N a.1) N a.2
def xZ5o:Con tb:=.m 45 [false] (.c (.own 0) .n) .n (.l 11 .n) (fun N a=>xZ4k N a.2.2.1) (R:=List Int) (.m (R:=List Int) (.tu .n) .n (.l 11 .n) (fun z=>z.2.2.1) (fun r=>((),(),r,())) (fun _=>rfl))
def xZ4T:Con tb:=.m 46 [false] (.c (.own 0) .n) .n (.l 14 .n) (fun N a=>xZ1v N a.2.2.1) (R:=List xZ0) (.m (R:=List xZ0) (.own 1) .n (.d (.l 14 .n)) (fun z=>z.2.2.1) (fun r=>((),(),r,())) (fun _=>rfl))
def xZ5m:Con tb:=.m 47 [false] (.c (.own 0) .n) .n (.l 11 .n) (fun N a=>xZ1Y N a.2.2.1) (R:=List Int) (.m (R:=List Int) (.own 1) .n (.d (.l 11 .n)) (fun z=>z.2.2.1) (fun r=>((),(),r,())) (fun _=>rfl))
def xZ5E:Con tb:=.m 24 [false,true] (.c (.ptr 0 0) (.c (.i .i64) .n)) (.c (.c (.r 4) (.c (.r 2) (.c (.i .i64) (.c .s (.c (.i .u8) (.c .b (.c (.i .u32) (.c (.i .u32) (.c (.r 11) (.c (.i .u32) .n)))))))))) .n) .n (fun N a=>xZ2a N a.1.2.1 a.2.1.1.1 a.2.1.1.2.1 a.2.1.1.2.2.1 a.2.1.1.2.2.2.1 a.2.1.1.2.2.2.2.1 a.2.1.1.2.2.2.2.2.1 a.2.1.1.2.2.2.2.2.2.1 a.2.1.1.2.2.2.2.2.2.2.1 a.2.1.1.2.2.2.2.2.2.2.2.1 a.2.1.1.2.2.2.2.2.2.2.2.2.1) (R:=List xZ0×List Int×Bool×List xZ1×List xZ4×Int×List UInt8×Int×Bool×Int×Int×List Int×Int) (.m (R:=List xZ0×List Int×Bool×List xZ1×List xZ4×Int×List UInt8×Int×Bool×Int×Int×List Int×Int) (.tu (.c (.r 14) (.c (.r 11) (.o .b)))) (.c (.c (.r 4) (.c (.r 2) (.c (.i .i64) (.c .s (.c (.i .u8) (.c .b (.c (.i .u32) (.c (.i .u32) (.c (.r 11) (.c (.i .u32) .n)))))))))) .n) .n (fun z=>(z.1.1,z.1.2.1,z.1.2.2,z.2.1.1.1,z.2.1.1.2.1,z.2.1.1.2.2.1,z.2.1.1.2.2.2.1,z.2.1.1.2.2.2.2.1,z.2.1.1.2.2.2.2.2.1,z.2.1.1.2.2.2.2.2.2.1,z.2.1.1.2.2.2.2.2.2.2.1,z.2.1.1.2.2.2.2.2.2.2.2.1,z.2.1.1.2.2.2.2.2.2.2.2.2.1)) (fun r=>((r.1,r.2.1,r.2.2.1),((r.2.2.2.1,r.2.2.2.2.1,r.2.2.2.2.2.1,r.2.2.2.2.2.2.1,r.2.2.2.2.2.2.2.1,r.2.2.2.2.2.2.2.2.1,r.2.2.2.2.2.2.2.2.2.1,r.2.2.2.2.2.2.2.2.2.2.1,r.2.2.2.2.2.2.2.2.2.2.2.1,r.2.2.2.2.2.2.2.2.2.2.2.2,()),()),())) (fun _=>rfl))
def xZ35:LQ tb (((List xZ1)×(List xZ4)×Int×(List UInt8)×Int×Bool×Int×Int×(List Int)×Int)×((List xZ0)×(List Int)×(List Ent125)×(List xZ0))):=(LQ.m [(4,none,14),(5,none,11)] [0,4,5,7,8] (.c 0 (.ptr 0 0) (.c 4 (.own 0) (.c 5 (.own 1) (.c 7 (.own 2) (.c 8 (.own 3) .n))))) (.c (.c (.r 4) (.c (.r 2) (.c (.i .i64) (.c .s (.c (.i .u8) (.c .b (.c (.i .u32) (.c (.i .u32) (.c (.r 11) (.c (.i .u32) .n)))))))))) .n) (.l 14 (.l 11 (.m [.i64,.u32] 15 (.l 14 .n))))).re (fun a=>((a.2.1.1.1,a.2.1.1.2.1,a.2.1.1.2.2.1,a.2.1.1.2.2.2.1,a.2.1.1.2.2.2.2.1,a.2.1.1.2.2.2.2.2.1,a.2.1.1.2.2.2.2.2.2.1,a.2.1.1.2.2.2.2.2.2.2.1,a.2.1.1.2.2.2.2.2.2.2.2.1,a.2.1.1.2.2.2.2.2.2.2.2.2.1),(a.2.2.1,a.2.2.2.1,a.2.2.2.2.1,a.2.2.2.2.2.1))) (fun x=>(((),(),(),(),(),()),((x.1.1,x.1.2.1,x.1.2.2.1,x.1.2.2.2.1,x.1.2.2.2.2.1,x.1.2.2.2.2.2.1,x.1.2.2.2.2.2.2.1,x.1.2.2.2.2.2.2.2.1,x.1.2.2.2.2.2.2.2.2.1,x.1.2.2.2.2.2.2.2.2.2,()),()),x.2.1,x.2.2.1,x.2.2.2.1,x.2.2.2.2,())) (fun _=>rfl)
def xZ48:LQ tb ((Int×(List xZ1)×(List xZ4)×Int×(List UInt8)×Int×Bool×Int×Int×(List Int)×Int×Int×Int×(List Int))×(Int×(List xZ0)×(List Ent125)×(List xZ0))):=(LQ.m [(4,none,14)] [0,4,5,7,8,9,60,61] (.c 0 (.ptr 0 0) (.c 4 (.own 0) (.c 5 (.own 1) (.c 7 (.own 2) (.c 8 (.own 3) (.c 9 (.ptr 1 0) (.c 60 (.i .i64) (.c 61 (.i .i64) .n)))))))) (.c (.c (.r 4) (.c (.r 2) (.c (.i .i64) (.c .s (.c (.i .u8) (.c .b (.c (.i .u32) (.c (.i .u32) (.c (.r 11) (.c (.i .u32) .n)))))))))) (.c (.c (.i .i64) (.c (.i .u32) .n)) .n)) (.l 14 (.l 11 (.m [.i64,.u32] 15 (.l 14 .n))))).re (fun a=>((a.1.2.2.2.2.2.2.1,a.2.1.1.1,a.2.1.1.2.1,a.2.1.1.2.2.1,a.2.1.1.2.2.2.1,a.2.1.1.2.2.2.2.1,a.2.1.1.2.2.2.2.2.1,a.2.1.1.2.2.2.2.2.2.1,a.2.1.1.2.2.2.2.2.2.2.1,a.2.1.1.2.2.2.2.2.2.2.2.1,a.2.1.1.2.2.2.2.2.2.2.2.2.1,a.2.1.2.1.1,a.2.1.2.1.2.1,a.2.2.2.1),(a.1.2.2.2.2.2.2.2.1,a.2.2.1,a.2.2.2.2.1,a.2.2.2.2.2.1))) (fun x=>(((),(),(),(),(),(),x.1.1,x.2.1,()),((x.1.2.1,x.1.2.2.1,x.1.2.2.2.1,x.1.2.2.2.2.1,x.1.2.2.2.2.2.1,x.1.2.2.2.2.2.2.1,x.1.2.2.2.2.2.2.2.1,x.1.2.2.2.2.2.2.2.2.1,x.1.2.2.2.2.2.2.2.2.2.1,x.1.2.2.2.2.2.2.2.2.2.2.1,()),(x.1.2.2.2.2.2.2.2.2.2.2.2.1,x.1.2.2.2.2.2.2.2.2.2.2.2.2.1,()),()),x.2.2.1,x.1.2.2.2.2.2.2.2.2.2.2.2.2.2,x.2.2.2.1,x.2.2.2.2,())) (fun _=>rfl)
def xZ7x (N:Nat) (next0:((List xZ1)×(List xZ4)×Int×(List UInt8)×Int×Bool×Int×Int×(List Int)×Int)×((List xZ0)×(List Int)×(List Ent125)×(List xZ0))→Option (List xZ0×List Int×Bool×List xZ1×List xZ4×Int×List UInt8×Int×Bool×Int×Int×List Int×Int)) (c:Int×(List xZ1)×(List xZ4)×Int×(List UInt8)×Int×Bool×Int×Int×(List Int)×Int×Int×Int×(List Int)) (next:(Int×(List xZ0)×(List Ent125)×(List xZ0))→Option (List xZ0×List Int×Bool×List xZ1×List xZ4×Int×List UInt8×Int×Bool×Int×Int×List Int×Int)) (v:Int×(List xZ0)×(List Ent125)×(List xZ0)):Option (List xZ0×List Int×Bool×List xZ1×List xZ4×Int×List UInt8×Int×Bool×Int×Int×List Int×Int):=xZ37 N c.1 c.2.2.2.2.2.2.2.2.2.1 c.2.2.2.2.2.2.2.2.2.2.1 c.2.2.2.2.2.2.2.2.2.2.2.1 c.2.2.2.2.2.2.2.2.2.2.2.2.1 c.2.2.2.2.2.2.2.2.2.2.2.2.2 (fun u0 u1 u2 u3=>next0 ((c.2.1,c.2.2.1,c.2.2.2.1,c.2.2.2.2.1,c.2.2.2.2.2.1,c.2.2.2.2.2.2.1,c.2.2.2.2.2.2.2.1,c.2.2.2.2.2.2.2.2.1,c.2.2.2.2.2.2.2.2.2.1,c.2.2.2.2.2.2.2.2.2.2.1),(u0,u1,u2,u3))) (fun u0 u1 u2 u3=>next (u0,u1,u2,u3)) v.1 v.2.1 v.2.2.1 v.2.2.2
abbrev xZaF (N:Nat) (next0:((List xZ1)×(List xZ4)×Int×(List UInt8)×Int×Bool×Int×Int×(List Int)×Int)×((List xZ0)×(List Int)×(List Ent125)×(List xZ0))→Option (List xZ0×List Int×Bool×List xZ1×List xZ4×Int×List UInt8×Int×Bool×Int×Int×List Int×Int)):(Int×(List xZ1)×(List xZ4)×Int×(List UInt8)×Int×Bool×Int×Int×(List Int)×Int×Int×Int×(List Int))×(Int×(List xZ0)×(List Ent125)×(List xZ0))→Option (List xZ0×List Int×Bool×List xZ1×List xZ4×Int×List UInt8×Int×Bool×Int×Int×List Int×Int):=fun a=>loopV (xZ7x N next0 a.1) N a.2
def xZ7w (N:Nat) (c:(List xZ1)×(List xZ4)×Int×(List UInt8)×Int×Bool×Int×Int×(List Int)×Int) (next:((List xZ0)×(List Int)×(List Ent125)×(List xZ0))→Option (List xZ0×List Int×Bool×List xZ1×List xZ4×Int×List UInt8×Int×Bool×Int×Int×List Int×Int)) (v:(List xZ0)×(List Int)×(List Ent125)×(List xZ0)):Option (List xZ0×List Int×Bool×List xZ1×List xZ4×Int×List UInt8×Int×Bool×Int×Int×List Int×Int):=xZ36 N c.1 c.2.1 c.2.2.1 c.2.2.2.1 c.2.2.2.2.1 c.2.2.2.2.2.1 c.2.2.2.2.2.2.1 c.2.2.2.2.2.2.2.1 c.2.2.2.2.2.2.2.2.1 c.2.2.2.2.2.2.2.2.2 (fun u0 u1 u2 u3=>next (u0,u1,u2,u3)) v.1 v.2.1 v.2.2.1 v.2.2.2
abbrev xZaE (N:Nat):((List xZ1)×(List xZ4)×Int×(List UInt8)×Int×Bool×Int×Int×(List Int)×Int)×((List xZ0)×(List Int)×(List Ent125)×(List xZ0))→Option (List xZ0×List Int×Bool×List xZ1×List xZ4×Int×List UInt8×Int×Bool×Int×Int×List Int×Int):=fun a=>loopV (xZ7w N a.1) N a.2
def xZb2:Con tb:=.p 8 [true] (.c (.el tb_ok 8) .n) (fun N a=>xZ8B N a.1) (R:=xZ1T×Int) (.p (.tu (.c (.el tb_ok 18) (.o (.i .i64))))) (fun _=>rfl)
def xZ92:LQ tb (((List xZ4)×Int×(List xZ1)×(List xZ4)×Int×(List UInt8)×Int×Bool×Int×Int×(List Int)×(List xZ1)×(List xZ4)×Int×(List UInt8)×Int×Bool×Int×Int×(List Int))×(Int×Int)):=(LQ.m [] [1,2,4,6,7,29,30,31] (.c 1 (.ptr 0 0) (.c 2 (.ptr 1 0) (.c 4 (.ptr 2 0) (.c 6 (.ptr 3 0) (.c 7 (.ptr 4 0) (.c 29 (.r 2) (.c 30 (.i .i64) (.c 31 (.i .i64) .n)))))))) (.c (.c (.r 4) (.c (.r 2) (.c (.i .i64) (.c .s (.c (.i .u8) .n))))) (.c (.c .e (.c .e (.c .e .n))) (.c (.c .b (.c (.i .u32) (.c (.i .u32) (.c (.r 11) .n)))) (.c (.c (.r 4) (.c (.r 2) (.c (.i .i64) (.c .s (.c (.i .u8) (.c .b (.c (.i .u32) (.c (.i .u32) (.c (.r 11) (.c (.i .u32) .n)))))))))) (.c (.c .e (.c .e (.c .e .n))) .n))))) .n).re (fun a=>((a.1.2.2.2.2.2.1,a.1.2.2.2.2.2.2.1,a.2.1.1.1,a.2.1.1.2.1,a.2.1.1.2.2.1,a.2.1.1.2.2.2.1,a.2.1.1.2.2.2.2.1,a.2.1.2.2.1.1,a.2.1.2.2.1.2.1,a.2.1.2.2.1.2.2.1,a.2.1.2.2.1.2.2.2.1,a.2.1.2.2.2.1.1,a.2.1.2.2.2.1.2.1,a.2.1.2.2.2.1.2.2.1,a.2.1.2.2.2.1.2.2.2.1,a.2.1.2.2.2.1.2.2.2.2.1,a.2.1.2.2.2.1.2.2.2.2.2.1,a.2.1.2.2.2.1.2.2.2.2.2.2.1,a.2.1.2.2.2.1.2.2.2.2.2.2.2.1,a.2.1.2.2.2.1.2.2.2.2.2.2.2.2.1),(a.1.2.2.2.2.2.2.2.1,a.2.1.2.2.2.1.2.2.2.2.2.2.2.2.2.1))) (fun x=>(((),(),(),(),(),x.1.1,x.1.2.1,x.2.1,()),((x.1.2.2.1,x.1.2.2.2.1,x.1.2.2.2.2.1,x.1.2.2.2.2.2.1,x.1.2.2.2.2.2.2.1,()),((),(),(),()),(x.1.2.2.2.2.2.2.2.1,x.1.2.2.2.2.2.2.2.2.1,x.1.2.2.2.2.2.2.2.2.2.1,x.1.2.2.2.2.2.2.2.2.2.2.1,()),(x.1.2.2.2.2.2.2.2.2.2.2.2.1,x.1.2.2.2.2.2.2.2.2.2.2.2.2.1,x.1.2.2.2.2.2.2.2.2.2.2.2.2.2.1,x.1.2.2.2.2.2.2.2.2.2.2.2.2.2.2.1,x.1.2.2.2.2.2.2.2.2.2.2.2.2.2.2.2.1,x.1.2.2.2.2.2.2.2.2.2.2.2.2.2.2.2.2.1,x.1.2.2.2.2.2.2.2.2.2.2.2.2.2.2.2.2.2.1,x.1.2.2.2.2.2.2.2.2.2.2.2.2.2.2.2.2.2.2.1,x.1.2.2.2.2.2.2.2.2.2.2.2.2.2.2.2.2.2.2.2,x.2.2,()),((),(),(),()),()),())) (fun _=>rfl)
def xZ93:LQ tb (((List xZ4)×Int×Bool×Int×Int×(List Int))×(Int×(List xZ1)×(List xZ4)×Int×(List UInt8)×Int×Bool×Int×Int×(List Int)×Int×(List xZ0)×(List (List xZ0))×(List (List Int)))):=(LQ.m [(7,some 0,14),(7,some 1,16),(7,some 2,17)] [2,4,6,7,65,66,67] (.c 2 (.ptr 0 0) (.c 4 (.ptr 1 0) (.c 6 (.ptr 2 0) (.c 7 (.ptr 3 0) (.c 65 (.r 2) (.c 66 (.i .i64) (.c 67 (.i .i64) .n))))))) (.c (.c .e (.c .e (.c .e .n))) (.c (.c .b (.c (.i .u32) (.c (.i .u32) (.c (.r 11) .n)))) (.c (.c (.r 4) (.c (.r 2) (.c (.i .i64) (.c .s (.c (.i .u8) (.c .b (.c (.i .u32) (.c (.i .u32) (.c (.r 11) (.c (.i .u32) .n)))))))))) (.c (.c (.own 0) (.c (.own 1) (.c (.own 2) .n))) .n)))) (.l 14 (.l 16 (.l 17 .n)))).re (fun a=>((a.1.2.2.2.2.1,a.1.2.2.2.2.2.1,a.2.1.2.1.1,a.2.1.2.1.2.1,a.2.1.2.1.2.2.1,a.2.1.2.1.2.2.2.1),(a.1.2.2.2.2.2.2.1,a.2.1.2.2.1.1,a.2.1.2.2.1.2.1,a.2.1.2.2.1.2.2.1,a.2.1.2.2.1.2.2.2.1,a.2.1.2.2.1.2.2.2.2.1,a.2.1.2.2.1.2.2.2.2.2.1,a.2.1.2.2.1.2.2.2.2.2.2.1,a.2.1.2.2.1.2.2.2.2.2.2.2.1,a.2.1.2.2.1.2.2.2.2.2.2.2.2.1,a.2.1.2.2.1.2.2.2.2.2.2.2.2.2.1,a.2.2.1,a.2.2.2.1,a.2.2.2.2.1))) (fun x=>(((),(),(),(),x.1.1,x.1.2.1,x.2.1,()),(((),(),(),()),(x.1.2.2.1,x.1.2.2.2.1,x.1.2.2.2.2.1,x.1.2.2.2.2.2,()),(x.2.2.1,x.2.2.2.1,x.2.2.2.2.1,x.2.2.2.2.2.1,x.2.2.2.2.2.2.1,x.2.2.2.2.2.2.2.1,x.2.2.2.2.2.2.2.2.1,x.2.2.2.2.2.2.2.2.2.1,x.2.2.2.2.2.2.2.2.2.2.1,x.2.2.2.2.2.2.2.2.2.2.2.1,()),((),(),(),()),()),x.2.2.2.2.2.2.2.2.2.2.2.2.1,x.2.2.2.2.2.2.2.2.2.2.2.2.2.1,x.2.2.2.2.2.2.2.2.2.2.2.2.2.2,())) (fun _=>rfl)
def xZcR (N:Nat) (c:(List xZ4)×Int×Bool×Int×Int×(List Int)) (next:(Int×(List xZ1)×(List xZ4)×Int×(List UInt8)×Int×Bool×Int×Int×(List Int)×Int×(List xZ0)×(List (List xZ0))×(List (List Int)))→Option (xZ1T×Int)) (v:Int×(List xZ1)×(List xZ4)×Int×(List UInt8)×Int×Bool×Int×Int×(List Int)×Int×(List xZ0)×(List (List xZ0))×(List (List Int))):Option (xZ1T×Int):=xZ8n N c.1 c.2.1 c.2.2.2.1 (fun u0 u1 u2 u3 u4 u5 u6 u7 u8 u9 u10 u11 u12 u13=>next (u0,u1,u2,u3,u4,u5,u6,u7,u8,u9,u10,u11,u12,u13)) v.1 v.2.1 v.2.2.1 v.2.2.2.1 v.2.2.2.2.1 v.2.2.2.2.2.1 v.2.2.2.2.2.2.1 v.2.2.2.2.2.2.2.1 v.2.2.2.2.2.2.2.2.1 v.2.2.2.2.2.2.2.2.2.1 v.2.2.2.2.2.2.2.2.2.2.1 v.2.2.2.2.2.2.2.2.2.2.2.1 v.2.2.2.2.2.2.2.2.2.2.2.2.1 v.2.2.2.2.2.2.2.2.2.2.2.2.2
abbrev xZg4 (N:Nat):((List xZ4)×Int×Bool×Int×Int×(List Int))×(Int×(List xZ1)×(List xZ4)×Int×(List UInt8)×Int×Bool×Int×Int×(List Int)×Int×(List xZ0)×(List (List xZ0))×(List (List Int)))→Option (xZ1T×Int):=fun a=>loopV (xZcR N a.1) N a.2
def xZcQ (N:Nat) (c:(List xZ4)×Int×(List xZ1)×(List xZ4)×Int×(List UInt8)×Int×Bool×Int×Int×(List Int)×(List xZ1)×(List xZ4)×Int×(List UInt8)×Int×Bool×Int×Int×(List Int)) (next:(Int×Int)→Option (xZ1T×Int)) (v:Int×Int):Option (xZ1T×Int):=xZ75 N c.1 c.2.1 c.2.2.2.1 c.2.2.2.2.2.2.2.1 c.2.2.2.2.2.2.2.2.1 c.2.2.2.2.2.2.2.2.2.2.2.1 c.2.2.2.2.2.2.2.2.2.2.2.2.1 c.2.2.2.2.2.2.2.2.2.2.2.2.2.1 c.2.2.2.2.2.2.2.2.2.2.2.2.2.2.1 c.2.2.2.2.2.2.2.2.2.2.2.2.2.2.2.1 c.2.2.2.2.2.2.2.2.2.2.2.2.2.2.2.2.1 c.2.2.2.2.2.2.2.2.2.2.2.2.2.2.2.2.2.1 c.2.2.2.2.2.2.2.2.2.2.2.2.2.2.2.2.2.2.1 c.2.2.2.2.2.2.2.2.2.2.2.2.2.2.2.2.2.2.2 (fun u0 u1=>next (u0,u1)) v.1 v.2
abbrev xZg3 (N:Nat):((List xZ4)×Int×(List xZ1)×(List xZ4)×Int×(List UInt8)×Int×Bool×Int×Int×(List Int)×(List xZ1)×(List xZ4)×Int×(List UInt8)×Int×Bool×Int×Int×(List Int))×(Int×Int)→Option (xZ1T×Int):=fun a=>loopV (xZcQ N a.1) N a.2
def xZ8a:Con tb:=.clone 132 1 (fun _ s=>shClone 80 s)
def xZ7p:Con tb:=.cloneD 132 1 (fun _ s=>shClone 80 s)
def xZ1B:Con tb:=.m 187 [false] (.c (.ptr 0 0) .n) (.c (.c (.r 5) (.c (.i .i64) (.c (.i .i64) .n))) .n) .n (fun N a=>xZ1D N a.2.1.1.1 a.2.1.1.2.1 a.2.1.1.2.2.1) (R:=xZ3×List xZ3×Int×Int) (.m (R:=xZ3×List xZ3×Int×Int) (.el tb_ok 5) (.c (.c (.r 5) (.c (.i .i64) (.c (.i .i64) .n))) .n) .n (fun z=>(z.1,z.2.1.1.1,z.2.1.1.2.1,z.2.1.1.2.2.1)) (fun r=>(r.1,((r.2.1,r.2.2.1,r.2.2.2,()),()),())) (fun _=>rfl))
def xZ4J:Con tb:=.m 177 [false] (.c (.ptr 0 0) .n) (.c (.c (.r 5) (.c (.i .i64) (.c (.i .i64) .n))) .n) .n (fun N a=>xZ1l N a.2.1.1.1 a.2.1.1.2.1 a.2.1.1.2.2.1) (R:=Int×List xZ3×Int×Int) (.m (R:=Int×List xZ3×Int×Int) (.i .i64) (.c (.c (.r 5) (.c (.i .i64) (.c (.i .i64) .n))) .n) .n (fun z=>(z.1,z.2.1.1.1,z.2.1.1.2.1,z.2.1.1.2.2.1)) (fun r=>(r.1,((r.2.1,r.2.2.1,r.2.2.2,()),()),())) (fun _=>rfl))
def xZ27:Con tb:=.m 190 [false,true] (.c (.ptr 0 0) (.c (.i .i64) .n)) (.c (.c (.r 5) (.c (.i .i64) (.c (.i .i64) .n))) .n) .n (fun N a=>xZ14 N a.1.2.1 a.2.1.1.1 a.2.1.1.2.1 a.2.1.1.2.2.1) (R:=Int×Int×List xZ3×Int×Int) (.m (R:=Int×Int×List xZ3×Int×Int) (.ifc 16777479 (.ag (.c (.i .i64) (.c (.i .i64) .n)))) (.c (.c (.r 5) (.c (.i .i64) (.c (.i .i64) .n))) .n) .n (fun z=>(z.1.1,z.1.2.1,z.2.1.1.1,z.2.1.1.2.1,z.2.1.1.2.2.1)) (fun r=>((r.1,r.2.1,()),((r.2.2.1,r.2.2.2.1,r.2.2.2.2,()),()),())) (fun _=>rfl))
def xZ4A:Con tb:=.m 189 [false,true] (.c (.ptr 0 0) (.c (.i .i64) .n)) (.c (.c (.r 5) (.c (.i .i64) (.c (.i .i64) .n))) .n) .n (fun N a=>xZ6o N a.1.2.1 a.2.1.1.1 a.2.1.1.2.1 a.2.1.1.2.2.1) (R:=(Int×Int×List xZ3×Int×Int)⊕(List xZ3×Int×Int)) (.or (.m (R:=Int×Int×List xZ3×Int×Int) (.ifc 16777479 (.ag (.c (.i .i64) (.c (.i .i64) .n)))) (.c (.c (.r 5) (.c (.i .i64) (.c (.i .i64) .n))) .n) .n (fun z=>(z.1.1,z.1.2.1,z.2.1.1.1,z.2.1.1.2.1,z.2.1.1.2.2.1)) (fun r=>((r.1,r.2.1,()),((r.2.2.1,r.2.2.2.1,r.2.2.2.2,()),()),())) (fun _=>rfl)) (.m (R:=List xZ3×Int×Int) (.tu .n) (.c (.c (.r 5) (.c (.i .i64) (.c (.i .i64) .n))) .n) .n (fun z=>(z.2.1.1.1,z.2.1.1.2.1,z.2.1.1.2.2.1)) (fun r=>((),((r.1,r.2.1,r.2.2,()),()),())) (fun _=>rfl)))
def xZ1J:Con tb:=.m 183 [false,true,true] (.c (.ptr 0 0) (.c (.i .u8) (.c .s .n))) (.c (.c (.r 5) (.c (.i .i64) (.c (.i .i64) .n))) .n) .n (fun N a=>xZC N a.1.2.1 a.1.2.2.1 a.2.1.1.1 a.2.1.1.2.1 a.2.1.1.2.2.1) (R:=Bool×List xZ3×Int×Int) (.m (R:=Bool×List xZ3×Int×Int) .b (.c (.c (.r 5) (.c (.i .i64) (.c (.i .i64) .n))) .n) .n (fun z=>(z.1,z.2.1.1.1,z.2.1.1.2.1,z.2.1.1.2.2.1)) (fun r=>(r.1,((r.2.1,r.2.2.1,r.2.2.2,()),()),())) (fun _=>rfl))
def xZ4Y:Con tb:=.m 194 [false,true] (.c .e (.c (.i .i64) .n)) .n .n (fun N a=>xZ3L N a.1.2.1) (R:=List xZ2) (.m (R:=List xZ2) (.own 0) .n (.l 1 .n) (fun z=>z.2.2.1) (fun r=>((),(),r,())) (fun _=>rfl))
def xZ5n:Con tb:=.p 188 [true] (.c (.r 6) .n) (fun N a=>xZ85 N a.1) (R:=(List UInt8)⊕(List xZ2)) (.or (.p (.ifc 16777225 .s)) (.p (.r 1))) (fun r=>by rcases r with _ | _<;>exact rfl)
def xZ3H:LQ tb (((List (List xZ2))×(List (List xZ2))×Int)×(Int×Int)):=(LQ.m [] [0,3,9,10,11] (.c 0 (.r 6) (.c 3 (.i .i64) (.c 9 (.r 6) (.c 10 (.i .i64) (.c 11 (.i .i64) .n))))) .n .n).re (fun a=>((a.1.1,a.1.2.2.1,a.1.2.2.2.1),(a.1.2.1,a.1.2.2.2.2.1))) (fun x=>((x.1.1,x.2.1,x.1.2.1,x.1.2.2,x.2.2,()),(),())) (fun _=>rfl)
def xZ3I:LQ tb (((List (List xZ2))×Int)×(Int×(List xZ2))):=(LQ.m [] [6,25,26,27] (.c 6 (.own 0) (.c 25 (.r 6) (.c 26 (.i .i64) (.c 27 (.i .i64) .n)))) .n (.l 1 .n)).re (fun a=>((a.1.2.1,a.1.2.2.1),(a.1.2.2.2.1,a.2.2.1))) (fun x=>(((),x.1.1,x.1.2,x.2.1,()),(),x.2.2,())) (fun _=>rfl)
def xZ7d (N:Nat) (c:(List (List xZ2))×Int) (next:(Int×(List xZ2))→Option ((List UInt8)⊕(List xZ2))) (v:Int×(List xZ2)):Option ((List UInt8)⊕(List xZ2)):=xZ7h N c.1 c.2 (fun u0 u1=>next (u0,u1)) v.1 v.2
abbrev xZ9N (N:Nat):((List (List xZ2))×Int)×(Int×(List xZ2))→Option ((List UInt8)⊕(List xZ2)):=fun a=>loopV (xZ7d N a.1) N a.2
def xZ7c (N:Nat) (c:(List (List xZ2))×(List (List xZ2))×Int) (next:(Int×Int)→Option ((List UInt8)⊕(List xZ2))) (v:Int×Int):Option ((List UInt8)⊕(List xZ2)):=xZ7g N c.1 c.2.1 c.2.2 (fun u0 u1=>next (u0,u1)) v.1 v.2
abbrev xZ9M (N:Nat):((List (List xZ2))×(List (List xZ2))×Int)×(Int×Int)→Option ((List UInt8)⊕(List xZ2)):=fun a=>loopV (xZ7c N a.1) N a.2
def xZ5l:Con tb:=.p 184 [true,true] (.c (.el tb_ok 1) (.c (.r 6) .n)) (fun N a=>xZ4O N a.1 a.2.1) (R:=List xZ2) (.p (.r 1)) (fun _=>rfl)
def xZ3C:Con tb:=.m 193 [false,true] (.c (.ptr 0 0) (.c (.i .u8) .n)) (.c (.c (.r 5) (.c (.i .i64) (.c (.i .i64) .n))) .n) .n (fun N a=>xZ2Q N a.1.2.1 a.2.1.1.1 a.2.1.1.2.1 a.2.1.1.2.2.1) (R:=(Int×Int×List xZ3×Int×Int)⊕(xZ3×List xZ3×Int×Int)) (.or (.m (R:=Int×Int×List xZ3×Int×Int) (.ifc 16777479 (.ag (.c (.i .i64) (.c (.i .i64) .n)))) (.c (.c (.r 5) (.c (.i .i64) (.c (.i .i64) .n))) .n) .n (fun z=>(z.1.1,z.1.2.1,z.2.1.1.1,z.2.1.1.2.1,z.2.1.1.2.2.1)) (fun r=>((r.1,r.2.1,()),((r.2.2.1,r.2.2.2.1,r.2.2.2.2,()),()),())) (fun _=>rfl)) (.m (R:=xZ3×List xZ3×Int×Int) (.el tb_ok 5) (.c (.c (.r 5) (.c (.i .i64) (.c (.i .i64) .n))) .n) .n (fun z=>(z.1,z.2.1.1.1,z.2.1.1.2.1,z.2.1.1.2.2.1)) (fun r=>(r.1,((r.2.1,r.2.2.1,r.2.2.2,()),()),())) (fun _=>rfl)))
def xZ4X:Con tb:=.m 195 [false] (.c (.ptr 0 0) .n) (.c (.c (.r 5) (.c (.i .i64) (.c (.i .i64) .n))) .n) .n (fun N a=>xZ3K N a.2.1.1.1 a.2.1.1.2.1 a.2.1.1.2.2.1) (R:=(Int×Int×List xZ3×Int×Int)⊕(List xZ2×List xZ3×Int×Int)) (.or (.m (R:=Int×Int×List xZ3×Int×Int) (.ifc 16777479 (.ag (.c (.i .i64) (.c (.i .i64) .n)))) (.c (.c (.r 5) (.c (.i .i64) (.c (.i .i64) .n))) .n) .n (fun z=>(z.1.1,z.1.2.1,z.2.1.1.1,z.2.1.1.2.1,z.2.1.1.2.2.1)) (fun r=>((r.1,r.2.1,()),((r.2.2.1,r.2.2.2.1,r.2.2.2.2,()),()),())) (fun _=>rfl)) (.m (R:=List xZ2×List xZ3×Int×Int) (.r 1) (.c (.c (.r 5) (.c (.i .i64) (.c (.i .i64) .n))) .n) .n (fun z=>(z.1,z.2.1.1.1,z.2.1.1.2.1,z.2.1.1.2.2.1)) (fun r=>(r.1,((r.2.1,r.2.2.1,r.2.2.2,()),()),())) (fun _=>rfl)))
def xZ5a:Con tb:=.m 191 [false] (.c (.ptr 0 0) .n) (.c (.c (.r 5) (.c (.i .i64) (.c (.i .i64) .n))) .n) .n (fun N a=>xZ5g N a.2.1.1.1 a.2.1.1.2.1 a.2.1.1.2.2.1) (R:=(Int×Int×List xZ3×Int×Int)⊕(List xZ2×List xZ3×Int×Int)) (.or (.m (R:=Int×Int×List xZ3×Int×Int) (.ifc 16777479 (.ag (.c (.i .i64) (.c (.i .i64) .n)))) (.c (.c (.r 5) (.c (.i .i64) (.c (.i .i64) .n))) .n) .n (fun z=>(z.1.1,z.1.2.1,z.2.1.1.1,z.2.1.1.2.1,z.2.1.1.2.2.1)) (fun r=>((r.1,r.2.1,()),((r.2.2.1,r.2.2.2.1,r.2.2.2.2,()),()),())) (fun _=>rfl)) (.m (R:=List xZ2×List xZ3×Int×Int) (.r 1) (.c (.c (.r 5) (.c (.i .i64) (.c (.i .i64) .n))) .n) .n (fun z=>(z.1,z.2.1.1.1,z.2.1.1.2.1,z.2.1.1.2.2.1)) (fun r=>(r.1,((r.2.1,r.2.2.1,r.2.2.2,()),()),())) (fun _=>rfl)))
def xZ3w:LQ tb ((Unit)×((List xZ2)×(List xZ3)×Int×Int)):=(LQ.m [] [0,3] (.c 0 (.ptr 0 0) (.c 3 (.r 1) .n)) (.c (.c (.r 5) (.c (.i .i64) (.c (.i .i64) .n))) .n) .n).re (fun a=>((),(a.1.2.1,a.2.1.1.1,a.2.1.1.2.1,a.2.1.1.2.2.1))) (fun x=>(((),x.2.1,()),((x.2.2.1,x.2.2.2.1,x.2.2.2.2,()),()),())) (fun _=>rfl)
def xZ6H (N:Nat) (c:Unit) (next:((List xZ2)×(List xZ3)×Int×Int)→Option ((Int×Int×List xZ3×Int×Int)⊕(List xZ2×List xZ3×Int×Int))) (v:(List xZ2)×(List xZ3)×Int×Int):Option ((Int×Int×List xZ3×Int×Int)⊕(List xZ2×List xZ3×Int×Int)):=xZ6P N (fun u0 u1 u2 u3=>next (u0,u1,u2,u3)) v.1 v.2.1 v.2.2.1 v.2.2.2
abbrev xZ9m (N:Nat):(Unit)×((List xZ2)×(List xZ3)×Int×Int)→Option ((Int×Int×List xZ3×Int×Int)⊕(List xZ2×List xZ3×Int×Int)):=fun a=>loopV (xZ6H N a.1) N a.2
def xZ8T:Con tb:=.s 180 [true] (.c (.i .u8) .n) (fun N a=>xZbn N a.1) (R:=List UInt8) (.p .s) (fun _=>⟨rfl,(by kernel_rfl)⟩)
def xZci:Con tb:=.s 192 [true] (.c .s .n) (fun N a=>xZeT N a.1) (R:=Int) (.p (.i .u8)) (fun _=>⟨rfl,(by kernel_rfl)⟩)
def xZ95:LQ tb (((List UInt8))×(Int)):=(LQ.m [] [0,3] (.c 0 .s (.c 3 (.i .u8) .n)) .n .n).re (fun a=>(a.1.1,a.1.2.1)) (fun x=>((x.1,x.2,()),(),())) (fun _=>rfl)
def xZcT (N:Nat) (c:(List UInt8)) (next:Int→Option Int) (v:Int):Option Int:=xZdd N c (fun u0=>next u0) v
abbrev xZg6 (N:Nat):((List UInt8))×(Int)→Option Int:=fun a=>loopV (xZcT N a.1) N a.2
def xZ4b:Con tb:=.m 179 [false,true] (.c (.ptr 0 0) (.c (.i .i64) .n)) (.c (.c (.r 5) (.c (.i .i64) (.c (.i .i64) .n))) .n) .n (fun N a=>xZ2z N a.1.2.1 a.2.1.1.1 a.2.1.1.2.1 a.2.1.1.2.2.1) (R:=(Int×Int×List xZ3×Int×Int)⊕(List xZ2×List xZ3×Int×Int)) (.or (.m (R:=Int×Int×List xZ3×Int×Int) (.ifc 16777479 (.ag (.c (.i .i64) (.c (.i .i64) .n)))) (.c (.c (.r 5) (.c (.i .i64) (.c (.i .i64) .n))) .n) .n (fun z=>(z.1.1,z.1.2.1,z.2.1.1.1,z.2.1.1.2.1,z.2.1.1.2.2.1)) (fun r=>((r.1,r.2.1,()),((r.2.2.1,r.2.2.2.1,r.2.2.2.2,()),()),())) (fun _=>rfl)) (.m (R:=List xZ2×List xZ3×Int×Int) (.r 1) (.c (.c (.r 5) (.c (.i .i64) (.c (.i .i64) .n))) .n) .n (fun z=>(z.1,z.2.1.1.1,z.2.1.1.2.1,z.2.1.1.2.2.1)) (fun r=>(r.1,((r.2.1,r.2.2.1,r.2.2.2,()),()),())) (fun _=>rfl)))
def xZ3G:LQ tb ((Int)×((List xZ2)×(List xZ3)×Int×Int)):=(LQ.m [] [0,1,5] (.c 0 (.ptr 0 0) (.c 1 (.i .i64) (.c 5 (.r 1) .n))) (.c (.c (.r 5) (.c (.i .i64) (.c (.i .i64) .n))) .n) .n).re (fun a=>(a.1.2.1,(a.1.2.2.1,a.2.1.1.1,a.2.1.1.2.1,a.2.1.1.2.2.1))) (fun x=>(((),x.1,x.2.1,()),((x.2.2.1,x.2.2.2.1,x.2.2.2.2,()),()),())) (fun _=>rfl)
def xZ7b (N:Nat) (c:Int) (next:((List xZ2)×(List xZ3)×Int×Int)→Option ((Int×Int×List xZ3×Int×Int)⊕(List xZ2×List xZ3×Int×Int))) (v:(List xZ2)×(List xZ3)×Int×Int):Option ((Int×Int×List xZ3×Int×Int)⊕(List xZ2×List xZ3×Int×Int)):=xZ7f N (xZ32 N) c (fun u0 u1 u2 u3=>next (u0,u1,u2,u3)) v.1 v.2.1 v.2.2.1 v.2.2.2
abbrev xZ9L (N:Nat):(Int)×((List xZ2)×(List xZ3)×Int×Int)→Option ((Int×Int×List xZ3×Int×Int)⊕(List xZ2×List xZ3×Int×Int)):=fun a=>loopV (xZ7b N a.1) N a.2
def xZ59:Con tb:=.m 182 [false,true] (.c (.ptr 0 0) (.c (.i .i64) .n)) (.c (.c (.r 5) (.c (.i .i64) (.c (.i .i64) .n))) .n) .n (fun N a=>xZaH N a.1.2.1 a.2.1.1.1 a.2.1.1.2.1 a.2.1.1.2.2.1) (R:=(Int×Int×List xZ3×Int×Int)⊕(List xZ2×List xZ3×Int×Int)) (.or (.m (R:=Int×Int×List xZ3×Int×Int) (.ifc 16777479 (.ag (.c (.i .i64) (.c (.i .i64) .n)))) (.c (.c (.r 5) (.c (.i .i64) (.c (.i .i64) .n))) .n) .n (fun z=>(z.1.1,z.1.2.1,z.2.1.1.1,z.2.1.1.2.1,z.2.1.1.2.2.1)) (fun r=>((r.1,r.2.1,()),((r.2.2.1,r.2.2.2.1,r.2.2.2.2,()),()),())) (fun _=>rfl)) (.m (R:=List xZ2×List xZ3×Int×Int) (.r 1) (.c (.c (.r 5) (.c (.i .i64) (.c (.i .i64) .n))) .n) .n (fun z=>(z.1,z.2.1.1.1,z.2.1.1.2.1,z.2.1.1.2.2.1)) (fun r=>(r.1,((r.2.1,r.2.2.1,r.2.2.2,()),()),())) (fun _=>rfl)))
def xZ3v:LQ tb ((Int)×((List xZ2)×(List xZ3)×Int×Int)):=(LQ.m [] [0,1,5] (.c 0 (.ptr 0 0) (.c 1 (.i .i64) (.c 5 (.r 1) .n))) (.c (.c (.r 5) (.c (.i .i64) (.c (.i .i64) .n))) .n) .n).re (fun a=>(a.1.2.1,(a.1.2.2.1,a.2.1.1.1,a.2.1.1.2.1,a.2.1.1.2.2.1))) (fun x=>(((),x.1,x.2.1,()),((x.2.2.1,x.2.2.2.1,x.2.2.2.2,()),()),())) (fun _=>rfl)
def xZ6G (N:Nat) (c:Int) (next:((List xZ2)×(List xZ3)×Int×Int)→Option ((Int×Int×List xZ3×Int×Int)⊕(List xZ2×List xZ3×Int×Int))) (v:(List xZ2)×(List xZ3)×Int×Int):Option ((Int×Int×List xZ3×Int×Int)⊕(List xZ2×List xZ3×Int×Int)):=xZ6O N (xZ32 N) c (fun u0 u1 u2 u3=>next (u0,u1,u2,u3)) v.1 v.2.1 v.2.2.1 v.2.2.2
abbrev xZ9l (N:Nat):(Int)×((List xZ2)×(List xZ3)×Int×Int)→Option ((Int×Int×List xZ3×Int×Int)⊕(List xZ2×List xZ3×Int×Int)):=fun a=>loopV (xZ6G N a.1) N a.2
def xZ3B:Con tb:=.m 186 [false,true] (.c (.ptr 0 0) (.c (.i .i64) .n)) (.c (.c (.r 5) (.c (.i .i64) (.c (.i .i64) .n))) .n) .n (fun N a=>xZ9O N a.1.2.1 a.2.1.1.1 a.2.1.1.2.1 a.2.1.1.2.2.1) (R:=(Int×Int×List xZ3×Int×Int)⊕(List xZ2×List xZ3×Int×Int)) (.or (.m (R:=Int×Int×List xZ3×Int×Int) (.ifc 16777479 (.ag (.c (.i .i64) (.c (.i .i64) .n)))) (.c (.c (.r 5) (.c (.i .i64) (.c (.i .i64) .n))) .n) .n (fun z=>(z.1.1,z.1.2.1,z.2.1.1.1,z.2.1.1.2.1,z.2.1.1.2.2.1)) (fun r=>((r.1,r.2.1,()),((r.2.2.1,r.2.2.2.1,r.2.2.2.2,()),()),())) (fun _=>rfl)) (.m (R:=List xZ2×List xZ3×Int×Int) (.r 1) (.c (.c (.r 5) (.c (.i .i64) (.c (.i .i64) .n))) .n) .n (fun z=>(z.1,z.2.1.1.1,z.2.1.1.2.1,z.2.1.1.2.2.1)) (fun r=>(r.1,((r.2.1,r.2.2.1,r.2.2.2,()),()),())) (fun _=>rfl)))
def xZ8s:Con tb:=.s 171 [true,true] (.c (.el tb_ok 1) (.c (.i .i64) .n)) (fun N a=>xZb0 N a.1 a.2.1) (R:=Bool) (.p .b) (fun _=>⟨rfl,(by kernel_rfl)⟩)
def xZ8E:Con tb:=.s 128 [true] (.c (.i .u8) .n) (fun N a=>xZaJ N a.1) (R:=Bool) (.p .b) (fun _=>⟨rfl,(by kernel_rfl)⟩)
def xZ8P:Con tb:=.s 129 [true] (.c .s .n) (fun N a=>xZbw N a.1) (R:=Bool) (.p .b) (fun _=>⟨rfl,(by kernel_rfl)⟩)
def xZbE:Con tb:=.s 130 [true] (.c (.i .u8) .n) (fun N a=>xZdS N a.1) (R:=Bool) (.p .b) (fun _=>⟨rfl,(by kernel_rfl)⟩)
def xZbD:Con tb:=.s 84 [true] (.c .s .n) (fun N a=>xZa8 N a.1) (R:=Bool) (.p .b) (fun _=>⟨rfl,(by kernel_rfl)⟩)
def xZ8H:LQ tb (((List UInt8))×(Int)):=(LQ.m [] [0,3] (.c 0 .s (.c 3 (.i .i64) .n)) .n .n).re (fun a=>(a.1.1,a.1.2.1)) (fun x=>((x.1,x.2,()),(),())) (fun _=>rfl)
def xZcd (N:Nat) (c:(List UInt8)) (next:Int→Option Bool) (v:Int):Option Bool:=xZcg N c (fun u0=>next u0) v
abbrev xZfd (N:Nat):((List UInt8))×(Int)→Option Bool:=fun a=>loopV (xZcd N a.1) N a.2
def xZcn:Con tb:=.p 185 [true] (.c (.el tb_ok 7) .n) (fun N a=>xZeV N a.1) (R:=Int⊕Int⊕Int⊕(List UInt8)⊕Unit) (.or (.p (.ifc 271 (.i .i64))) (.or (.p (.ifc 272 (.i .i64))) (.or (.p (.ifc 273 (.i .u64))) (.or (.p (.ifc 274 .s)) (.p .ni))))) (fun r=>by rcases r with _ | _ | _ | _ | _<;>exact rfl)
def xZ7R:Con tb:=.s 213 [true] (.c (.i .i64) .n) (fun N a=>xZ9r N a.1) (R:=xZe) (.p (.el tb_ok 7)) (fun _=>⟨rfl,(by kernel_rfl)⟩)
def xZ8t:Con tb:=.s 214 [true] (.c (.i .i64) .n) (fun N a=>xZ8D N a.1) (R:=xZe) (.p (.el tb_ok 7)) (fun _=>⟨rfl,(by kernel_rfl)⟩)
def xZfx:Con tb:=.s 164 [true] (.c (.i .u64) .n) (fun N a=>xZiF N a.1) (R:=Nat) (.p (.f .f64)) (fun _=>⟨rfl,(by kernel_rfl)⟩)
def xZcl:Con tb:=.s 150 [true] (.c (.i .u64) .n) (fun N a=>xZeU N a.1) (R:=Int) (.p (.i .u64)) (fun _=>⟨rfl,(by kernel_rfl)⟩)
def xZ7Q:Con tb:=.s 215 [true] (.c (.i .u64) .n) (fun N a=>xZ9q N a.1) (R:=xZe) (.p (.el tb_ok 7)) (fun _=>⟨rfl,(by kernel_rfl)⟩)
def xZ8b:Con tb:=.s 216 [true] (.c .s .n) (fun N a=>xZa9 N a.1) (R:=xZe) (.p (.el tb_ok 7)) (fun _=>⟨rfl,(by kernel_rfl)⟩)
def xZbF:Con tb:=.s 181 [true] (.c (.el tb_ok 7) .n) (fun N a=>xZdT N a.1) (R:=Int) (.p (.i .i64)) (fun _=>⟨rfl,(by kernel_rfl)⟩)
def xZ8O:Con tb:=.s 173 [true] (.c (.el tb_ok 1) .n) (fun N a=>xZbv N a.1) (R:=Bool) (.p .b) (fun _=>⟨rfl,(by kernel_rfl)⟩)
def xZb5:Con tb:=.s 172 [true,false,true] (.c (.el tb_ok 1) (.c (.fn 173 .n .n) (.c (.i .i64) .n))) (fun N a=>xZdf N a.1 a.2.2.1) (R:=Int) (.p (.i .i64)) (fun _=>⟨rfl,(by kernel_rfl)⟩)
def xZ9g:Con tb:=.s 174 [true] (.c (.el tb_ok 1) .n) (fun N a=>xZbS N a.1) (R:=Bool) (.p .b) (fun _=>⟨rfl,(by kernel_rfl)⟩)
def xZb4:Con tb:=.s 172 [true,false,true] (.c (.el tb_ok 1) (.c (.fn 174 .n .n) (.c (.i .i64) .n))) (fun N a=>xZde N a.1 a.2.2.1) (R:=Int) (.p (.i .i64)) (fun _=>⟨rfl,(by kernel_rfl)⟩)
def xZdl:Con tb:=.s 175 [true] (.c (.i .u8) .n) (fun N a=>xZfs N a.1) (R:=Int) (.p (.i .i64)) (fun _=>⟨rfl,(by kernel_rfl)⟩)
def xZac:Con tb:=.s 176 [true,true] (.c (.el tb_ok 1) (.c (.i .i64) .n)) (fun N a=>xZcf N a.1 a.2.1) (R:=Int) (.p (.i .i64)) (fun _=>⟨rfl,(by kernel_rfl)⟩)
def xZ3q:Con tb:=.m 167 [false,true,true] (.c (.ptr 0 0) (.c (.i .i64) (.c (.i .i64) .n))) (.c (.c (.r 1) (.c (.i .i64) .n)) .n) .n (fun N a=>xZ8p N a.1.2.1 a.1.2.2.1 a.2.1.1.1 a.2.1.1.2.1) (R:=Int×List xZ2×Int) (.m (R:=Int×List xZ2×Int) (.i .i64) (.c (.c (.r 1) (.c (.i .i64) .n)) .n) .n (fun z=>(z.1,z.2.1.1.1,z.2.1.1.2.1)) (fun r=>(r.1,((r.2.1,r.2.2,()),()),())) (fun _=>rfl))
def xZ49:LQ tb ((Int×Int×Int×Int×(List UInt8)×(List UInt8)×Int×Int×Int×(List UInt8))×(Int×(List xZ2)×Int)):=(LQ.m [] [0,2,7,57,58] (.c 0 (.ptr 0 0) (.c 2 (.i .i64) (.c 7 (.ptr 1 0) (.c 57 (.i .i64) (.c 58 (.i .i64) .n))))) (.c (.c (.r 1) (.c (.i .i64) .n)) (.c (.c (.i .u8) (.c (.i .u8) (.c .s (.c .s (.c (.i .u8) (.c (.i .i64) (.c (.i .u64) (.c .s .n)))))))) .n)) .n).re (fun a=>((a.1.2.1,a.1.2.2.2.1,a.2.1.2.1.1,a.2.1.2.1.2.1,a.2.1.2.1.2.2.1,a.2.1.2.1.2.2.2.1,a.2.1.2.1.2.2.2.2.1,a.2.1.2.1.2.2.2.2.2.1,a.2.1.2.1.2.2.2.2.2.2.1,a.2.1.2.1.2.2.2.2.2.2.2.1),(a.1.2.2.2.2.1,a.2.1.1.1,a.2.1.1.2.1))) (fun x=>(((),x.1.1,(),x.1.2.1,x.2.1,()),((x.2.2.1,x.2.2.2,()),(x.1.2.2.1,x.1.2.2.2.1,x.1.2.2.2.2.1,x.1.2.2.2.2.2.1,x.1.2.2.2.2.2.2.1,x.1.2.2.2.2.2.2.2.1,x.1.2.2.2.2.2.2.2.2.1,x.1.2.2.2.2.2.2.2.2.2,()),()),())) (fun _=>rfl)
def xZ7y (N:Nat) (c:Int×Int×Int×Int×(List UInt8)×(List UInt8)×Int×Int×Int×(List UInt8)) (next:(Int×(List xZ2)×Int)→Option (Int×List xZ2×Int)) (v:Int×(List xZ2)×Int):Option (Int×List xZ2×Int):=xZ7K N (xZ81 N) c.1 c.2.1 c.2.2.1 c.2.2.2.1 c.2.2.2.2.1 c.2.2.2.2.2.1 c.2.2.2.2.2.2.1 c.2.2.2.2.2.2.2.1 c.2.2.2.2.2.2.2.2.1 c.2.2.2.2.2.2.2.2.2 (fun u0 u1 u2=>next (u0,u1,u2)) v.1 v.2.1 v.2.2
abbrev xZaG (N:Nat):(Int×Int×Int×Int×(List UInt8)×(List UInt8)×Int×Int×Int×(List UInt8))×(Int×(List xZ2)×Int)→Option (Int×List xZ2×Int):=fun a=>loopV (xZ7y N a.1) N a.2
def xZep:Con tb:=.s 158 [true] (.c (.r 1) .n) (fun N a=>xZ9n N a.1) (R:=Int) (.p (.i .i64)) (fun _=>⟨rfl,(by kernel_rfl)⟩)
def xZbC:Con tb:=.p 169 [true,true,true] (.c (.r 5) (.c (.i .i64) (.c (.i .i64) .n))) (fun N a=>xZ9o N a.1 a.2.1 a.2.2.1) (R:=(List xZ2×Int)⊕(List xZ2×Int×Int×Int)) (.or (.m (R:=List xZ2×Int) (.tu (.c (.r 1) (.c (.i .i64) (.c .ni .n)))) .n .n (fun z=>(z.1.1,z.1.2.1)) (fun r=>((r.1,r.2,(),()),(),())) (fun _=>rfl)) (.m (R:=List xZ2×Int×Int×Int) (.tu (.c (.r 1) (.c (.i .i64) (.o (.ifc 175 (.dp (.c (.i .i64) (.c (.i .i64) .n)))))))) .n .n (fun z=>(z.1.1,z.1.2.1,z.1.2.2.1,z.1.2.2.2.1)) (fun r=>((r.1,r.2.1,r.2.2.1,r.2.2.2,()),(),())) (fun _=>rfl))) (fun r=>by rcases r with _ | _<;>exact rfl)
def xZdH:Con tb:=.s 7 [] .n (fun N a=>xZ84 N) (R:=Bool) (.p .b) (fun _=>⟨rfl,(by kernel_rfl)⟩)
def xZdj:Con tb:=.p 25 [true] (.c (.r 1) .n) (fun N a=>xZbZ N a.1) (R:=List xZ2) (.p (.r 1)) (fun _=>rfl)
def xZ9Y:LQ tb (((List xZ2))×(Int×(List xZ2))):=(LQ.m [(3,none,1)] [0,3,4] (.c 0 (.r 1) (.c 3 (.own 0) (.c 4 (.i .i64) .n))) .n (.l 1 .n)).re (fun a=>(a.1.1,(a.1.2.2.1,a.2.2.1))) (fun x=>((x.1,(),x.2.1,()),(),x.2.2,())) (fun _=>rfl)
def xZdL (N:Nat) (c:(List xZ2)) (next:(Int×(List xZ2))→Option (List xZ2)) (v:Int×(List xZ2)):Option (List xZ2):=xZa5 N c (fun u0 u1=>next (u0,u1)) v.1 v.2
abbrev xZgS (N:Nat):((List xZ2))×(Int×(List xZ2))→Option (List xZ2):=fun a=>loopV (xZdL N a.1) N a.2
def xZdk:Con tb:=.p 9 [true] (.c (.el tb_ok 8) .n) (fun N a=>xZc0 N a.1) (R:=xZy) (.p (.el tb_ok 8)) (fun _=>rfl)
def xZ9Z:LQ tb (((List xZ1)×(List xZ4)×Int×(List UInt8)×Int×Int×(List UInt8)×Int)×(Int×(List xZ1))):=(LQ.m [(3,some 0,4)] [1,2,3,4] (.c 1 (.ptr 0 0) (.c 2 (.ptr 1 0) (.c 3 (.ptr 2 0) (.c 4 (.i .i64) .n)))) (.c (.c (.r 4) (.c (.r 2) (.c (.i .i64) (.c .s (.c (.i .u8) .n))))) (.c (.c .e (.c .e (.c (.li .i64 0) (.c (.ls []) (.c (.li .u8 0) .n))))) (.c (.c (.own 0) (.c .e (.c (.i .i64) (.c .s (.c (.i .u8) .n))))) .n))) (.l 4 .n)).re (fun a=>((a.2.1.1.1,a.2.1.1.2.1,a.2.1.1.2.2.1,a.2.1.1.2.2.2.1,a.2.1.1.2.2.2.2.1,a.2.1.2.2.1.2.2.1,a.2.1.2.2.1.2.2.2.1,a.2.1.2.2.1.2.2.2.2.1),(a.1.2.2.2.1,a.2.2.1))) (fun x=>(((),(),(),x.2.1,()),((x.1.1,x.1.2.1,x.1.2.2.1,x.1.2.2.2.1,x.1.2.2.2.2.1,()),((),(),(),(),(),()),((),(),x.1.2.2.2.2.2.1,x.1.2.2.2.2.2.2.1,x.1.2.2.2.2.2.2.2,()),()),x.2.2,())) (fun _=>rfl)
def xZa0:LQ tb (((List xZ1)×(List xZ4)×Int×(List UInt8)×Int×Int×(List UInt8)×Int×(List xZ1))×(Int×(List xZ4))):=(LQ.m [(3,some 1,2)] [1,2,3,5] (.c 1 (.ptr 0 0) (.c 2 (.ptr 1 0) (.c 3 (.ptr 2 0) (.c 5 (.i .i64) .n)))) (.c (.c (.r 4) (.c (.r 2) (.c (.i .i64) (.c .s (.c (.i .u8) .n))))) (.c (.c .e (.c .e (.c (.li .i64 0) (.c (.ls []) (.c (.li .u8 0) .n))))) (.c (.c (.own 0) (.c (.own 1) (.c (.i .i64) (.c .s (.c (.i .u8) .n))))) .n))) (.l 4 (.l 2 .n))).re (fun a=>((a.2.1.1.1,a.2.1.1.2.1,a.2.1.1.2.2.1,a.2.1.1.2.2.2.1,a.2.1.1.2.2.2.2.1,a.2.1.2.2.1.2.2.1,a.2.1.2.2.1.2.2.2.1,a.2.1.2.2.1.2.2.2.2.1,a.2.2.1),(a.1.2.2.2.1,a.2.2.2.1))) (fun x=>(((),(),(),x.2.1,()),((x.1.1,x.1.2.1,x.1.2.2.1,x.1.2.2.2.1,x.1.2.2.2.2.1,()),((),(),(),(),(),()),((),(),x.1.2.2.2.2.2.1,x.1.2.2.2.2.2.2.1,x.1.2.2.2.2.2.2.2.1,()),()),x.1.2.2.2.2.2.2.2.2,x.2.2,())) (fun _=>rfl)
def xZdN (N:Nat) (c:(List xZ1)×(List xZ4)×Int×(List UInt8)×Int×Int×(List UInt8)×Int×(List xZ1)) (next:(Int×(List xZ4))→Option xZy) (v:Int×(List xZ4)):Option xZy:=xZa7 N c.2.1 c.2.2.2.2.2.1 c.2.2.2.2.2.2.1 c.2.2.2.2.2.2.2.1 c.2.2.2.2.2.2.2.2 (fun u0 u1=>next (u0,u1)) v.1 v.2
abbrev xZgU (N:Nat):((List xZ1)×(List xZ4)×Int×(List UInt8)×Int×Int×(List UInt8)×Int×(List xZ1))×(Int×(List xZ4))→Option xZy:=fun a=>loopV (xZdN N a.1) N a.2
def xZdM (N:Nat) (c:(List xZ1)×(List xZ4)×Int×(List UInt8)×Int×Int×(List UInt8)×Int) (next:(Int×(List xZ1))→Option xZy) (v:Int×(List xZ1)):Option xZy:=xZa6 N c.1 c.2.1 c.2.2.2.2.2.1 c.2.2.2.2.2.2.1 c.2.2.2.2.2.2.2 (fun u0 u1=>next (u0,u1)) v.1 v.2
abbrev xZgT (N:Nat):((List xZ1)×(List xZ4)×Int×(List UInt8)×Int×Int×(List UInt8)×Int)×(Int×(List xZ1))→Option xZy:=fun a=>loopV (xZdM N a.1) N a.2
def xZbt:Con tb:=.s 4 [true] (.c (.el tb_ok 8) .n) (fun N a=>xZ7N N a.1) (R:=Bool) (.p .b) (fun _=>⟨rfl,(by kernel_rfl)⟩)
def xZ6j:LQ tb (((List xZ1)×(List xZ4)×Int×(List UInt8)×Int×(List xZ0)×(List (List xZ0))×(List (List Int)))×(Int×Int)):=(LQ.m [] [3,4,6,7] (.c 3 (.ptr 0 0) (.c 4 (.ptr 1 0) (.c 6 (.i .u32) (.c 7 (.i .i64) .n)))) (.c (.c (.r 4) (.c (.r 2) (.c (.i .i64) (.c .s (.c (.i .u8) .n))))) (.c (.c (.r 14) (.c (.r 16) (.c (.r 17) .n))) .n)) .n).re (fun a=>((a.2.1.1.1,a.2.1.1.2.1,a.2.1.1.2.2.1,a.2.1.1.2.2.2.1,a.2.1.1.2.2.2.2.1,a.2.1.2.1.1,a.2.1.2.1.2.1,a.2.1.2.1.2.2.1),(a.1.2.2.1,a.1.2.2.2.1))) (fun x=>(((),(),x.2.1,x.2.2,()),((x.1.1,x.1.2.1,x.1.2.2.1,x.1.2.2.2.1,x.1.2.2.2.2.1,()),(x.1.2.2.2.2.2.1,x.1.2.2.2.2.2.2.1,x.1.2.2.2.2.2.2.2,()),()),())) (fun _=>rfl)
def xZ4j:LQ tb ((Int×(List xZ0)×(List (List xZ0))×(List (List Int)))×(Int)):=(LQ.m [] [4,6,8] (.c 4 (.ptr 0 0) (.c 6 (.i .u32) (.c 8 (.i .i64) .n))) (.c (.c (.r 14) (.c (.r 16) (.c (.r 17) .n))) .n) .n).re (fun a=>((a.1.2.1,a.2.1.1.1,a.2.1.1.2.1,a.2.1.1.2.2.1),a.1.2.2.1)) (fun x=>(((),x.1.1,x.2,()),((x.1.2.1,x.1.2.2.1,x.1.2.2.2,()),()),())) (fun _=>rfl)
def xZ6k:LQ tb ((Int×Int×(List xZ0)×(List (List xZ0))×(List (List Int)))×(Int)):=(LQ.m [] [4,6,8,9] (.c 4 (.ptr 0 0) (.c 6 (.i .u32) (.c 8 (.i .i64) (.c 9 (.i .i64) .n)))) (.c (.c (.r 14) (.c (.r 16) (.c (.r 17) .n))) .n) .n).re (fun a=>((a.1.2.1,a.1.2.2.1,a.2.1.1.1,a.2.1.1.2.1,a.2.1.1.2.2.1),a.1.2.2.2.1)) (fun x=>(((),x.1.1,x.1.2.1,x.2,()),((x.1.2.2.1,x.1.2.2.2.1,x.1.2.2.2.2,()),()),())) (fun _=>rfl)
def xZ6l:LQ tb ((Int×Int×(List xZ0)×(List (List xZ0))×(List (List Int)))×(Int)):=(LQ.m [] [4,6,8,11] (.c 4 (.ptr 0 0) (.c 6 (.i .u32) (.c 8 (.i .i64) (.c 11 (.i .i64) .n)))) (.c (.c (.r 14) (.c (.r 16) (.c (.r 17) .n))) .n) .n).re (fun a=>((a.1.2.1,a.1.2.2.1,a.2.1.1.1,a.2.1.1.2.1,a.2.1.1.2.2.1),a.1.2.2.2.1)) (fun x=>(((),x.1.1,x.1.2.1,x.2,()),((x.1.2.2.1,x.1.2.2.2.1,x.1.2.2.2.2,()),()),())) (fun _=>rfl)
def xZ9S (N:Nat) (next2:(Int×(List xZ0)×(List (List xZ0))×(List (List Int)))×(Int)→Option Bool) (c:Int×Int×(List xZ0)×(List (List xZ0))×(List (List Int))) (next:Int→Option Bool) (v:Int):Option Bool:=xZ6n N c.1 c.2.1 c.2.2.2.2 (fun u0=>next2 ((c.1,c.2.2.1,c.2.2.2.1,c.2.2.2.2),u0)) (fun u0=>next u0) v
abbrev xZdb (N:Nat) (next2:(Int×(List xZ0)×(List (List xZ0))×(List (List Int)))×(Int)→Option Bool):(Int×Int×(List xZ0)×(List (List xZ0))×(List (List Int)))×(Int)→Option Bool:=fun a=>loopV (xZ9S N next2 a.1) N a.2
def xZ9R (N:Nat) (next2:(Int×(List xZ0)×(List (List xZ0))×(List (List Int)))×(Int)→Option Bool) (c:Int×Int×(List xZ0)×(List (List xZ0))×(List (List Int))) (next:Int→Option Bool) (v:Int):Option Bool:=xZ58 N c.1 c.2.1 c.2.2.2.1 c.2.2.2.2 (fun u0=>next2 ((c.1,c.2.2.1,c.2.2.2.1,c.2.2.2.2),u0)) (fun u0=>next u0) v
abbrev xZda (N:Nat) (next2:(Int×(List xZ0)×(List (List xZ0))×(List (List Int)))×(Int)→Option Bool):(Int×Int×(List xZ0)×(List (List xZ0))×(List (List Int)))×(Int)→Option Bool:=fun a=>loopV (xZ9R N next2 a.1) N a.2
def xZ9Q (N:Nat) (c:Int×(List xZ0)×(List (List xZ0))×(List (List Int))) (next:Int→Option Bool) (v:Int):Option Bool:=xZ6m N c.1 c.2.1 c.2.2.1 c.2.2.2 (fun u0=>next u0) v
abbrev xZd9 (N:Nat):(Int×(List xZ0)×(List (List xZ0))×(List (List Int)))×(Int)→Option Bool:=fun a=>loopV (xZ9Q N a.1) N a.2
def xZ9P (N:Nat) (c:(List xZ1)×(List xZ4)×Int×(List UInt8)×Int×(List xZ0)×(List (List xZ0))×(List (List Int))) (next:(Int×Int)→Option Bool) (v:Int×Int):Option Bool:=xZ8o N c.2.1 c.2.2.2.2.2.1 c.2.2.2.2.2.2.1 c.2.2.2.2.2.2.2 (fun u0 u1=>next (u0,u1)) v.1 v.2
abbrev xZd8 (N:Nat):((List xZ1)×(List xZ4)×Int×(List UInt8)×Int×(List xZ0)×(List (List xZ0))×(List (List Int)))×(Int×Int)→Option Bool:=fun a=>loopV (xZ9P N a.1) N a.2
end
end
end Go.Proofs.YtmfkphajohcklaaGreat.O
