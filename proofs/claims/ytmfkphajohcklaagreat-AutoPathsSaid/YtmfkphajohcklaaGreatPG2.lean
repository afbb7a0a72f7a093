/- The code, and what each function of it is walked to. No premise beyond what each theorem says. -/
import Derived.Test.YtmfkphajohcklaaGreatPG1
set_option linter.all false
set_option linter.unusedSimpArgs false
set_option linter.unusedVariables false
namespace Go.Proofs.YtmfkphajohcklaaGreat.P
open Go
section
open Go.Proofs.Tryz
set_option maxRecDepth 1000000
noncomputable section
theorem hm:prog.follows .mixedOrders=true:=by kernel_rfl
def eA0 (x:Int):AV:=.v (.int .i64 x)
def eA1 (x:xZ2):AV:=.agg [.v (.int .u8 x.Kind),.v (.int .u8 x.Op),.v (.string (bs x.Var)),.v (.string (bs x.Name)),.v (.int .u8 x.Val.Kind),.v (.int .i64 x.Val.N),.v (.int .u64 x.Val.Bits),.v (.string (bs x.Val.Text))]
def eA2 (x:xZ3):AV:=.agg [.v (.bool x.Neg),.v (.string (bs x.Var)),.v (.string (bs x.Type_)),.sl 8 (List.map eA1 x.Test)]
def eA3 (x:xZ6d):AV:=.agg [.v (.int .u8 x.Kind),.v (.int .i64 x.Kids),.v (.int .i64 x.Lo),.v (.int .i64 x.Hi),.v (.string (bs x.Var)),.v (.string (bs x.Type_)),.sl 8 (List.map eA1 x.Test)]
def eA4 (x:xZ1):AV:=.agg [.v (.int .u8 x.Kind),.v (.int .i64 x.Place)]
def eA5 (x:xZ4):AV:=.agg [.v (.int .u8 x.Kind),.v (.int .i64 x.At),.v (.string (bs x.Text)),.v (.int .u8 x.Val.Kind),.v (.int .i64 x.Val.N),.v (.int .u64 x.Val.Bits),.v (.string (bs x.Val.Text))]
def eA6 (x:List xZ2):AV:=.sl 8 (List.map eA1 x)
def eA7 (x:xZe):AV:=.agg [.v (.int .u8 x.Kind),.v (.int .i64 x.N),.v (.int .u64 x.Bits),.v (.string (bs x.Text))]
def eA8 (x:xZv):AV:=.agg [.sl 2 (List.map eA4 x.Nodes),.sl 4 (List.map eA2 x.Places),.v (.int .i64 x.Within),.v (.string (bs x.By)),.v (.int .u8 x.Mode)]
def eA9 (x:A24 Bool):AV:=.agg (flm (fun (y1:Bool)=>[.v (.bool y1)]) (A24.l x))
def eA10 (x:Bool):AV:=.v (.bool x)
def eA11 (x:Int):AV:=.v (.int .u32 x)
def eA12 (x:xZS):AV:=.agg [.v (.bool x.null),.v (.int .u32 x.first),.v (.int .u32 x.last)]
def eA13 (x:xZ1G):AV:=.agg [.v (.bool x.Null),.v (.int .u32 x.First),.v (.int .u32 x.Last),.sl 1 (List.map eA11 x.Next)]
def eA14 (x:xZ0):AV:=.agg [.v (.int .i64 x.To),.v (.int .u32 x.Negs)]
def eA15 (x:Ent125):AV:=.agg [.v (.int .i64 x.k.To),.v (.int .u32 x.k.Negs)]
def eA16 (x:List xZ0):AV:=.sl 2 (List.map eA14 x)
def eA17 (x:List Int):AV:=.sl 1 (List.map eA11 x)
def eA18 (x:xZ1H):AV:=.agg [.sl 2 (List.map eA14 x.Start),.sl 1 (List.map eA16 x.Next),.sl 1 (List.map eA17 x.Ends)]
abbrev T:Nat→Type
 | 0=>Int
 | 1=>xZ2
 | 2=>xZ3
 | 3=>xZ6d
 | 4=>xZ1
 | 5=>xZ4
 | 6=>List xZ2
 | 7=>xZe
 | 8=>xZv
 | 9=>A24 Bool
 | 10=>Bool
 | 11=>Int
 | 12=>xZS
 | 13=>xZ1G
 | 14=>xZ0
 | 15=>Ent125
 | 16=>List xZ0
 | 17=>List Int
 | 18=>xZ1H
 | _=>Unit
def enc:(i:Nat)→T i→List (BV T)
 | 0=>fun (x:Int)=>[.int .i64 x]
 | 1=>fun (x:xZ2)=>[.int .u8 x.Kind,.int .u8 x.Op,.str x.Var,.str x.Name,.int .u8 x.Val.Kind,.int .i64 x.Val.N,.int .u64 x.Val.Bits,.str x.Val.Text]
 | 2=>fun (x:xZ3)=>[.bool x.Neg,.str x.Var,.str x.Type_,.sl 1 x.Test]
 | 3=>fun (x:xZ6d)=>[.int .u8 x.Kind,.int .i64 x.Kids,.int .i64 x.Lo,.int .i64 x.Hi,.str x.Var,.str x.Type_,.sl 1 x.Test]
 | 4=>fun (x:xZ1)=>[.int .u8 x.Kind,.int .i64 x.Place]
 | 5=>fun (x:xZ4)=>[.int .u8 x.Kind,.int .i64 x.At,.str x.Text,.int .u8 x.Val.Kind,.int .i64 x.Val.N,.int .u64 x.Val.Bits,.str x.Val.Text]
 | 6=>fun (x:List xZ2)=>[.sl 1 x]
 | 7=>fun (x:xZe)=>[.int .u8 x.Kind,.int .i64 x.N,.int .u64 x.Bits,.str x.Text]
 | 8=>fun (x:xZv)=>[.sl 4 x.Nodes,.sl 2 x.Places,.int .i64 x.Within,.str x.By,.int .u8 x.Mode]
 | 9=>fun (x:A24 Bool)=>flm (fun (y1:Bool)=>[.bool y1]) (A24.l x)
 | 10=>fun (x:Bool)=>[.bool x]
 | 11=>fun (x:Int)=>[.int .u32 x]
 | 12=>fun (x:xZS)=>[.bool x.null,.int .u32 x.first,.int .u32 x.last]
 | 13=>fun (x:xZ1G)=>[.bool x.Null,.int .u32 x.First,.int .u32 x.Last,.sl 11 x.Next]
 | 14=>fun (x:xZ0)=>[.int .i64 x.To,.int .u32 x.Negs]
 | 15=>fun (x:Ent125)=>[.int .i64 x.k.To,.int .u32 x.k.Negs]
 | 16=>fun (x:List xZ0)=>[.sl 14 x]
 | 17=>fun (x:List Int)=>[.sl 11 x]
 | 18=>fun (x:xZ1H)=>[.sl 14 x.Start,.sl 16 x.Next,.sl 17 x.Ends]
 | _=>fun _=>[]
def dec0:List (BV T)→Option Int:=P1 (asInt .i64) fun a0=>P0 (a0:Int)
def dec1:List (BV T)→Option xZ2:=P1 (asInt .u8) fun a0=>P1 (asInt .u8) fun a1=>P1 asStr fun a2=>P1 asStr fun a3=>P1 (asInt .u8) fun a4=>P1 (asInt .i64) fun a5=>P1 (asInt .u64) fun a6=>P1 asStr fun a7=>P0 (⟨a0,a1,a2,a3,⟨a4,a5,a6,a7⟩⟩:xZ2)
def dec2:List (BV T)→Option xZ3:=P1 asBool fun a0=>P1 asStr fun a1=>P1 asStr fun a2=>P1 (asRow 1) fun a3=>P0 (⟨a0,a1,a2,a3⟩:xZ3)
def dec3:List (BV T)→Option xZ6d:=P1 (asInt .u8) fun a0=>P1 (asInt .i64) fun a1=>P1 (asInt .i64) fun a2=>P1 (asInt .i64) fun a3=>P1 asStr fun a4=>P1 asStr fun a5=>P1 (asRow 1) fun a6=>P0 (⟨a0,a1,a2,a3,a4,a5,a6⟩:xZ6d)
def dec4:List (BV T)→Option xZ1:=P1 (asInt .u8) fun a0=>P1 (asInt .i64) fun a1=>P0 (⟨a0,a1⟩:xZ1)
def dec5:List (BV T)→Option xZ4:=P1 (asInt .u8) fun a0=>P1 (asInt .i64) fun a1=>P1 asStr fun a2=>P1 (asInt .u8) fun a3=>P1 (asInt .i64) fun a4=>P1 (asInt .u64) fun a5=>P1 asStr fun a6=>P0 (⟨a0,a1,a2,⟨a3,a4,a5,a6⟩⟩:xZ4)
def dec6:List (BV T)→Option (List xZ2):=P1 (asRow 1) fun a0=>P0 (a0:List xZ2)
def dec7:List (BV T)→Option xZe:=P1 (asInt .u8) fun a0=>P1 (asInt .i64) fun a1=>P1 (asInt .u64) fun a2=>P1 asStr fun a3=>P0 (⟨a0,a1,a2,a3⟩:xZe)
def dec8:List (BV T)→Option xZv:=P1 (asRow 4) fun a0=>P1 (asRow 2) fun a1=>P1 (asInt .i64) fun a2=>P1 asStr fun a3=>P1 (asInt .u8) fun a4=>P0 (⟨a0,a1,a2,a3,a4⟩:xZv)
def dec9:List (BV T)→Option (A24 Bool):=fun cs=>(decN 1 (P1 asBool fun a0=>P0 (a0:Bool)) 24 cs).bind A24.of
def dec10:List (BV T)→Option Bool:=P1 asBool fun a0=>P0 (a0:Bool)
def dec11:List (BV T)→Option Int:=P1 (asInt .u32) fun a0=>P0 (a0:Int)
def dec12:List (BV T)→Option xZS:=P1 asBool fun a0=>P1 (asInt .u32) fun a1=>P1 (asInt .u32) fun a2=>P0 (⟨a0,a1,a2⟩:xZS)
def dec13:List (BV T)→Option xZ1G:=P1 asBool fun a0=>P1 (asInt .u32) fun a1=>P1 (asInt .u32) fun a2=>P1 (asRow 11) fun a3=>P0 (⟨a0,a1,a2,a3⟩:xZ1G)
def dec14:List (BV T)→Option xZ0:=P1 (asInt .i64) fun a0=>P1 (asInt .u32) fun a1=>P0 (⟨a0,a1⟩:xZ0)
def dec15:List (BV T)→Option Ent125:=P1 (asInt .i64) fun a0=>P1 (asInt .u32) fun a1=>P0 (⟨⟨a0,a1⟩,⟨⟩⟩:Ent125)
def dec16:List (BV T)→Option (List xZ0):=P1 (asRow 14) fun a0=>P0 (a0:List xZ0)
def dec17:List (BV T)→Option (List Int):=P1 (asRow 11) fun a0=>P0 (a0:List Int)
def dec18:List (BV T)→Option xZ1H:=P1 (asRow 14) fun a0=>P1 (asRow 16) fun a1=>P1 (asRow 17) fun a2=>P0 (⟨a0,a1,a2⟩:xZ1H)
def dec:(i:Nat)→List (BV T)→Option (T i)
 | 0=>dec0
 | 1=>dec1
 | 2=>dec2
 | 3=>dec3
 | 4=>dec4
 | 5=>dec5
 | 6=>dec6
 | 7=>dec7
 | 8=>dec8
 | 9=>dec9
 | 10=>dec10
 | 11=>dec11
 | 12=>dec12
 | 13=>dec13
 | 14=>dec14
 | 15=>dec15
 | 16=>dec16
 | 17=>dec17
 | 18=>dec18
 | _=>fun _=>none
def eA:(i:Nat)→T i→AV
 | 0=>eA0
 | 1=>eA1
 | 2=>eA2
 | 3=>eA3
 | 4=>eA4
 | 5=>eA5
 | 6=>eA6
 | 7=>eA7
 | 8=>eA8
 | 9=>eA9
 | 10=>eA10
 | 11=>eA11
 | 12=>eA12
 | 13=>eA13
 | 14=>eA14
 | 15=>eA15
 | 16=>eA16
 | 17=>eA17
 | 18=>eA18
 | _=>fun _=>.agg []
def tb:Tb T:={k:=fun i=>[1,8,4,7,2,7,1,4,5,24,1,1,3,4,2,2,1,1,3].getD i 0,ag:=fun i=>[false,true,true,true,true,true,false,true,true,true,false,false,true,true,true,true,false,false,true].getD i true,eA,enc,dec}
def sbf (k:Nat):Option (List UInt8→(i:Nat)×List (T i)):=none
theorem sb_ok (k:Nat) (f:List UInt8→(i:Nat)×List (T i)) (s:List UInt8) (h:sbf k=some f):k=1∧tb.k (f s).1=1∧(f s).2.map (tb.eA (f s).1)=s.map byteV:=by cases h
def bof (i:Nat) (_:List (T i)):Option (List UInt8):=none
theorem bo_ok (i:Nat) (l:List (T i)) (s:List UInt8) (h:bof i l=some s):tb.k i=1∧∃ m:List Int,l.map (tb.eA i)=m.map u8V∧s=byS m:=by cases h
theorem xZoR (cs:List (BV T)) (x:Int) (h:dec0 cs=some x):LWs (BV.avs tb cs) (eA0 x).cells:=by
 obtain ⟨c0,r0,a0,rfl,h0,h⟩:=xZ1K h
 obtain ⟨rfl,rfl⟩:=xZ8q h
 exact .cons (xZ3h h0) (.nil)
theorem xZoS (cs:List (BV T)) (x:xZ2) (h:dec1 cs=some x):LWs (BV.avs tb cs) (eA1 x).cells:=by
 obtain ⟨c0,r0,a0,rfl,h0,h⟩:=xZ1K h
 obtain ⟨c1,r1,a1,rfl,h1,h⟩:=xZ1K h
 obtain ⟨c2,r2,a2,rfl,h2,h⟩:=xZ1K h
 obtain ⟨c3,r3,a3,rfl,h3,h⟩:=xZ1K h
 obtain ⟨c4,r4,a4,rfl,h4,h⟩:=xZ1K h
 obtain ⟨c5,r5,a5,rfl,h5,h⟩:=xZ1K h
 obtain ⟨c6,r6,a6,rfl,h6,h⟩:=xZ1K h
 obtain ⟨c7,r7,a7,rfl,h7,h⟩:=xZ1K h
 obtain ⟨rfl,rfl⟩:=xZ8q h
 exact .cons (xZ3h h0) (.cons (xZ3h h1) (.cons (xZ9A h2) (.cons (xZ9A h3) (.cons (xZ3h h4) (.cons (xZ3h h5) (.cons (xZ3h h6) (.cons (xZ9A h7) (.nil))))))))
theorem xZoT (cs:List (BV T)) (x:xZ3) (h:dec2 cs=some x):LWs (BV.avs tb cs) (eA2 x).cells:=by
 obtain ⟨c0,r0,a0,rfl,h0,h⟩:=xZ1K h
 obtain ⟨c1,r1,a1,rfl,h1,h⟩:=xZ1K h
 obtain ⟨c2,r2,a2,rfl,h2,h⟩:=xZ1K h
 obtain ⟨c3,r3,a3,rfl,h3,h⟩:=xZ1K h
 obtain ⟨rfl,rfl⟩:=xZ8q h
 exact .cons (xZdq h0) (.cons (xZ9A h1) (.cons (xZ9A h2) (.cons (xZ96 h3) (.nil))))
theorem xZoU (cs:List (BV T)) (x:xZ6d) (h:dec3 cs=some x):LWs (BV.avs tb cs) (eA3 x).cells:=by
 obtain ⟨c0,r0,a0,rfl,h0,h⟩:=xZ1K h
 obtain ⟨c1,r1,a1,rfl,h1,h⟩:=xZ1K h
 obtain ⟨c2,r2,a2,rfl,h2,h⟩:=xZ1K h
 obtain ⟨c3,r3,a3,rfl,h3,h⟩:=xZ1K h
 obtain ⟨c4,r4,a4,rfl,h4,h⟩:=xZ1K h
 obtain ⟨c5,r5,a5,rfl,h5,h⟩:=xZ1K h
 obtain ⟨c6,r6,a6,rfl,h6,h⟩:=xZ1K h
 obtain ⟨rfl,rfl⟩:=xZ8q h
 exact .cons (xZ3h h0) (.cons (xZ3h h1) (.cons (xZ3h h2) (.cons (xZ3h h3) (.cons (xZ9A h4) (.cons (xZ9A h5) (.cons (xZ96 h6) (.nil)))))))
theorem xZoV (cs:List (BV T)) (x:xZ1) (h:dec4 cs=some x):LWs (BV.avs tb cs) (eA4 x).cells:=by
 obtain ⟨c0,r0,a0,rfl,h0,h⟩:=xZ1K h
 obtain ⟨c1,r1,a1,rfl,h1,h⟩:=xZ1K h
 obtain ⟨rfl,rfl⟩:=xZ8q h
 exact .cons (xZ3h h0) (.cons (xZ3h h1) (.nil))
theorem xZoW (cs:List (BV T)) (x:xZ4) (h:dec5 cs=some x):LWs (BV.avs tb cs) (eA5 x).cells:=by
 obtain ⟨c0,r0,a0,rfl,h0,h⟩:=xZ1K h
 obtain ⟨c1,r1,a1,rfl,h1,h⟩:=xZ1K h
 obtain ⟨c2,r2,a2,rfl,h2,h⟩:=xZ1K h
 obtain ⟨c3,r3,a3,rfl,h3,h⟩:=xZ1K h
 obtain ⟨c4,r4,a4,rfl,h4,h⟩:=xZ1K h
 obtain ⟨c5,r5,a5,rfl,h5,h⟩:=xZ1K h
 obtain ⟨c6,r6,a6,rfl,h6,h⟩:=xZ1K h
 obtain ⟨rfl,rfl⟩:=xZ8q h
 exact .cons (xZ3h h0) (.cons (xZ3h h1) (.cons (xZ9A h2) (.cons (xZ3h h3) (.cons (xZ3h h4) (.cons (xZ3h h5) (.cons (xZ9A h6) (.nil)))))))
theorem xZoX (cs:List (BV T)) (x:List xZ2) (h:dec6 cs=some x):LWs (BV.avs tb cs) (eA6 x).cells:=by
 obtain ⟨c0,r0,a0,rfl,h0,h⟩:=xZ1K h
 obtain ⟨rfl,rfl⟩:=xZ8q h
 exact .cons (xZ96 h0) (.nil)
theorem xZoY (cs:List (BV T)) (x:xZe) (h:dec7 cs=some x):LWs (BV.avs tb cs) (eA7 x).cells:=by
 obtain ⟨c0,r0,a0,rfl,h0,h⟩:=xZ1K h
 obtain ⟨c1,r1,a1,rfl,h1,h⟩:=xZ1K h
 obtain ⟨c2,r2,a2,rfl,h2,h⟩:=xZ1K h
 obtain ⟨c3,r3,a3,rfl,h3,h⟩:=xZ1K h
 obtain ⟨rfl,rfl⟩:=xZ8q h
 exact .cons (xZ3h h0) (.cons (xZ3h h1) (.cons (xZ3h h2) (.cons (xZ9A h3) (.nil))))
theorem xZoZ (cs:List (BV T)) (x:xZv) (h:dec8 cs=some x):LWs (BV.avs tb cs) (eA8 x).cells:=by
 obtain ⟨c0,r0,a0,rfl,h0,h⟩:=xZ1K h
 obtain ⟨c1,r1,a1,rfl,h1,h⟩:=xZ1K h
 obtain ⟨c2,r2,a2,rfl,h2,h⟩:=xZ1K h
 obtain ⟨c3,r3,a3,rfl,h3,h⟩:=xZ1K h
 obtain ⟨c4,r4,a4,rfl,h4,h⟩:=xZ1K h
 obtain ⟨rfl,rfl⟩:=xZ8q h
 exact .cons (xZ96 h0) (.cons (xZ96 h1) (.cons (xZ3h h2) (.cons (xZ9A h3) (.cons (xZ3h h4) (.nil)))))
theorem xZp0 (cs:List (BV T)) (x:A24 Bool) (h:dec9 cs=some x):LWs (BV.avs tb cs) (eA9 x).cells:=by
 unfold dec9 at h
 obtain ⟨l,h1,h2⟩:=Option.bind_eq_some_iff.1 h
 have h3:=A24.of_l h2
 have h4:=xZmH (B:=tb) (f:=fun (y1:Bool)=>[.v (.bool y1)]) (fun cs a h=>by
  obtain ⟨c0,r0,a0,rfl,h0,h⟩:=xZ1K h
  obtain ⟨rfl,rfl⟩:=xZ8q h
  exact .cons (xZdq h0) (.nil)) h1
 rw [← h3] at h4
 exact h4
theorem xZnz (cs:List (BV T)) (x:Bool) (h:dec10 cs=some x):LWs (BV.avs tb cs) (eA10 x).cells:=by
 obtain ⟨c0,r0,a0,rfl,h0,h⟩:=xZ1K h
 obtain ⟨rfl,rfl⟩:=xZ8q h
 exact .cons (xZdq h0) (.nil)
theorem xZnA (cs:List (BV T)) (x:Int) (h:dec11 cs=some x):LWs (BV.avs tb cs) (eA11 x).cells:=by
 obtain ⟨c0,r0,a0,rfl,h0,h⟩:=xZ1K h
 obtain ⟨rfl,rfl⟩:=xZ8q h
 exact .cons (xZ3h h0) (.nil)
theorem xZnB (cs:List (BV T)) (x:xZS) (h:dec12 cs=some x):LWs (BV.avs tb cs) (eA12 x).cells:=by
 obtain ⟨c0,r0,a0,rfl,h0,h⟩:=xZ1K h
 obtain ⟨c1,r1,a1,rfl,h1,h⟩:=xZ1K h
 obtain ⟨c2,r2,a2,rfl,h2,h⟩:=xZ1K h
 obtain ⟨rfl,rfl⟩:=xZ8q h
 exact .cons (xZdq h0) (.cons (xZ3h h1) (.cons (xZ3h h2) (.nil)))
theorem xZnC (cs:List (BV T)) (x:xZ1G) (h:dec13 cs=some x):LWs (BV.avs tb cs) (eA13 x).cells:=by
 obtain ⟨c0,r0,a0,rfl,h0,h⟩:=xZ1K h
 obtain ⟨c1,r1,a1,rfl,h1,h⟩:=xZ1K h
 obtain ⟨c2,r2,a2,rfl,h2,h⟩:=xZ1K h
 obtain ⟨c3,r3,a3,rfl,h3,h⟩:=xZ1K h
 obtain ⟨rfl,rfl⟩:=xZ8q h
 exact .cons (xZdq h0) (.cons (xZ3h h1) (.cons (xZ3h h2) (.cons (xZ96 h3) (.nil))))
theorem xZnD (cs:List (BV T)) (x:xZ0) (h:dec14 cs=some x):LWs (BV.avs tb cs) (eA14 x).cells:=by
 obtain ⟨c0,r0,a0,rfl,h0,h⟩:=xZ1K h
 obtain ⟨c1,r1,a1,rfl,h1,h⟩:=xZ1K h
 obtain ⟨rfl,rfl⟩:=xZ8q h
 exact .cons (xZ3h h0) (.cons (xZ3h h1) (.nil))
theorem xZnE (cs:List (BV T)) (x:Ent125) (h:dec15 cs=some x):LWs (BV.avs tb cs) (eA15 x).cells:=by
 obtain ⟨c0,r0,a0,rfl,h0,h⟩:=xZ1K h
 obtain ⟨c1,r1,a1,rfl,h1,h⟩:=xZ1K h
 obtain ⟨rfl,rfl⟩:=xZ8q h
 exact .cons (xZ3h h0) (.cons (xZ3h h1) (.nil))
theorem xZnF (cs:List (BV T)) (x:List xZ0) (h:dec16 cs=some x):LWs (BV.avs tb cs) (eA16 x).cells:=by
 obtain ⟨c0,r0,a0,rfl,h0,h⟩:=xZ1K h
 obtain ⟨rfl,rfl⟩:=xZ8q h
 exact .cons (xZ96 h0) (.nil)
theorem xZnG (cs:List (BV T)) (x:List Int) (h:dec17 cs=some x):LWs (BV.avs tb cs) (eA17 x).cells:=by
 obtain ⟨c0,r0,a0,rfl,h0,h⟩:=xZ1K h
 obtain ⟨rfl,rfl⟩:=xZ8q h
 exact .cons (xZ96 h0) (.nil)
theorem xZnH (cs:List (BV T)) (x:xZ1H) (h:dec18 cs=some x):LWs (BV.avs tb cs) (eA18 x).cells:=by
 obtain ⟨c0,r0,a0,rfl,h0,h⟩:=xZ1K h
 obtain ⟨c1,r1,a1,rfl,h1,h⟩:=xZ1K h
 obtain ⟨c2,r2,a2,rfl,h2,h⟩:=xZ1K h
 obtain ⟨rfl,rfl⟩:=xZ8q h
 exact .cons (xZ96 h0) (.cons (xZ96 h1) (.cons (xZ96 h2) (.nil)))
theorem tb_ok:tb.Ok where
 enc:=fun i x=>match i with | 0=>(by kernel_rfl) | 1=>(by kernel_rfl) | 2=>(by kernel_rfl) | 3=>(by kernel_rfl) | 4=>(by kernel_rfl) | 5=>(by kernel_rfl) | 6=>(by kernel_rfl) | 7=>(by kernel_rfl) | 8=>(by kernel_rfl) | 9=>(by kernel_rfl) | 10=>(by kernel_rfl) | 11=>(by kernel_rfl) | 12=>(by kernel_rfl) | 13=>(by kernel_rfl) | 14=>(by kernel_rfl) | 15=>(by kernel_rfl) | 16=>(by kernel_rfl) | 17=>(by kernel_rfl) | 18=>(by kernel_rfl) | n+19=>(by kernel_rfl)
 len:=fun i x=>match i with | 0=>(by kernel_rfl) | 1=>(by kernel_rfl) | 2=>(by kernel_rfl) | 3=>(by kernel_rfl) | 4=>(by kernel_rfl) | 5=>(by kernel_rfl) | 6=>(by kernel_rfl) | 7=>(by kernel_rfl) | 8=>(by kernel_rfl) | 9=>(by kernel_rfl) | 10=>(by kernel_rfl) | 11=>(by kernel_rfl) | 12=>(by kernel_rfl) | 13=>(by kernel_rfl) | 14=>(by kernel_rfl) | 15=>(by kernel_rfl) | 16=>(by kernel_rfl) | 17=>(by kernel_rfl) | 18=>(by kernel_rfl) | n+19=>(by kernel_rfl)
 one:=fun i x=>match i with | 0=>(by kernel_rfl) | 1=>(by kernel_rfl) | 2=>(by kernel_rfl) | 3=>(by kernel_rfl) | 4=>(by kernel_rfl) | 5=>(by kernel_rfl) | 6=>(by kernel_rfl) | 7=>(by kernel_rfl) | 8=>(by kernel_rfl) | 9=>(by kernel_rfl) | 10=>(by kernel_rfl) | 11=>(by kernel_rfl) | 12=>(by kernel_rfl) | 13=>(by kernel_rfl) | 14=>(by kernel_rfl) | 15=>(by kernel_rfl) | 16=>(by kernel_rfl) | 17=>(by kernel_rfl) | 18=>(by kernel_rfl) | n+19=>(by kernel_rfl)
 dat:=fun i x=>match i with | 0=>(by kernel_rfl) | 1=>(by kernel_rfl) | 2=>(by kernel_rfl) | 3=>(by kernel_rfl) | 4=>(by kernel_rfl) | 5=>(by kernel_rfl) | 6=>(by kernel_rfl) | 7=>(by kernel_rfl) | 8=>(by kernel_rfl) | 9=>(by kernel_rfl) | 10=>(by kernel_rfl) | 11=>(by kernel_rfl) | 12=>(by kernel_rfl) | 13=>(by kernel_rfl) | 14=>(by kernel_rfl) | 15=>(by kernel_rfl) | 16=>(by kernel_rfl) | 17=>(by kernel_rfl) | 18=>(by kernel_rfl) | n+19=>(by kernel_rfl)
 sg:=fun i x h=>match i with | 0=>(by kernel_rfl) | 1=>(by cases h) | 2=>(by cases h) | 3=>(by cases h) | 4=>(by cases h) | 5=>(by cases h) | 6=>(by kernel_rfl) | 7=>(by cases h) | 8=>(by cases h) | 9=>(by cases h) | 10=>(by kernel_rfl) | 11=>(by kernel_rfl) | 12=>(by cases h) | 13=>(by cases h) | 14=>(by cases h) | 15=>(by cases h) | 16=>(by kernel_rfl) | 17=>(by kernel_rfl) | 18=>(by cases h) | n+19=>(by cases h)
 ag:=fun i x h=>match i with | 0=>(by cases h) | 1=>(by kernel_rfl) | 2=>(by kernel_rfl) | 3=>(by kernel_rfl) | 4=>(by kernel_rfl) | 5=>(by kernel_rfl) | 6=>(by cases h) | 7=>(by kernel_rfl) | 8=>(by kernel_rfl) | 9=>(by kernel_rfl) | 10=>(by cases h) | 11=>(by cases h) | 12=>(by kernel_rfl) | 13=>(by kernel_rfl) | 14=>(by kernel_rfl) | 15=>(by kernel_rfl) | 16=>(by cases h) | 17=>(by cases h) | 18=>(by kernel_rfl) | n+19=>(by kernel_rfl)
 dec:=fun i=>match i with | 0=>xZoR | 1=>xZoS | 2=>xZoT | 3=>xZoU | 4=>xZoV | 5=>xZoW | 6=>xZoX | 7=>xZoY | 8=>xZoZ | 9=>xZp0 | 10=>xZnz | 11=>xZnA | 12=>xZnB | 13=>xZnC | 14=>xZnD | 15=>xZnE | 16=>xZnF | 17=>xZnG | 18=>xZnH | n+19=>fun cs x h=>(by cases h)
 el:=fun i x R K r h=>by cases h
 fd:=fun i ty v x h=>by cases h
def xZc7:Con tb:=.s 34 [true] (.c (.el tb_ok 7) .n) (fun N a=>xZaq N a.1) (R:=Int) (.p (.i .i64)) (fun _=>⟨rfl,(by kernel_rfl)⟩)
def xZd0:Con tb:=.s 18 [true] (.c (.r 1) .n) (fun N a=>xZbS N a.1) (R:=Int) (.p (.i .i64)) (fun _=>⟨rfl,(by kernel_rfl)⟩)
def xZ9n:LQ tb (((List xZ2))×(Int)):=(LQ.m [] [0,3] (.c 0 (.r 1) (.c 3 (.i .i64) .n)) .n .n).re (fun a=>(a.1.1,a.1.2.1)) (fun x=>((x.1,x.2,()),(),())) (fun _=>rfl)
def xZdC (N:Nat) (c:(List xZ2)) (next:Int→Option Int) (v:Int):Option Int:=xZ9t N c (fun u0=>next u0) v
abbrev xZgT (N:Nat):((List xZ2))×(Int)→Option Int:=fun a=>loopV (xZdC N a.1) N a.2
def xZbu:Con tb:=.s 36 [true] (.c (.i .u8) .n) (fun N a=>xZ9I N a.1) (R:=Int) (.p (.i .i64)) (fun _=>⟨rfl,(by kernel_rfl)⟩)
def xZbv:Con tb:=.s 35 [true,true] (.c (.r 4) (.c (.i .i64) .n)) (fun N a=>xZ8R N a.1 a.2.1) (R:=Int) (.p (.i .i64)) (fun _=>⟨rfl,(by kernel_rfl)⟩)
def xZ9q:LQ tb (((List xZ1)×Int)×(Int×Int)):=(LQ.m [] [0,1,5,6] (.c 0 (.r 4) (.c 1 (.i .i64) (.c 5 (.i .i64) (.c 6 (.i .i64) .n)))) .n .n).re (fun a=>((a.1.1,a.1.2.1),(a.1.2.2.1,a.1.2.2.2.1))) (fun x=>((x.1.1,x.1.2,x.2.1,x.2.2,()),(),())) (fun _=>rfl)
def xZdF (N:Nat) (c:(List xZ1)×Int) (next:(Int×Int)→Option Int) (v:Int×Int):Option Int:=xZbV N c.1 c.2 (fun u0 u1=>next (u0,u1)) v.1 v.2
abbrev xZgW (N:Nat):((List xZ1)×Int)×(Int×Int)→Option Int:=fun a=>loopV (xZdF N a.1) N a.2
def xZd3:Con tb:=.s 19 [true] (.c (.el tb_ok 8) .n) (fun N a=>xZbU N a.1) (R:=Bool) (.p .b) (fun _=>⟨rfl,(by kernel_rfl)⟩)
def xZ9p:LQ tb (((List xZ1)×(List xZ3)×Int×(List UInt8)×Int)×(Int)):=(LQ.m [] [1,3] (.c 1 (.ptr 0 0) (.c 3 (.i .i64) .n)) (.c (.c (.r 4) (.c (.r 2) (.c (.i .i64) (.c .s (.c (.i .u8) .n))))) .n) .n).re (fun a=>((a.2.1.1.1,a.2.1.1.2.1,a.2.1.1.2.2.1,a.2.1.1.2.2.2.1,a.2.1.1.2.2.2.2.1),a.1.2.1)) (fun x=>(((),x.2,()),((x.1.1,x.1.2.1,x.1.2.2.1,x.1.2.2.2.1,x.1.2.2.2.2,()),()),())) (fun _=>rfl)
def xZdE (N:Nat) (c:(List xZ1)×(List xZ3)×Int×(List UInt8)×Int) (next:Int→Option Bool) (v:Int):Option Bool:=xZ9w N c.1 c.2.1 (fun u0=>next u0) v
abbrev xZgV (N:Nat):((List xZ1)×(List xZ3)×Int×(List UInt8)×Int)×(Int)→Option Bool:=fun a=>loopV (xZdE N a.1) N a.2
def xZ90:Con tb:=.s 20 [true,true] (.c (.r 4) (.c (.i .i64) .n)) (fun N a=>xZcu N a.1 a.2.1) (R:=Int) (.p (.i .i64)) (fun _=>⟨rfl,(by kernel_rfl)⟩)
def xZ8W:LQ tb (((List xZ1)×Int)×(Int×Int×Int)):=(LQ.m [] [0,1,5,6,7] (.c 0 (.r 4) (.c 1 (.i .i64) (.c 5 (.i .i64) (.c 6 (.i .i64) (.c 7 (.i .i64) .n))))) .n .n).re (fun a=>((a.1.1,a.1.2.1),(a.1.2.2.1,a.1.2.2.2.1,a.1.2.2.2.2.1))) (fun x=>((x.1.1,x.1.2,x.2.1,x.2.2.1,x.2.2.2,()),(),())) (fun _=>rfl)
def xZcT (N:Nat) (c:(List xZ1)×Int) (next:(Int×Int×Int)→Option Int) (v:Int×Int×Int):Option Int:=xZb6 N (xZ9c N) c.1 c.2 (fun u0 u1 u2=>next (u0,u1,u2)) v.1 v.2.1 v.2.2
abbrev xZfW (N:Nat):((List xZ1)×Int)×(Int×Int×Int)→Option Int:=fun a=>loopV (xZcT N a.1) N a.2
def xZd1:Con tb:=.s 6 [true] (.c (.el tb_ok 8) .n) (fun N a=>xZbT N a.1) (R:=Int) (.p (.i .i64)) (fun _=>⟨rfl,(by kernel_rfl)⟩)
def xZ9o:LQ tb (((List xZ1)×(List xZ3)×Int×(List UInt8)×Int)×(Int)):=(LQ.m [] [1,3] (.c 1 (.ptr 0 0) (.c 3 (.i .i64) .n)) (.c (.c (.r 4) (.c (.r 2) (.c (.i .i64) (.c .s (.c (.i .u8) .n))))) .n) .n).re (fun a=>((a.2.1.1.1,a.2.1.1.2.1,a.2.1.1.2.2.1,a.2.1.1.2.2.2.1,a.2.1.1.2.2.2.2.1),a.1.2.1)) (fun x=>(((),x.2,()),((x.1.1,x.1.2.1,x.1.2.2.1,x.1.2.2.2.1,x.1.2.2.2.2,()),()),())) (fun _=>rfl)
def xZdD (N:Nat) (c:(List xZ1)×(List xZ3)×Int×(List UInt8)×Int) (next:Int→Option Int) (v:Int):Option Int:=xZ9u N c.1 c.2.1 c.2.2.1 c.2.2.2.1 c.2.2.2.2 (fun u0=>next u0) v
abbrev xZgU (N:Nat):((List xZ1)×(List xZ3)×Int×(List UInt8)×Int)×(Int)→Option Int:=fun a=>loopV (xZdD N a.1) N a.2
def xZdZ:Con tb:=.s 73 [true] (.c (.i .u8) .n) (fun N a=>xZcA N a.1) (R:=Int) (.p (.i .i64)) (fun _=>⟨rfl,(by kernel_rfl)⟩)
def xZdY:Con tb:=.s 53 [true,true] (.c (.r 4) (.c (.i .i64) .n)) (fun N a=>xZcz N a.1 a.2.1) (R:=Int) (.p (.i .i64)) (fun _=>⟨rfl,(by kernel_rfl)⟩)
def xZai:LQ tb (((List xZ1)×Int)×(Int×Int)):=(LQ.m [] [5,18,19,20] (.c 5 (.i .i64) (.c 18 (.r 4) (.c 19 (.i .i64) (.c 20 (.i .i64) .n)))) .n .n).re (fun a=>((a.1.2.1,a.1.2.2.1),(a.1.1,a.1.2.2.2.1))) (fun x=>((x.2.1,x.1.1,x.1.2,x.2.2,()),(),())) (fun _=>rfl)
def xZes (N:Nat) (c:(List xZ1)×Int) (next:(Int×Int)→Option Int) (v:Int×Int):Option Int:=xZan N c.1 c.2 (fun u0 u1=>next (u0,u1)) v.1 v.2
abbrev xZhF (N:Nat):((List xZ1)×Int)×(Int×Int)→Option Int:=fun a=>loopV (xZes N a.1) N a.2
def xZc6:Con tb:=.s 30 [true] (.c (.el tb_ok 8) .n) (fun N a=>xZap N a.1) (R:=Bool) (.p .b) (fun _=>⟨rfl,(by kernel_rfl)⟩)
def xZ8V:LQ tb (((List xZ1)×Int×(List xZ1)×(List xZ3)×Int×(List UInt8)×Int)×(Int×(A24 Bool))):=(LQ.m [] [1,3,32,33,34] (.c 1 (.ptr 0 0) (.c 3 (.ptr 1 0) (.c 32 (.r 4) (.c 33 (.i .i64) (.c 34 (.i .i64) .n))))) (.c (.c (.r 4) (.c (.r 2) (.c (.i .i64) (.c .s (.c (.i .u8) .n))))) (.c (.a tb_ok 9 .n) .n)) .n).re (fun a=>((a.1.2.2.1,a.1.2.2.2.1,a.2.1.1.1,a.2.1.1.2.1,a.2.1.1.2.2.1,a.2.1.1.2.2.2.1,a.2.1.1.2.2.2.2.1),(a.1.2.2.2.2.1,a.2.1.2.1.1))) (fun x=>(((),(),x.1.1,x.1.2.1,x.2.1,()),((x.1.2.2.1,x.1.2.2.2.1,x.1.2.2.2.2.1,x.1.2.2.2.2.2.1,x.1.2.2.2.2.2.2,()),(x.2.2,()),()),())) (fun _=>rfl)
def xZcS (N:Nat) (c:(List xZ1)×Int×(List xZ1)×(List xZ3)×Int×(List UInt8)×Int) (next:(Int×(A24 Bool))→Option Bool) (v:Int×(A24 Bool)):Option Bool:=xZ8Z N c.1 c.2.1 c.2.2.2.1 (fun u0 u1=>next (u0,u1)) v.1 v.2
abbrev xZfV (N:Nat):((List xZ1)×Int×(List xZ1)×(List xZ3)×Int×(List UInt8)×Int)×(Int×(A24 Bool))→Option Bool:=fun a=>loopV (xZcS N a.1) N a.2
def xZ6I:Con tb:=.s 13 [true,true] (.c (.i .u32) (.c (.i .i64) .n)) (fun N a=>xZ2c N a.1 a.2.1) (R:=Bool) (.p .b) (fun _=>⟨rfl,(by kernel_rfl)⟩)
def xZ5w:Con tb:=.m 54 [false,true,true] (.c (.ptr 0 0) (.c (.i .u32) (.c (.i .u32) .n))) (.c (.c (.r 4) (.c (.i .i64) (.c (.own 0) .n))) .n) (.l 11 .n) (fun N a=>xZ3l N a.1.2.1 a.1.2.2.1 a.2.1.1.1 a.2.1.1.2.1 a.2.2.1) (R:=List xZ1×Int×List Int) (.m (R:=List xZ1×Int×List Int) (.tu .n) (.c (.c (.r 4) (.c (.i .i64) (.c (.own 0) .n))) .n) (.l 11 .n) (fun z=>(z.2.1.1.1,z.2.1.1.2.1,z.2.2.1)) (fun r=>((),((r.1,r.2.1,(),()),()),r.2.2,())) (fun _=>rfl))
def xZ3G:LQ tb ((Int×Int×Int×(List xZ1)×Int)×(Int×(List Int))):=(LQ.m [] [0,1,2,11,12] (.c 0 (.ptr 0 0) (.c 1 (.i .u32) (.c 2 (.i .u32) (.c 11 (.i .i64) (.c 12 (.i .i64) .n))))) (.c (.c (.r 4) (.c (.i .i64) (.c (.own 0) .n))) .n) (.l 11 .n)).re (fun a=>((a.1.2.1,a.1.2.2.1,a.1.2.2.2.1,a.2.1.1.1,a.2.1.1.2.1),(a.1.2.2.2.2.1,a.2.2.1))) (fun x=>(((),x.1.1,x.1.2.1,x.1.2.2.1,x.2.1,()),((x.1.2.2.2.1,x.1.2.2.2.2,(),()),()),x.2.2,())) (fun _=>rfl)
def xZ7n (N:Nat) (c:Int×Int×Int×(List xZ1)×Int) (next:(Int×(List Int))→Option (List xZ1×Int×List Int)) (v:Int×(List Int)):Option (List xZ1×Int×List Int):=xZ5b N c.1 c.2.1 c.2.2.1 c.2.2.2.1 c.2.2.2.2 (fun u0 u1=>next (u0,u1)) v.1 v.2
abbrev xZa6 (N:Nat):(Int×Int×Int×(List xZ1)×Int)×(Int×(List Int))→Option (List xZ1×Int×List Int):=fun a=>loopV (xZ7n N a.1) N a.2
def xZ31:Con tb:=.m 31 [false] (.c (.ptr 0 0) .n) (.c (.c (.r 4) (.c (.i .i64) (.c (.own 0) .n))) .n) (.l 11 .n) (fun N a=>xZ7Y N a.2.1.1.1 a.2.1.1.2.1 a.2.2.1) (R:=xZS×List xZ1×Int×List Int) (.m (R:=xZS×List xZ1×Int×List Int) (.el tb_ok 12) (.c (.c (.r 4) (.c (.i .i64) (.c (.own 0) .n))) .n) (.l 11 .n) (fun z=>(z.1,z.2.1.1.1,z.2.1.1.2.1,z.2.2.1)) (fun r=>(r.1,((r.2.1,r.2.2.1,(),()),()),r.2.2.2,())) (fun _=>rfl))
def xZ9a:Con tb:=.p 14 [true] (.c (.el tb_ok 8) .n) (fun N a=>xZ4H N a.1) (R:=xZ1G×Int) (.p (.tu (.c (.el tb_ok 13) (.o (.i .i64))))) (fun _=>rfl)
def xZ52:Con tb:=.m 23 [false] (.c (.ptr 0 0) .n) (.c (.c (.r 4) (.c (.r 2) (.c (.i .i64) (.c .s (.c (.i .u8) (.c .b (.c (.i .u32) (.c (.i .u32) (.c (.r 11) (.c (.i .u32) .n)))))))))) .n) .n (fun N a=>xZ3K N a.2.1.1.1 a.2.1.1.2.1 a.2.1.1.2.2.1 a.2.1.1.2.2.2.1 a.2.1.1.2.2.2.2.1 a.2.1.1.2.2.2.2.2.1 a.2.1.1.2.2.2.2.2.2.1 a.2.1.1.2.2.2.2.2.2.2.1 a.2.1.1.2.2.2.2.2.2.2.2.1 a.2.1.1.2.2.2.2.2.2.2.2.2.1) (R:=Bool×List xZ1×List xZ3×Int×List UInt8×Int×Bool×Int×Int×List Int×Int) (.m (R:=Bool×List xZ1×List xZ3×Int×List UInt8×Int×Bool×Int×Int×List Int×Int) .b (.c (.c (.r 4) (.c (.r 2) (.c (.i .i64) (.c .s (.c (.i .u8) (.c .b (.c (.i .u32) (.c (.i .u32) (.c (.r 11) (.c (.i .u32) .n)))))))))) .n) .n (fun z=>(z.1,z.2.1.1.1,z.2.1.1.2.1,z.2.1.1.2.2.1,z.2.1.1.2.2.2.1,z.2.1.1.2.2.2.2.1,z.2.1.1.2.2.2.2.2.1,z.2.1.1.2.2.2.2.2.2.1,z.2.1.1.2.2.2.2.2.2.2.1,z.2.1.1.2.2.2.2.2.2.2.2.1,z.2.1.1.2.2.2.2.2.2.2.2.2.1)) (fun r=>(r.1,((r.2.1,r.2.2.1,r.2.2.2.1,r.2.2.2.2.1,r.2.2.2.2.2.1,r.2.2.2.2.2.2.1,r.2.2.2.2.2.2.2.1,r.2.2.2.2.2.2.2.2.1,r.2.2.2.2.2.2.2.2.2.1,r.2.2.2.2.2.2.2.2.2.2,()),()),())) (fun _=>rfl))
def xZ2q:LQ tb (((List xZ1)×(List xZ3)×Int×(List UInt8)×Int×Bool×Int×Int×(List Int)×Int)×(Int×Bool)):=(LQ.m [] [0,3,4] (.c 0 (.ptr 0 0) (.c 3 (.i .u32) (.c 4 .b .n))) (.c (.c (.r 4) (.c (.r 2) (.c (.i .i64) (.c .s (.c (.i .u8) (.c .b (.c (.i .u32) (.c (.i .u32) (.c (.r 11) (.c (.i .u32) .n)))))))))) .n) .n).re (fun a=>((a.2.1.1.1,a.2.1.1.2.1,a.2.1.1.2.2.1,a.2.1.1.2.2.2.1,a.2.1.1.2.2.2.2.1,a.2.1.1.2.2.2.2.2.1,a.2.1.1.2.2.2.2.2.2.1,a.2.1.1.2.2.2.2.2.2.2.1,a.2.1.1.2.2.2.2.2.2.2.2.1,a.2.1.1.2.2.2.2.2.2.2.2.2.1),(a.1.2.1,a.1.2.2.1))) (fun x=>(((),x.2.1,x.2.2,()),((x.1.1,x.1.2.1,x.1.2.2.1,x.1.2.2.2.1,x.1.2.2.2.2.1,x.1.2.2.2.2.2.1,x.1.2.2.2.2.2.2.1,x.1.2.2.2.2.2.2.2.1,x.1.2.2.2.2.2.2.2.2.1,x.1.2.2.2.2.2.2.2.2.2,()),()),())) (fun _=>rfl)
def xZ3m:LQ tb ((Int×(List xZ1)×(List xZ3)×Int×(List UInt8)×Int×Bool×Int×Int×(List Int)×Int)×(Int×Bool×Int)):=(LQ.m [] [0,3,4,20,21] (.c 0 (.ptr 0 0) (.c 3 (.i .u32) (.c 4 .b (.c 20 (.i .i64) (.c 21 (.i .i64) .n))))) (.c (.c (.r 4) (.c (.r 2) (.c (.i .i64) (.c .s (.c (.i .u8) (.c .b (.c (.i .u32) (.c (.i .u32) (.c (.r 11) (.c (.i .u32) .n)))))))))) .n) .n).re (fun a=>((a.1.2.2.2.1,a.2.1.1.1,a.2.1.1.2.1,a.2.1.1.2.2.1,a.2.1.1.2.2.2.1,a.2.1.1.2.2.2.2.1,a.2.1.1.2.2.2.2.2.1,a.2.1.1.2.2.2.2.2.2.1,a.2.1.1.2.2.2.2.2.2.2.1,a.2.1.1.2.2.2.2.2.2.2.2.1,a.2.1.1.2.2.2.2.2.2.2.2.2.1),(a.1.2.1,a.1.2.2.1,a.1.2.2.2.2.1))) (fun x=>(((),x.2.1,x.2.2.1,x.1.1,x.2.2.2,()),((x.1.2.1,x.1.2.2.1,x.1.2.2.2.1,x.1.2.2.2.2.1,x.1.2.2.2.2.2.1,x.1.2.2.2.2.2.2.1,x.1.2.2.2.2.2.2.2.1,x.1.2.2.2.2.2.2.2.2.1,x.1.2.2.2.2.2.2.2.2.2.1,x.1.2.2.2.2.2.2.2.2.2.2,()),()),())) (fun _=>rfl)
def xZ6w (N:Nat) (next0:((List xZ1)×(List xZ3)×Int×(List UInt8)×Int×Bool×Int×Int×(List Int)×Int)×(Int×Bool)→Option (Bool×List xZ1×List xZ3×Int×List UInt8×Int×Bool×Int×Int×List Int×Int)) (c:Int×(List xZ1)×(List xZ3)×Int×(List UInt8)×Int×Bool×Int×Int×(List Int)×Int) (next:(Int×Bool×Int)→Option (Bool×List xZ1×List xZ3×Int×List UInt8×Int×Bool×Int×Int×List Int×Int)) (v:Int×Bool×Int):Option (Bool×List xZ1×List xZ3×Int×List UInt8×Int×Bool×Int×Int×List Int×Int):=xZ4G N c.1 c.2.2.2.2.2.2.2.2.2.1 (fun u0 u1=>next0 ((c.2.1,c.2.2.1,c.2.2.2.1,c.2.2.2.2.1,c.2.2.2.2.2.1,c.2.2.2.2.2.2.1,c.2.2.2.2.2.2.2.1,c.2.2.2.2.2.2.2.2.1,c.2.2.2.2.2.2.2.2.2.1,c.2.2.2.2.2.2.2.2.2.2),(u0,u1))) (fun u0 u1 u2=>next (u0,u1,u2)) v.1 v.2.1 v.2.2
abbrev xZ9s (N:Nat) (next0:((List xZ1)×(List xZ3)×Int×(List UInt8)×Int×Bool×Int×Int×(List Int)×Int)×(Int×Bool)→Option (Bool×List xZ1×List xZ3×Int×List UInt8×Int×Bool×Int×Int×List Int×Int)):(Int×(List xZ1)×(List xZ3)×Int×(List UInt8)×Int×Bool×Int×Int×(List Int)×Int)×(Int×Bool×Int)→Option (Bool×List xZ1×List xZ3×Int×List UInt8×Int×Bool×Int×Int×List Int×Int):=fun a=>loopV (xZ6w N next0 a.1) N a.2
def xZ6v (N:Nat) (c:(List xZ1)×(List xZ3)×Int×(List UInt8)×Int×Bool×Int×Int×(List Int)×Int) (next:(Int×Bool)→Option (Bool×List xZ1×List xZ3×Int×List UInt8×Int×Bool×Int×Int×List Int×Int)) (v:Int×Bool):Option (Bool×List xZ1×List xZ3×Int×List UInt8×Int×Bool×Int×Int×List Int×Int):=xZ4F N c.1 c.2.1 c.2.2.1 c.2.2.2.1 c.2.2.2.2.1 c.2.2.2.2.2.1 c.2.2.2.2.2.2.1 c.2.2.2.2.2.2.2.1 c.2.2.2.2.2.2.2.2.1 c.2.2.2.2.2.2.2.2.2 (fun u0 u1=>next (u0,u1)) v.1 v.2
abbrev xZ9r (N:Nat):((List xZ1)×(List xZ3)×Int×(List UInt8)×Int×Bool×Int×Int×(List Int)×Int)×(Int×Bool)→Option (Bool×List xZ1×List xZ3×Int×List UInt8×Int×Bool×Int×Int×List Int×Int):=fun a=>loopV (xZ6v N a.1) N a.2
def xZ93:Con tb:=.s 99 [true] (.c (.i .u64) .n) (fun N a=>xZ4p N a.1) (R:=Int) (.p (.i .i64)) (fun _=>⟨rfl,(by kernel_rfl)⟩)
def xZ7C:Con tb:=.s 63 [true] (.c (.i .u64) .n) (fun N a=>xZ6f N a.1) (R:=Int) (.p (.i .i64)) (fun _=>⟨rfl,(by kernel_rfl)⟩)
def xZax:Con tb:=.s 100 [true] (.c (.i .i64) .n) (fun N a=>xZ8Y N a.1) (R:=Bool) (.p .b) (fun _=>⟨rfl,(by kernel_rfl)⟩)
def xZ92:Con tb:=.s 65 [true,true] (.c (.i .i64) (.c (.i .i64) .n)) (fun N a=>xZ81 N a.1 a.2.1) (R:=Int) (.p (.i .i64)) (fun _=>⟨rfl,(by kernel_rfl)⟩)
def xZ73:Con tb:=.s 101 [true] (.c (.i .u32) .n) (fun N a=>xZ3X N a.1) (R:=Bool) (.p .b) (fun _=>⟨rfl,(by kernel_rfl)⟩)
def xZ83:Con tb:=.s 66 [true,true] (.c (.i .u32) (.c (.i .u32) .n)) (fun N a=>xZ64 N a.1 a.2.1) (R:=Int) (.p (.i .i64)) (fun _=>⟨rfl,(by kernel_rfl)⟩)
def xZcY:Con tb:=.s 64 [true] (.c (.r 0) .n) (fun N a=>xZdo N a.1) (R:=Int) (.p (.i .i64)) (fun _=>⟨rfl,(by kernel_rfl)⟩)
def xZ9l:LQ tb (((List Int)×Int)×(Int)):=(LQ.m [] [3,6,7,8] (.c 3 (.li .i64 0) (.c 6 (.r 0) (.c 7 (.i .i64) (.c 8 (.i .i64) .n)))) .n .n).re (fun a=>((a.1.2.1,a.1.2.2.1),a.1.2.2.2.1)) (fun x=>(((),x.1.1,x.1.2,x.2,()),(),())) (fun _=>rfl)
def xZdA (N:Nat) (c:(List Int)×Int) (next:Int→Option Int) (v:Int):Option Int:=xZdS N c.1 c.2 (fun u0=>next u0) v
abbrev xZgR (N:Nat):((List Int)×Int)×(Int)→Option Int:=fun a=>loopV (xZdA N a.1) 8 a.2
def xZ5Q:Con tb:=.s 44 [true,true] (.c (.el tb_ok 14) (.c (.el tb_ok 14) .n)) (fun N a=>xZ1O N a.1 a.2.1) (R:=Int) (.p (.i .i64)) (fun _=>⟨rfl,(by kernel_rfl)⟩)
def xZ2a:Con tb:=.m 90 [false,true,true,false] (.c (.own 0) (.c (.i .i64) (.c (.i .i64) (.c (.fn 44 .n .n) .n)))) .n (.l 14 .n) (fun N a=>xZ1e N a.1.2.1 a.1.2.2.1 a.2.2.1) (R:=List xZ0) (.m (R:=List xZ0) (.tu .n) .n (.l 14 .n) (fun z=>z.2.2.1) (fun r=>((),(),r,())) (fun _=>rfl))
def xZy:LQ tb ((Int×Int)×(Int×(List xZ0))):=(LQ.m [] [0,1,2,3,8] (.c 0 (.own 0) (.c 1 (.i .i64) (.c 2 (.i .i64) (.c 3 (.fn 44 .n .n) (.c 8 (.i .i64) .n))))) .n (.l 14 .n)).re (fun a=>((a.1.2.1,a.1.2.2.1),(a.1.2.2.2.2.1,a.2.2.1))) (fun x=>(((),x.1.1,x.1.2,((),()),x.2.1,()),(),x.2.2,())) (fun _=>rfl)
def xZY:LQ tb ((Int×Int×Int)×(Int×(List xZ0))):=(LQ.m [] [0,1,2,3,8,9] (.c 0 (.own 0) (.c 1 (.i .i64) (.c 2 (.i .i64) (.c 3 (.fn 44 .n .n) (.c 8 (.i .i64) (.c 9 (.i .i64) .n)))))) .n (.l 14 .n)).re (fun a=>((a.1.2.1,a.1.2.2.1,a.1.2.2.2.2.1),(a.1.2.2.2.2.2.1,a.2.2.1))) (fun x=>(((),x.1.1,x.1.2.1,((),()),x.1.2.2,x.2.1,()),(),x.2.2,())) (fun _=>rfl)
def xZ3k (N:Nat) (next0:(Int×Int)×(Int×(List xZ0))→Option (List xZ0)) (c:Int×Int×Int) (next:(Int×(List xZ0))→Option (List xZ0)) (v:Int×(List xZ0)):Option (List xZ0):=xZ22 N c.1 c.2.2 (fun u0 u1=>next0 ((c.1,c.2.1),(u0,u1))) (fun u0 u1=>next (u0,u1)) v.1 v.2
abbrev xZ5E (N:Nat) (next0:(Int×Int)×(Int×(List xZ0))→Option (List xZ0)):(Int×Int×Int)×(Int×(List xZ0))→Option (List xZ0):=fun a=>loopV (xZ3k N next0 a.1) N a.2
def xZ3j (N:Nat) (c:Int×Int) (next:(Int×(List xZ0))→Option (List xZ0)) (v:Int×(List xZ0)):Option (List xZ0):=xZ21 N c.1 c.2 (fun u0 u1=>next (u0,u1)) v.1 v.2
abbrev xZ5D (N:Nat):(Int×Int)×(Int×(List xZ0))→Option (List xZ0):=fun a=>loopV (xZ3j N a.1) N a.2
def xZ2H:Con tb:=.m 135 [false,true,true,true,false] (.c (.own 0) (.c (.i .i64) (.c (.i .i64) (.c (.i .i64) (.c (.fn 44 .n .n) .n))))) .n (.l 14 .n) (fun N a=>xZ14 N a.1.2.1 a.1.2.2.1 a.1.2.2.2.1 a.2.2.1) (R:=List xZ0) (.m (R:=List xZ0) (.tu .n) .n (.l 14 .n) (fun z=>z.2.2.1) (fun r=>((),(),r,())) (fun _=>rfl))
def xZ1y:LQ tb ((Int×Int)×(Int×(List xZ0))):=(LQ.m [] [0,2,3,4,10] (.c 0 (.own 0) (.c 2 (.i .i64) (.c 3 (.i .i64) (.c 4 (.fn 44 .n .n) (.c 10 (.i .i64) .n))))) .n (.l 14 .n)).re (fun a=>((a.1.2.1,a.1.2.2.1),(a.1.2.2.2.2.1,a.2.2.1))) (fun x=>(((),x.1.1,x.1.2,((),()),x.2.1,()),(),x.2.2,())) (fun _=>rfl)
def xZ40 (N:Nat) (c:Int×Int) (next:(Int×(List xZ0))→Option (List xZ0)) (v:Int×(List xZ0)):Option (List xZ0):=xZ2v N c.1 c.2 (fun u0 u1=>next (u0,u1)) v.1 v.2
abbrev xZ6H (N:Nat):(Int×Int)×(Int×(List xZ0))→Option (List xZ0):=fun a=>loopV (xZ40 N a.1) N a.2
def xZ2G:Con tb:=.m 91 [false,true,true,false] (.c (.own 0) (.c (.i .i64) (.c (.i .i64) (.c (.fn 44 .n .n) .n)))) .n (.l 14 .n) (fun N a=>xZ1T N a.1.2.1 a.1.2.2.1 a.2.2.1) (R:=List xZ0) (.m (R:=List xZ0) (.tu .n) .n (.l 14 .n) (fun z=>z.2.2.1) (fun r=>((),(),r,())) (fun _=>rfl))
def xZ1w:LQ tb ((Int×Int)×(Int×(List xZ0))):=(LQ.m [] [0,3,8,9,10,11] (.c 0 (.own 0) (.c 3 (.fn 44 .n .n) (.c 8 (.i .i64) (.c 9 (.li .i64 0) (.c 10 (.i .i64) (.c 11 (.i .i64) .n)))))) .n (.l 14 .n)).re (fun a=>((a.1.2.2.1,a.1.2.2.2.2.1),(a.1.2.2.2.2.2.1,a.2.2.1))) (fun x=>(((),((),()),x.1.1,(),x.1.2,x.2.1,()),(),x.2.2,())) (fun _=>rfl)
def xZ1x:LQ tb ((Int)×(Int×(List xZ0))):=(LQ.m [] [0,3,8,9,12] (.c 0 (.own 0) (.c 3 (.fn 44 .n .n) (.c 8 (.i .i64) (.c 9 (.li .i64 0) (.c 12 (.i .i64) .n))))) .n (.l 14 .n)).re (fun a=>(a.1.2.2.1,(a.1.2.2.2.2.1,a.2.2.1))) (fun x=>(((),((),()),x.1,(),x.2.1,()),(),x.2.2,())) (fun _=>rfl)
def xZ3Z (N:Nat) (c:Int) (next:(Int×(List xZ0))→Option (List xZ0)) (v:Int×(List xZ0)):Option (List xZ0):=xZ2u N c (fun u0 u1=>next (u0,u1)) v.1 v.2
abbrev xZ6G (N:Nat):(Int)×(Int×(List xZ0))→Option (List xZ0):=fun a=>loopV (xZ3Z N a.1) N a.2
def xZ3Y (N:Nat) (c:Int×Int) (next:(Int×(List xZ0))→Option (List xZ0)) (v:Int×(List xZ0)):Option (List xZ0):=xZ2t N c.1 c.2 (fun u0 u1=>next (u0,u1)) v.1 v.2
abbrev xZ6F (N:Nat):(Int×Int)×(Int×(List xZ0))→Option (List xZ0):=fun a=>loopV (xZ3Y N a.1) N a.2
def xZ4T:Con tb:=.s 136 [true] (.c (.i .i64) .n) (fun N a=>xZ3U N a.1) (R:=Int) (.p (.i .u64)) (fun _=>⟨rfl,(by kernel_rfl)⟩)
def xZ3E:Con tb:=.m 137 [false] (.c (.ptr 0 0) .n) (.c (.c (.i .u64) .n) .n) .n (fun N a=>xZ2U N a.2.1.1.1) (R:=Int×Int) (.m (R:=Int×Int) (.i .u64) (.c (.c (.i .u64) .n) .n) .n (fun z=>(z.1,z.2.1.1.1)) (fun r=>(r.1,((r.2,()),()),())) (fun _=>rfl))
def xZ29:Con tb:=.m 92 [false,true,true,false] (.c (.own 0) (.c (.i .i64) (.c (.i .i64) (.c (.fn 44 .n .n) .n)))) .n (.l 14 .n) (fun N a=>xZ1d N a.1.2.1 a.1.2.2.1 a.2.2.1) (R:=List xZ0) (.m (R:=List xZ0) (.tu .n) .n (.l 14 .n) (fun z=>z.2.2.1) (fun r=>((),(),r,())) (fun _=>rfl))
def xZX:LQ tb ((Int×Int×Int)×(Int×Int×(List xZ0))):=(LQ.m [] [0,1,8,9,10,11] (.c 0 (.own 0) (.c 1 (.i .i64) (.c 8 (.i .i64) (.c 9 (.ptr 0 0) (.c 10 (.i .u64) (.c 11 (.i .i64) .n)))))) (.c (.c (.i .u64) .n) .n) (.l 14 .n)).re (fun a=>((a.1.2.1,a.1.2.2.1,a.1.2.2.2.2.1),(a.1.2.2.2.2.2.1,a.2.1.1.1,a.2.2.1))) (fun x=>(((),x.1.1,x.1.2.1,(),x.1.2.2,x.2.1,()),((x.2.2.1,()),()),x.2.2.2,())) (fun _=>rfl)
def xZ3i (N:Nat) (c:Int×Int×Int) (next:(Int×Int×(List xZ0))→Option (List xZ0)) (v:Int×Int×(List xZ0)):Option (List xZ0):=xZ20 N c.1 c.2.1 c.2.2 (fun u0 u1 u2=>next (u0,u1,u2)) v.1 v.2.1 v.2.2
abbrev xZ5C (N:Nat):(Int×Int×Int)×(Int×Int×(List xZ0))→Option (List xZ0):=fun a=>loopV (xZ3i N a.1) N a.2
def xZ32:Con tb:=.m 161 [false,true,true,false,false] (.c (.own 0) (.c (.i .i64) (.c (.i .i64) (.c (.ptr 0 0) (.c (.fn 44 .n .n) .n))))) (.c (.c (.i .i64) .n) .n) (.l 14 .n) (fun N a=>xZI N a.1.2.1 a.1.2.2.1 a.2.1.1.1 a.2.2.1) (R:=Int×Int×Int×List xZ0) (.m (R:=Int×Int×Int×List xZ0) (.tu (.c (.i .i64) (.o (.i .i64)))) (.c (.c (.i .i64) .n) .n) (.l 14 .n) (fun z=>(z.1.1,z.1.2,z.2.1.1.1,z.2.2.1)) (fun r=>((r.1,r.2.1),((r.2.2.1,()),()),r.2.2.2,())) (fun _=>rfl))
def xZ23:Con tb:=.m 139 [false,true,true,true,false,false] (.c (.own 0) (.c (.i .i64) (.c (.i .i64) (.c (.i .i64) (.c (.ptr 0 0) (.c (.fn 44 .n .n) .n)))))) (.c (.c (.i .i64) .n) .n) (.l 14 .n) (fun N a=>xZu N a.1.2.1 a.1.2.2.1 a.1.2.2.2.1 a.2.1.1.1 a.2.2.1) (R:=Int×Int×List xZ0) (.m (R:=Int×Int×List xZ0) (.i .i64) (.c (.c (.i .i64) .n) .n) (.l 14 .n) (fun z=>(z.1,z.2.1.1.1,z.2.2.1)) (fun r=>(r.1,((r.2.1,()),()),r.2.2,())) (fun _=>rfl))
def xZ25:Con tb:=.m 138 [false,true,false,false] (.c (.own 0) (.c (.i .i64) (.c (.ptr 0 0) (.c (.fn 44 .n .n) .n)))) (.c (.c (.i .i64) .n) .n) (.l 14 .n) (fun N a=>xZf N a.1.2.1 a.2.1.1.1 a.2.2.1) (R:=Int×Int×List xZ0) (.m (R:=Int×Int×List xZ0) (.i .i64) (.c (.c (.i .i64) .n) .n) (.l 14 .n) (fun z=>(z.1,z.2.1.1.1,z.2.2.1)) (fun r=>(r.1,((r.2.1,()),()),r.2.2,())) (fun _=>rfl))
def xZ2j:Con tb:=.m 93 [false,true,true,false] (.c (.own 0) (.c (.i .i64) (.c (.i .i64) (.c (.fn 44 .n .n) .n)))) .n (.l 14 .n) (fun N a=>xZL N a.1.2.1 a.1.2.2.1 a.2.2.1) (R:=Int×Int×List xZ0) (.m (R:=Int×Int×List xZ0) (.tu (.c (.i .i64) (.o (.i .i64)))) .n (.l 14 .n) (fun z=>(z.1.1,z.1.2,z.2.2.1)) (fun r=>((r.1,r.2.1),(),r.2.2,())) (fun _=>rfl))
def xZ2f:Con tb:=.m 94 [false,true,true,false] (.c (.own 0) (.c (.i .i64) (.c (.i .i64) (.c (.fn 44 .n .n) .n)))) .n (.l 14 .n) (fun N a=>xZ1k N a.1.2.1 a.1.2.2.1 a.2.2.1) (R:=List xZ0) (.m (R:=List xZ0) (.tu .n) .n (.l 14 .n) (fun z=>z.2.2.1) (fun r=>((),(),r,())) (fun _=>rfl))
def xZ16:LQ tb ((Unit)×(Int×Int×(List xZ0))):=(LQ.m [] [0,8,9] (.c 0 (.own 0) (.c 8 (.i .i64) (.c 9 (.i .i64) .n))) .n (.l 14 .n)).re (fun a=>((),(a.1.2.1,a.1.2.2.1,a.2.2.1))) (fun x=>(((),x.2.1,x.2.2.1,()),(),x.2.2.2,())) (fun _=>rfl)
def xZ3q (N:Nat) (c:Unit) (next:(Int×Int×(List xZ0))→Option (List xZ0)) (v:Int×Int×(List xZ0)):Option (List xZ0):=xZ27 N (fun u0 u1 u2=>next (u0,u1,u2)) v.1 v.2.1 v.2.2
abbrev xZ5M (N:Nat):(Unit)×(Int×Int×(List xZ0))→Option (List xZ0):=fun a=>loopV (xZ3q N a.1) N a.2
def xZ1t:Con tb:=.m 95 [false,true,true,false] (.c (.own 0) (.c (.i .i64) (.c (.i .i64) (.c (.fn 44 .n .n) .n)))) .n (.l 14 .n) (fun N a=>xZG N a.1.2.1 a.1.2.2.1 a.2.2.1) (R:=Bool×List xZ0) (.m (R:=Bool×List xZ0) .b .n (.l 14 .n) (fun z=>(z.1,z.2.2.1)) (fun r=>(r.1,(),r.2,())) (fun _=>rfl))
def xZa:LQ tb ((Int×Int)×(Int×Int×(List xZ0))):=(LQ.m [] [0,1,2,3,9,10] (.c 0 (.own 0) (.c 1 (.i .i64) (.c 2 (.i .i64) (.c 3 (.fn 44 .n .n) (.c 9 (.i .i64) (.c 10 (.i .i64) .n)))))) .n (.l 14 .n)).re (fun a=>((a.1.2.1,a.1.2.2.1),(a.1.2.2.2.2.1,a.1.2.2.2.2.2.1,a.2.2.1))) (fun x=>(((),x.1.1,x.1.2,((),()),x.2.1,x.2.2.1,()),(),x.2.2.2,())) (fun _=>rfl)
def xZz:LQ tb ((Int×Int×Int×(List xZ0))×(Int)):=(LQ.m [] [0,1,2,3,9,10] (.c 0 (.own 0) (.c 1 (.i .i64) (.c 2 (.i .i64) (.c 3 (.fn 44 .n .n) (.c 9 (.i .i64) (.c 10 (.i .i64) .n)))))) .n (.l 14 .n)).re (fun a=>((a.1.2.1,a.1.2.2.1,a.1.2.2.2.2.2.1,a.2.2.1),a.1.2.2.2.2.1)) (fun x=>(((),x.1.1,x.1.2.1,((),()),x.2,x.1.2.2.1,()),(),x.1.2.2.2,())) (fun _=>rfl)
def xZA:LQ tb ((Int×Int×Int×Int)×(Int×(List xZ0))):=(LQ.m [] [0,1,2,3,9,10,11] (.c 0 (.own 0) (.c 1 (.i .i64) (.c 2 (.i .i64) (.c 3 (.fn 44 .n .n) (.c 9 (.i .i64) (.c 10 (.i .i64) (.c 11 (.i .i64) .n))))))) .n (.l 14 .n)).re (fun a=>((a.1.2.1,a.1.2.2.1,a.1.2.2.2.2.1,a.1.2.2.2.2.2.1),(a.1.2.2.2.2.2.2.1,a.2.2.1))) (fun x=>(((),x.1.1,x.1.2.1,((),()),x.1.2.2.1,x.1.2.2.2,x.2.1,()),(),x.2.2,())) (fun _=>rfl)
def xZl:LQ tb ((Int×Int×Int×Int)×(Int×(List xZ0))):=(LQ.m [] [0,1,2,3,9,10,12] (.c 0 (.own 0) (.c 1 (.i .i64) (.c 2 (.i .i64) (.c 3 (.fn 44 .n .n) (.c 9 (.i .i64) (.c 10 (.i .i64) (.c 12 (.i .i64) .n))))))) .n (.l 14 .n)).re (fun a=>((a.1.2.1,a.1.2.2.1,a.1.2.2.2.2.1,a.1.2.2.2.2.2.1),(a.1.2.2.2.2.2.2.1,a.2.2.1))) (fun x=>(((),x.1.1,x.1.2.1,((),()),x.1.2.2.1,x.1.2.2.2,x.2.1,()),(),x.2.2,())) (fun _=>rfl)
def xZ2z (N:Nat) (next0:(Int×Int)×(Int×Int×(List xZ0))→Option (Bool×List xZ0)) (c:Int×Int×Int×Int) (next:(Int×(List xZ0))→Option (Bool×List xZ0)) (v:Int×(List xZ0)):Option (Bool×List xZ0):=xZ8 N c.2.1 c.2.2.1 c.2.2.2 (fun u0 u1 u2=>next0 ((c.1,c.2.1),(u0,u1,u2))) (fun u0 u1=>next (u0,u1)) v.1 v.2
abbrev xZ2A (N:Nat) (next0:(Int×Int)×(Int×Int×(List xZ0))→Option (Bool×List xZ0)):(Int×Int×Int×Int)×(Int×(List xZ0))→Option (Bool×List xZ0):=fun a=>loopV (xZ2z N next0 a.1) N a.2
def xZ2y (N:Nat) (next0:(Int×Int)×(Int×Int×(List xZ0))→Option (Bool×List xZ0)) (c:Int×Int×Int×Int) (next:(Int×(List xZ0))→Option (Bool×List xZ0)) (v:Int×(List xZ0)):Option (Bool×List xZ0):=xZm N c.2.1 c.2.2.1 c.2.2.2 (fun u0 u1 u2=>next0 ((c.1,c.2.1),(u0,u1,u2))) (fun u0 u1=>next (u0,u1)) v.1 v.2
abbrev xZ4O (N:Nat) (next0:(Int×Int)×(Int×Int×(List xZ0))→Option (Bool×List xZ0)):(Int×Int×Int×Int)×(Int×(List xZ0))→Option (Bool×List xZ0):=fun a=>loopV (xZ2y N next0 a.1) N a.2
def xZ2x (N:Nat) (next0:(Int×Int)×(Int×Int×(List xZ0))→Option (Bool×List xZ0)) (c:Int×Int×Int×(List xZ0)) (next:Int→Option (Bool×List xZ0)) (v:Int):Option (Bool×List xZ0):=xZ1h N c.1 c.2.1 c.2.2.1 c.2.2.2 (fun u0 u1 u2=>next0 ((c.1,c.2.1),(u0,u1,u2))) (fun u0=>next u0) v
abbrev xZ4N (N:Nat) (next0:(Int×Int)×(Int×Int×(List xZ0))→Option (Bool×List xZ0)):(Int×Int×Int×(List xZ0))×(Int)→Option (Bool×List xZ0):=fun a=>loopV (xZ2x N next0 a.1) N a.2
def xZ2w (N:Nat) (c:Int×Int) (next:(Int×Int×(List xZ0))→Option (Bool×List xZ0)) (v:Int×Int×(List xZ0)):Option (Bool×List xZ0):=xZ1g N c.1 c.2 (fun u0 u1 u2=>next (u0,u1,u2)) v.1 v.2.1 v.2.2
abbrev xZ4M (N:Nat):(Int×Int)×(Int×Int×(List xZ0))→Option (Bool×List xZ0):=fun a=>loopV (xZ2w N a.1) N a.2
def xZ26:Con tb:=.m 96 [false,true,true,true,false] (.c (.own 0) (.c (.i .i64) (.c (.i .i64) (.c (.i .i64) (.c (.fn 44 .n .n) .n))))) .n (.l 14 .n) (fun N a=>xZ17 N a.1.2.1 a.1.2.2.1 a.1.2.2.2.1 a.2.2.1) (R:=Int×List xZ0) (.m (R:=Int×List xZ0) (.i .i64) .n (.l 14 .n) (fun z=>(z.1,z.2.2.1)) (fun r=>(r.1,(),r.2,())) (fun _=>rfl))
def xZj:LQ tb ((Int)×(Int×Int×(List xZ0))):=(LQ.m [] [0,1,4,11,12] (.c 0 (.own 0) (.c 1 (.i .i64) (.c 4 (.fn 44 .n .n) (.c 11 (.i .i64) (.c 12 (.i .i64) .n))))) .n (.l 14 .n)).re (fun a=>(a.1.2.1,(a.1.2.2.2.1,a.1.2.2.2.2.1,a.2.2.1))) (fun x=>(((),x.1,((),()),x.2.1,x.2.2.1,()),(),x.2.2.2,())) (fun _=>rfl)
def xZU:LQ tb ((Int×Int×(List xZ0))×(Int)):=(LQ.m [] [0,1,4,11,12] (.c 0 (.own 0) (.c 1 (.i .i64) (.c 4 (.fn 44 .n .n) (.c 11 (.i .i64) (.c 12 (.i .i64) .n))))) .n (.l 14 .n)).re (fun a=>((a.1.2.1,a.1.2.2.2.2.1,a.2.2.1),a.1.2.2.2.1)) (fun x=>(((),x.1.1,((),()),x.2,x.1.2.1,()),(),x.1.2.2,())) (fun _=>rfl)
def xZV:LQ tb ((Int×Int×(List xZ0))×(Int)):=(LQ.m [] [0,1,4,11,12] (.c 0 (.own 0) (.c 1 (.i .i64) (.c 4 (.fn 44 .n .n) (.c 11 (.i .i64) (.c 12 (.i .i64) .n))))) .n (.l 14 .n)).re (fun a=>((a.1.2.1,a.1.2.2.2.1,a.2.2.1),a.1.2.2.2.2.1)) (fun x=>(((),x.1.1,((),()),x.1.2.1,x.2,()),(),x.1.2.2,())) (fun _=>rfl)
def xZ3e (N:Nat) (next0:(Int)×(Int×Int×(List xZ0))→Option (Int×List xZ0)) (c:Int×Int×(List xZ0)) (next:Int→Option (Int×List xZ0)) (v:Int):Option (Int×List xZ0):=xZx N c.1 c.2.1 c.2.2 (fun u0 u1 u2=>next0 (c.1,(u0,u1,u2))) (fun u0=>next u0) v
abbrev xZ5u (N:Nat) (next0:(Int)×(Int×Int×(List xZ0))→Option (Int×List xZ0)):(Int×Int×(List xZ0))×(Int)→Option (Int×List xZ0):=fun a=>loopV (xZ3e N next0 a.1) N a.2
def xZ3d (N:Nat) (next0:(Int)×(Int×Int×(List xZ0))→Option (Int×List xZ0)) (c:Int×Int×(List xZ0)) (next:Int→Option (Int×List xZ0)) (v:Int):Option (Int×List xZ0):=xZ1U N c.1 c.2.1 c.2.2 (fun u0 u1 u2=>next0 (c.1,(u0,u1,u2))) (fun u0=>next u0) v
abbrev xZ5t (N:Nat) (next0:(Int)×(Int×Int×(List xZ0))→Option (Int×List xZ0)):(Int×Int×(List xZ0))×(Int)→Option (Int×List xZ0):=fun a=>loopV (xZ3d N next0 a.1) N a.2
def xZ3c (N:Nat) (c:Int) (next:(Int×Int×(List xZ0))→Option (Int×List xZ0)) (v:Int×Int×(List xZ0)):Option (Int×List xZ0):=xZW N c (fun u0 u1 u2=>next (u0,u1,u2)) v.1 v.2.1 v.2.2
abbrev xZ5s (N:Nat):(Int)×(Int×Int×(List xZ0))→Option (Int×List xZ0):=fun a=>loopV (xZ3c N a.1) N a.2
def xZ2C:Con tb:=.m 97 [false,true,true,true,false] (.c (.own 0) (.c (.i .i64) (.c (.i .i64) (.c (.i .i64) (.c (.fn 44 .n .n) .n))))) .n (.l 14 .n) (fun N a=>xZ1I N a.1.2.1 a.1.2.2.1 a.1.2.2.2.1 a.2.2.1) (R:=Int×Bool×List xZ0) (.m (R:=Int×Bool×List xZ0) (.tu (.c (.i .i64) (.o .b))) .n (.l 14 .n) (fun z=>(z.1.1,z.1.2,z.2.2.1)) (fun r=>((r.1,r.2.1),(),r.2.2,())) (fun _=>rfl))
def xZ1n:LQ tb ((Int×Int×(List xZ0))×(Int)):=(LQ.m [] [0,1,4,12,13] (.c 0 (.own 0) (.c 1 (.i .i64) (.c 4 (.fn 44 .n .n) (.c 12 (.i .i64) (.c 13 (.i .i64) .n))))) .n (.l 14 .n)).re (fun a=>((a.1.2.1,a.1.2.2.2.2.1,a.2.2.1),a.1.2.2.2.1)) (fun x=>(((),x.1.1,((),()),x.2,x.1.2.1,()),(),x.1.2.2,())) (fun _=>rfl)
def xZ1o:LQ tb ((Int×Int×(List xZ0))×(Int)):=(LQ.m [] [0,1,4,12,13] (.c 0 (.own 0) (.c 1 (.i .i64) (.c 4 (.fn 44 .n .n) (.c 12 (.i .i64) (.c 13 (.i .i64) .n))))) .n (.l 14 .n)).re (fun a=>((a.1.2.1,a.1.2.2.2.1,a.2.2.1),a.1.2.2.2.2.1)) (fun x=>(((),x.1.1,((),()),x.1.2.1,x.2,()),(),x.1.2.2,())) (fun _=>rfl)
def xZs:LQ tb ((Int)×(Int×Int×(List xZ0))):=(LQ.m [] [0,1,4,12,13] (.c 0 (.own 0) (.c 1 (.i .i64) (.c 4 (.fn 44 .n .n) (.c 12 (.i .i64) (.c 13 (.i .i64) .n))))) .n (.l 14 .n)).re (fun a=>(a.1.2.1,(a.1.2.2.2.1,a.1.2.2.2.2.1,a.2.2.1))) (fun x=>(((),x.1,((),()),x.2.1,x.2.2.1,()),(),x.2.2.2,())) (fun _=>rfl)
def xZ1p:LQ tb ((Int×Int×(List xZ0))×(Int)):=(LQ.m [] [0,1,4,12,13] (.c 0 (.own 0) (.c 1 (.i .i64) (.c 4 (.fn 44 .n .n) (.c 12 (.i .i64) (.c 13 (.i .i64) .n))))) .n (.l 14 .n)).re (fun a=>((a.1.2.1,a.1.2.2.2.2.1,a.2.2.1),a.1.2.2.2.1)) (fun x=>(((),x.1.1,((),()),x.2,x.1.2.1,()),(),x.1.2.2,())) (fun _=>rfl)
def xZ1q:LQ tb ((Int×Int×(List xZ0))×(Int)):=(LQ.m [] [0,1,4,12,13] (.c 0 (.own 0) (.c 1 (.i .i64) (.c 4 (.fn 44 .n .n) (.c 12 (.i .i64) (.c 13 (.i .i64) .n))))) .n (.l 14 .n)).re (fun a=>((a.1.2.1,a.1.2.2.2.1,a.2.2.1),a.1.2.2.2.2.1)) (fun x=>(((),x.1.1,((),()),x.1.2.1,x.2,()),(),x.1.2.2,())) (fun _=>rfl)
def xZ3R (N:Nat) (next4:(Int)×(Int×Int×(List xZ0))→Option (Int×Bool×List xZ0)) (c:Int×Int×(List xZ0)) (next:Int→Option (Int×Bool×List xZ0)) (v:Int):Option (Int×Bool×List xZ0):=xZO N c.1 c.2.1 c.2.2 (fun u0 u1 u2=>next4 (c.1,(u0,u1,u2))) (fun u0=>next u0) v
abbrev xZ6t (N:Nat) (next4:(Int)×(Int×Int×(List xZ0))→Option (Int×Bool×List xZ0)):(Int×Int×(List xZ0))×(Int)→Option (Int×Bool×List xZ0):=fun a=>loopV (xZ3R N next4 a.1) N a.2
def xZ3Q (N:Nat) (next4:(Int)×(Int×Int×(List xZ0))→Option (Int×Bool×List xZ0)) (c:Int×Int×(List xZ0)) (next:Int→Option (Int×Bool×List xZ0)) (v:Int):Option (Int×Bool×List xZ0):=xZ2n N c.1 c.2.1 c.2.2 (fun u0 u1 u2=>next4 (c.1,(u0,u1,u2))) (fun u0=>next u0) v
abbrev xZ6s (N:Nat) (next4:(Int)×(Int×Int×(List xZ0))→Option (Int×Bool×List xZ0)):(Int×Int×(List xZ0))×(Int)→Option (Int×Bool×List xZ0):=fun a=>loopV (xZ3Q N next4 a.1) N a.2
def xZ3P (N:Nat) (c:Int) (next:(Int×Int×(List xZ0))→Option (Int×Bool×List xZ0)) (v:Int×Int×(List xZ0)):Option (Int×Bool×List xZ0):=xZN N c (fun u0 u1 u2=>next (u0,u1,u2)) v.1 v.2.1 v.2.2
abbrev xZ6r (N:Nat):(Int)×(Int×Int×(List xZ0))→Option (Int×Bool×List xZ0):=fun a=>loopV (xZ3P N a.1) N a.2
def xZ3O (N:Nat) (c:Int×Int×(List xZ0)) (next:Int→Option (Int×Bool×List xZ0)) (v:Int):Option (Int×Bool×List xZ0):=xZM N c.1 c.2.1 c.2.2 (fun u0=>next u0) v
abbrev xZ6q (N:Nat):(Int×Int×(List xZ0))×(Int)→Option (Int×Bool×List xZ0):=fun a=>loopV (xZ3O N a.1) N a.2
def xZ3N (N:Nat) (c:Int×Int×(List xZ0)) (next:Int→Option (Int×Bool×List xZ0)) (v:Int):Option (Int×Bool×List xZ0):=xZ2m N c.1 c.2.1 c.2.2 (fun u0=>next u0) v
abbrev xZ6p (N:Nat):(Int×Int×(List xZ0))×(Int)→Option (Int×Bool×List xZ0):=fun a=>loopV (xZ3N N a.1) N a.2
def xZ18:Con tb:=.m 62 [false,true,true,true,false] (.c (.own 0) (.c (.i .i64) (.c (.i .i64) (.c (.i .i64) (.c (.fn 44 .n .n) .n))))) .n (.l 14 .n) (fun N a=>xZ2Y N a.1.2.1 a.1.2.2.1 a.1.2.2.2.1 a.2.2.1) (R:=List xZ0) (.m (R:=List xZ0) (.tu .n) .n (.l 14 .n) (fun z=>z.2.2.1) (fun r=>((),(),r,())) (fun _=>rfl))
def xZg:LQ tb ((Unit)×(Int×Int×Int×Bool×Bool×(List xZ0))):=(LQ.m [] [0,1,2,3,4,10,11] (.c 0 (.own 0) (.c 1 (.i .i64) (.c 2 (.i .i64) (.c 3 (.i .i64) (.c 4 (.fn 44 .n .n) (.c 10 .b (.c 11 .b .n))))))) .n (.l 14 .n)).re (fun a=>((),(a.1.2.1,a.1.2.2.1,a.1.2.2.2.1,a.1.2.2.2.2.2.1,a.1.2.2.2.2.2.2.1,a.2.2.1))) (fun x=>(((),x.2.1,x.2.2.1,x.2.2.2.1,((),()),x.2.2.2.2.1,x.2.2.2.2.2.1,()),(),x.2.2.2.2.2.2,())) (fun _=>rfl)
def xZ42:LQ tb ((Int×Int×Int×Bool×Bool×Int×(List xZ0))×(Unit)):=(LQ.m [] [0,1,2,3,4,10,11,12] (.c 0 (.own 0) (.c 1 (.i .i64) (.c 2 (.i .i64) (.c 3 (.i .i64) (.c 4 (.fn 44 .n .n) (.c 10 .b (.c 11 .b (.c 12 (.i .i64) .n)))))))) .n (.l 14 .n)).re (fun a=>((a.1.2.1,a.1.2.2.1,a.1.2.2.2.1,a.1.2.2.2.2.2.1,a.1.2.2.2.2.2.2.1,a.1.2.2.2.2.2.2.2.1,a.2.2.1),())) (fun x=>(((),x.1.1,x.1.2.1,x.1.2.2.1,((),()),x.1.2.2.2.1,x.1.2.2.2.2.1,x.1.2.2.2.2.2.1,()),(),x.1.2.2.2.2.2.2,())) (fun _=>rfl)
def xZ43:LQ tb ((Int×Int×Int×Bool×Bool×Int×Int×Int×(List xZ0))×(Unit)):=(LQ.m [] [0,1,2,3,4,10,11,12,13,14] (.c 0 (.own 0) (.c 1 (.i .i64) (.c 2 (.i .i64) (.c 3 (.i .i64) (.c 4 (.fn 44 .n .n) (.c 10 .b (.c 11 .b (.c 12 (.i .i64) (.c 13 (.i .i64) (.c 14 (.i .i64) .n)))))))))) .n (.l 14 .n)).re (fun a=>((a.1.2.1,a.1.2.2.1,a.1.2.2.2.1,a.1.2.2.2.2.2.1,a.1.2.2.2.2.2.2.1,a.1.2.2.2.2.2.2.2.1,a.1.2.2.2.2.2.2.2.2.1,a.1.2.2.2.2.2.2.2.2.2.1,a.2.2.1),())) (fun x=>(((),x.1.1,x.1.2.1,x.1.2.2.1,((),()),x.1.2.2.2.1,x.1.2.2.2.2.1,x.1.2.2.2.2.2.1,x.1.2.2.2.2.2.2.1,x.1.2.2.2.2.2.2.2.1,()),(),x.1.2.2.2.2.2.2.2.2,())) (fun _=>rfl)
def xZ44:LQ tb ((Int×Int×Int×Bool×Bool×Int×Int×Bool×(List xZ0))×(Unit)):=(LQ.m [] [0,1,2,3,4,10,11,12,13,75] (.c 0 (.own 0) (.c 1 (.i .i64) (.c 2 (.i .i64) (.c 3 (.i .i64) (.c 4 (.fn 44 .n .n) (.c 10 .b (.c 11 .b (.c 12 (.i .i64) (.c 13 (.i .i64) (.c 75 .b .n)))))))))) .n (.l 14 .n)).re (fun a=>((a.1.2.1,a.1.2.2.1,a.1.2.2.2.1,a.1.2.2.2.2.2.1,a.1.2.2.2.2.2.2.1,a.1.2.2.2.2.2.2.2.1,a.1.2.2.2.2.2.2.2.2.1,a.1.2.2.2.2.2.2.2.2.2.1,a.2.2.1),())) (fun x=>(((),x.1.1,x.1.2.1,x.1.2.2.1,((),()),x.1.2.2.2.1,x.1.2.2.2.2.1,x.1.2.2.2.2.2.1,x.1.2.2.2.2.2.2.1,x.1.2.2.2.2.2.2.2.1,()),(),x.1.2.2.2.2.2.2.2.2,())) (fun _=>rfl)
def xZ45:LQ tb ((Int×Int×Int×Bool×Bool×Int×Int×Bool×(List xZ0))×(Unit)):=(LQ.m [] [0,1,2,3,4,10,11,12,13,97] (.c 0 (.own 0) (.c 1 (.i .i64) (.c 2 (.i .i64) (.c 3 (.i .i64) (.c 4 (.fn 44 .n .n) (.c 10 .b (.c 11 .b (.c 12 (.i .i64) (.c 13 (.i .i64) (.c 97 .b .n)))))))))) .n (.l 14 .n)).re (fun a=>((a.1.2.1,a.1.2.2.1,a.1.2.2.2.1,a.1.2.2.2.2.2.1,a.1.2.2.2.2.2.2.1,a.1.2.2.2.2.2.2.2.1,a.1.2.2.2.2.2.2.2.2.1,a.1.2.2.2.2.2.2.2.2.2.1,a.2.2.1),())) (fun x=>(((),x.1.1,x.1.2.1,x.1.2.2.1,((),()),x.1.2.2.2.1,x.1.2.2.2.2.1,x.1.2.2.2.2.2.1,x.1.2.2.2.2.2.2.1,x.1.2.2.2.2.2.2.2.1,()),(),x.1.2.2.2.2.2.2.2.2,())) (fun _=>rfl)
abbrev xZ49 (N:Nat) (next0:(Unit)×(Int×Int×Int×Bool×Bool×(List xZ0))→Option (List xZ0)):(Int×Int×Int×Bool×Bool×Int×Int×Bool×(List xZ0))×(Unit)→Option (List xZ0):=fun a=>xZb N (xZ6 N) a.1.1 a.1.2.1 a.1.2.2.1 a.1.2.2.2.1 a.1.2.2.2.2.1 a.1.2.2.2.2.2.1 a.1.2.2.2.2.2.2.1 a.1.2.2.2.2.2.2.2.1 a.1.2.2.2.2.2.2.2.2 (fun u0 u1 u2 u3 u4 u5=>next0 ((),(u0,u1,u2,u3,u4,u5)))
abbrev xZ48 (N:Nat) (next0:(Unit)×(Int×Int×Int×Bool×Bool×(List xZ0))→Option (List xZ0)):(Int×Int×Int×Bool×Bool×Int×Int×Bool×(List xZ0))×(Unit)→Option (List xZ0):=fun a=>xZw N (xZ6 N) a.1.1 a.1.2.1 a.1.2.2.1 a.1.2.2.2.1 a.1.2.2.2.2.1 a.1.2.2.2.2.2.1 a.1.2.2.2.2.2.2.1 a.1.2.2.2.2.2.2.2.1 a.1.2.2.2.2.2.2.2.2 (fun u0 u1 u2 u3 u4 u5=>next0 ((),(u0,u1,u2,u3,u4,u5)))
abbrev xZ47 (N:Nat) (next0:(Unit)×(Int×Int×Int×Bool×Bool×(List xZ0))→Option (List xZ0)):(Int×Int×Int×Bool×Bool×Int×Int×Int×(List xZ0))×(Unit)→Option (List xZ0):=fun a=>xZQ N (xZ6 N) a.1.1 a.1.2.1 a.1.2.2.1 a.1.2.2.2.1 a.1.2.2.2.2.1 a.1.2.2.2.2.2.1 a.1.2.2.2.2.2.2.1 a.1.2.2.2.2.2.2.2.1 a.1.2.2.2.2.2.2.2.2 (fun u0 u1 u2 u3 u4 u5=>next0 ((),(u0,u1,u2,u3,u4,u5)))
abbrev xZ46 (N:Nat) (next0:(Unit)×(Int×Int×Int×Bool×Bool×(List xZ0))→Option (List xZ0)):(Int×Int×Int×Bool×Bool×Int×(List xZ0))×(Unit)→Option (List xZ0):=fun a=>xZP N (xZ6 N) a.1.1 a.1.2.1 a.1.2.2.1 a.1.2.2.2.1 a.1.2.2.2.2.1 a.1.2.2.2.2.2.1 a.1.2.2.2.2.2.2 (fun u0 u1 u2 u3 u4 u5=>next0 ((),(u0,u1,u2,u3,u4,u5)))
def xZ4e (N:Nat) (c:Unit) (next:(Int×Int×Int×Bool×Bool×(List xZ0))→Option (List xZ0)) (v:Int×Int×Int×Bool×Bool×(List xZ0)):Option (List xZ0):=xZ2E N (xZ6 N) (fun u0 u1 u2 u3 u4 u5=>next (u0,u1,u2,u3,u4,u5)) v.1 v.2.1 v.2.2.1 v.2.2.2.1 v.2.2.2.2.1 v.2.2.2.2.2
abbrev xZ6Z (N:Nat):(Unit)×(Int×Int×Int×Bool×Bool×(List xZ0))→Option (List xZ0):=fun a=>loopV (xZ4e N a.1) N a.2
def xZ3V:Con tb:=.m 43 [false,false] (.c (.own 0) (.c (.fn 44 .n .n) .n)) .n (.l 14 .n) (fun N a=>xZ2J N a.2.2.1) (R:=List xZ0) (.m (R:=List xZ0) (.tu .n) .n (.l 14 .n) (fun z=>z.2.2.1) (fun r=>((),(),r,())) (fun _=>rfl))
def xZ3b:Con tb:=.s 108 [true,true] (.c (.i .u32) (.c (.i .u32) .n)) (fun N a=>xZo N a.1 a.2.1) (R:=Bool) (.p .b) (fun _=>⟨rfl,(by kernel_rfl)⟩)
def xZ2s:Con tb:=.m 102 [false,true,true] (.c (.own 0) (.c (.i .i64) (.c (.i .i64) .n))) .n (.l 11 .n) (fun N a=>xZ1A N a.1.2.1 a.1.2.2.1 a.2.2.1) (R:=List Int) (.m (R:=List Int) (.tu .n) .n (.l 11 .n) (fun z=>z.2.2.1) (fun r=>((),(),r,())) (fun _=>rfl))
def xZH:LQ tb ((Int×Int)×(Int×(List Int))):=(LQ.m [] [0,1,2,6] (.c 0 (.own 0) (.c 1 (.i .i64) (.c 2 (.i .i64) (.c 6 (.i .i64) .n)))) .n (.l 11 .n)).re (fun a=>((a.1.2.1,a.1.2.2.1),(a.1.2.2.2.1,a.2.2.1))) (fun x=>(((),x.1.1,x.1.2,x.2.1,()),(),x.2.2,())) (fun _=>rfl)
def xZ1j:LQ tb ((Int×Int×Int)×(Int×(List Int))):=(LQ.m [] [0,1,2,6,7] (.c 0 (.own 0) (.c 1 (.i .i64) (.c 2 (.i .i64) (.c 6 (.i .i64) (.c 7 (.i .i64) .n))))) .n (.l 11 .n)).re (fun a=>((a.1.2.1,a.1.2.2.1,a.1.2.2.2.1),(a.1.2.2.2.2.1,a.2.2.1))) (fun x=>(((),x.1.1,x.1.2.1,x.1.2.2,x.2.1,()),(),x.2.2,())) (fun _=>rfl)
def xZ3B (N:Nat) (next0:(Int×Int)×(Int×(List Int))→Option (List Int)) (c:Int×Int×Int) (next:(Int×(List Int))→Option (List Int)) (v:Int×(List Int)):Option (List Int):=xZ2i N c.1 c.2.2 (fun u0 u1=>next0 ((c.1,c.2.1),(u0,u1))) (fun u0 u1=>next (u0,u1)) v.1 v.2
abbrev xZ6b (N:Nat) (next0:(Int×Int)×(Int×(List Int))→Option (List Int)):(Int×Int×Int)×(Int×(List Int))→Option (List Int):=fun a=>loopV (xZ3B N next0 a.1) N a.2
def xZ3A (N:Nat) (c:Int×Int) (next:(Int×(List Int))→Option (List Int)) (v:Int×(List Int)):Option (List Int):=xZ2h N c.1 c.2 (fun u0 u1=>next (u0,u1)) v.1 v.2
abbrev xZ6a (N:Nat):(Int×Int)×(Int×(List Int))→Option (List Int):=fun a=>loopV (xZ3A N a.1) N a.2
def xZ3g:Con tb:=.m 140 [false,true,true,true] (.c (.own 0) (.c (.i .i64) (.c (.i .i64) (.c (.i .i64) .n)))) .n (.l 11 .n) (fun N a=>xZ1m N a.1.2.1 a.1.2.2.1 a.1.2.2.2.1 a.2.2.1) (R:=List Int) (.m (R:=List Int) (.tu .n) .n (.l 11 .n) (fun z=>z.2.2.1) (fun r=>((),(),r,())) (fun _=>rfl))
def xZ1Y:LQ tb ((Int×Int)×(Int×(List Int))):=(LQ.m [] [0,2,3,8] (.c 0 (.own 0) (.c 2 (.i .i64) (.c 3 (.i .i64) (.c 8 (.i .i64) .n)))) .n (.l 11 .n)).re (fun a=>((a.1.2.1,a.1.2.2.1),(a.1.2.2.2.1,a.2.2.1))) (fun x=>(((),x.1.1,x.1.2,x.2.1,()),(),x.2.2,())) (fun _=>rfl)
def xZ4t (N:Nat) (c:Int×Int) (next:(Int×(List Int))→Option (List Int)) (v:Int×(List Int)):Option (List Int):=xZ2Z N c.1 c.2 (fun u0 u1=>next (u0,u1)) v.1 v.2
abbrev xZ7B (N:Nat):(Int×Int)×(Int×(List Int))→Option (List Int):=fun a=>loopV (xZ4t N a.1) N a.2
def xZ3f:Con tb:=.m 103 [false,true,true] (.c (.own 0) (.c (.i .i64) (.c (.i .i64) .n))) .n (.l 11 .n) (fun N a=>xZ2d N a.1.2.1 a.1.2.2.1 a.2.2.1) (R:=List Int) (.m (R:=List Int) (.tu .n) .n (.l 11 .n) (fun z=>z.2.2.1) (fun r=>((),(),r,())) (fun _=>rfl))
def xZ1W:LQ tb ((Int×Int)×(Int×(List Int))):=(LQ.m [] [0,6,7,8,9] (.c 0 (.own 0) (.c 6 (.i .i64) (.c 7 (.li .i64 0) (.c 8 (.i .i64) (.c 9 (.i .i64) .n))))) .n (.l 11 .n)).re (fun a=>((a.1.2.1,a.1.2.2.2.1),(a.1.2.2.2.2.1,a.2.2.1))) (fun x=>(((),x.1.1,(),x.1.2,x.2.1,()),(),x.2.2,())) (fun _=>rfl)
def xZ1X:LQ tb ((Int)×(Int×(List Int))):=(LQ.m [] [0,6,7,10] (.c 0 (.own 0) (.c 6 (.i .i64) (.c 7 (.li .i64 0) (.c 10 (.i .i64) .n)))) .n (.l 11 .n)).re (fun a=>(a.1.2.1,(a.1.2.2.2.1,a.2.2.1))) (fun x=>(((),x.1,(),x.2.1,()),(),x.2.2,())) (fun _=>rfl)
def xZ4s (N:Nat) (c:Int) (next:(Int×(List Int))→Option (List Int)) (v:Int×(List Int)):Option (List Int):=xZ2X N c (fun u0 u1=>next (u0,u1)) v.1 v.2
abbrev xZ7A (N:Nat):(Int)×(Int×(List Int))→Option (List Int):=fun a=>loopV (xZ4s N a.1) N a.2
def xZ4r (N:Nat) (c:Int×Int) (next:(Int×(List Int))→Option (List Int)) (v:Int×(List Int)):Option (List Int):=xZ2W N c.1 c.2 (fun u0 u1=>next (u0,u1)) v.1 v.2
abbrev xZ7z (N:Nat):(Int×Int)×(Int×(List Int))→Option (List Int):=fun a=>loopV (xZ4r N a.1) N a.2
def xZ2r:Con tb:=.m 104 [false,true,true] (.c (.own 0) (.c (.i .i64) (.c (.i .i64) .n))) .n (.l 11 .n) (fun N a=>xZ1z N a.1.2.1 a.1.2.2.1 a.2.2.1) (R:=List Int) (.m (R:=List Int) (.tu .n) .n (.l 11 .n) (fun z=>z.2.2.1) (fun r=>((),(),r,())) (fun _=>rfl))
def xZ1i:LQ tb ((Int×Int×Int)×(Int×Int×(List Int))):=(LQ.m [] [0,1,6,7,8,9] (.c 0 (.own 0) (.c 1 (.i .i64) (.c 6 (.i .i64) (.c 7 (.ptr 0 0) (.c 8 (.i .u64) (.c 9 (.i .i64) .n)))))) (.c (.c (.i .u64) .n) .n) (.l 11 .n)).re (fun a=>((a.1.2.1,a.1.2.2.1,a.1.2.2.2.2.1),(a.1.2.2.2.2.2.1,a.2.1.1.1,a.2.2.1))) (fun x=>(((),x.1.1,x.1.2.1,(),x.1.2.2,x.2.1,()),((x.2.2.1,()),()),x.2.2.2,())) (fun _=>rfl)
def xZ3z (N:Nat) (c:Int×Int×Int) (next:(Int×Int×(List Int))→Option (List Int)) (v:Int×Int×(List Int)):Option (List Int):=xZ2g N c.1 c.2.1 c.2.2 (fun u0 u1 u2=>next (u0,u1,u2)) v.1 v.2.1 v.2.2
abbrev xZ69 (N:Nat):(Int×Int×Int)×(Int×Int×(List Int))→Option (List Int):=fun a=>loopV (xZ3z N a.1) N a.2
def xZ3t:Con tb:=.m 162 [false,true,true,false] (.c (.own 0) (.c (.i .i64) (.c (.i .i64) (.c (.ptr 0 0) .n)))) (.c (.c (.i .i64) .n) .n) (.l 11 .n) (fun N a=>xZ10 N a.1.2.1 a.1.2.2.1 a.2.1.1.1 a.2.2.1) (R:=Int×Int×Int×List Int) (.m (R:=Int×Int×Int×List Int) (.tu (.c (.i .i64) (.o (.i .i64)))) (.c (.c (.i .i64) .n) .n) (.l 11 .n) (fun z=>(z.1.1,z.1.2,z.2.1.1.1,z.2.2.1)) (fun r=>((r.1,r.2.1),((r.2.2.1,()),()),r.2.2.2,())) (fun _=>rfl))
def xZ2p:Con tb:=.m 142 [false,true,true,true,false] (.c (.own 0) (.c (.i .i64) (.c (.i .i64) (.c (.i .i64) (.c (.ptr 0 0) .n))))) (.c (.c (.i .i64) .n) .n) (.l 11 .n) (fun N a=>xZD N a.1.2.1 a.1.2.2.1 a.1.2.2.2.1 a.2.1.1.1 a.2.2.1) (R:=Int×Int×List Int) (.m (R:=Int×Int×List Int) (.i .i64) (.c (.c (.i .i64) .n) .n) (.l 11 .n) (fun z=>(z.1,z.2.1.1.1,z.2.2.1)) (fun r=>(r.1,((r.2.1,()),()),r.2.2,())) (fun _=>rfl))
def xZ2k:Con tb:=.m 141 [false,true,false] (.c (.own 0) (.c (.i .i64) (.c (.ptr 0 0) .n))) (.c (.c (.i .i64) .n) .n) (.l 11 .n) (fun N a=>xZi N a.1.2.1 a.2.1.1.1 a.2.2.1) (R:=Int×Int×List Int) (.m (R:=Int×Int×List Int) (.i .i64) (.c (.c (.i .i64) .n) .n) (.l 11 .n) (fun z=>(z.1,z.2.1.1.1,z.2.2.1)) (fun r=>(r.1,((r.2.1,()),()),r.2.2,())) (fun _=>rfl))
def xZ2F:Con tb:=.m 105 [false,true,true] (.c (.own 0) (.c (.i .i64) (.c (.i .i64) .n))) .n (.l 11 .n) (fun N a=>xZZ N a.1.2.1 a.1.2.2.1 a.2.2.1) (R:=Int×Int×List Int) (.m (R:=Int×Int×List Int) (.tu (.c (.i .i64) (.o (.i .i64)))) .n (.l 11 .n) (fun z=>(z.1.1,z.1.2,z.2.2.1)) (fun r=>((r.1,r.2.1),(),r.2.2,())) (fun _=>rfl))
def xZ2D:Con tb:=.m 106 [false,true,true] (.c (.own 0) (.c (.i .i64) (.c (.i .i64) .n))) .n (.l 11 .n) (fun N a=>xZ1J N a.1.2.1 a.1.2.2.1 a.2.2.1) (R:=List Int) (.m (R:=List Int) (.tu .n) .n (.l 11 .n) (fun z=>z.2.2.1) (fun r=>((),(),r,())) (fun _=>rfl))
def xZ1r:LQ tb ((Unit)×(Int×Int×(List Int))):=(LQ.m [] [0,6,7] (.c 0 (.own 0) (.c 6 (.i .i64) (.c 7 (.i .i64) .n))) .n (.l 11 .n)).re (fun a=>((),(a.1.2.1,a.1.2.2.1,a.2.2.1))) (fun x=>(((),x.2.1,x.2.2.1,()),(),x.2.2.2,())) (fun _=>rfl)
def xZ3S (N:Nat) (c:Unit) (next:(Int×Int×(List Int))→Option (List Int)) (v:Int×Int×(List Int)):Option (List Int):=xZ2o N (fun u0 u1 u2=>next (u0,u1,u2)) v.1 v.2.1 v.2.2
abbrev xZ6u (N:Nat):(Unit)×(Int×Int×(List Int))→Option (List Int):=fun a=>loopV (xZ3S N a.1) N a.2
def xZ1M:Con tb:=.m 107 [false,true,true] (.c (.own 0) (.c (.i .i64) (.c (.i .i64) .n))) .n (.l 11 .n) (fun N a=>xZR N a.1.2.1 a.1.2.2.1 a.2.2.1) (R:=Bool×List Int) (.m (R:=Bool×List Int) .b .n (.l 11 .n) (fun z=>(z.1,z.2.2.1)) (fun r=>(r.1,(),r.2,())) (fun _=>rfl))
def xZc:LQ tb ((Int×Int)×(Int×Int×(List Int))):=(LQ.m [] [0,1,2,7,8] (.c 0 (.own 0) (.c 1 (.i .i64) (.c 2 (.i .i64) (.c 7 (.i .i64) (.c 8 (.i .i64) .n))))) .n (.l 11 .n)).re (fun a=>((a.1.2.1,a.1.2.2.1),(a.1.2.2.2.1,a.1.2.2.2.2.1,a.2.2.1))) (fun x=>(((),x.1.1,x.1.2,x.2.1,x.2.2.1,()),(),x.2.2.2,())) (fun _=>rfl)
def xZJ:LQ tb ((Int×Int×Int×(List Int))×(Int)):=(LQ.m [] [0,1,2,7,8] (.c 0 (.own 0) (.c 1 (.i .i64) (.c 2 (.i .i64) (.c 7 (.i .i64) (.c 8 (.i .i64) .n))))) .n (.l 11 .n)).re (fun a=>((a.1.2.1,a.1.2.2.1,a.1.2.2.2.2.1,a.2.2.1),a.1.2.2.2.1)) (fun x=>(((),x.1.1,x.1.2.1,x.2,x.1.2.2.1,()),(),x.1.2.2.2,())) (fun _=>rfl)
def xZK:LQ tb ((Int×Int×Int×Int)×(Int×(List Int))):=(LQ.m [] [0,1,2,7,8,9] (.c 0 (.own 0) (.c 1 (.i .i64) (.c 2 (.i .i64) (.c 7 (.i .i64) (.c 8 (.i .i64) (.c 9 (.i .i64) .n)))))) .n (.l 11 .n)).re (fun a=>((a.1.2.1,a.1.2.2.1,a.1.2.2.2.1,a.1.2.2.2.2.1),(a.1.2.2.2.2.2.1,a.2.2.1))) (fun x=>(((),x.1.1,x.1.2.1,x.1.2.2.1,x.1.2.2.2,x.2.1,()),(),x.2.2,())) (fun _=>rfl)
def xZq:LQ tb ((Int×Int×Int×Int)×(Int×(List Int))):=(LQ.m [] [0,1,2,7,8,10] (.c 0 (.own 0) (.c 1 (.i .i64) (.c 2 (.i .i64) (.c 7 (.i .i64) (.c 8 (.i .i64) (.c 10 (.i .i64) .n)))))) .n (.l 11 .n)).re (fun a=>((a.1.2.1,a.1.2.2.1,a.1.2.2.2.1,a.1.2.2.2.2.1),(a.1.2.2.2.2.2.1,a.2.2.1))) (fun x=>(((),x.1.1,x.1.2.1,x.1.2.2.1,x.1.2.2.2,x.2.1,()),(),x.2.2,())) (fun _=>rfl)
def xZ2Q (N:Nat) (next0:(Int×Int)×(Int×Int×(List Int))→Option (Bool×List Int)) (c:Int×Int×Int×Int) (next:(Int×(List Int))→Option (Bool×List Int)) (v:Int×(List Int)):Option (Bool×List Int):=xZ9 N c.2.1 c.2.2.1 c.2.2.2 (fun u0 u1 u2=>next0 ((c.1,c.2.1),(u0,u1,u2))) (fun u0 u1=>next (u0,u1)) v.1 v.2
abbrev xZ2R (N:Nat) (next0:(Int×Int)×(Int×Int×(List Int))→Option (Bool×List Int)):(Int×Int×Int×Int)×(Int×(List Int))→Option (Bool×List Int):=fun a=>loopV (xZ2Q N next0 a.1) N a.2
def xZ2P (N:Nat) (next0:(Int×Int)×(Int×Int×(List Int))→Option (Bool×List Int)) (c:Int×Int×Int×Int) (next:(Int×(List Int))→Option (Bool×List Int)) (v:Int×(List Int)):Option (Bool×List Int):=xZr N c.2.1 c.2.2.1 c.2.2.2 (fun u0 u1 u2=>next0 ((c.1,c.2.1),(u0,u1,u2))) (fun u0 u1=>next (u0,u1)) v.1 v.2
abbrev xZ5a (N:Nat) (next0:(Int×Int)×(Int×Int×(List Int))→Option (Bool×List Int)):(Int×Int×Int×Int)×(Int×(List Int))→Option (Bool×List Int):=fun a=>loopV (xZ2P N next0 a.1) N a.2
def xZ2O (N:Nat) (next0:(Int×Int)×(Int×Int×(List Int))→Option (Bool×List Int)) (c:Int×Int×Int×(List Int)) (next:Int→Option (Bool×List Int)) (v:Int):Option (Bool×List Int):=xZ1F N c.1 c.2.1 c.2.2.1 c.2.2.2 (fun u0 u1 u2=>next0 ((c.1,c.2.1),(u0,u1,u2))) (fun u0=>next u0) v
abbrev xZ59 (N:Nat) (next0:(Int×Int)×(Int×Int×(List Int))→Option (Bool×List Int)):(Int×Int×Int×(List Int))×(Int)→Option (Bool×List Int):=fun a=>loopV (xZ2O N next0 a.1) N a.2
def xZ2N (N:Nat) (c:Int×Int) (next:(Int×Int×(List Int))→Option (Bool×List Int)) (v:Int×Int×(List Int)):Option (Bool×List Int):=xZ1E N c.1 c.2 (fun u0 u1 u2=>next (u0,u1,u2)) v.1 v.2.1 v.2.2
abbrev xZ58 (N:Nat):(Int×Int)×(Int×Int×(List Int))→Option (Bool×List Int):=fun a=>loopV (xZ2N N a.1) N a.2
def xZ2l:Con tb:=.m 109 [false,true,true,true] (.c (.own 0) (.c (.i .i64) (.c (.i .i64) (.c (.i .i64) .n)))) .n (.l 11 .n) (fun N a=>xZ1s N a.1.2.1 a.1.2.2.1 a.1.2.2.2.1 a.2.2.1) (R:=Int×List Int) (.m (R:=Int×List Int) (.i .i64) .n (.l 11 .n) (fun z=>(z.1,z.2.2.1)) (fun r=>(r.1,(),r.2,())) (fun _=>rfl))
def xZp:LQ tb ((Int)×(Int×Int×(List Int))):=(LQ.m [] [0,1,9,10] (.c 0 (.own 0) (.c 1 (.i .i64) (.c 9 (.i .i64) (.c 10 (.i .i64) .n)))) .n (.l 11 .n)).re (fun a=>(a.1.2.1,(a.1.2.2.1,a.1.2.2.2.1,a.2.2.1))) (fun x=>(((),x.1,x.2.1,x.2.2.1,()),(),x.2.2.2,())) (fun _=>rfl)
def xZ1b:LQ tb ((Int×Int×(List Int))×(Int)):=(LQ.m [] [0,1,9,10] (.c 0 (.own 0) (.c 1 (.i .i64) (.c 9 (.i .i64) (.c 10 (.i .i64) .n)))) .n (.l 11 .n)).re (fun a=>((a.1.2.1,a.1.2.2.2.1,a.2.2.1),a.1.2.2.1)) (fun x=>(((),x.1.1,x.2,x.1.2.1,()),(),x.1.2.2,())) (fun _=>rfl)
def xZ1c:LQ tb ((Int×Int×(List Int))×(Int)):=(LQ.m [] [0,1,9,10] (.c 0 (.own 0) (.c 1 (.i .i64) (.c 9 (.i .i64) (.c 10 (.i .i64) .n)))) .n (.l 11 .n)).re (fun a=>((a.1.2.1,a.1.2.2.1,a.2.2.1),a.1.2.2.2.1)) (fun x=>(((),x.1.1,x.1.2.1,x.2,()),(),x.1.2.2,())) (fun _=>rfl)
def xZ3w (N:Nat) (next0:(Int)×(Int×Int×(List Int))→Option (Int×List Int)) (c:Int×Int×(List Int)) (next:Int→Option (Int×List Int)) (v:Int):Option (Int×List Int):=xZE N c.1 c.2.1 c.2.2 (fun u0 u1 u2=>next0 (c.1,(u0,u1,u2))) (fun u0=>next u0) v
abbrev xZ62 (N:Nat) (next0:(Int)×(Int×Int×(List Int))→Option (Int×List Int)):(Int×Int×(List Int))×(Int)→Option (Int×List Int):=fun a=>loopV (xZ3w N next0 a.1) N a.2
def xZ3v (N:Nat) (next0:(Int)×(Int×Int×(List Int))→Option (Int×List Int)) (c:Int×Int×(List Int)) (next:Int→Option (Int×List Int)) (v:Int):Option (Int×List Int):=xZ2e N c.1 c.2.1 c.2.2 (fun u0 u1 u2=>next0 (c.1,(u0,u1,u2))) (fun u0=>next u0) v
abbrev xZ61 (N:Nat) (next0:(Int)×(Int×Int×(List Int))→Option (Int×List Int)):(Int×Int×(List Int))×(Int)→Option (Int×List Int):=fun a=>loopV (xZ3v N next0 a.1) N a.2
def xZ3u (N:Nat) (c:Int) (next:(Int×Int×(List Int))→Option (Int×List Int)) (v:Int×Int×(List Int)):Option (Int×List Int):=xZ1f N c (fun u0 u1 u2=>next (u0,u1,u2)) v.1 v.2.1 v.2.2
abbrev xZ60 (N:Nat):(Int)×(Int×Int×(List Int))→Option (Int×List Int):=fun a=>loopV (xZ3u N a.1) N a.2
def xZ33:Con tb:=.m 110 [false,true,true,true] (.c (.own 0) (.c (.i .i64) (.c (.i .i64) (.c (.i .i64) .n)))) .n (.l 11 .n) (fun N a=>xZ24 N a.1.2.1 a.1.2.2.1 a.1.2.2.2.1 a.2.2.1) (R:=Int×Bool×List Int) (.m (R:=Int×Bool×List Int) (.tu (.c (.i .i64) (.o .b))) .n (.l 11 .n) (fun z=>(z.1.1,z.1.2,z.2.2.1)) (fun r=>((r.1,r.2.1),(),r.2.2,())) (fun _=>rfl))
def xZ1P:LQ tb ((Int×Int×(List Int))×(Int)):=(LQ.m [] [0,1,10,11] (.c 0 (.own 0) (.c 1 (.i .i64) (.c 10 (.i .i64) (.c 11 (.i .i64) .n)))) .n (.l 11 .n)).re (fun a=>((a.1.2.1,a.1.2.2.2.1,a.2.2.1),a.1.2.2.1)) (fun x=>(((),x.1.1,x.2,x.1.2.1,()),(),x.1.2.2,())) (fun _=>rfl)
def xZ1Q:LQ tb ((Int×Int×(List Int))×(Int)):=(LQ.m [] [0,1,10,11] (.c 0 (.own 0) (.c 1 (.i .i64) (.c 10 (.i .i64) (.c 11 (.i .i64) .n)))) .n (.l 11 .n)).re (fun a=>((a.1.2.1,a.1.2.2.1,a.2.2.1),a.1.2.2.2.1)) (fun x=>(((),x.1.1,x.1.2.1,x.2,()),(),x.1.2.2,())) (fun _=>rfl)
def xZB:LQ tb ((Int)×(Int×Int×(List Int))):=(LQ.m [] [0,1,10,11] (.c 0 (.own 0) (.c 1 (.i .i64) (.c 10 (.i .i64) (.c 11 (.i .i64) .n)))) .n (.l 11 .n)).re (fun a=>(a.1.2.1,(a.1.2.2.1,a.1.2.2.2.1,a.2.2.1))) (fun x=>(((),x.1,x.2.1,x.2.2.1,()),(),x.2.2.2,())) (fun _=>rfl)
def xZ1R:LQ tb ((Int×Int×(List Int))×(Int)):=(LQ.m [] [0,1,10,11] (.c 0 (.own 0) (.c 1 (.i .i64) (.c 10 (.i .i64) (.c 11 (.i .i64) .n)))) .n (.l 11 .n)).re (fun a=>((a.1.2.1,a.1.2.2.2.1,a.2.2.1),a.1.2.2.1)) (fun x=>(((),x.1.1,x.2,x.1.2.1,()),(),x.1.2.2,())) (fun _=>rfl)
def xZ1S:LQ tb ((Int×Int×(List Int))×(Int)):=(LQ.m [] [0,1,10,11] (.c 0 (.own 0) (.c 1 (.i .i64) (.c 10 (.i .i64) (.c 11 (.i .i64) .n)))) .n (.l 11 .n)).re (fun a=>((a.1.2.1,a.1.2.2.1,a.2.2.1),a.1.2.2.2.1)) (fun x=>(((),x.1.1,x.1.2.1,x.2,()),(),x.1.2.2,())) (fun _=>rfl)
def xZ4m (N:Nat) (next4:(Int)×(Int×Int×(List Int))→Option (Int×Bool×List Int)) (c:Int×Int×(List Int)) (next:Int→Option (Int×Bool×List Int)) (v:Int):Option (Int×Bool×List Int):=xZ13 N c.1 c.2.1 c.2.2 (fun u0 u1 u2=>next4 (c.1,(u0,u1,u2))) (fun u0=>next u0) v
abbrev xZ7h (N:Nat) (next4:(Int)×(Int×Int×(List Int))→Option (Int×Bool×List Int)):(Int×Int×(List Int))×(Int)→Option (Int×Bool×List Int):=fun a=>loopV (xZ4m N next4 a.1) N a.2
def xZ4l (N:Nat) (next4:(Int)×(Int×Int×(List Int))→Option (Int×Bool×List Int)) (c:Int×Int×(List Int)) (next:Int→Option (Int×Bool×List Int)) (v:Int):Option (Int×Bool×List Int):=xZ2L N c.1 c.2.1 c.2.2 (fun u0 u1 u2=>next4 (c.1,(u0,u1,u2))) (fun u0=>next u0) v
abbrev xZ7g (N:Nat) (next4:(Int)×(Int×Int×(List Int))→Option (Int×Bool×List Int)):(Int×Int×(List Int))×(Int)→Option (Int×Bool×List Int):=fun a=>loopV (xZ4l N next4 a.1) N a.2
def xZ4k (N:Nat) (c:Int) (next:(Int×Int×(List Int))→Option (Int×Bool×List Int)) (v:Int×Int×(List Int)):Option (Int×Bool×List Int):=xZ12 N c (fun u0 u1 u2=>next (u0,u1,u2)) v.1 v.2.1 v.2.2
abbrev xZ7f (N:Nat):(Int)×(Int×Int×(List Int))→Option (Int×Bool×List Int):=fun a=>loopV (xZ4k N a.1) N a.2
def xZ4j (N:Nat) (c:Int×Int×(List Int)) (next:Int→Option (Int×Bool×List Int)) (v:Int):Option (Int×Bool×List Int):=xZ11 N c.1 c.2.1 c.2.2 (fun u0=>next u0) v
abbrev xZ7e (N:Nat):(Int×Int×(List Int))×(Int)→Option (Int×Bool×List Int):=fun a=>loopV (xZ4j N a.1) N a.2
def xZ4i (N:Nat) (c:Int×Int×(List Int)) (next:Int→Option (Int×Bool×List Int)) (v:Int):Option (Int×Bool×List Int):=xZ2K N c.1 c.2.1 c.2.2 (fun u0=>next u0) v
abbrev xZ7d (N:Nat):(Int×Int×(List Int))×(Int)→Option (Int×Bool×List Int):=fun a=>loopV (xZ4i N a.1) N a.2
def xZ1u:Con tb:=.m 67 [false,true,true,true] (.c (.own 0) (.c (.i .i64) (.c (.i .i64) (.c (.i .i64) .n)))) .n (.l 11 .n) (fun N a=>xZ3o N a.1.2.1 a.1.2.2.1 a.1.2.2.2.1 a.2.2.1) (R:=List Int) (.m (R:=List Int) (.tu .n) .n (.l 11 .n) (fun z=>z.2.2.1) (fun r=>((),(),r,())) (fun _=>rfl))
def xZk:LQ tb ((Unit)×(Int×Int×Int×Bool×Bool×(List Int))):=(LQ.m [] [0,1,2,3,8,9] (.c 0 (.own 0) (.c 1 (.i .i64) (.c 2 (.i .i64) (.c 3 (.i .i64) (.c 8 .b (.c 9 .b .n)))))) .n (.l 11 .n)).re (fun a=>((),(a.1.2.1,a.1.2.2.1,a.1.2.2.2.1,a.1.2.2.2.2.1,a.1.2.2.2.2.2.1,a.2.2.1))) (fun x=>(((),x.2.1,x.2.2.1,x.2.2.2.1,x.2.2.2.2.1,x.2.2.2.2.2.1,()),(),x.2.2.2.2.2.2,())) (fun _=>rfl)
def xZ4v:LQ tb ((Int×Int×Int×Bool×Bool×Int×(List Int))×(Unit)):=(LQ.m [] [0,1,2,3,8,9,10] (.c 0 (.own 0) (.c 1 (.i .i64) (.c 2 (.i .i64) (.c 3 (.i .i64) (.c 8 .b (.c 9 .b (.c 10 (.i .i64) .n))))))) .n (.l 11 .n)).re (fun a=>((a.1.2.1,a.1.2.2.1,a.1.2.2.2.1,a.1.2.2.2.2.1,a.1.2.2.2.2.2.1,a.1.2.2.2.2.2.2.1,a.2.2.1),())) (fun x=>(((),x.1.1,x.1.2.1,x.1.2.2.1,x.1.2.2.2.1,x.1.2.2.2.2.1,x.1.2.2.2.2.2.1,()),(),x.1.2.2.2.2.2.2,())) (fun _=>rfl)
def xZ4w:LQ tb ((Int×Int×Int×Bool×Bool×Int×Int×Int×(List Int))×(Unit)):=(LQ.m [] [0,1,2,3,8,9,10,11,12] (.c 0 (.own 0) (.c 1 (.i .i64) (.c 2 (.i .i64) (.c 3 (.i .i64) (.c 8 .b (.c 9 .b (.c 10 (.i .i64) (.c 11 (.i .i64) (.c 12 (.i .i64) .n))))))))) .n (.l 11 .n)).re (fun a=>((a.1.2.1,a.1.2.2.1,a.1.2.2.2.1,a.1.2.2.2.2.1,a.1.2.2.2.2.2.1,a.1.2.2.2.2.2.2.1,a.1.2.2.2.2.2.2.2.1,a.1.2.2.2.2.2.2.2.2.1,a.2.2.1),())) (fun x=>(((),x.1.1,x.1.2.1,x.1.2.2.1,x.1.2.2.2.1,x.1.2.2.2.2.1,x.1.2.2.2.2.2.1,x.1.2.2.2.2.2.2.1,x.1.2.2.2.2.2.2.2.1,()),(),x.1.2.2.2.2.2.2.2.2,())) (fun _=>rfl)
def xZ4x:LQ tb ((Int×Int×Int×Bool×Bool×Int×Int×Bool×(List Int))×(Unit)):=(LQ.m [] [0,1,2,3,8,9,10,11,68] (.c 0 (.own 0) (.c 1 (.i .i64) (.c 2 (.i .i64) (.c 3 (.i .i64) (.c 8 .b (.c 9 .b (.c 10 (.i .i64) (.c 11 (.i .i64) (.c 68 .b .n))))))))) .n (.l 11 .n)).re (fun a=>((a.1.2.1,a.1.2.2.1,a.1.2.2.2.1,a.1.2.2.2.2.1,a.1.2.2.2.2.2.1,a.1.2.2.2.2.2.2.1,a.1.2.2.2.2.2.2.2.1,a.1.2.2.2.2.2.2.2.2.1,a.2.2.1),())) (fun x=>(((),x.1.1,x.1.2.1,x.1.2.2.1,x.1.2.2.2.1,x.1.2.2.2.2.1,x.1.2.2.2.2.2.1,x.1.2.2.2.2.2.2.1,x.1.2.2.2.2.2.2.2.1,()),(),x.1.2.2.2.2.2.2.2.2,())) (fun _=>rfl)
def xZ4y:LQ tb ((Int×Int×Int×Bool×Bool×Int×Int×Bool×(List Int))×(Unit)):=(LQ.m [] [0,1,2,3,8,9,10,11,87] (.c 0 (.own 0) (.c 1 (.i .i64) (.c 2 (.i .i64) (.c 3 (.i .i64) (.c 8 .b (.c 9 .b (.c 10 (.i .i64) (.c 11 (.i .i64) (.c 87 .b .n))))))))) .n (.l 11 .n)).re (fun a=>((a.1.2.1,a.1.2.2.1,a.1.2.2.2.1,a.1.2.2.2.2.1,a.1.2.2.2.2.2.1,a.1.2.2.2.2.2.2.1,a.1.2.2.2.2.2.2.2.1,a.1.2.2.2.2.2.2.2.2.1,a.2.2.1),())) (fun x=>(((),x.1.1,x.1.2.1,x.1.2.2.1,x.1.2.2.2.1,x.1.2.2.2.2.1,x.1.2.2.2.2.2.1,x.1.2.2.2.2.2.2.1,x.1.2.2.2.2.2.2.2.1,()),(),x.1.2.2.2.2.2.2.2.2,())) (fun _=>rfl)
abbrev xZ4C (N:Nat) (next0:(Unit)×(Int×Int×Int×Bool×Bool×(List Int))→Option (List Int)):(Int×Int×Int×Bool×Bool×Int×Int×Bool×(List Int))×(Unit)→Option (List Int):=fun a=>xZd N (xZ7 N) a.1.1 a.1.2.1 a.1.2.2.1 a.1.2.2.2.1 a.1.2.2.2.2.1 a.1.2.2.2.2.2.1 a.1.2.2.2.2.2.2.1 a.1.2.2.2.2.2.2.2.1 a.1.2.2.2.2.2.2.2.2 (fun u0 u1 u2 u3 u4 u5=>next0 ((),(u0,u1,u2,u3,u4,u5)))
abbrev xZ4B (N:Nat) (next0:(Unit)×(Int×Int×Int×Bool×Bool×(List Int))→Option (List Int)):(Int×Int×Int×Bool×Bool×Int×Int×Bool×(List Int))×(Unit)→Option (List Int):=fun a=>xZF N (xZ7 N) a.1.1 a.1.2.1 a.1.2.2.1 a.1.2.2.2.1 a.1.2.2.2.2.1 a.1.2.2.2.2.2.1 a.1.2.2.2.2.2.2.1 a.1.2.2.2.2.2.2.2.1 a.1.2.2.2.2.2.2.2.2 (fun u0 u1 u2 u3 u4 u5=>next0 ((),(u0,u1,u2,u3,u4,u5)))
abbrev xZ4A (N:Nat) (next0:(Unit)×(Int×Int×Int×Bool×Bool×(List Int))→Option (List Int)):(Int×Int×Int×Bool×Bool×Int×Int×Int×(List Int))×(Unit)→Option (List Int):=fun a=>xZ1a N (xZ7 N) a.1.1 a.1.2.1 a.1.2.2.1 a.1.2.2.2.1 a.1.2.2.2.2.1 a.1.2.2.2.2.2.1 a.1.2.2.2.2.2.2.1 a.1.2.2.2.2.2.2.2.1 a.1.2.2.2.2.2.2.2.2 (fun u0 u1 u2 u3 u4 u5=>next0 ((),(u0,u1,u2,u3,u4,u5)))
abbrev xZ4z (N:Nat) (next0:(Unit)×(Int×Int×Int×Bool×Bool×(List Int))→Option (List Int)):(Int×Int×Int×Bool×Bool×Int×(List Int))×(Unit)→Option (List Int):=fun a=>xZ19 N (xZ7 N) a.1.1 a.1.2.1 a.1.2.2.1 a.1.2.2.2.1 a.1.2.2.2.2.1 a.1.2.2.2.2.2.1 a.1.2.2.2.2.2.2 (fun u0 u1 u2 u3 u4 u5=>next0 ((),(u0,u1,u2,u3,u4,u5)))
def xZ4L (N:Nat) (c:Unit) (next:(Int×Int×Int×Bool×Bool×(List Int))→Option (List Int)) (v:Int×Int×Int×Bool×Bool×(List Int)):Option (List Int):=xZ3a N (xZ7 N) (fun u0 u1 u2 u3 u4 u5=>next (u0,u1,u2,u3,u4,u5)) v.1 v.2.1 v.2.2.1 v.2.2.2.1 v.2.2.2.2.1 v.2.2.2.2.2
abbrev xZ7U (N:Nat):(Unit)×(Int×Int×Int×Bool×Bool×(List Int))→Option (List Int):=fun a=>loopV (xZ4L N a.1) N a.2
def xZ5A:Con tb:=.m 45 [false] (.c (.own 0) .n) .n (.l 11 .n) (fun N a=>xZ4n N a.2.2.1) (R:=List Int) (.m (R:=List Int) (.tu .n) .n (.l 11 .n) (fun z=>z.2.2.1) (fun r=>((),(),r,())) (fun _=>rfl))
def xZ4Z:Con tb:=.m 46 [false] (.c (.own 0) .n) .n (.l 14 .n) (fun N a=>xZ1v N a.2.2.1) (R:=List xZ0) (.m (R:=List xZ0) (.own 1) .n (.d (.l 14 .n)) (fun z=>z.2.2.1) (fun r=>((),(),r,())) (fun _=>rfl))
def xZ5y:Con tb:=.m 47 [false] (.c (.own 0) .n) .n (.l 11 .n) (fun N a=>xZ1Z N a.2.2.1) (R:=List Int) (.m (R:=List Int) (.own 1) .n (.d (.l 11 .n)) (fun z=>z.2.2.1) (fun r=>((),(),r,())) (fun _=>rfl))
def xZ5P:Con tb:=.m 24 [false,true] (.c (.ptr 0 0) (.c (.i .i64) .n)) (.c (.c (.r 4) (.c (.r 2) (.c (.i .i64) (.c .s (.c (.i .u8) (.c .b (.c (.i .u32) (.c (.i .u32) (.c (.r 11) (.c (.i .u32) .n)))))))))) .n) .n (fun N a=>xZ2b N a.1.2.1 a.2.1.1.1 a.2.1.1.2.1 a.2.1.1.2.2.1 a.2.1.1.2.2.2.1 a.2.1.1.2.2.2.2.1 a.2.1.1.2.2.2.2.2.1 a.2.1.1.2.2.2.2.2.2.1 a.2.1.1.2.2.2.2.2.2.2.1 a.2.1.1.2.2.2.2.2.2.2.2.1 a.2.1.1.2.2.2.2.2.2.2.2.2.1) (R:=List xZ0×List Int×Bool×List xZ1×List xZ3×Int×List UInt8×Int×Bool×Int×Int×List Int×Int) (.m (R:=List xZ0×List Int×Bool×List xZ1×List xZ3×Int×List UInt8×Int×Bool×Int×Int×List Int×Int) (.tu (.c (.r 14) (.c (.r 11) (.o .b)))) (.c (.c (.r 4) (.c (.r 2) (.c (.i .i64) (.c .s (.c (.i .u8) (.c .b (.c (.i .u32) (.c (.i .u32) (.c (.r 11) (.c (.i .u32) .n)))))))))) .n) .n (fun z=>(z.1.1,z.1.2.1,z.1.2.2,z.2.1.1.1,z.2.1.1.2.1,z.2.1.1.2.2.1,z.2.1.1.2.2.2.1,z.2.1.1.2.2.2.2.1,z.2.1.1.2.2.2.2.2.1,z.2.1.1.2.2.2.2.2.2.1,z.2.1.1.2.2.2.2.2.2.2.1,z.2.1.1.2.2.2.2.2.2.2.2.1,z.2.1.1.2.2.2.2.2.2.2.2.2.1)) (fun r=>((r.1,r.2.1,r.2.2.1),((r.2.2.2.1,r.2.2.2.2.1,r.2.2.2.2.2.1,r.2.2.2.2.2.2.1,r.2.2.2.2.2.2.2.1,r.2.2.2.2.2.2.2.2.1,r.2.2.2.2.2.2.2.2.2.1,r.2.2.2.2.2.2.2.2.2.2.1,r.2.2.2.2.2.2.2.2.2.2.2.1,r.2.2.2.2.2.2.2.2.2.2.2.2,()),()),())) (fun _=>rfl))
def xZ37:LQ tb (((List xZ1)×(List xZ3)×Int×(List UInt8)×Int×Bool×Int×Int×(List Int)×Int)×((List xZ0)×(List Int)×(List Ent125)×(List xZ0))):=(LQ.m [(4,none,14),(5,none,11)] [0,4,5,7,8] (.c 0 (.ptr 0 0) (.c 4 (.own 0) (.c 5 (.own 1) (.c 7 (.own 2) (.c 8 (.own 3) .n))))) (.c (.c (.r 4) (.c (.r 2) (.c (.i .i64) (.c .s (.c (.i .u8) (.c .b (.c (.i .u32) (.c (.i .u32) (.c (.r 11) (.c (.i .u32) .n)))))))))) .n) (.l 14 (.l 11 (.m [.i64,.u32] 15 (.l 14 .n))))).re (fun a=>((a.2.1.1.1,a.2.1.1.2.1,a.2.1.1.2.2.1,a.2.1.1.2.2.2.1,a.2.1.1.2.2.2.2.1,a.2.1.1.2.2.2.2.2.1,a.2.1.1.2.2.2.2.2.2.1,a.2.1.1.2.2.2.2.2.2.2.1,a.2.1.1.2.2.2.2.2.2.2.2.1,a.2.1.1.2.2.2.2.2.2.2.2.2.1),(a.2.2.1,a.2.2.2.1,a.2.2.2.2.1,a.2.2.2.2.2.1))) (fun x=>(((),(),(),(),(),()),((x.1.1,x.1.2.1,x.1.2.2.1,x.1.2.2.2.1,x.1.2.2.2.2.1,x.1.2.2.2.2.2.1,x.1.2.2.2.2.2.2.1,x.1.2.2.2.2.2.2.2.1,x.1.2.2.2.2.2.2.2.2.1,x.1.2.2.2.2.2.2.2.2.2,()),()),x.2.1,x.2.2.1,x.2.2.2.1,x.2.2.2.2,())) (fun _=>rfl)
def xZ4a:LQ tb ((Int×(List xZ1)×(List xZ3)×Int×(List UInt8)×Int×Bool×Int×Int×(List Int)×Int×Int×Int×(List Int))×(Int×(List xZ0)×(List Ent125)×(List xZ0))):=(LQ.m [(4,none,14)] [0,4,5,7,8,9,60,61] (.c 0 (.ptr 0 0) (.c 4 (.own 0) (.c 5 (.own 1) (.c 7 (.own 2) (.c 8 (.own 3) (.c 9 (.ptr 1 0) (.c 60 (.i .i64) (.c 61 (.i .i64) .n)))))))) (.c (.c (.r 4) (.c (.r 2) (.c (.i .i64) (.c .s (.c (.i .u8) (.c .b (.c (.i .u32) (.c (.i .u32) (.c (.r 11) (.c (.i .u32) .n)))))))))) (.c (.c (.i .i64) (.c (.i .u32) .n)) .n)) (.l 14 (.l 11 (.m [.i64,.u32] 15 (.l 14 .n))))).re (fun a=>((a.1.2.2.2.2.2.2.1,a.2.1.1.1,a.2.1.1.2.1,a.2.1.1.2.2.1,a.2.1.1.2.2.2.1,a.2.1.1.2.2.2.2.1,a.2.1.1.2.2.2.2.2.1,a.2.1.1.2.2.2.2.2.2.1,a.2.1.1.2.2.2.2.2.2.2.1,a.2.1.1.2.2.2.2.2.2.2.2.1,a.2.1.1.2.2.2.2.2.2.2.2.2.1,a.2.1.2.1.1,a.2.1.2.1.2.1,a.2.2.2.1),(a.1.2.2.2.2.2.2.2.1,a.2.2.1,a.2.2.2.2.1,a.2.2.2.2.2.1))) (fun x=>(((),(),(),(),(),(),x.1.1,x.2.1,()),((x.1.2.1,x.1.2.2.1,x.1.2.2.2.1,x.1.2.2.2.2.1,x.1.2.2.2.2.2.1,x.1.2.2.2.2.2.2.1,x.1.2.2.2.2.2.2.2.1,x.1.2.2.2.2.2.2.2.2.1,x.1.2.2.2.2.2.2.2.2.2.1,x.1.2.2.2.2.2.2.2.2.2.2.1,()),(x.1.2.2.2.2.2.2.2.2.2.2.2.1,x.1.2.2.2.2.2.2.2.2.2.2.2.2.1,()),()),x.2.2.1,x.1.2.2.2.2.2.2.2.2.2.2.2.2.2,x.2.2.2.1,x.2.2.2.2,())) (fun _=>rfl)
def xZ7L (N:Nat) (next0:((List xZ1)×(List xZ3)×Int×(List UInt8)×Int×Bool×Int×Int×(List Int)×Int)×((List xZ0)×(List Int)×(List Ent125)×(List xZ0))→Option (List xZ0×List Int×Bool×List xZ1×List xZ3×Int×List UInt8×Int×Bool×Int×Int×List Int×Int)) (c:Int×(List xZ1)×(List xZ3)×Int×(List UInt8)×Int×Bool×Int×Int×(List Int)×Int×Int×Int×(List Int)) (next:(Int×(List xZ0)×(List Ent125)×(List xZ0))→Option (List xZ0×List Int×Bool×List xZ1×List xZ3×Int×List UInt8×Int×Bool×Int×Int×List Int×Int)) (v:Int×(List xZ0)×(List Ent125)×(List xZ0)):Option (List xZ0×List Int×Bool×List xZ1×List xZ3×Int×List UInt8×Int×Bool×Int×Int×List Int×Int):=xZ39 N c.1 c.2.2.2.2.2.2.2.2.2.1 c.2.2.2.2.2.2.2.2.2.2.1 c.2.2.2.2.2.2.2.2.2.2.2.1 c.2.2.2.2.2.2.2.2.2.2.2.2.1 c.2.2.2.2.2.2.2.2.2.2.2.2.2 (fun u0 u1 u2 u3=>next0 ((c.2.1,c.2.2.1,c.2.2.2.1,c.2.2.2.2.1,c.2.2.2.2.2.1,c.2.2.2.2.2.2.1,c.2.2.2.2.2.2.2.1,c.2.2.2.2.2.2.2.2.1,c.2.2.2.2.2.2.2.2.2.1,c.2.2.2.2.2.2.2.2.2.2.1),(u0,u1,u2,u3))) (fun u0 u1 u2 u3=>next (u0,u1,u2,u3)) v.1 v.2.1 v.2.2.1 v.2.2.2
abbrev xZb1 (N:Nat) (next0:((List xZ1)×(List xZ3)×Int×(List UInt8)×Int×Bool×Int×Int×(List Int)×Int)×((List xZ0)×(List Int)×(List Ent125)×(List xZ0))→Option (List xZ0×List Int×Bool×List xZ1×List xZ3×Int×List UInt8×Int×Bool×Int×Int×List Int×Int)):(Int×(List xZ1)×(List xZ3)×Int×(List UInt8)×Int×Bool×Int×Int×(List Int)×Int×Int×Int×(List Int))×(Int×(List xZ0)×(List Ent125)×(List xZ0))→Option (List xZ0×List Int×Bool×List xZ1×List xZ3×Int×List UInt8×Int×Bool×Int×Int×List Int×Int):=fun a=>loopV (xZ7L N next0 a.1) N a.2
def xZ7K (N:Nat) (c:(List xZ1)×(List xZ3)×Int×(List UInt8)×Int×Bool×Int×Int×(List Int)×Int) (next:((List xZ0)×(List Int)×(List Ent125)×(List xZ0))→Option (List xZ0×List Int×Bool×List xZ1×List xZ3×Int×List UInt8×Int×Bool×Int×Int×List Int×Int)) (v:(List xZ0)×(List Int)×(List Ent125)×(List xZ0)):Option (List xZ0×List Int×Bool×List xZ1×List xZ3×Int×List UInt8×Int×Bool×Int×Int×List Int×Int):=xZ38 N c.1 c.2.1 c.2.2.1 c.2.2.2.1 c.2.2.2.2.1 c.2.2.2.2.2.1 c.2.2.2.2.2.2.1 c.2.2.2.2.2.2.2.1 c.2.2.2.2.2.2.2.2.1 c.2.2.2.2.2.2.2.2.2 (fun u0 u1 u2 u3=>next (u0,u1,u2,u3)) v.1 v.2.1 v.2.2.1 v.2.2.2
abbrev xZb0 (N:Nat):((List xZ1)×(List xZ3)×Int×(List UInt8)×Int×Bool×Int×Int×(List Int)×Int)×((List xZ0)×(List Int)×(List Ent125)×(List xZ0))→Option (List xZ0×List Int×Bool×List xZ1×List xZ3×Int×List UInt8×Int×Bool×Int×Int×List Int×Int):=fun a=>loopV (xZ7K N a.1) N a.2
def xZbq:Con tb:=.p 8 [true] (.c (.el tb_ok 8) .n) (fun N a=>xZ8Q N a.1) (R:=xZ1H×Int) (.p (.tu (.c (.el tb_ok 18) (.o (.i .i64))))) (fun _=>rfl)
def xZ9j:LQ tb (((List xZ3)×Int×(List xZ1)×(List xZ3)×Int×(List UInt8)×Int×Bool×Int×Int×(List Int)×(List xZ1)×(List xZ3)×Int×(List UInt8)×Int×Bool×Int×Int×(List Int))×(Int×Int)):=(LQ.m [] [1,2,4,6,7,29,30,31] (.c 1 (.ptr 0 0) (.c 2 (.ptr 1 0) (.c 4 (.ptr 2 0) (.c 6 (.ptr 3 0) (.c 7 (.ptr 4 0) (.c 29 (.r 2) (.c 30 (.i .i64) (.c 31 (.i .i64) .n)))))))) (.c (.c (.r 4) (.c (.r 2) (.c (.i .i64) (.c .s (.c (.i .u8) .n))))) (.c (.c .e (.c .e (.c .e .n))) (.c (.c .b (.c (.i .u32) (.c (.i .u32) (.c (.r 11) .n)))) (.c (.c (.r 4) (.c (.r 2) (.c (.i .i64) (.c .s (.c (.i .u8) (.c .b (.c (.i .u32) (.c (.i .u32) (.c (.r 11) (.c (.i .u32) .n)))))))))) (.c (.c .e (.c .e (.c .e .n))) .n))))) .n).re (fun a=>((a.1.2.2.2.2.2.1,a.1.2.2.2.2.2.2.1,a.2.1.1.1,a.2.1.1.2.1,a.2.1.1.2.2.1,a.2.1.1.2.2.2.1,a.2.1.1.2.2.2.2.1,a.2.1.2.2.1.1,a.2.1.2.2.1.2.1,a.2.1.2.2.1.2.2.1,a.2.1.2.2.1.2.2.2.1,a.2.1.2.2.2.1.1,a.2.1.2.2.2.1.2.1,a.2.1.2.2.2.1.2.2.1,a.2.1.2.2.2.1.2.2.2.1,a.2.1.2.2.2.1.2.2.2.2.1,a.2.1.2.2.2.1.2.2.2.2.2.1,a.2.1.2.2.2.1.2.2.2.2.2.2.1,a.2.1.2.2.2.1.2.2.2.2.2.2.2.1,a.2.1.2.2.2.1.2.2.2.2.2.2.2.2.1),(a.1.2.2.2.2.2.2.2.1,a.2.1.2.2.2.1.2.2.2.2.2.2.2.2.2.1))) (fun x=>(((),(),(),(),(),x.1.1,x.1.2.1,x.2.1,()),((x.1.2.2.1,x.1.2.2.2.1,x.1.2.2.2.2.1,x.1.2.2.2.2.2.1,x.1.2.2.2.2.2.2.1,()),((),(),(),()),(x.1.2.2.2.2.2.2.2.1,x.1.2.2.2.2.2.2.2.2.1,x.1.2.2.2.2.2.2.2.2.2.1,x.1.2.2.2.2.2.2.2.2.2.2.1,()),(x.1.2.2.2.2.2.2.2.2.2.2.2.1,x.1.2.2.2.2.2.2.2.2.2.2.2.2.1,x.1.2.2.2.2.2.2.2.2.2.2.2.2.2.1,x.1.2.2.2.2.2.2.2.2.2.2.2.2.2.2.1,x.1.2.2.2.2.2.2.2.2.2.2.2.2.2.2.2.1,x.1.2.2.2.2.2.2.2.2.2.2.2.2.2.2.2.2.1,x.1.2.2.2.2.2.2.2.2.2.2.2.2.2.2.2.2.2.1,x.1.2.2.2.2.2.2.2.2.2.2.2.2.2.2.2.2.2.2.1,x.1.2.2.2.2.2.2.2.2.2.2.2.2.2.2.2.2.2.2.2,x.2.2,()),((),(),(),()),()),())) (fun _=>rfl)
def xZ9k:LQ tb (((List xZ3)×Int×Bool×Int×Int×(List Int))×(Int×(List xZ1)×(List xZ3)×Int×(List UInt8)×Int×Bool×Int×Int×(List Int)×Int×(List xZ0)×(List (List xZ0))×(List (List Int)))):=(LQ.m [(7,some 0,14),(7,some 1,16),(7,some 2,17)] [2,4,6,7,65,66,67] (.c 2 (.ptr 0 0) (.c 4 (.ptr 1 0) (.c 6 (.ptr 2 0) (.c 7 (.ptr 3 0) (.c 65 (.r 2) (.c 66 (.i .i64) (.c 67 (.i .i64) .n))))))) (.c (.c .e (.c .e (.c .e .n))) (.c (.c .b (.c (.i .u32) (.c (.i .u32) (.c (.r 11) .n)))) (.c (.c (.r 4) (.c (.r 2) (.c (.i .i64) (.c .s (.c (.i .u8) (.c .b (.c (.i .u32) (.c (.i .u32) (.c (.r 11) (.c (.i .u32) .n)))))))))) (.c (.c (.own 0) (.c (.own 1) (.c (.own 2) .n))) .n)))) (.l 14 (.l 16 (.l 17 .n)))).re (fun a=>((a.1.2.2.2.2.1,a.1.2.2.2.2.2.1,a.2.1.2.1.1,a.2.1.2.1.2.1,a.2.1.2.1.2.2.1,a.2.1.2.1.2.2.2.1),(a.1.2.2.2.2.2.2.1,a.2.1.2.2.1.1,a.2.1.2.2.1.2.1,a.2.1.2.2.1.2.2.1,a.2.1.2.2.1.2.2.2.1,a.2.1.2.2.1.2.2.2.2.1,a.2.1.2.2.1.2.2.2.2.2.1,a.2.1.2.2.1.2.2.2.2.2.2.1,a.2.1.2.2.1.2.2.2.2.2.2.2.1,a.2.1.2.2.1.2.2.2.2.2.2.2.2.1,a.2.1.2.2.1.2.2.2.2.2.2.2.2.2.1,a.2.2.1,a.2.2.2.1,a.2.2.2.2.1))) (fun x=>(((),(),(),(),x.1.1,x.1.2.1,x.2.1,()),(((),(),(),()),(x.1.2.2.1,x.1.2.2.2.1,x.1.2.2.2.2.1,x.1.2.2.2.2.2,()),(x.2.2.1,x.2.2.2.1,x.2.2.2.2.1,x.2.2.2.2.2.1,x.2.2.2.2.2.2.1,x.2.2.2.2.2.2.2.1,x.2.2.2.2.2.2.2.2.1,x.2.2.2.2.2.2.2.2.2.1,x.2.2.2.2.2.2.2.2.2.2.1,x.2.2.2.2.2.2.2.2.2.2.2.1,()),((),(),(),()),()),x.2.2.2.2.2.2.2.2.2.2.2.2.1,x.2.2.2.2.2.2.2.2.2.2.2.2.2.1,x.2.2.2.2.2.2.2.2.2.2.2.2.2.2,())) (fun _=>rfl)
def xZdz (N:Nat) (c:(List xZ3)×Int×Bool×Int×Int×(List Int)) (next:(Int×(List xZ1)×(List xZ3)×Int×(List UInt8)×Int×Bool×Int×Int×(List Int)×Int×(List xZ0)×(List (List xZ0))×(List (List Int)))→Option (xZ1H×Int)) (v:Int×(List xZ1)×(List xZ3)×Int×(List UInt8)×Int×Bool×Int×Int×(List Int)×Int×(List xZ0)×(List (List xZ0))×(List (List Int))):Option (xZ1H×Int):=xZ8A N c.1 c.2.1 c.2.2.2.1 (fun u0 u1 u2 u3 u4 u5 u6 u7 u8 u9 u10 u11 u12 u13=>next (u0,u1,u2,u3,u4,u5,u6,u7,u8,u9,u10,u11,u12,u13)) v.1 v.2.1 v.2.2.1 v.2.2.2.1 v.2.2.2.2.1 v.2.2.2.2.2.1 v.2.2.2.2.2.2.1 v.2.2.2.2.2.2.2.1 v.2.2.2.2.2.2.2.2.1 v.2.2.2.2.2.2.2.2.2.1 v.2.2.2.2.2.2.2.2.2.2.1 v.2.2.2.2.2.2.2.2.2.2.2.1 v.2.2.2.2.2.2.2.2.2.2.2.2.1 v.2.2.2.2.2.2.2.2.2.2.2.2.2
abbrev xZgQ (N:Nat):((List xZ3)×Int×Bool×Int×Int×(List Int))×(Int×(List xZ1)×(List xZ3)×Int×(List UInt8)×Int×Bool×Int×Int×(List Int)×Int×(List xZ0)×(List (List xZ0))×(List (List Int)))→Option (xZ1H×Int):=fun a=>loopV (xZdz N a.1) N a.2
def xZdy (N:Nat) (c:(List xZ3)×Int×(List xZ1)×(List xZ3)×Int×(List UInt8)×Int×Bool×Int×Int×(List Int)×(List xZ1)×(List xZ3)×Int×(List UInt8)×Int×Bool×Int×Int×(List Int)) (next:(Int×Int)→Option (xZ1H×Int)) (v:Int×Int):Option (xZ1H×Int):=xZ7i N c.1 c.2.1 c.2.2.2.1 c.2.2.2.2.2.2.2.1 c.2.2.2.2.2.2.2.2.1 c.2.2.2.2.2.2.2.2.2.2.2.1 c.2.2.2.2.2.2.2.2.2.2.2.2.1 c.2.2.2.2.2.2.2.2.2.2.2.2.2.1 c.2.2.2.2.2.2.2.2.2.2.2.2.2.2.1 c.2.2.2.2.2.2.2.2.2.2.2.2.2.2.2.1 c.2.2.2.2.2.2.2.2.2.2.2.2.2.2.2.2.1 c.2.2.2.2.2.2.2.2.2.2.2.2.2.2.2.2.2.1 c.2.2.2.2.2.2.2.2.2.2.2.2.2.2.2.2.2.2.1 c.2.2.2.2.2.2.2.2.2.2.2.2.2.2.2.2.2.2.2 (fun u0 u1=>next (u0,u1)) v.1 v.2
abbrev xZgP (N:Nat):((List xZ3)×Int×(List xZ1)×(List xZ3)×Int×(List UInt8)×Int×Bool×Int×Int×(List Int)×(List xZ1)×(List xZ3)×Int×(List UInt8)×Int×Bool×Int×Int×(List Int))×(Int×Int)→Option (xZ1H×Int):=fun a=>loopV (xZdy N a.1) N a.2
def xZ8m:Con tb:=.clone 132 1 (fun _ s=>shClone 80 s)
def xZ7D:Con tb:=.cloneD 132 1 (fun _ s=>shClone 80 s)
def xZ1B:Con tb:=.m 187 [false] (.c (.ptr 0 0) .n) (.c (.c (.r 5) (.c (.i .i64) (.c (.i .i64) .n))) .n) .n (fun N a=>xZ1D N a.2.1.1.1 a.2.1.1.2.1 a.2.1.1.2.2.1) (R:=xZ4×List xZ4×Int×Int) (.m (R:=xZ4×List xZ4×Int×Int) (.el tb_ok 5) (.c (.c (.r 5) (.c (.i .i64) (.c (.i .i64) .n))) .n) .n (fun z=>(z.1,z.2.1.1.1,z.2.1.1.2.1,z.2.1.1.2.2.1)) (fun r=>(r.1,((r.2.1,r.2.2.1,r.2.2.2,()),()),())) (fun _=>rfl))
def xZ4P:Con tb:=.m 177 [false] (.c (.ptr 0 0) .n) (.c (.c (.r 5) (.c (.i .i64) (.c (.i .i64) .n))) .n) .n (fun N a=>xZ1l N a.2.1.1.1 a.2.1.1.2.1 a.2.1.1.2.2.1) (R:=Int×List xZ4×Int×Int) (.m (R:=Int×List xZ4×Int×Int) (.i .i64) (.c (.c (.r 5) (.c (.i .i64) (.c (.i .i64) .n))) .n) .n (fun z=>(z.1,z.2.1.1.1,z.2.1.1.2.1,z.2.1.1.2.2.1)) (fun r=>(r.1,((r.2.1,r.2.2.1,r.2.2.2,()),()),())) (fun _=>rfl))
def xZ28:Con tb:=.m 190 [false,true] (.c (.ptr 0 0) (.c (.i .i64) .n)) (.c (.c (.r 5) (.c (.i .i64) (.c (.i .i64) .n))) .n) .n (fun N a=>xZ15 N a.1.2.1 a.2.1.1.1 a.2.1.1.2.1 a.2.1.1.2.2.1) (R:=Int×Int×List xZ4×Int×Int) (.m (R:=Int×Int×List xZ4×Int×Int) (.ifc 16777479 (.ag (.c (.i .i64) (.c (.i .i64) .n)))) (.c (.c (.r 5) (.c (.i .i64) (.c (.i .i64) .n))) .n) .n (fun z=>(z.1.1,z.1.2.1,z.2.1.1.1,z.2.1.1.2.1,z.2.1.1.2.2.1)) (fun r=>((r.1,r.2.1,()),((r.2.2.1,r.2.2.2.1,r.2.2.2.2,()),()),())) (fun _=>rfl))
def xZ4D:Con tb:=.m 189 [false,true] (.c (.ptr 0 0) (.c (.i .i64) .n)) (.c (.c (.r 5) (.c (.i .i64) (.c (.i .i64) .n))) .n) .n (fun N a=>xZ6y N a.1.2.1 a.2.1.1.1 a.2.1.1.2.1 a.2.1.1.2.2.1) (R:=(Int×Int×List xZ4×Int×Int)⊕(List xZ4×Int×Int)) (.or (.m (R:=Int×Int×List xZ4×Int×Int) (.ifc 16777479 (.ag (.c (.i .i64) (.c (.i .i64) .n)))) (.c (.c (.r 5) (.c (.i .i64) (.c (.i .i64) .n))) .n) .n (fun z=>(z.1.1,z.1.2.1,z.2.1.1.1,z.2.1.1.2.1,z.2.1.1.2.2.1)) (fun r=>((r.1,r.2.1,()),((r.2.2.1,r.2.2.2.1,r.2.2.2.2,()),()),())) (fun _=>rfl)) (.m (R:=List xZ4×Int×Int) (.tu .n) (.c (.c (.r 5) (.c (.i .i64) (.c (.i .i64) .n))) .n) .n (fun z=>(z.2.1.1.1,z.2.1.1.2.1,z.2.1.1.2.2.1)) (fun r=>((),((r.1,r.2.1,r.2.2,()),()),())) (fun _=>rfl)))
def xZ1L:Con tb:=.m 183 [false,true,true] (.c (.ptr 0 0) (.c (.i .u8) (.c .s .n))) (.c (.c (.r 5) (.c (.i .i64) (.c (.i .i64) .n))) .n) .n (fun N a=>xZC N a.1.2.1 a.1.2.2.1 a.2.1.1.1 a.2.1.1.2.1 a.2.1.1.2.2.1) (R:=Bool×List xZ4×Int×Int) (.m (R:=Bool×List xZ4×Int×Int) .b (.c (.c (.r 5) (.c (.i .i64) (.c (.i .i64) .n))) .n) .n (fun z=>(z.1,z.2.1.1.1,z.2.1.1.2.1,z.2.1.1.2.2.1)) (fun r=>(r.1,((r.2.1,r.2.2.1,r.2.2.2,()),()),())) (fun _=>rfl))
def xZ55:Con tb:=.m 194 [false,true] (.c .e (.c (.i .i64) .n)) .n .n (fun N a=>xZ3M N a.1.2.1) (R:=List xZ2) (.m (R:=List xZ2) (.own 0) .n (.l 1 .n) (fun z=>z.2.2.1) (fun r=>((),(),r,())) (fun _=>rfl))
def xZ5z:Con tb:=.p 188 [true] (.c (.r 6) .n) (fun N a=>xZ8h N a.1) (R:=(List UInt8)⊕(List xZ2)) (.or (.p (.ifc 16777225 .s)) (.p (.r 1))) (fun r=>by rcases r with _ | _<;>exact rfl)
def xZ3I:LQ tb (((List (List xZ2))×(List (List xZ2))×Int)×(Int×Int)):=(LQ.m [] [0,3,9,10,11] (.c 0 (.r 6) (.c 3 (.i .i64) (.c 9 (.r 6) (.c 10 (.i .i64) (.c 11 (.i .i64) .n))))) .n .n).re (fun a=>((a.1.1,a.1.2.2.1,a.1.2.2.2.1),(a.1.2.1,a.1.2.2.2.2.1))) (fun x=>((x.1.1,x.2.1,x.1.2.1,x.1.2.2,x.2.2,()),(),())) (fun _=>rfl)
def xZ3J:LQ tb (((List (List xZ2))×Int)×(Int×(List xZ2))):=(LQ.m [] [6,25,26,27] (.c 6 (.own 0) (.c 25 (.r 6) (.c 26 (.i .i64) (.c 27 (.i .i64) .n)))) .n (.l 1 .n)).re (fun a=>((a.1.2.1,a.1.2.2.1),(a.1.2.2.2.1,a.2.2.1))) (fun x=>(((),x.1.1,x.1.2,x.2.1,()),(),x.2.2,())) (fun _=>rfl)
def xZ7q (N:Nat) (c:(List (List xZ2))×Int) (next:(Int×(List xZ2))→Option ((List UInt8)⊕(List xZ2))) (v:Int×(List xZ2)):Option ((List UInt8)⊕(List xZ2)):=xZ7u N c.1 c.2 (fun u0 u1=>next (u0,u1)) v.1 v.2
abbrev xZa9 (N:Nat):((List (List xZ2))×Int)×(Int×(List xZ2))→Option ((List UInt8)⊕(List xZ2)):=fun a=>loopV (xZ7q N a.1) N a.2
def xZ7p (N:Nat) (c:(List (List xZ2))×(List (List xZ2))×Int) (next:(Int×Int)→Option ((List UInt8)⊕(List xZ2))) (v:Int×Int):Option ((List UInt8)⊕(List xZ2)):=xZ7t N c.1 c.2.1 c.2.2 (fun u0 u1=>next (u0,u1)) v.1 v.2
abbrev xZa8 (N:Nat):((List (List xZ2))×(List (List xZ2))×Int)×(Int×Int)→Option ((List UInt8)⊕(List xZ2)):=fun a=>loopV (xZ7p N a.1) N a.2
def xZ5x:Con tb:=.p 184 [true,true] (.c (.el tb_ok 1) (.c (.r 6) .n)) (fun N a=>xZ4S N a.1 a.2.1) (R:=List xZ2) (.p (.r 1)) (fun _=>rfl)
def xZ3D:Con tb:=.m 193 [false,true] (.c (.ptr 0 0) (.c (.i .u8) .n)) (.c (.c (.r 5) (.c (.i .i64) (.c (.i .i64) .n))) .n) .n (fun N a=>xZ2S N a.1.2.1 a.2.1.1.1 a.2.1.1.2.1 a.2.1.1.2.2.1) (R:=(Int×Int×List xZ4×Int×Int)⊕(xZ4×List xZ4×Int×Int)) (.or (.m (R:=Int×Int×List xZ4×Int×Int) (.ifc 16777479 (.ag (.c (.i .i64) (.c (.i .i64) .n)))) (.c (.c (.r 5) (.c (.i .i64) (.c (.i .i64) .n))) .n) .n (fun z=>(z.1.1,z.1.2.1,z.2.1.1.1,z.2.1.1.2.1,z.2.1.1.2.2.1)) (fun r=>((r.1,r.2.1,()),((r.2.2.1,r.2.2.2.1,r.2.2.2.2,()),()),())) (fun _=>rfl)) (.m (R:=xZ4×List xZ4×Int×Int) (.el tb_ok 5) (.c (.c (.r 5) (.c (.i .i64) (.c (.i .i64) .n))) .n) .n (fun z=>(z.1,z.2.1.1.1,z.2.1.1.2.1,z.2.1.1.2.2.1)) (fun r=>(r.1,((r.2.1,r.2.2.1,r.2.2.2,()),()),())) (fun _=>rfl)))
def xZ53:Con tb:=.m 195 [false] (.c (.ptr 0 0) .n) (.c (.c (.r 5) (.c (.i .i64) (.c (.i .i64) .n))) .n) .n (fun N a=>xZ3L N a.2.1.1.1 a.2.1.1.2.1 a.2.1.1.2.2.1) (R:=(Int×Int×List xZ4×Int×Int)⊕(List xZ2×List xZ4×Int×Int)) (.or (.m (R:=Int×Int×List xZ4×Int×Int) (.ifc 16777479 (.ag (.c (.i .i64) (.c (.i .i64) .n)))) (.c (.c (.r 5) (.c (.i .i64) (.c (.i .i64) .n))) .n) .n (fun z=>(z.1.1,z.1.2.1,z.2.1.1.1,z.2.1.1.2.1,z.2.1.1.2.2.1)) (fun r=>((r.1,r.2.1,()),((r.2.2.1,r.2.2.2.1,r.2.2.2.2,()),()),())) (fun _=>rfl)) (.m (R:=List xZ2×List xZ4×Int×Int) (.r 1) (.c (.c (.r 5) (.c (.i .i64) (.c (.i .i64) .n))) .n) .n (fun z=>(z.1,z.2.1.1.1,z.2.1.1.2.1,z.2.1.1.2.2.1)) (fun r=>(r.1,((r.2.1,r.2.2.1,r.2.2.2,()),()),())) (fun _=>rfl)))
def xZ5l:Con tb:=.m 191 [false] (.c (.ptr 0 0) .n) (.c (.c (.r 5) (.c (.i .i64) (.c (.i .i64) .n))) .n) .n (fun N a=>xZ5r N a.2.1.1.1 a.2.1.1.2.1 a.2.1.1.2.2.1) (R:=(Int×Int×List xZ4×Int×Int)⊕(List xZ2×List xZ4×Int×Int)) (.or (.m (R:=Int×Int×List xZ4×Int×Int) (.ifc 16777479 (.ag (.c (.i .i64) (.c (.i .i64) .n)))) (.c (.c (.r 5) (.c (.i .i64) (.c (.i .i64) .n))) .n) .n (fun z=>(z.1.1,z.1.2.1,z.2.1.1.1,z.2.1.1.2.1,z.2.1.1.2.2.1)) (fun r=>((r.1,r.2.1,()),((r.2.2.1,r.2.2.2.1,r.2.2.2.2,()),()),())) (fun _=>rfl)) (.m (R:=List xZ2×List xZ4×Int×Int) (.r 1) (.c (.c (.r 5) (.c (.i .i64) (.c (.i .i64) .n))) .n) .n (fun z=>(z.1,z.2.1.1.1,z.2.1.1.2.1,z.2.1.1.2.2.1)) (fun r=>(r.1,((r.2.1,r.2.2.1,r.2.2.2,()),()),())) (fun _=>rfl)))
def xZ3y:LQ tb ((Unit)×((List xZ2)×(List xZ4)×Int×Int)):=(LQ.m [] [0,3] (.c 0 (.ptr 0 0) (.c 3 (.r 1) .n)) (.c (.c (.r 5) (.c (.i .i64) (.c (.i .i64) .n))) .n) .n).re (fun a=>((),(a.1.2.1,a.2.1.1.1,a.2.1.1.2.1,a.2.1.1.2.2.1))) (fun x=>(((),x.2.1,()),((x.2.2.1,x.2.2.2.1,x.2.2.2.2,()),()),())) (fun _=>rfl)
def xZ6S (N:Nat) (c:Unit) (next:((List xZ2)×(List xZ4)×Int×Int)→Option ((Int×Int×List xZ4×Int×Int)⊕(List xZ2×List xZ4×Int×Int))) (v:(List xZ2)×(List xZ4)×Int×Int):Option ((Int×Int×List xZ4×Int×Int)⊕(List xZ2×List xZ4×Int×Int)):=xZ72 N (fun u0 u1 u2 u3=>next (u0,u1,u2,u3)) v.1 v.2.1 v.2.2.1 v.2.2.2
abbrev xZ9D (N:Nat):(Unit)×((List xZ2)×(List xZ4)×Int×Int)→Option ((Int×Int×List xZ4×Int×Int)⊕(List xZ2×List xZ4×Int×Int)):=fun a=>loopV (xZ6S N a.1) N a.2
def xZ99:Con tb:=.s 180 [true] (.c (.i .u8) .n) (fun N a=>xZbR N a.1) (R:=List UInt8) (.p .s) (fun _=>⟨rfl,(by kernel_rfl)⟩)
def xZcZ:Con tb:=.s 192 [true] (.c .s .n) (fun N a=>xZfC N a.1) (R:=Int) (.p (.i .u8)) (fun _=>⟨rfl,(by kernel_rfl)⟩)
def xZ9m:LQ tb (((List UInt8))×(Int)):=(LQ.m [] [0,3] (.c 0 .s (.c 3 (.i .u8) .n)) .n .n).re (fun a=>(a.1.1,a.1.2.1)) (fun x=>((x.1,x.2,()),(),())) (fun _=>rfl)
def xZdB (N:Nat) (c:(List UInt8)) (next:Int→Option Int) (v:Int):Option Int:=xZdT N c (fun u0=>next u0) v
abbrev xZgS (N:Nat):((List UInt8))×(Int)→Option Int:=fun a=>loopV (xZdB N a.1) N a.2
def xZ4f:Con tb:=.m 179 [false,true] (.c (.ptr 0 0) (.c (.i .i64) .n)) (.c (.c (.r 5) (.c (.i .i64) (.c (.i .i64) .n))) .n) .n (fun N a=>xZ2B N a.1.2.1 a.2.1.1.1 a.2.1.1.2.1 a.2.1.1.2.2.1) (R:=(Int×Int×List xZ4×Int×Int)⊕(List xZ2×List xZ4×Int×Int)) (.or (.m (R:=Int×Int×List xZ4×Int×Int) (.ifc 16777479 (.ag (.c (.i .i64) (.c (.i .i64) .n)))) (.c (.c (.r 5) (.c (.i .i64) (.c (.i .i64) .n))) .n) .n (fun z=>(z.1.1,z.1.2.1,z.2.1.1.1,z.2.1.1.2.1,z.2.1.1.2.2.1)) (fun r=>((r.1,r.2.1,()),((r.2.2.1,r.2.2.2.1,r.2.2.2.2,()),()),())) (fun _=>rfl)) (.m (R:=List xZ2×List xZ4×Int×Int) (.r 1) (.c (.c (.r 5) (.c (.i .i64) (.c (.i .i64) .n))) .n) .n (fun z=>(z.1,z.2.1.1.1,z.2.1.1.2.1,z.2.1.1.2.2.1)) (fun r=>(r.1,((r.2.1,r.2.2.1,r.2.2.2,()),()),())) (fun _=>rfl)))
def xZ3H:LQ tb ((Int)×((List xZ2)×(List xZ4)×Int×Int)):=(LQ.m [] [0,1,5] (.c 0 (.ptr 0 0) (.c 1 (.i .i64) (.c 5 (.r 1) .n))) (.c (.c (.r 5) (.c (.i .i64) (.c (.i .i64) .n))) .n) .n).re (fun a=>(a.1.2.1,(a.1.2.2.1,a.2.1.1.1,a.2.1.1.2.1,a.2.1.1.2.2.1))) (fun x=>(((),x.1,x.2.1,()),((x.2.2.1,x.2.2.2.1,x.2.2.2.2,()),()),())) (fun _=>rfl)
def xZ7o (N:Nat) (c:Int) (next:((List xZ2)×(List xZ4)×Int×Int)→Option ((Int×Int×List xZ4×Int×Int)⊕(List xZ2×List xZ4×Int×Int))) (v:(List xZ2)×(List xZ4)×Int×Int):Option ((Int×Int×List xZ4×Int×Int)⊕(List xZ2×List xZ4×Int×Int)):=xZ7s N (xZ34 N) c (fun u0 u1 u2 u3=>next (u0,u1,u2,u3)) v.1 v.2.1 v.2.2.1 v.2.2.2
abbrev xZa7 (N:Nat):(Int)×((List xZ2)×(List xZ4)×Int×Int)→Option ((Int×Int×List xZ4×Int×Int)⊕(List xZ2×List xZ4×Int×Int)):=fun a=>loopV (xZ7o N a.1) N a.2
def xZ5k:Con tb:=.m 182 [false,true] (.c (.ptr 0 0) (.c (.i .i64) .n)) (.c (.c (.r 5) (.c (.i .i64) (.c (.i .i64) .n))) .n) .n (fun N a=>xZb5 N a.1.2.1 a.2.1.1.1 a.2.1.1.2.1 a.2.1.1.2.2.1) (R:=(Int×Int×List xZ4×Int×Int)⊕(List xZ2×List xZ4×Int×Int)) (.or (.m (R:=Int×Int×List xZ4×Int×Int) (.ifc 16777479 (.ag (.c (.i .i64) (.c (.i .i64) .n)))) (.c (.c (.r 5) (.c (.i .i64) (.c (.i .i64) .n))) .n) .n (fun z=>(z.1.1,z.1.2.1,z.2.1.1.1,z.2.1.1.2.1,z.2.1.1.2.2.1)) (fun r=>((r.1,r.2.1,()),((r.2.2.1,r.2.2.2.1,r.2.2.2.2,()),()),())) (fun _=>rfl)) (.m (R:=List xZ2×List xZ4×Int×Int) (.r 1) (.c (.c (.r 5) (.c (.i .i64) (.c (.i .i64) .n))) .n) .n (fun z=>(z.1,z.2.1.1.1,z.2.1.1.2.1,z.2.1.1.2.2.1)) (fun r=>(r.1,((r.2.1,r.2.2.1,r.2.2.2,()),()),())) (fun _=>rfl)))
def xZ3x:LQ tb ((Int)×((List xZ2)×(List xZ4)×Int×Int)):=(LQ.m [] [0,1,5] (.c 0 (.ptr 0 0) (.c 1 (.i .i64) (.c 5 (.r 1) .n))) (.c (.c (.r 5) (.c (.i .i64) (.c (.i .i64) .n))) .n) .n).re (fun a=>(a.1.2.1,(a.1.2.2.1,a.2.1.1.1,a.2.1.1.2.1,a.2.1.1.2.2.1))) (fun x=>(((),x.1,x.2.1,()),((x.2.2.1,x.2.2.2.1,x.2.2.2.2,()),()),())) (fun _=>rfl)
def xZ6R (N:Nat) (c:Int) (next:((List xZ2)×(List xZ4)×Int×Int)→Option ((Int×Int×List xZ4×Int×Int)⊕(List xZ2×List xZ4×Int×Int))) (v:(List xZ2)×(List xZ4)×Int×Int):Option ((Int×Int×List xZ4×Int×Int)⊕(List xZ2×List xZ4×Int×Int)):=xZ71 N (xZ34 N) c (fun u0 u1 u2 u3=>next (u0,u1,u2,u3)) v.1 v.2.1 v.2.2.1 v.2.2.2
abbrev xZ9C (N:Nat):(Int)×((List xZ2)×(List xZ4)×Int×Int)→Option ((Int×Int×List xZ4×Int×Int)⊕(List xZ2×List xZ4×Int×Int)):=fun a=>loopV (xZ6R N a.1) N a.2
def xZ3C:Con tb:=.m 186 [false,true] (.c (.ptr 0 0) (.c (.i .i64) .n)) (.c (.c (.r 5) (.c (.i .i64) (.c (.i .i64) .n))) .n) .n (fun N a=>xZaa N a.1.2.1 a.2.1.1.1 a.2.1.1.2.1 a.2.1.1.2.2.1) (R:=(Int×Int×List xZ4×Int×Int)⊕(List xZ2×List xZ4×Int×Int)) (.or (.m (R:=Int×Int×List xZ4×Int×Int) (.ifc 16777479 (.ag (.c (.i .i64) (.c (.i .i64) .n)))) (.c (.c (.r 5) (.c (.i .i64) (.c (.i .i64) .n))) .n) .n (fun z=>(z.1.1,z.1.2.1,z.2.1.1.1,z.2.1.1.2.1,z.2.1.1.2.2.1)) (fun r=>((r.1,r.2.1,()),((r.2.2.1,r.2.2.2.1,r.2.2.2.2,()),()),())) (fun _=>rfl)) (.m (R:=List xZ2×List xZ4×Int×Int) (.r 1) (.c (.c (.r 5) (.c (.i .i64) (.c (.i .i64) .n))) .n) .n (fun z=>(z.1,z.2.1.1.1,z.2.1.1.2.1,z.2.1.1.2.2.1)) (fun r=>(r.1,((r.2.1,r.2.2.1,r.2.2.2,()),()),())) (fun _=>rfl)))
def xZ8G:Con tb:=.s 171 [true,true] (.c (.el tb_ok 1) (.c (.i .i64) .n)) (fun N a=>xZbo N a.1 a.2.1) (R:=Bool) (.p .b) (fun _=>⟨rfl,(by kernel_rfl)⟩)
def xZ8T:Con tb:=.s 128 [true] (.c (.i .u8) .n) (fun N a=>xZb7 N a.1) (R:=Bool) (.p .b) (fun _=>⟨rfl,(by kernel_rfl)⟩)
def xZ95:Con tb:=.s 129 [true] (.c .s .n) (fun N a=>xZc0 N a.1) (R:=Bool) (.p .b) (fun _=>⟨rfl,(by kernel_rfl)⟩)
def xZca:Con tb:=.s 130 [true] (.c (.i .u8) .n) (fun N a=>xZeA N a.1) (R:=Bool) (.p .b) (fun _=>⟨rfl,(by kernel_rfl)⟩)
def xZc9:Con tb:=.s 84 [true] (.c .s .n) (fun N a=>xZau N a.1) (R:=Bool) (.p .b) (fun _=>⟨rfl,(by kernel_rfl)⟩)
def xZ8X:LQ tb (((List UInt8))×(Int)):=(LQ.m [] [0,3] (.c 0 .s (.c 3 (.i .i64) .n)) .n .n).re (fun a=>(a.1.1,a.1.2.1)) (fun x=>((x.1,x.2,()),(),())) (fun _=>rfl)
def xZcU (N:Nat) (c:(List UInt8)) (next:Int→Option Bool) (v:Int):Option Bool:=xZcX N c (fun u0=>next u0) v
abbrev xZfX (N:Nat):((List UInt8))×(Int)→Option Bool:=fun a=>loopV (xZcU N a.1) N a.2
def xZd4:Con tb:=.p 185 [true] (.c (.el tb_ok 7) .n) (fun N a=>xZfE N a.1) (R:=Int⊕Int⊕Int⊕(List UInt8)⊕Unit) (.or (.p (.ifc 271 (.i .i64))) (.or (.p (.ifc 272 (.i .i64))) (.or (.p (.ifc 273 (.i .u64))) (.or (.p (.ifc 274 .s)) (.p .ni))))) (fun r=>by rcases r with _ | _ | _ | _ | _<;>exact rfl)
def xZ85:Con tb:=.s 213 [true] (.c (.i .i64) .n) (fun N a=>xZ9K N a.1) (R:=xZe) (.p (.el tb_ok 7)) (fun _=>⟨rfl,(by kernel_rfl)⟩)
def xZ8H:Con tb:=.s 214 [true] (.c (.i .i64) .n) (fun N a=>xZ8S N a.1) (R:=xZe) (.p (.el tb_ok 7)) (fun _=>⟨rfl,(by kernel_rfl)⟩)
def xZgg:Con tb:=.s 164 [true] (.c (.i .u64) .n) (fun N a=>xZju N a.1) (R:=Nat) (.p (.f .f64)) (fun _=>⟨rfl,(by kernel_rfl)⟩)
def xZd2:Con tb:=.s 150 [true] (.c (.i .u64) .n) (fun N a=>xZfD N a.1) (R:=Int) (.p (.i .u64)) (fun _=>⟨rfl,(by kernel_rfl)⟩)
def xZ84:Con tb:=.s 215 [true] (.c (.i .u64) .n) (fun N a=>xZ9J N a.1) (R:=xZe) (.p (.el tb_ok 7)) (fun _=>⟨rfl,(by kernel_rfl)⟩)
def xZ8n:Con tb:=.s 216 [true] (.c .s .n) (fun N a=>xZav N a.1) (R:=xZe) (.p (.el tb_ok 7)) (fun _=>⟨rfl,(by kernel_rfl)⟩)
def xZcb:Con tb:=.s 181 [true] (.c (.el tb_ok 7) .n) (fun N a=>xZeB N a.1) (R:=Int) (.p (.i .i64)) (fun _=>⟨rfl,(by kernel_rfl)⟩)
def xZ94:Con tb:=.s 173 [true] (.c (.el tb_ok 1) .n) (fun N a=>xZbZ N a.1) (R:=Bool) (.p .b) (fun _=>⟨rfl,(by kernel_rfl)⟩)
def xZbt:Con tb:=.s 172 [true,false,true] (.c (.el tb_ok 1) (.c (.fn 173 .n .n) (.c (.i .i64) .n))) (fun N a=>xZdV N a.1 a.2.2.1) (R:=Int) (.p (.i .i64)) (fun _=>⟨rfl,(by kernel_rfl)⟩)
def xZ9y:Con tb:=.s 174 [true] (.c (.el tb_ok 1) .n) (fun N a=>xZct N a.1) (R:=Bool) (.p .b) (fun _=>⟨rfl,(by kernel_rfl)⟩)
def xZbs:Con tb:=.s 172 [true,false,true] (.c (.el tb_ok 1) (.c (.fn 174 .n .n) (.c (.i .i64) .n))) (fun N a=>xZdU N a.1 a.2.2.1) (R:=Int) (.p (.i .i64)) (fun _=>⟨rfl,(by kernel_rfl)⟩)
def xZe2:Con tb:=.s 175 [true] (.c (.i .u8) .n) (fun N a=>xZgb N a.1) (R:=Int) (.p (.i .i64)) (fun _=>⟨rfl,(by kernel_rfl)⟩)
def xZay:Con tb:=.s 176 [true,true] (.c (.el tb_ok 1) (.c (.i .i64) .n)) (fun N a=>xZcW N a.1 a.2.1) (R:=Int) (.p (.i .i64)) (fun _=>⟨rfl,(by kernel_rfl)⟩)
def xZ3s:Con tb:=.m 167 [false,true,true] (.c (.ptr 0 0) (.c (.i .i64) (.c (.i .i64) .n))) (.c (.c (.r 1) (.c (.i .i64) .n)) .n) .n (fun N a=>xZ8C N a.1.2.1 a.1.2.2.1 a.2.1.1.1 a.2.1.1.2.1) (R:=Int×List xZ2×Int) (.m (R:=Int×List xZ2×Int) (.i .i64) (.c (.c (.r 1) (.c (.i .i64) .n)) .n) .n (fun z=>(z.1,z.2.1.1.1,z.2.1.1.2.1)) (fun r=>(r.1,((r.2.1,r.2.2,()),()),())) (fun _=>rfl))
def xZ4b:LQ tb ((Int×Int×Int×Int×(List UInt8)×(List UInt8)×Int×Int×Int×(List UInt8))×(Int×(List xZ2)×Int)):=(LQ.m [] [0,2,7,57,58] (.c 0 (.ptr 0 0) (.c 2 (.i .i64) (.c 7 (.ptr 1 0) (.c 57 (.i .i64) (.c 58 (.i .i64) .n))))) (.c (.c (.r 1) (.c (.i .i64) .n)) (.c (.c (.i .u8) (.c (.i .u8) (.c .s (.c .s (.c (.i .u8) (.c (.i .i64) (.c (.i .u64) (.c .s .n)))))))) .n)) .n).re (fun a=>((a.1.2.1,a.1.2.2.2.1,a.2.1.2.1.1,a.2.1.2.1.2.1,a.2.1.2.1.2.2.1,a.2.1.2.1.2.2.2.1,a.2.1.2.1.2.2.2.2.1,a.2.1.2.1.2.2.2.2.2.1,a.2.1.2.1.2.2.2.2.2.2.1,a.2.1.2.1.2.2.2.2.2.2.2.1),(a.1.2.2.2.2.1,a.2.1.1.1,a.2.1.1.2.1))) (fun x=>(((),x.1.1,(),x.1.2.1,x.2.1,()),((x.2.2.1,x.2.2.2,()),(x.1.2.2.1,x.1.2.2.2.1,x.1.2.2.2.2.1,x.1.2.2.2.2.2.1,x.1.2.2.2.2.2.2.1,x.1.2.2.2.2.2.2.2.1,x.1.2.2.2.2.2.2.2.2.1,x.1.2.2.2.2.2.2.2.2.2,()),()),())) (fun _=>rfl)
def xZ7M (N:Nat) (c:Int×Int×Int×Int×(List UInt8)×(List UInt8)×Int×Int×Int×(List UInt8)) (next:(Int×(List xZ2)×Int)→Option (Int×List xZ2×Int)) (v:Int×(List xZ2)×Int):Option (Int×List xZ2×Int):=xZ7Z N (xZ8e N) c.1 c.2.1 c.2.2.1 c.2.2.2.1 c.2.2.2.2.1 c.2.2.2.2.2.1 c.2.2.2.2.2.2.1 c.2.2.2.2.2.2.2.1 c.2.2.2.2.2.2.2.2.1 c.2.2.2.2.2.2.2.2.2 (fun u0 u1 u2=>next (u0,u1,u2)) v.1 v.2.1 v.2.2
abbrev xZb2 (N:Nat):(Int×Int×Int×Int×(List UInt8)×(List UInt8)×Int×Int×Int×(List UInt8))×(Int×(List xZ2)×Int)→Option (Int×List xZ2×Int):=fun a=>loopV (xZ7M N a.1) N a.2
def xZf6:Con tb:=.s 158 [true] (.c (.r 1) .n) (fun N a=>xZ9G N a.1) (R:=Int) (.p (.i .i64)) (fun _=>⟨rfl,(by kernel_rfl)⟩)
def xZc8:Con tb:=.p 169 [true,true,true] (.c (.r 5) (.c (.i .i64) (.c (.i .i64) .n))) (fun N a=>xZ9H N a.1 a.2.1 a.2.2.1) (R:=(List xZ2×Int)⊕(List xZ2×Int×Int×Int)) (.or (.m (R:=List xZ2×Int) (.tu (.c (.r 1) (.c (.i .i64) (.c .ni .n)))) .n .n (fun z=>(z.1.1,z.1.2.1)) (fun r=>((r.1,r.2,(),()),(),())) (fun _=>rfl)) (.m (R:=List xZ2×Int×Int×Int) (.tu (.c (.r 1) (.c (.i .i64) (.o (.ifc 175 (.dp (.c (.i .i64) (.c (.i .i64) .n)))))))) .n .n (fun z=>(z.1.1,z.1.2.1,z.1.2.2.1,z.1.2.2.2.1)) (fun r=>((r.1,r.2.1,r.2.2.1,r.2.2.2,()),(),())) (fun _=>rfl))) (fun r=>by rcases r with _ | _<;>exact rfl)
def xZeo:Con tb:=.s 7 [] .n (fun N a=>xZ5j N) (R:=Bool) (.p .b) (fun _=>⟨rfl,(by kernel_rfl)⟩)
def xZe0:Con tb:=.p 25 [true] (.c (.r 1) .n) (fun N a=>xZcB N a.1) (R:=List xZ2) (.p (.r 1)) (fun _=>rfl)
def xZaj:LQ tb (((List xZ2))×(Int×(List xZ2))):=(LQ.m [(3,none,1)] [0,3,4] (.c 0 (.r 1) (.c 3 (.own 0) (.c 4 (.i .i64) .n))) .n (.l 1 .n)).re (fun a=>(a.1.1,(a.1.2.2.1,a.2.2.1))) (fun x=>((x.1,(),x.2.1,()),(),x.2.2,())) (fun _=>rfl)
def xZet (N:Nat) (c:(List xZ2)) (next:(Int×(List xZ2))→Option (List xZ2)) (v:Int×(List xZ2)):Option (List xZ2):=xZar N c (fun u0 u1=>next (u0,u1)) v.1 v.2
abbrev xZhG (N:Nat):((List xZ2))×(Int×(List xZ2))→Option (List xZ2):=fun a=>loopV (xZet N a.1) N a.2
def xZe1:Con tb:=.p 9 [true] (.c (.el tb_ok 8) .n) (fun N a=>xZcC N a.1) (R:=xZv) (.p (.el tb_ok 8)) (fun _=>rfl)
def xZak:LQ tb (((List xZ1)×(List xZ3)×Int×(List UInt8)×Int×Int×(List UInt8)×Int)×(Int×(List xZ1))):=(LQ.m [(3,some 0,4)] [1,2,3,4] (.c 1 (.ptr 0 0) (.c 2 (.ptr 1 0) (.c 3 (.ptr 2 0) (.c 4 (.i .i64) .n)))) (.c (.c (.r 4) (.c (.r 2) (.c (.i .i64) (.c .s (.c (.i .u8) .n))))) (.c (.c .e (.c .e (.c (.li .i64 0) (.c (.ls []) (.c (.li .u8 0) .n))))) (.c (.c (.own 0) (.c .e (.c (.i .i64) (.c .s (.c (.i .u8) .n))))) .n))) (.l 4 .n)).re (fun a=>((a.2.1.1.1,a.2.1.1.2.1,a.2.1.1.2.2.1,a.2.1.1.2.2.2.1,a.2.1.1.2.2.2.2.1,a.2.1.2.2.1.2.2.1,a.2.1.2.2.1.2.2.2.1,a.2.1.2.2.1.2.2.2.2.1),(a.1.2.2.2.1,a.2.2.1))) (fun x=>(((),(),(),x.2.1,()),((x.1.1,x.1.2.1,x.1.2.2.1,x.1.2.2.2.1,x.1.2.2.2.2.1,()),((),(),(),(),(),()),((),(),x.1.2.2.2.2.2.1,x.1.2.2.2.2.2.2.1,x.1.2.2.2.2.2.2.2,()),()),x.2.2,())) (fun _=>rfl)
def xZal:LQ tb (((List xZ1)×(List xZ3)×Int×(List UInt8)×Int×Int×(List UInt8)×Int×(List xZ1))×(Int×(List xZ3))):=(LQ.m [(3,some 1,2)] [1,2,3,5] (.c 1 (.ptr 0 0) (.c 2 (.ptr 1 0) (.c 3 (.ptr 2 0) (.c 5 (.i .i64) .n)))) (.c (.c (.r 4) (.c (.r 2) (.c (.i .i64) (.c .s (.c (.i .u8) .n))))) (.c (.c .e (.c .e (.c (.li .i64 0) (.c (.ls []) (.c (.li .u8 0) .n))))) (.c (.c (.own 0) (.c (.own 1) (.c (.i .i64) (.c .s (.c (.i .u8) .n))))) .n))) (.l 4 (.l 2 .n))).re (fun a=>((a.2.1.1.1,a.2.1.1.2.1,a.2.1.1.2.2.1,a.2.1.1.2.2.2.1,a.2.1.1.2.2.2.2.1,a.2.1.2.2.1.2.2.1,a.2.1.2.2.1.2.2.2.1,a.2.1.2.2.1.2.2.2.2.1,a.2.2.1),(a.1.2.2.2.1,a.2.2.2.1))) (fun x=>(((),(),(),x.2.1,()),((x.1.1,x.1.2.1,x.1.2.2.1,x.1.2.2.2.1,x.1.2.2.2.2.1,()),((),(),(),(),(),()),((),(),x.1.2.2.2.2.2.1,x.1.2.2.2.2.2.2.1,x.1.2.2.2.2.2.2.2.1,()),()),x.1.2.2.2.2.2.2.2.2,x.2.2,())) (fun _=>rfl)
def xZev (N:Nat) (c:(List xZ1)×(List xZ3)×Int×(List UInt8)×Int×Int×(List UInt8)×Int×(List xZ1)) (next:(Int×(List xZ3))→Option xZv) (v:Int×(List xZ3)):Option xZv:=xZat N c.2.1 c.2.2.2.2.2.1 c.2.2.2.2.2.2.1 c.2.2.2.2.2.2.2.1 c.2.2.2.2.2.2.2.2 (fun u0 u1=>next (u0,u1)) v.1 v.2
abbrev xZhI (N:Nat):((List xZ1)×(List xZ3)×Int×(List UInt8)×Int×Int×(List UInt8)×Int×(List xZ1))×(Int×(List xZ3))→Option xZv:=fun a=>loopV (xZev N a.1) N a.2
def xZeu (N:Nat) (c:(List xZ1)×(List xZ3)×Int×(List UInt8)×Int×Int×(List UInt8)×Int) (next:(Int×(List xZ1))→Option xZv) (v:Int×(List xZ1)):Option xZv:=xZas N c.1 c.2.1 c.2.2.2.2.2.1 c.2.2.2.2.2.2.1 c.2.2.2.2.2.2.2 (fun u0 u1=>next (u0,u1)) v.1 v.2
abbrev xZhH (N:Nat):((List xZ1)×(List xZ3)×Int×(List UInt8)×Int×Int×(List UInt8)×Int)×(Int×(List xZ1))→Option xZv:=fun a=>loopV (xZeu N a.1) N a.2
def xZc5:Con tb:=.s 15 [true,true] (.c (.el tb_ok 13) (.c (.r 0) .n)) (fun N a=>xZao N a.1 a.2.1) (R:=Bool) (.p .b) (fun _=>⟨rfl,(by kernel_rfl)⟩)
def xZ8U:LQ tb (((List Int)×(List Int)×Int×Bool×Int×Int×(List Int))×(Int×Int)):=(LQ.m [] [1,2,5,15,16,17] (.c 1 (.r 0) (.c 2 (.ptr 0 0) (.c 5 (.i .u32) (.c 15 (.r 0) (.c 16 (.i .i64) (.c 17 (.i .i64) .n)))))) (.c (.c .b (.c (.i .u32) (.c (.i .u32) (.c (.r 11) .n)))) .n) .n).re (fun a=>((a.1.1,a.1.2.2.2.1,a.1.2.2.2.2.1,a.2.1.1.1,a.2.1.1.2.1,a.2.1.1.2.2.1,a.2.1.1.2.2.2.1),(a.1.2.2.1,a.1.2.2.2.2.2.1))) (fun x=>((x.1.1,(),x.2.1,x.1.2.1,x.1.2.2.1,x.2.2,()),((x.1.2.2.2.1,x.1.2.2.2.2.1,x.1.2.2.2.2.2.1,x.1.2.2.2.2.2.2,()),()),())) (fun _=>rfl)
def xZcR (N:Nat) (c:(List Int)×(List Int)×Int×Bool×Int×Int×(List Int)) (next:(Int×Int)→Option Bool) (v:Int×Int):Option Bool:=xZb4 N c.1 c.2.1 c.2.2.1 c.2.2.2.2.2.1 c.2.2.2.2.2.2 (fun u0 u1=>next (u0,u1)) v.1 v.2
abbrev xZfU (N:Nat):((List Int)×(List Int)×Int×Bool×Int×Int×(List Int))×(Int×Int)→Option Bool:=fun a=>loopV (xZcR N a.1) N a.2
def xZ5S:Con tb:=.s 55 [true,true] (.c (.r 14) (.c (.el tb_ok 14) .n)) (fun N a=>xZ4J N a.1 a.2.1) (R:=Int) (.p (.i .i64)) (fun _=>⟨rfl,(by kernel_rfl)⟩)
def xZ4c:LQ tb (((List xZ0)×Int×Int×Int)×(Int)):=(LQ.m [] [0,3,7,8] (.c 0 (.r 14) (.c 3 (.ptr 0 0) (.c 7 (.i .i64) (.c 8 (.i .i64) .n)))) (.c (.c (.i .i64) (.c (.i .u32) .n)) .n) .n).re (fun a=>((a.1.1,a.1.2.2.1,a.2.1.1.1,a.2.1.1.2.1),a.1.2.2.2.1)) (fun x=>((x.1.1,(),x.1.2.1,x.2,()),((x.1.2.2.1,x.1.2.2.2,()),()),())) (fun _=>rfl)
def xZ7N (N:Nat) (c:(List xZ0)×Int×Int×Int) (next:Int→Option Int) (v:Int):Option Int:=xZ4d N c.1 c.2.1 c.2.2.1 c.2.2.2 (fun u0=>next u0) v
abbrev xZb3 (N:Nat):((List xZ0)×Int×Int×Int)×(Int)→Option Int:=fun a=>loopV (xZ7N N a.1) N a.2
def xZ54:Con tb:=.s 32 [true,true] (.c (.r 14) (.c (.el tb_ok 14) .n)) (fun N a=>xZ2T N a.1 a.2.1) (R:=Bool) (.p .b) (fun _=>⟨rfl,(by kernel_rfl)⟩)
def xZ7v:Con tb:=.s 56 [true,true] (.c (.r 11) (.c (.i .u32) .n)) (fun N a=>xZ5v N a.1 a.2.1) (R:=Int) (.p (.i .i64)) (fun _=>⟨rfl,(by kernel_rfl)⟩)
def xZ4U:LQ tb (((List Int)×Int×Int)×(Int)):=(LQ.m [] [0,1,7,8] (.c 0 (.r 11) (.c 1 (.i .u32) (.c 7 (.i .i64) (.c 8 (.i .i64) .n)))) .n .n).re (fun a=>((a.1.1,a.1.2.1,a.1.2.2.1),a.1.2.2.2.1)) (fun x=>((x.1.1,x.1.2.1,x.1.2.2,x.2,()),(),())) (fun _=>rfl)
def xZ8E (N:Nat) (c:(List Int)×Int×Int) (next:Int→Option Int) (v:Int):Option Int:=xZ4V N c.1 c.2.1 c.2.2 (fun u0=>next u0) v
abbrev xZc4 (N:Nat):((List Int)×Int×Int)×(Int)→Option Int:=fun a=>loopV (xZ8E N a.1) N a.2
def xZ5R:Con tb:=.s 33 [true,true] (.c (.r 11) (.c (.i .u32) .n)) (fun N a=>xZ4I N a.1 a.2.1) (R:=Bool) (.p .b) (fun _=>⟨rfl,(by kernel_rfl)⟩)
def xZdX:Con tb:=.s 16 [true,true,true] (.c (.el tb_ok 18) (.c (.el tb_ok 8) (.c (.r 0) .n))) (fun N a=>xZcy N a.1 a.2.1 a.2.2.1) (R:=Bool) (.p .b) (fun _=>⟨rfl,(by kernel_rfl)⟩)
def xZah:LQ tb (((List Int)×Int×(List xZ0)×(List (List xZ0))×(List (List Int))×(List xZ1)×(List xZ3)×Int×(List UInt8)×Int)×((List xZ0)×Int×Int×Int)):=(LQ.m [] [3,4,7,8,35,36,37] (.c 3 (.ptr 0 0) (.c 4 (.ptr 1 0) (.c 7 (.r 14) (.c 8 (.ptr 2 0) (.c 35 (.r 0) (.c 36 (.i .i64) (.c 37 (.i .i64) .n))))))) (.c (.c (.r 14) (.c (.r 16) (.c (.r 17) .n))) (.c (.c (.r 4) (.c (.r 2) (.c (.i .i64) (.c .s (.c (.i .u8) .n))))) (.c (.c (.i .i64) (.c (.i .u32) .n)) .n))) .n).re (fun a=>((a.1.2.2.2.2.1,a.1.2.2.2.2.2.1,a.2.1.1.1,a.2.1.1.2.1,a.2.1.1.2.2.1,a.2.1.2.1.1,a.2.1.2.1.2.1,a.2.1.2.1.2.2.1,a.2.1.2.1.2.2.2.1,a.2.1.2.1.2.2.2.2.1),(a.1.2.2.1,a.1.2.2.2.2.2.2.1,a.2.1.2.2.1.1,a.2.1.2.2.1.2.1))) (fun x=>(((),(),x.2.1,(),x.1.1,x.1.2.1,x.2.2.1,()),((x.1.2.2.1,x.1.2.2.2.1,x.1.2.2.2.2.1,()),(x.1.2.2.2.2.2.1,x.1.2.2.2.2.2.2.1,x.1.2.2.2.2.2.2.2.1,x.1.2.2.2.2.2.2.2.2.1,x.1.2.2.2.2.2.2.2.2.2,()),(x.2.2.2.1,x.2.2.2.2,()),()),())) (fun _=>rfl)
def xZer (N:Nat) (c:(List Int)×Int×(List xZ0)×(List (List xZ0))×(List (List Int))×(List xZ1)×(List xZ3)×Int×(List UInt8)×Int) (next:((List xZ0)×Int×Int×Int)→Option Bool) (v:(List xZ0)×Int×Int×Int):Option Bool:=xZcs N c.1 c.2.1 c.2.2.2.1 c.2.2.2.2.1 c.2.2.2.2.2.2.1 (fun u0 u1 u2 u3=>next (u0,u1,u2,u3)) v.1 v.2.1 v.2.2.1 v.2.2.2
abbrev xZhE (N:Nat):((List Int)×Int×(List xZ0)×(List (List xZ0))×(List (List Int))×(List xZ1)×(List xZ3)×Int×(List UInt8)×Int)×((List xZ0)×Int×Int×Int)→Option Bool:=fun a=>loopV (xZer N a.1) N a.2
def xZbr:Con tb:=.s 17 [true,true,true,true] (.c (.el tb_ok 13) (.c (.i .i64) (.c (.i .i64) (.c (.i .u32) .n)))) (fun N a=>xZ9v N a.1 a.2.1 a.2.2.1 a.2.2.2.1) (R:=Bool) (.p .b) (fun _=>⟨rfl,(by kernel_rfl)⟩)
def xZ6X:LQ tb ((Int×Int×Int×Bool×Int×Int×(List Int))×(Int×Int×Int)):=(LQ.m [] [1,2,3,4,9,10,11] (.c 1 (.i .i64) (.c 2 (.i .i64) (.c 3 (.i .u32) (.c 4 (.ptr 0 0) (.c 9 (.i .u32) (.c 10 (.i .u32) (.c 11 (.i .i64) .n))))))) (.c (.c .b (.c (.i .u32) (.c (.i .u32) (.c (.r 11) .n)))) .n) .n).re (fun a=>((a.1.1,a.1.2.1,a.1.2.2.1,a.2.1.1.1,a.2.1.1.2.1,a.2.1.1.2.2.1,a.2.1.1.2.2.2.1),(a.1.2.2.2.2.1,a.1.2.2.2.2.2.1,a.1.2.2.2.2.2.2.1))) (fun x=>((x.1.1,x.1.2.1,x.1.2.2.1,(),x.2.1,x.2.2.1,x.2.2.2,()),((x.1.2.2.2.1,x.1.2.2.2.2.1,x.1.2.2.2.2.2.1,x.1.2.2.2.2.2.2,()),()),())) (fun _=>rfl)
def xZ8z:LQ tb ((Int×Int×Int×Int×Int×Int×Bool×Int×Int×(List Int))×(Int×Int)):=(LQ.m [] [1,2,3,4,9,10,11,12,13] (.c 1 (.i .i64) (.c 2 (.i .i64) (.c 3 (.i .u32) (.c 4 (.ptr 0 0) (.c 9 (.i .u32) (.c 10 (.i .u32) (.c 11 (.i .i64) (.c 12 (.i .u32) (.c 13 (.i .i64) .n))))))))) (.c (.c .b (.c (.i .u32) (.c (.i .u32) (.c (.r 11) .n)))) .n) .n).re (fun a=>((a.1.1,a.1.2.1,a.1.2.2.1,a.1.2.2.2.2.1,a.1.2.2.2.2.2.1,a.1.2.2.2.2.2.2.1,a.2.1.1.1,a.2.1.1.2.1,a.2.1.1.2.2.1,a.2.1.1.2.2.2.1),(a.1.2.2.2.2.2.2.2.1,a.1.2.2.2.2.2.2.2.2.1))) (fun x=>((x.1.1,x.1.2.1,x.1.2.2.1,(),x.1.2.2.2.1,x.1.2.2.2.2.1,x.1.2.2.2.2.2.1,x.2.1,x.2.2,()),((x.1.2.2.2.2.2.2.1,x.1.2.2.2.2.2.2.2.1,x.1.2.2.2.2.2.2.2.2.1,x.1.2.2.2.2.2.2.2.2.2,()),()),())) (fun _=>rfl)
def xZ6Y:LQ tb ((Int×Int×Int×Int×Int×Bool×Int×Int×(List Int))×(Int)):=(LQ.m [] [1,2,3,4,9,10,14] (.c 1 (.i .i64) (.c 2 (.i .i64) (.c 3 (.i .u32) (.c 4 (.ptr 0 0) (.c 9 (.i .u32) (.c 10 (.i .u32) (.c 14 (.i .i64) .n))))))) (.c (.c .b (.c (.i .u32) (.c (.i .u32) (.c (.r 11) .n)))) .n) .n).re (fun a=>((a.1.1,a.1.2.1,a.1.2.2.1,a.1.2.2.2.2.1,a.1.2.2.2.2.2.1,a.2.1.1.1,a.2.1.1.2.1,a.2.1.1.2.2.1,a.2.1.1.2.2.2.1),a.1.2.2.2.2.2.2.1)) (fun x=>((x.1.1,x.1.2.1,x.1.2.2.1,(),x.1.2.2.2.1,x.1.2.2.2.2.1,x.2,()),((x.1.2.2.2.2.2.1,x.1.2.2.2.2.2.2.1,x.1.2.2.2.2.2.2.2.1,x.1.2.2.2.2.2.2.2.2,()),()),())) (fun _=>rfl)
def xZcm (N:Nat) (c:Int×Int×Int×Int×Int×Bool×Int×Int×(List Int)) (next:Int→Option Bool) (v:Int):Option Bool:=xZ70 N c.1 c.2.1 c.2.2.1 c.2.2.2.1 c.2.2.2.2.1 c.2.2.2.2.2.2.2.2 (fun u0=>next u0) v
abbrev xZcp (N:Nat):(Int×Int×Int×Int×Int×Bool×Int×Int×(List Int))×(Int)→Option Bool:=fun a=>loopV (xZcm N a.1) N a.2
def xZcl (N:Nat) (next0:(Int×Int×Int×Bool×Int×Int×(List Int))×(Int×Int×Int)→Option Bool) (c:Int×Int×Int×Int×Int×Int×Bool×Int×Int×(List Int)) (next:(Int×Int)→Option Bool) (v:Int×Int):Option Bool:=xZ9F N c.1 c.2.1 c.2.2.1 c.2.2.2.1 c.2.2.2.2.1 c.2.2.2.2.2.1 c.2.2.2.2.2.2.2.2.2 (fun u0 u1 u2=>next0 ((c.1,c.2.1,c.2.2.1,c.2.2.2.2.2.2.1,c.2.2.2.2.2.2.2.1,c.2.2.2.2.2.2.2.2.1,c.2.2.2.2.2.2.2.2.2),(u0,u1,u2))) (fun u0 u1=>next (u0,u1)) v.1 v.2
abbrev xZfz (N:Nat) (next0:(Int×Int×Int×Bool×Int×Int×(List Int))×(Int×Int×Int)→Option Bool):(Int×Int×Int×Int×Int×Int×Bool×Int×Int×(List Int))×(Int×Int)→Option Bool:=fun a=>loopV (xZcl N next0 a.1) N a.2
def xZck (N:Nat) (c:Int×Int×Int×Bool×Int×Int×(List Int)) (next:(Int×Int×Int)→Option Bool) (v:Int×Int×Int):Option Bool:=xZ9E N c.1 c.2.1 c.2.2.1 c.2.2.2.2.2.2 (fun u0 u1 u2=>next (u0,u1,u2)) v.1 v.2.1 v.2.2
abbrev xZfy (N:Nat):(Int×Int×Int×Bool×Int×Int×(List Int))×(Int×Int×Int)→Option Bool:=fun a=>loopV (xZck N a.1) N a.2
def xZbX:Con tb:=.s 5 [true,true] (.c (.el tb_ok 8) (.c (.r 0) .n)) (fun N a=>xZ82 N a.1 a.2.1) (R:=Bool) (.p .b) (fun _=>⟨rfl,(by kernel_rfl)⟩)
def xZ5h:LQ tb (((List xZ1)×(List xZ3)×Int×(List UInt8)×Int×(List xZ0)×(List (List xZ0))×(List (List Int))×Bool×Int×Int×(List Int))×(Int)):=(LQ.m [] [5,6,8,10] (.c 5 (.ptr 0 0) (.c 6 (.ptr 1 0) (.c 8 (.ptr 2 0) (.c 10 (.i .i64) .n)))) (.c (.c (.r 4) (.c (.r 2) (.c (.i .i64) (.c .s (.c (.i .u8) .n))))) (.c (.c (.r 14) (.c (.r 16) (.c (.r 17) .n))) (.c (.c .b (.c (.i .u32) (.c (.i .u32) (.c (.r 11) .n)))) .n))) .n).re (fun a=>((a.2.1.1.1,a.2.1.1.2.1,a.2.1.1.2.2.1,a.2.1.1.2.2.2.1,a.2.1.1.2.2.2.2.1,a.2.1.2.1.1,a.2.1.2.1.2.1,a.2.1.2.1.2.2.1,a.2.1.2.2.1.1,a.2.1.2.2.1.2.1,a.2.1.2.2.1.2.2.1,a.2.1.2.2.1.2.2.2.1),a.1.2.2.2.1)) (fun x=>(((),(),(),x.2,()),((x.1.1,x.1.2.1,x.1.2.2.1,x.1.2.2.2.1,x.1.2.2.2.2.1,()),(x.1.2.2.2.2.2.1,x.1.2.2.2.2.2.2.1,x.1.2.2.2.2.2.2.2.1,()),(x.1.2.2.2.2.2.2.2.2.1,x.1.2.2.2.2.2.2.2.2.2.1,x.1.2.2.2.2.2.2.2.2.2.2.1,x.1.2.2.2.2.2.2.2.2.2.2.2,()),()),())) (fun _=>rfl)
def xZ6x:LQ tb ((Int×(List xZ1)×(List xZ3)×Int×(List UInt8)×Int×(List xZ0)×(List (List xZ0))×(List (List Int))×Bool×Int×Int×(List Int))×(Int)):=(LQ.m [] [5,6,8,10,11] (.c 5 (.ptr 0 0) (.c 6 (.ptr 1 0) (.c 8 (.ptr 2 0) (.c 10 (.i .i64) (.c 11 (.i .i64) .n))))) (.c (.c (.r 4) (.c (.r 2) (.c (.i .i64) (.c .s (.c (.i .u8) .n))))) (.c (.c (.r 14) (.c (.r 16) (.c (.r 17) .n))) (.c (.c .b (.c (.i .u32) (.c (.i .u32) (.c (.r 11) .n)))) .n))) .n).re (fun a=>((a.1.2.2.2.1,a.2.1.1.1,a.2.1.1.2.1,a.2.1.1.2.2.1,a.2.1.1.2.2.2.1,a.2.1.1.2.2.2.2.1,a.2.1.2.1.1,a.2.1.2.1.2.1,a.2.1.2.1.2.2.1,a.2.1.2.2.1.1,a.2.1.2.2.1.2.1,a.2.1.2.2.1.2.2.1,a.2.1.2.2.1.2.2.2.1),a.1.2.2.2.2.1)) (fun x=>(((),(),(),x.1.1,x.2,()),((x.1.2.1,x.1.2.2.1,x.1.2.2.2.1,x.1.2.2.2.2.1,x.1.2.2.2.2.2.1,()),(x.1.2.2.2.2.2.2.1,x.1.2.2.2.2.2.2.2.1,x.1.2.2.2.2.2.2.2.2.1,()),(x.1.2.2.2.2.2.2.2.2.2.1,x.1.2.2.2.2.2.2.2.2.2.2.1,x.1.2.2.2.2.2.2.2.2.2.2.2.1,x.1.2.2.2.2.2.2.2.2.2.2.2.2,()),()),())) (fun _=>rfl)
def xZac (N:Nat) (next0:((List xZ1)×(List xZ3)×Int×(List UInt8)×Int×(List xZ0)×(List (List xZ0))×(List (List Int))×Bool×Int×Int×(List Int))×(Int)→Option Bool) (c:Int×(List xZ1)×(List xZ3)×Int×(List UInt8)×Int×(List xZ0)×(List (List xZ0))×(List (List Int))×Bool×Int×Int×(List Int)) (next:Int→Option Bool) (v:Int):Option Bool:=xZ8B N c.1 c.2.2.1 c.2.2.2.2.2.2.2.1 c.2.2.2.2.2.2.2.2.2.1 c.2.2.2.2.2.2.2.2.2.2.1 c.2.2.2.2.2.2.2.2.2.2.2.1 c.2.2.2.2.2.2.2.2.2.2.2.2 (fun u0=>next0 ((c.2.1,c.2.2.1,c.2.2.2.1,c.2.2.2.2.1,c.2.2.2.2.2.1,c.2.2.2.2.2.2.1,c.2.2.2.2.2.2.2.1,c.2.2.2.2.2.2.2.2.1,c.2.2.2.2.2.2.2.2.2.1,c.2.2.2.2.2.2.2.2.2.2.1,c.2.2.2.2.2.2.2.2.2.2.2.1,c.2.2.2.2.2.2.2.2.2.2.2.2),u0)) (fun u0=>next u0) v
abbrev xZdR (N:Nat) (next0:((List xZ1)×(List xZ3)×Int×(List UInt8)×Int×(List xZ0)×(List (List xZ0))×(List (List Int))×Bool×Int×Int×(List Int))×(Int)→Option Bool):(Int×(List xZ1)×(List xZ3)×Int×(List UInt8)×Int×(List xZ0)×(List (List xZ0))×(List (List Int))×Bool×Int×Int×(List Int))×(Int)→Option Bool:=fun a=>loopV (xZac N next0 a.1) N a.2
def xZab (N:Nat) (c:(List xZ1)×(List xZ3)×Int×(List UInt8)×Int×(List xZ0)×(List (List xZ0))×(List (List Int))×Bool×Int×Int×(List Int)) (next:Int→Option Bool) (v:Int):Option Bool:=xZ5i N c.2.1 c.2.2.2.2.2.2.1 c.2.2.2.2.2.2.2.2.1 c.2.2.2.2.2.2.2.2.2.1 c.2.2.2.2.2.2.2.2.2.2.1 c.2.2.2.2.2.2.2.2.2.2.2 (fun u0=>next u0) v
abbrev xZdQ (N:Nat):((List xZ1)×(List xZ3)×Int×(List UInt8)×Int×(List xZ0)×(List (List xZ0))×(List (List Int))×Bool×Int×Int×(List Int))×(Int)→Option Bool:=fun a=>loopV (xZab N a.1) N a.2
end
end
end Go.Proofs.YtmfkphajohcklaaGreat.P
