/- The code, and what each function of it is walked to. No premise beyond what each theorem says. -/
import Derived.Test.YtbioikdfpfafaaaGreatDoorTG1
set_option linter.all false
set_option linter.unusedSimpArgs false
set_option linter.unusedVariables false
namespace Go.Proofs.YtbioikdfpfafaaaGreatDoor.T
open Go
section
open Go.Proofs.Tryz
set_option maxRecDepth 1000000
noncomputable section
theorem hm:prog.follows .mixedOrders=true:=by kernel_rfl
def eA0 (x:Int):AV:=.v (.int .i64 x)
def eA1 (x:List UInt8):AV:=.v (.string (bs x))
def eA2 (x:xZ6):AV:=.agg [.v (.string (bs x.Name)),.v (.int .u8 x.Kind)]
def eA3 (x:xZ1):AV:=.agg [.v (.string (bs x.Name)),.sl 2 (List.map eA2 x.Fields)]
def eA4 (x:xZ2):AV:=.agg [.v (.int .u8 x.Kind),.v (.int .u8 x.Op),.v (.string (bs x.Var)),.v (.string (bs x.Name)),.v (.int .u8 x.Val.Kind),.v (.int .i64 x.Val.N),.v (.int .u64 x.Val.Bits),.v (.string (bs x.Val.Text))]
def eA5 (x:xZ0):AV:=.agg [.v (.int .u8 x.Kind),.v (.int .i64 x.Kids),.v (.int .i64 x.Lo),.v (.int .i64 x.Hi),.v (.string (bs x.Var)),.v (.string (bs x.Type_)),.sl 8 (List.map eA4 x.Test)]
def eA6 (x:xZ3):AV:=.agg [.v (.int .u8 x.Kind),.v (.int .i64 x.At),.v (.string (bs x.Text)),.v (.int .u8 x.Val.Kind),.v (.int .i64 x.Val.N),.v (.int .u64 x.Val.Bits),.v (.string (bs x.Val.Text))]
def eA7 (x:List xZ2):AV:=.sl 8 (List.map eA4 x)
def eA8 (x:xZ7):AV:=.agg [.v (.int .u8 x.Kind),.v (.int .i64 x.N),.v (.int .u64 x.Bits),.v (.string (bs x.Text))]
def eA9 (x:xZ5):AV:=.agg [.sl 7 (List.map eA5 x.Body),.v (.int .i64 x.Within),.v (.string (bs x.By)),.v (.int .u8 x.Mode)]
def eA10 (x:A40 Bool):AV:=.agg (flm (fun (y1:Bool)=>[.v (.bool y1)]) (A40.l x))
def eA11 (x:Bool):AV:=.v (.bool x)
def eA12 (x:A40 (A40 Bool)):AV:=.agg (flm (fun (y1:A40 Bool)=>flm (fun (y2:Bool)=>[.v (.bool y2)]) (A40.l y1)) (A40.l x))
abbrev T:Nat→Type
 | 0=>Int
 | 1=>List UInt8
 | 2=>xZ6
 | 3=>xZ1
 | 4=>xZ2
 | 5=>xZ0
 | 6=>xZ3
 | 7=>List xZ2
 | 8=>xZ7
 | 9=>xZ5
 | 10=>A40 Bool
 | 11=>Bool
 | 12=>A40 (A40 Bool)
 | _=>Unit
def enc:(i:Nat)→T i→List (BV T)
 | 0=>fun (x:Int)=>[.int .i64 x]
 | 1=>fun (x:List UInt8)=>[.str x]
 | 2=>fun (x:xZ6)=>[.str x.Name,.int .u8 x.Kind]
 | 3=>fun (x:xZ1)=>[.str x.Name,.sl 2 x.Fields]
 | 4=>fun (x:xZ2)=>[.int .u8 x.Kind,.int .u8 x.Op,.str x.Var,.str x.Name,.int .u8 x.Val.Kind,.int .i64 x.Val.N,.int .u64 x.Val.Bits,.str x.Val.Text]
 | 5=>fun (x:xZ0)=>[.int .u8 x.Kind,.int .i64 x.Kids,.int .i64 x.Lo,.int .i64 x.Hi,.str x.Var,.str x.Type_,.sl 4 x.Test]
 | 6=>fun (x:xZ3)=>[.int .u8 x.Kind,.int .i64 x.At,.str x.Text,.int .u8 x.Val.Kind,.int .i64 x.Val.N,.int .u64 x.Val.Bits,.str x.Val.Text]
 | 7=>fun (x:List xZ2)=>[.sl 4 x]
 | 8=>fun (x:xZ7)=>[.int .u8 x.Kind,.int .i64 x.N,.int .u64 x.Bits,.str x.Text]
 | 9=>fun (x:xZ5)=>[.sl 5 x.Body,.int .i64 x.Within,.str x.By,.int .u8 x.Mode]
 | 10=>fun (x:A40 Bool)=>flm (fun (y1:Bool)=>[.bool y1]) (A40.l x)
 | 11=>fun (x:Bool)=>[.bool x]
 | 12=>fun (x:A40 (A40 Bool))=>flm (fun (y1:A40 Bool)=>flm (fun (y2:Bool)=>[.bool y2]) (A40.l y1)) (A40.l x)
 | _=>fun _=>[]
def dec0:List (BV T)→Option Int:=P1 (asInt .i64) fun a0=>P0 (a0:Int)
def dec1:List (BV T)→Option (List UInt8):=P1 asStr fun a0=>P0 (a0:List UInt8)
def dec2:List (BV T)→Option xZ6:=P1 asStr fun a0=>P1 (asInt .u8) fun a1=>P0 (⟨a0,a1⟩:xZ6)
def dec3:List (BV T)→Option xZ1:=P1 asStr fun a0=>P1 (asRow 2) fun a1=>P0 (⟨a0,a1⟩:xZ1)
def dec4:List (BV T)→Option xZ2:=P1 (asInt .u8) fun a0=>P1 (asInt .u8) fun a1=>P1 asStr fun a2=>P1 asStr fun a3=>P1 (asInt .u8) fun a4=>P1 (asInt .i64) fun a5=>P1 (asInt .u64) fun a6=>P1 asStr fun a7=>P0 (⟨a0,a1,a2,a3,⟨a4,a5,a6,a7⟩⟩:xZ2)
def dec5:List (BV T)→Option xZ0:=P1 (asInt .u8) fun a0=>P1 (asInt .i64) fun a1=>P1 (asInt .i64) fun a2=>P1 (asInt .i64) fun a3=>P1 asStr fun a4=>P1 asStr fun a5=>P1 (asRow 4) fun a6=>P0 (⟨a0,a1,a2,a3,a4,a5,a6⟩:xZ0)
def dec6:List (BV T)→Option xZ3:=P1 (asInt .u8) fun a0=>P1 (asInt .i64) fun a1=>P1 asStr fun a2=>P1 (asInt .u8) fun a3=>P1 (asInt .i64) fun a4=>P1 (asInt .u64) fun a5=>P1 asStr fun a6=>P0 (⟨a0,a1,a2,⟨a3,a4,a5,a6⟩⟩:xZ3)
def dec7:List (BV T)→Option (List xZ2):=P1 (asRow 4) fun a0=>P0 (a0:List xZ2)
def dec8:List (BV T)→Option xZ7:=P1 (asInt .u8) fun a0=>P1 (asInt .i64) fun a1=>P1 (asInt .u64) fun a2=>P1 asStr fun a3=>P0 (⟨a0,a1,a2,a3⟩:xZ7)
def dec9:List (BV T)→Option xZ5:=P1 (asRow 5) fun a0=>P1 (asInt .i64) fun a1=>P1 asStr fun a2=>P1 (asInt .u8) fun a3=>P0 (⟨a0,a1,a2,a3⟩:xZ5)
def dec10:List (BV T)→Option (A40 Bool):=fun cs=>(decN 1 (P1 asBool fun a0=>P0 (a0:Bool)) 40 cs).bind A40.of
def dec11:List (BV T)→Option Bool:=P1 asBool fun a0=>P0 (a0:Bool)
def dec12:List (BV T)→Option (A40 (A40 Bool)):=fun cs=>(decN 40 dec10 40 cs).bind A40.of
def dec:(i:Nat)→List (BV T)→Option (T i)
 | 0=>dec0
 | 1=>dec1
 | 2=>dec2
 | 3=>dec3
 | 4=>dec4
 | 5=>dec5
 | 6=>dec6
 | 7=>dec7
 | 8=>dec8
 | 9=>dec9
 | 10=>dec10
 | 11=>dec11
 | 12=>dec12
 | _=>fun _=>none
def eA:(i:Nat)→T i→AV
 | 0=>eA0
 | 1=>eA1
 | 2=>eA2
 | 3=>eA3
 | 4=>eA4
 | 5=>eA5
 | 6=>eA6
 | 7=>eA7
 | 8=>eA8
 | 9=>eA9
 | 10=>eA10
 | 11=>eA11
 | 12=>eA12
 | _=>fun _=>.agg []
def tb:Tb T:={k:=fun i=>[1,1,2,2,8,7,7,1,4,4,40,1,1600].getD i 0,ag:=fun i=>[false,false,true,true,true,true,true,false,true,true,true,false,true].getD i true,eA,enc,dec}
def sbf (k:Nat):Option (List UInt8→(i:Nat)×List (T i)):=none
theorem sb_ok (k:Nat) (f:List UInt8→(i:Nat)×List (T i)) (s:List UInt8) (h:sbf k=some f):k=1∧tb.k (f s).1=1∧(f s).2.map (tb.eA (f s).1)=s.map byteV:=by cases h
def bof (i:Nat) (_:List (T i)):Option (List UInt8):=none
theorem bo_ok (i:Nat) (l:List (T i)) (s:List UInt8) (h:bof i l=some s):tb.k i=1∧∃ m:List Int,l.map (tb.eA i)=m.map u8V∧s=byS m:=by cases h
theorem xZsK (cs:List (BV T)) (x:Int) (h:dec0 cs=some x):LWs (BV.avs tb cs) (eA0 x).cells:=by
 obtain ⟨c0,r0,a0,rfl,h0,h⟩:=xZZ h
 obtain ⟨rfl,rfl⟩:=xZ9u h
 exact .cons (xZ28 h0) (.nil)
theorem xZsi (cs:List (BV T)) (x:List UInt8) (h:dec1 cs=some x):LWs (BV.avs tb cs) (eA1 x).cells:=by
 obtain ⟨c0,r0,a0,rfl,h0,h⟩:=xZZ h
 obtain ⟨rfl,rfl⟩:=xZ9u h
 exact .cons (xZ5B h0) (.nil)
theorem xZsF (cs:List (BV T)) (x:xZ6) (h:dec2 cs=some x):LWs (BV.avs tb cs) (eA2 x).cells:=by
 obtain ⟨c0,r0,a0,rfl,h0,h⟩:=xZZ h
 obtain ⟨c1,r1,a1,rfl,h1,h⟩:=xZZ h
 obtain ⟨rfl,rfl⟩:=xZ9u h
 exact .cons (xZ5B h0) (.cons (xZ28 h1) (.nil))
theorem xZrS (cs:List (BV T)) (x:xZ1) (h:dec3 cs=some x):LWs (BV.avs tb cs) (eA3 x).cells:=by
 obtain ⟨c0,r0,a0,rfl,h0,h⟩:=xZZ h
 obtain ⟨c1,r1,a1,rfl,h1,h⟩:=xZZ h
 obtain ⟨rfl,rfl⟩:=xZ9u h
 exact .cons (xZ5B h0) (.cons (xZex h1) (.nil))
theorem xZtY (cs:List (BV T)) (x:xZ2) (h:dec4 cs=some x):LWs (BV.avs tb cs) (eA4 x).cells:=by
 obtain ⟨c0,r0,a0,rfl,h0,h⟩:=xZZ h
 obtain ⟨c1,r1,a1,rfl,h1,h⟩:=xZZ h
 obtain ⟨c2,r2,a2,rfl,h2,h⟩:=xZZ h
 obtain ⟨c3,r3,a3,rfl,h3,h⟩:=xZZ h
 obtain ⟨c4,r4,a4,rfl,h4,h⟩:=xZZ h
 obtain ⟨c5,r5,a5,rfl,h5,h⟩:=xZZ h
 obtain ⟨c6,r6,a6,rfl,h6,h⟩:=xZZ h
 obtain ⟨c7,r7,a7,rfl,h7,h⟩:=xZZ h
 obtain ⟨rfl,rfl⟩:=xZ9u h
 exact .cons (xZ28 h0) (.cons (xZ28 h1) (.cons (xZ5B h2) (.cons (xZ5B h3) (.cons (xZ28 h4) (.cons (xZ28 h5) (.cons (xZ28 h6) (.cons (xZ5B h7) (.nil))))))))
theorem xZrP (cs:List (BV T)) (x:xZ0) (h:dec5 cs=some x):LWs (BV.avs tb cs) (eA5 x).cells:=by
 obtain ⟨c0,r0,a0,rfl,h0,h⟩:=xZZ h
 obtain ⟨c1,r1,a1,rfl,h1,h⟩:=xZZ h
 obtain ⟨c2,r2,a2,rfl,h2,h⟩:=xZZ h
 obtain ⟨c3,r3,a3,rfl,h3,h⟩:=xZZ h
 obtain ⟨c4,r4,a4,rfl,h4,h⟩:=xZZ h
 obtain ⟨c5,r5,a5,rfl,h5,h⟩:=xZZ h
 obtain ⟨c6,r6,a6,rfl,h6,h⟩:=xZZ h
 obtain ⟨rfl,rfl⟩:=xZ9u h
 exact .cons (xZ28 h0) (.cons (xZ28 h1) (.cons (xZ28 h2) (.cons (xZ28 h3) (.cons (xZ5B h4) (.cons (xZ5B h5) (.cons (xZex h6) (.nil)))))))
theorem xZtq (cs:List (BV T)) (x:xZ3) (h:dec6 cs=some x):LWs (BV.avs tb cs) (eA6 x).cells:=by
 obtain ⟨c0,r0,a0,rfl,h0,h⟩:=xZZ h
 obtain ⟨c1,r1,a1,rfl,h1,h⟩:=xZZ h
 obtain ⟨c2,r2,a2,rfl,h2,h⟩:=xZZ h
 obtain ⟨c3,r3,a3,rfl,h3,h⟩:=xZZ h
 obtain ⟨c4,r4,a4,rfl,h4,h⟩:=xZZ h
 obtain ⟨c5,r5,a5,rfl,h5,h⟩:=xZZ h
 obtain ⟨c6,r6,a6,rfl,h6,h⟩:=xZZ h
 obtain ⟨rfl,rfl⟩:=xZ9u h
 exact .cons (xZ28 h0) (.cons (xZ28 h1) (.cons (xZ5B h2) (.cons (xZ28 h3) (.cons (xZ28 h4) (.cons (xZ28 h5) (.cons (xZ5B h6) (.nil)))))))
theorem xZsu (cs:List (BV T)) (x:List xZ2) (h:dec7 cs=some x):LWs (BV.avs tb cs) (eA7 x).cells:=by
 obtain ⟨c0,r0,a0,rfl,h0,h⟩:=xZZ h
 obtain ⟨rfl,rfl⟩:=xZ9u h
 exact .cons (xZex h0) (.nil)
theorem xZu5 (cs:List (BV T)) (x:xZ7) (h:dec8 cs=some x):LWs (BV.avs tb cs) (eA8 x).cells:=by
 obtain ⟨c0,r0,a0,rfl,h0,h⟩:=xZZ h
 obtain ⟨c1,r1,a1,rfl,h1,h⟩:=xZZ h
 obtain ⟨c2,r2,a2,rfl,h2,h⟩:=xZZ h
 obtain ⟨c3,r3,a3,rfl,h3,h⟩:=xZZ h
 obtain ⟨rfl,rfl⟩:=xZ9u h
 exact .cons (xZ28 h0) (.cons (xZ28 h1) (.cons (xZ28 h2) (.cons (xZ5B h3) (.nil))))
theorem xZrv (cs:List (BV T)) (x:xZ5) (h:dec9 cs=some x):LWs (BV.avs tb cs) (eA9 x).cells:=by
 obtain ⟨c0,r0,a0,rfl,h0,h⟩:=xZZ h
 obtain ⟨c1,r1,a1,rfl,h1,h⟩:=xZZ h
 obtain ⟨c2,r2,a2,rfl,h2,h⟩:=xZZ h
 obtain ⟨c3,r3,a3,rfl,h3,h⟩:=xZZ h
 obtain ⟨rfl,rfl⟩:=xZ9u h
 exact .cons (xZex h0) (.cons (xZ28 h1) (.cons (xZ5B h2) (.cons (xZ28 h3) (.nil))))
theorem xZmI (cs:List (BV T)) (x:A40 Bool) (h:dec10 cs=some x):LWs (BV.avs tb cs) (eA10 x).cells:=by
 unfold dec10 at h
 obtain ⟨l,h1,h2⟩:=Option.bind_eq_some_iff.1 h
 have h3:=A40.of_l h2
 have h4:=xZnF (B:=tb) (f:=fun (y1:Bool)=>[.v (.bool y1)]) (fun cs a h=>by
  obtain ⟨c0,r0,a0,rfl,h0,h⟩:=xZZ h
  obtain ⟨rfl,rfl⟩:=xZ9u h
  exact .cons (xZl3 h0) (.nil)) h1
 rw [← h3] at h4
 exact h4
theorem xZqN (cs:List (BV T)) (x:Bool) (h:dec11 cs=some x):LWs (BV.avs tb cs) (eA11 x).cells:=by
 obtain ⟨c0,r0,a0,rfl,h0,h⟩:=xZZ h
 obtain ⟨rfl,rfl⟩:=xZ9u h
 exact .cons (xZl3 h0) (.nil)
theorem xZqF (cs:List (BV T)) (x:A40 (A40 Bool)) (h:dec12 cs=some x):LWs (BV.avs tb cs) (eA12 x).cells:=by
 unfold dec12 at h
 obtain ⟨l,h1,h2⟩:=Option.bind_eq_some_iff.1 h
 have h3:=A40.of_l h2
 have h4:=xZnF (B:=tb) (f:=fun (y1:A40 Bool)=>flm (fun (y2:Bool)=>[.v (.bool y2)]) (A40.l y1)) (fun cs a h=>xZmI cs a h) h1
 rw [← h3] at h4
 exact h4
theorem tb_ok:tb.Ok where
 enc:=fun i x=>match i with | 0=>(by kernel_rfl) | 1=>(by kernel_rfl) | 2=>(by kernel_rfl) | 3=>(by kernel_rfl) | 4=>(by kernel_rfl) | 5=>(by kernel_rfl) | 6=>(by kernel_rfl) | 7=>(by kernel_rfl) | 8=>(by kernel_rfl) | 9=>(by kernel_rfl) | 10=>(by kernel_rfl) | 11=>(by kernel_rfl) | 12=>(by kernel_rfl) | n+13=>(by kernel_rfl)
 len:=fun i x=>match i with | 0=>(by kernel_rfl) | 1=>(by kernel_rfl) | 2=>(by kernel_rfl) | 3=>(by kernel_rfl) | 4=>(by kernel_rfl) | 5=>(by kernel_rfl) | 6=>(by kernel_rfl) | 7=>(by kernel_rfl) | 8=>(by kernel_rfl) | 9=>(by kernel_rfl) | 10=>(by kernel_rfl) | 11=>(by kernel_rfl) | 12=>(by kernel_rfl) | n+13=>(by kernel_rfl)
 one:=fun i x=>match i with | 0=>(by kernel_rfl) | 1=>(by kernel_rfl) | 2=>(by kernel_rfl) | 3=>(by kernel_rfl) | 4=>(by kernel_rfl) | 5=>(by kernel_rfl) | 6=>(by kernel_rfl) | 7=>(by kernel_rfl) | 8=>(by kernel_rfl) | 9=>(by kernel_rfl) | 10=>(by kernel_rfl) | 11=>(by kernel_rfl) | 12=>(by kernel_rfl) | n+13=>(by kernel_rfl)
 dat:=fun i x=>match i with | 0=>(by kernel_rfl) | 1=>(by kernel_rfl) | 2=>(by kernel_rfl) | 3=>(by kernel_rfl) | 4=>(by kernel_rfl) | 5=>(by kernel_rfl) | 6=>(by kernel_rfl) | 7=>(by kernel_rfl) | 8=>(by kernel_rfl) | 9=>(by kernel_rfl) | 10=>(by kernel_rfl) | 11=>(by kernel_rfl) | 12=>(by kernel_rfl) | n+13=>(by kernel_rfl)
 sg:=fun i x h=>match i with | 0=>(by kernel_rfl) | 1=>(by kernel_rfl) | 2=>(by cases h) | 3=>(by cases h) | 4=>(by cases h) | 5=>(by cases h) | 6=>(by cases h) | 7=>(by kernel_rfl) | 8=>(by cases h) | 9=>(by cases h) | 10=>(by cases h) | 11=>(by kernel_rfl) | 12=>(by cases h) | n+13=>(by cases h)
 ag:=fun i x h=>match i with | 0=>(by cases h) | 1=>(by cases h) | 2=>(by kernel_rfl) | 3=>(by kernel_rfl) | 4=>(by kernel_rfl) | 5=>(by kernel_rfl) | 6=>(by kernel_rfl) | 7=>(by cases h) | 8=>(by kernel_rfl) | 9=>(by kernel_rfl) | 10=>(by kernel_rfl) | 11=>(by cases h) | 12=>(by kernel_rfl) | n+13=>(by kernel_rfl)
 dec:=fun i=>match i with | 0=>xZsK | 1=>xZsi | 2=>xZsF | 3=>xZrS | 4=>xZtY | 5=>xZrP | 6=>xZtq | 7=>xZsu | 8=>xZu5 | 9=>xZrv | 10=>xZmI | 11=>xZqN | 12=>xZqF | n+13=>fun cs x h=>(by cases h)
 el:=fun i x R K r h=>by cases h
 fd:=fun i ty v x h=>by cases h
def xZ9Q:Con tb:=.s 43 [true] (.c (.el tb_ok 8) .n) (fun N a=>xZ7F N a.1) (R:=Int) (.p (.i .i64)) (fun _=>⟨rfl,(by kernel_rfl)⟩)
def xZb4:Con tb:=.s 20 [true] (.c (.r 4) .n) (fun N a=>xZ9p N a.1) (R:=Int) (.p (.i .i64)) (fun _=>⟨rfl,(by kernel_rfl)⟩)
def xZ5V:LQ tb (((List xZ2))×(Int)):=(LQ.m [] [0,3] (.c 0 (.r 4) (.c 3 (.i .i64) .n)) .n .n).re (fun a=>(a.1.1,a.1.2.1)) (fun x=>((x.1,x.2,()),(),())) (fun _=>rfl)
def xZcc (N:Nat) (c:(List xZ2)) (next:Int→Option Int) (v:Int):Option Int:=xZ5Q N c (fun u0=>next u0) v
abbrev xZg1 (N:Nat):((List xZ2))×(Int)→Option Int:=fun a=>loopV (xZcc N a.1) N a.2
def xZbz:Con tb:=.s 7 [true] (.c (.el tb_ok 9) .n) (fun N a=>xZ97 N a.1) (R:=Int) (.p (.i .i64)) (fun _=>⟨rfl,(by kernel_rfl)⟩)
def xZ6j:LQ tb (((List xZ0)×Int×(List UInt8)×Int)×(Int)):=(LQ.m [] [1,3] (.c 1 (.ptr 0 0) (.c 3 (.i .i64) .n)) (.c (.c (.r 5) (.c (.i .i64) (.c .s (.c (.i .u8) .n)))) .n) .n).re (fun a=>((a.2.1.1.1,a.2.1.1.2.1,a.2.1.1.2.2.1,a.2.1.1.2.2.2.1),a.1.2.1)) (fun x=>(((),x.2,()),((x.1.1,x.1.2.1,x.1.2.2.1,x.1.2.2.2,()),()),())) (fun _=>rfl)
def xZcq (N:Nat) (c:(List xZ0)×Int×(List UInt8)×Int) (next:Int→Option Int) (v:Int):Option Int:=xZ5Z N c.1 (fun u0=>next u0) v
abbrev xZg6 (N:Nat):((List xZ0)×Int×(List UInt8)×Int)×(Int)→Option Int:=fun a=>loopV (xZcq N a.1) N a.2
def xZ1R:Con tb:=.clone 100 2 (fun _ s=>shClone 24 s)
def xZ2C:Con tb:=.cloneD 100 2 (fun _ s=>shClone 24 s)
def xZ6z:Con tb:=.s 186 [true] (.c (.el tb_ok 4) .n) (fun N a=>xZ6r N a.1) (R:=Bool) (.p .b) (fun _=>⟨rfl,(by kernel_rfl)⟩)
def xZi:Con tb:=.m 211 [false] (.c (.ptr 0 0) .n) (.c (.c (.r 6) (.c (.i .i64) (.c (.i .i64) .n))) .n) .n (fun N a=>xZh N a.2.1.1.1 a.2.1.1.2.1 a.2.1.1.2.2.1) (R:=xZ3×List xZ3×Int×Int) (.m (R:=xZ3×List xZ3×Int×Int) (.el tb_ok 6) (.c (.c (.r 6) (.c (.i .i64) (.c (.i .i64) .n))) .n) .n (fun z=>(z.1,z.2.1.1.1,z.2.1.1.2.1,z.2.1.1.2.2.1)) (fun r=>(r.1,((r.2.1,r.2.2.1,r.2.2.2,()),()),())) (fun _=>rfl))
def xZ1L:Con tb:=.m 201 [false] (.c (.ptr 0 0) .n) (.c (.c (.r 6) (.c (.i .i64) (.c (.i .i64) .n))) .n) .n (fun N a=>xZe N a.2.1.1.1 a.2.1.1.2.1 a.2.1.1.2.2.1) (R:=Int×List xZ3×Int×Int) (.m (R:=Int×List xZ3×Int×Int) (.i .i64) (.c (.c (.r 6) (.c (.i .i64) (.c (.i .i64) .n))) .n) .n (fun z=>(z.1,z.2.1.1.1,z.2.1.1.2.1,z.2.1.1.2.2.1)) (fun r=>(r.1,((r.2.1,r.2.2.1,r.2.2.2,()),()),())) (fun _=>rfl))
def xZo:Con tb:=.m 216 [false,true] (.c (.ptr 0 0) (.c (.i .i64) .n)) (.c (.c (.r 6) (.c (.i .i64) (.c (.i .i64) .n))) .n) .n (fun N a=>xZb N a.1.2.1 a.2.1.1.1 a.2.1.1.2.1 a.2.1.1.2.2.1) (R:=Int×Int×List xZ3×Int×Int) (.m (R:=Int×Int×List xZ3×Int×Int) (.ifc 16777480 (.ag (.c (.i .i64) (.c (.i .i64) .n)))) (.c (.c (.r 6) (.c (.i .i64) (.c (.i .i64) .n))) .n) .n (fun z=>(z.1.1,z.1.2.1,z.2.1.1.1,z.2.1.1.2.1,z.2.1.1.2.2.1)) (fun r=>((r.1,r.2.1,()),((r.2.2.1,r.2.2.2.1,r.2.2.2.2,()),()),())) (fun _=>rfl))
def xZ1C:Con tb:=.m 215 [false,true] (.c (.ptr 0 0) (.c (.i .i64) .n)) (.c (.c (.r 6) (.c (.i .i64) (.c (.i .i64) .n))) .n) .n (fun N a=>xZ2E N a.1.2.1 a.2.1.1.1 a.2.1.1.2.1 a.2.1.1.2.2.1) (R:=(Int×Int×List xZ3×Int×Int)⊕(List xZ3×Int×Int)) (.or (.m (R:=Int×Int×List xZ3×Int×Int) (.ifc 16777480 (.ag (.c (.i .i64) (.c (.i .i64) .n)))) (.c (.c (.r 6) (.c (.i .i64) (.c (.i .i64) .n))) .n) .n (fun z=>(z.1.1,z.1.2.1,z.2.1.1.1,z.2.1.1.2.1,z.2.1.1.2.2.1)) (fun r=>((r.1,r.2.1,()),((r.2.2.1,r.2.2.2.1,r.2.2.2.2,()),()),())) (fun _=>rfl)) (.m (R:=List xZ3×Int×Int) (.tu .n) (.c (.c (.r 6) (.c (.i .i64) (.c (.i .i64) .n))) .n) .n (fun z=>(z.2.1.1.1,z.2.1.1.2.1,z.2.1.1.2.2.1)) (fun r=>((),((r.1,r.2.1,r.2.2,()),()),())) (fun _=>rfl)))
def xZk:Con tb:=.m 207 [false,true,true] (.c (.ptr 0 0) (.c (.i .u8) (.c .s .n))) (.c (.c (.r 6) (.c (.i .i64) (.c (.i .i64) .n))) .n) .n (fun N a=>xZ8 N a.1.2.1 a.1.2.2.1 a.2.1.1.1 a.2.1.1.2.1 a.2.1.1.2.2.1) (R:=Bool×List xZ3×Int×Int) (.m (R:=Bool×List xZ3×Int×Int) .b (.c (.c (.r 6) (.c (.i .i64) (.c (.i .i64) .n))) .n) .n (fun z=>(z.1,z.2.1.1.1,z.2.1.1.2.1,z.2.1.1.2.2.1)) (fun r=>(r.1,((r.2.1,r.2.2.1,r.2.2.2,()),()),())) (fun _=>rfl))
def xZ1S:Con tb:=.m 220 [false,true] (.c .e (.c (.i .i64) .n)) .n .n (fun N a=>xZ1c N a.1.2.1) (R:=List xZ2) (.m (R:=List xZ2) (.own 0) .n (.l 4 .n) (fun z=>z.2.2.1) (fun r=>((),(),r,())) (fun _=>rfl))
def xZ2h:Con tb:=.p 212 [true] (.c (.r 7) .n) (fun N a=>xZ46 N a.1) (R:=(List UInt8)⊕(List xZ2)) (.or (.p (.ifc 16777225 .s)) (.p (.r 4))) (fun r=>by rcases r with _ | _<;>exact rfl)
def xZ17:LQ tb (((List (List xZ2))×(List (List xZ2))×Int)×(Int×Int)):=(LQ.m [] [0,3,9,10,11] (.c 0 (.r 7) (.c 3 (.i .i64) (.c 9 (.r 7) (.c 10 (.i .i64) (.c 11 (.i .i64) .n))))) .n .n).re (fun a=>((a.1.1,a.1.2.2.1,a.1.2.2.2.1),(a.1.2.1,a.1.2.2.2.2.1))) (fun x=>((x.1.1,x.2.1,x.1.2.1,x.1.2.2,x.2.2,()),(),())) (fun _=>rfl)
def xZ19:LQ tb (((List (List xZ2))×Int)×(Int×(List xZ2))):=(LQ.m [] [6,25,26,27] (.c 6 (.own 0) (.c 25 (.r 7) (.c 26 (.i .i64) (.c 27 (.i .i64) .n)))) .n (.l 4 .n)).re (fun a=>((a.1.2.1,a.1.2.2.1),(a.1.2.2.2.1,a.2.2.1))) (fun x=>(((),x.1.1,x.1.2,x.2.1,()),(),x.2.2,())) (fun _=>rfl)
def xZ3i (N:Nat) (c:(List (List xZ2))×Int) (next:(Int×(List xZ2))→Option ((List UInt8)⊕(List xZ2))) (v:Int×(List xZ2)):Option ((List UInt8)⊕(List xZ2)):=xZ3g N c.1 c.2 (fun u0 u1=>next (u0,u1)) v.1 v.2
abbrev xZ6W (N:Nat):((List (List xZ2))×Int)×(Int×(List xZ2))→Option ((List UInt8)⊕(List xZ2)):=fun a=>loopV (xZ3i N a.1) N a.2
def xZ3p (N:Nat) (c:(List (List xZ2))×(List (List xZ2))×Int) (next:(Int×Int)→Option ((List UInt8)⊕(List xZ2))) (v:Int×Int):Option ((List UInt8)⊕(List xZ2)):=xZ3m N c.1 c.2.1 c.2.2 (fun u0 u1=>next (u0,u1)) v.1 v.2
abbrev xZ6U (N:Nat):((List (List xZ2))×(List (List xZ2))×Int)×(Int×Int)→Option ((List UInt8)⊕(List xZ2)):=fun a=>loopV (xZ3p N a.1) N a.2
def xZ2f:Con tb:=.p 208 [true,true] (.c (.el tb_ok 4) (.c (.r 7) .n)) (fun N a=>xZ1K N a.1 a.2.1) (R:=List xZ2) (.p (.r 4)) (fun _=>rfl)
def xZ14:Con tb:=.m 219 [false,true] (.c (.ptr 0 0) (.c (.i .u8) .n)) (.c (.c (.r 6) (.c (.i .i64) (.c (.i .i64) .n))) .n) .n (fun N a=>xZE N a.1.2.1 a.2.1.1.1 a.2.1.1.2.1 a.2.1.1.2.2.1) (R:=(Int×Int×List xZ3×Int×Int)⊕(xZ3×List xZ3×Int×Int)) (.or (.m (R:=Int×Int×List xZ3×Int×Int) (.ifc 16777480 (.ag (.c (.i .i64) (.c (.i .i64) .n)))) (.c (.c (.r 6) (.c (.i .i64) (.c (.i .i64) .n))) .n) .n (fun z=>(z.1.1,z.1.2.1,z.2.1.1.1,z.2.1.1.2.1,z.2.1.1.2.2.1)) (fun r=>((r.1,r.2.1,()),((r.2.2.1,r.2.2.2.1,r.2.2.2.2,()),()),())) (fun _=>rfl)) (.m (R:=xZ3×List xZ3×Int×Int) (.el tb_ok 6) (.c (.c (.r 6) (.c (.i .i64) (.c (.i .i64) .n))) .n) .n (fun z=>(z.1,z.2.1.1.1,z.2.1.1.2.1,z.2.1.1.2.2.1)) (fun r=>(r.1,((r.2.1,r.2.2.1,r.2.2.2,()),()),())) (fun _=>rfl)))
def xZ1T:Con tb:=.m 221 [false] (.c (.ptr 0 0) .n) (.c (.c (.r 6) (.c (.i .i64) (.c (.i .i64) .n))) .n) .n (fun N a=>xZ1b N a.2.1.1.1 a.2.1.1.2.1 a.2.1.1.2.2.1) (R:=(Int×Int×List xZ3×Int×Int)⊕(List xZ2×List xZ3×Int×Int)) (.or (.m (R:=Int×Int×List xZ3×Int×Int) (.ifc 16777480 (.ag (.c (.i .i64) (.c (.i .i64) .n)))) (.c (.c (.r 6) (.c (.i .i64) (.c (.i .i64) .n))) .n) .n (fun z=>(z.1.1,z.1.2.1,z.2.1.1.1,z.2.1.1.2.1,z.2.1.1.2.2.1)) (fun r=>((r.1,r.2.1,()),((r.2.2.1,r.2.2.2.1,r.2.2.2.2,()),()),())) (fun _=>rfl)) (.m (R:=List xZ2×List xZ3×Int×Int) (.r 4) (.c (.c (.r 6) (.c (.i .i64) (.c (.i .i64) .n))) .n) .n (fun z=>(z.1,z.2.1.1.1,z.2.1.1.2.1,z.2.1.1.2.2.1)) (fun r=>(r.1,((r.2.1,r.2.2.1,r.2.2.2,()),()),())) (fun _=>rfl)))
def xZ23:Con tb:=.m 217 [false] (.c (.ptr 0 0) .n) (.c (.c (.r 6) (.c (.i .i64) (.c (.i .i64) .n))) .n) .n (fun N a=>xZ1Y N a.2.1.1.1 a.2.1.1.2.1 a.2.1.1.2.2.1) (R:=(Int×Int×List xZ3×Int×Int)⊕(List xZ2×List xZ3×Int×Int)) (.or (.m (R:=Int×Int×List xZ3×Int×Int) (.ifc 16777480 (.ag (.c (.i .i64) (.c (.i .i64) .n)))) (.c (.c (.r 6) (.c (.i .i64) (.c (.i .i64) .n))) .n) .n (fun z=>(z.1.1,z.1.2.1,z.2.1.1.1,z.2.1.1.2.1,z.2.1.1.2.2.1)) (fun r=>((r.1,r.2.1,()),((r.2.2.1,r.2.2.2.1,r.2.2.2.2,()),()),())) (fun _=>rfl)) (.m (R:=List xZ2×List xZ3×Int×Int) (.r 4) (.c (.c (.r 6) (.c (.i .i64) (.c (.i .i64) .n))) .n) .n (fun z=>(z.1,z.2.1.1.1,z.2.1.1.2.1,z.2.1.1.2.2.1)) (fun r=>(r.1,((r.2.1,r.2.2.1,r.2.2.2,()),()),())) (fun _=>rfl)))
def xZW:LQ tb ((Unit)×((List xZ2)×(List xZ3)×Int×Int)):=(LQ.m [] [0,3] (.c 0 (.ptr 0 0) (.c 3 (.r 4) .n)) (.c (.c (.r 6) (.c (.i .i64) (.c (.i .i64) .n))) .n) .n).re (fun a=>((),(a.1.2.1,a.2.1.1.1,a.2.1.1.2.1,a.2.1.1.2.2.1))) (fun x=>(((),x.2.1,()),((x.2.2.1,x.2.2.2.1,x.2.2.2.2,()),()),())) (fun _=>rfl)
def xZ2T (N:Nat) (c:Unit) (next:((List xZ2)×(List xZ3)×Int×Int)→Option ((Int×Int×List xZ3×Int×Int)⊕(List xZ2×List xZ3×Int×Int))) (v:(List xZ2)×(List xZ3)×Int×Int):Option ((Int×Int×List xZ3×Int×Int)⊕(List xZ2×List xZ3×Int×Int)):=xZ32 N (fun u0 u1 u2 u3=>next (u0,u1,u2,u3)) v.1 v.2.1 v.2.2.1 v.2.2.2
abbrev xZ6B (N:Nat):(Unit)×((List xZ2)×(List xZ3)×Int×Int)→Option ((Int×Int×List xZ3×Int×Int)⊕(List xZ2×List xZ3×Int×Int)):=fun a=>loopV (xZ2T N a.1) N a.2
def xZ5R:Con tb:=.s 198 [true] (.c (.i .u8) .n) (fun N a=>xZ35 N a.1) (R:=List UInt8) (.p .s) (fun _=>⟨rfl,(by kernel_rfl)⟩)
def xZbv:Con tb:=.s 218 [true] (.c .s .n) (fun N a=>xZf7 N a.1) (R:=Int) (.p (.i .u8)) (fun _=>⟨rfl,(by kernel_rfl)⟩)
def xZ5T:LQ tb (((List UInt8))×(Int)):=(LQ.m [] [0,3] (.c 0 .s (.c 3 (.i .u8) .n)) .n .n).re (fun a=>(a.1.1,a.1.2.1)) (fun x=>((x.1,x.2,()),(),())) (fun _=>rfl)
def xZcs (N:Nat) (c:(List UInt8)) (next:Int→Option Int) (v:Int):Option Int:=xZc7 N c (fun u0=>next u0) v
abbrev xZgD (N:Nat):((List UInt8))×(Int)→Option Int:=fun a=>loopV (xZcs N a.1) N a.2
def xZ1p:Con tb:=.m 203 [false,true] (.c (.ptr 0 0) (.c (.i .i64) .n)) (.c (.c (.r 6) (.c (.i .i64) (.c (.i .i64) .n))) .n) .n (fun N a=>xZz N a.1.2.1 a.2.1.1.1 a.2.1.1.2.1 a.2.1.1.2.2.1) (R:=(Int×Int×List xZ3×Int×Int)⊕(List xZ2×List xZ3×Int×Int)) (.or (.m (R:=Int×Int×List xZ3×Int×Int) (.ifc 16777480 (.ag (.c (.i .i64) (.c (.i .i64) .n)))) (.c (.c (.r 6) (.c (.i .i64) (.c (.i .i64) .n))) .n) .n (fun z=>(z.1.1,z.1.2.1,z.2.1.1.1,z.2.1.1.2.1,z.2.1.1.2.2.1)) (fun r=>((r.1,r.2.1,()),((r.2.2.1,r.2.2.2.1,r.2.2.2.2,()),()),())) (fun _=>rfl)) (.m (R:=List xZ2×List xZ3×Int×Int) (.r 4) (.c (.c (.r 6) (.c (.i .i64) (.c (.i .i64) .n))) .n) .n (fun z=>(z.1,z.2.1.1.1,z.2.1.1.2.1,z.2.1.1.2.2.1)) (fun r=>(r.1,((r.2.1,r.2.2.1,r.2.2.2,()),()),())) (fun _=>rfl)))
def xZ1d:LQ tb ((Int)×((List xZ2)×(List xZ3)×Int×Int)):=(LQ.m [] [0,1,5] (.c 0 (.ptr 0 0) (.c 1 (.i .i64) (.c 5 (.r 4) .n))) (.c (.c (.r 6) (.c (.i .i64) (.c (.i .i64) .n))) .n) .n).re (fun a=>(a.1.2.1,(a.1.2.2.1,a.2.1.1.1,a.2.1.1.2.1,a.2.1.1.2.2.1))) (fun x=>(((),x.1,x.2.1,()),((x.2.2.1,x.2.2.2.1,x.2.2.2.2,()),()),())) (fun _=>rfl)
def xZ3o (N:Nat) (c:Int) (next:((List xZ2)×(List xZ3)×Int×Int)→Option ((Int×Int×List xZ3×Int×Int)⊕(List xZ2×List xZ3×Int×Int))) (v:(List xZ2)×(List xZ3)×Int×Int):Option ((Int×Int×List xZ3×Int×Int)⊕(List xZ2×List xZ3×Int×Int)):=xZ3k N (xZG N) c (fun u0 u1 u2 u3=>next (u0,u1,u2,u3)) v.1 v.2.1 v.2.2.1 v.2.2.2
abbrev xZ75 (N:Nat):(Int)×((List xZ2)×(List xZ3)×Int×Int)→Option ((Int×Int×List xZ3×Int×Int)⊕(List xZ2×List xZ3×Int×Int)):=fun a=>loopV (xZ3o N a.1) N a.2
def xZ27:Con tb:=.m 206 [false,true] (.c (.ptr 0 0) (.c (.i .i64) .n)) (.c (.c (.r 6) (.c (.i .i64) (.c (.i .i64) .n))) .n) .n (fun N a=>xZ8e N a.1.2.1 a.2.1.1.1 a.2.1.1.2.1 a.2.1.1.2.2.1) (R:=(Int×Int×List xZ3×Int×Int)⊕(List xZ2×List xZ3×Int×Int)) (.or (.m (R:=Int×Int×List xZ3×Int×Int) (.ifc 16777480 (.ag (.c (.i .i64) (.c (.i .i64) .n)))) (.c (.c (.r 6) (.c (.i .i64) (.c (.i .i64) .n))) .n) .n (fun z=>(z.1.1,z.1.2.1,z.2.1.1.1,z.2.1.1.2.1,z.2.1.1.2.2.1)) (fun r=>((r.1,r.2.1,()),((r.2.2.1,r.2.2.2.1,r.2.2.2.2,()),()),())) (fun _=>rfl)) (.m (R:=List xZ2×List xZ3×Int×Int) (.r 4) (.c (.c (.r 6) (.c (.i .i64) (.c (.i .i64) .n))) .n) .n (fun z=>(z.1,z.2.1.1.1,z.2.1.1.2.1,z.2.1.1.2.2.1)) (fun r=>(r.1,((r.2.1,r.2.2.1,r.2.2.2,()),()),())) (fun _=>rfl)))
def xZS:LQ tb ((Int)×((List xZ2)×(List xZ3)×Int×Int)):=(LQ.m [] [0,1,5] (.c 0 (.ptr 0 0) (.c 1 (.i .i64) (.c 5 (.r 4) .n))) (.c (.c (.r 6) (.c (.i .i64) (.c (.i .i64) .n))) .n) .n).re (fun a=>(a.1.2.1,(a.1.2.2.1,a.2.1.1.1,a.2.1.1.2.1,a.2.1.1.2.2.1))) (fun x=>(((),x.1,x.2.1,()),((x.2.2.1,x.2.2.2.1,x.2.2.2.2,()),()),())) (fun _=>rfl)
def xZ2J (N:Nat) (c:Int) (next:((List xZ2)×(List xZ3)×Int×Int)→Option ((Int×Int×List xZ3×Int×Int)⊕(List xZ2×List xZ3×Int×Int))) (v:(List xZ2)×(List xZ3)×Int×Int):Option ((Int×Int×List xZ3×Int×Int)⊕(List xZ2×List xZ3×Int×Int)):=xZ2P N (xZG N) c (fun u0 u1 u2 u3=>next (u0,u1,u2,u3)) v.1 v.2.1 v.2.2.1 v.2.2.2
abbrev xZ6A (N:Nat):(Int)×((List xZ2)×(List xZ3)×Int×Int)→Option ((Int×Int×List xZ3×Int×Int)⊕(List xZ2×List xZ3×Int×Int)):=fun a=>loopV (xZ2J N a.1) N a.2
def xZ18:Con tb:=.m 210 [false,true] (.c (.ptr 0 0) (.c (.i .i64) .n)) (.c (.c (.r 6) (.c (.i .i64) (.c (.i .i64) .n))) .n) .n (fun N a=>xZ6Z N a.1.2.1 a.2.1.1.1 a.2.1.1.2.1 a.2.1.1.2.2.1) (R:=(Int×Int×List xZ3×Int×Int)⊕(List xZ2×List xZ3×Int×Int)) (.or (.m (R:=Int×Int×List xZ3×Int×Int) (.ifc 16777480 (.ag (.c (.i .i64) (.c (.i .i64) .n)))) (.c (.c (.r 6) (.c (.i .i64) (.c (.i .i64) .n))) .n) .n (fun z=>(z.1.1,z.1.2.1,z.2.1.1.1,z.2.1.1.2.1,z.2.1.1.2.2.1)) (fun r=>((r.1,r.2.1,()),((r.2.2.1,r.2.2.2.1,r.2.2.2.2,()),()),())) (fun _=>rfl)) (.m (R:=List xZ2×List xZ3×Int×Int) (.r 4) (.c (.c (.r 6) (.c (.i .i64) (.c (.i .i64) .n))) .n) .n (fun z=>(z.1,z.2.1.1.1,z.2.1.1.2.1,z.2.1.1.2.2.1)) (fun r=>(r.1,((r.2.1,r.2.2.1,r.2.2.2,()),()),())) (fun _=>rfl)))
def xZ4X:Con tb:=.s 183 [true,true] (.c (.el tb_ok 4) (.c (.i .i64) .n)) (fun N a=>xZ36 N a.1 a.2.1) (R:=Bool) (.p .b) (fun _=>⟨rfl,(by kernel_rfl)⟩)
def xZ5i:Con tb:=.s 96 [true] (.c (.i .u8) .n) (fun N a=>xZ25 N a.1) (R:=Bool) (.p .b) (fun _=>⟨rfl,(by kernel_rfl)⟩)
def xZ5v:Con tb:=.s 97 [true] (.c .s .n) (fun N a=>xZ1U N a.1) (R:=Bool) (.p .b) (fun _=>⟨rfl,(by kernel_rfl)⟩)
def xZ9W:Con tb:=.s 98 [true] (.c (.i .u8) .n) (fun N a=>xZ48 N a.1) (R:=Bool) (.p .b) (fun _=>⟨rfl,(by kernel_rfl)⟩)
def xZ44:Con tb:=.s 49 [true] (.c .s .n) (fun N a=>xZN N a.1) (R:=Bool) (.p .b) (fun _=>⟨rfl,(by kernel_rfl)⟩)
def xZ5c:LQ tb (((List UInt8))×(Int)):=(LQ.m [] [0,3] (.c 0 .s (.c 3 (.i .i64) .n)) .n .n).re (fun a=>(a.1.1,a.1.2.1)) (fun x=>((x.1,x.2,()),(),())) (fun _=>rfl)
def xZaQ (N:Nat) (c:(List UInt8)) (next:Int→Option Bool) (v:Int):Option Bool:=xZ2y N c (fun u0=>next u0) v
abbrev xZfp (N:Nat):((List UInt8))×(Int)→Option Bool:=fun a=>loopV (xZaQ N a.1) N a.2
def xZbF:Con tb:=.p 204 [true] (.c (.el tb_ok 8) .n) (fun N a=>xZbl N a.1) (R:=Int⊕Int⊕Int⊕(List UInt8)⊕Unit) (.or (.p (.ifc 270 (.i .i64))) (.or (.p (.ifc 271 (.i .i64))) (.or (.p (.ifc 272 (.i .u64))) (.or (.p (.ifc 273 .s)) (.p .ni))))) (fun r=>by rcases r with _ | _ | _ | _ | _<;>exact rfl)
def xZ3L:Con tb:=.s 239 [true] (.c (.i .i64) .n) (fun N a=>xZ3O N a.1) (R:=xZ7) (.p (.el tb_ok 8)) (fun _=>⟨rfl,(by kernel_rfl)⟩)
def xZ4P:Con tb:=.s 240 [true] (.c (.i .i64) .n) (fun N a=>xZ38 N a.1) (R:=xZ7) (.p (.el tb_ok 8)) (fun _=>⟨rfl,(by kernel_rfl)⟩)
def xZgU:Con tb:=.s 180 [true] (.c (.i .u64) .n) (fun N a=>xZgf N a.1) (R:=Nat) (.p (.f .f64)) (fun _=>⟨rfl,(by kernel_rfl)⟩)
def xZbD:Con tb:=.s 163 [true] (.c (.i .u64) .n) (fun N a=>xZ8W N a.1) (R:=Int) (.p (.i .u64)) (fun _=>⟨rfl,(by kernel_rfl)⟩)
def xZ3R:Con tb:=.s 241 [true] (.c (.i .u64) .n) (fun N a=>xZ3J N a.1) (R:=xZ7) (.p (.el tb_ok 8)) (fun _=>⟨rfl,(by kernel_rfl)⟩)
def xZ4k:Con tb:=.s 242 [true] (.c .s .n) (fun N a=>xZ4y N a.1) (R:=xZ7) (.p (.el tb_ok 8)) (fun _=>⟨rfl,(by kernel_rfl)⟩)
def xZam:Con tb:=.s 199 [true] (.c (.el tb_ok 8) .n) (fun N a=>xZ7j N a.1) (R:=Int) (.p (.i .i64)) (fun _=>⟨rfl,(by kernel_rfl)⟩)
def xZ5C:Con tb:=.s 185 [true] (.c (.el tb_ok 4) .n) (fun N a=>xZ3H N a.1) (R:=Bool) (.p .b) (fun _=>⟨rfl,(by kernel_rfl)⟩)
def xZ91:Con tb:=.s 184 [true,false,true] (.c (.el tb_ok 4) (.c (.fn 185 .n .n) (.c (.i .i64) .n))) (fun N a=>xZ9b N a.1 a.2.2.1) (R:=Int) (.p (.i .i64)) (fun _=>⟨rfl,(by kernel_rfl)⟩)
def xZ92:Con tb:=.s 184 [true,false,true] (.c (.el tb_ok 4) (.c (.fn 186 .n .n) (.c (.i .i64) .n))) (fun N a=>xZ9j N a.1 a.2.2.1) (R:=Int) (.p (.i .i64)) (fun _=>⟨rfl,(by kernel_rfl)⟩)
def xZde:Con tb:=.s 187 [true] (.c (.i .u8) .n) (fun N a=>xZas N a.1) (R:=Int) (.p (.i .i64)) (fun _=>⟨rfl,(by kernel_rfl)⟩)
def xZ8m:Con tb:=.s 188 [true,true] (.c (.el tb_ok 4) (.c (.i .i64) .n)) (fun N a=>xZ5f N a.1 a.2.1) (R:=Int) (.p (.i .i64)) (fun _=>⟨rfl,(by kernel_rfl)⟩)
def xZX:Con tb:=.m 169 [false,true,true] (.c (.ptr 0 0) (.c (.i .i64) (.c (.i .i64) .n))) (.c (.c (.r 4) (.c (.i .i64) .n)) .n) .n (fun N a=>xZ49 N a.1.2.1 a.1.2.2.1 a.2.1.1.1 a.2.1.1.2.1) (R:=Int×List xZ2×Int) (.m (R:=Int×List xZ2×Int) (.i .i64) (.c (.c (.r 4) (.c (.i .i64) .n)) .n) .n (fun z=>(z.1,z.2.1.1.1,z.2.1.1.2.1)) (fun r=>(r.1,((r.2.1,r.2.2,()),()),())) (fun _=>rfl))
def xZ1l:LQ tb ((Int×Int×Int×Int×(List UInt8)×(List UInt8)×Int×Int×Int×(List UInt8))×(Int×(List xZ2)×Int)):=(LQ.m [] [0,2,7,57,58] (.c 0 (.ptr 0 0) (.c 2 (.i .i64) (.c 7 (.ptr 1 0) (.c 57 (.i .i64) (.c 58 (.i .i64) .n))))) (.c (.c (.r 4) (.c (.i .i64) .n)) (.c (.c (.i .u8) (.c (.i .u8) (.c .s (.c .s (.c (.i .u8) (.c (.i .i64) (.c (.i .u64) (.c .s .n)))))))) .n)) .n).re (fun a=>((a.1.2.1,a.1.2.2.2.1,a.2.1.2.1.1,a.2.1.2.1.2.1,a.2.1.2.1.2.2.1,a.2.1.2.1.2.2.2.1,a.2.1.2.1.2.2.2.2.1,a.2.1.2.1.2.2.2.2.2.1,a.2.1.2.1.2.2.2.2.2.2.1,a.2.1.2.1.2.2.2.2.2.2.2.1),(a.1.2.2.2.2.1,a.2.1.1.1,a.2.1.1.2.1))) (fun x=>(((),x.1.1,(),x.1.2.1,x.2.1,()),((x.2.2.1,x.2.2.2,()),(x.1.2.2.1,x.1.2.2.2.1,x.1.2.2.2.2.1,x.1.2.2.2.2.2.1,x.1.2.2.2.2.2.2.1,x.1.2.2.2.2.2.2.2.1,x.1.2.2.2.2.2.2.2.2.1,x.1.2.2.2.2.2.2.2.2.2,()),()),())) (fun _=>rfl)
def xZ3r (N:Nat) (c:Int×Int×Int×Int×(List UInt8)×(List UInt8)×Int×Int×Int×(List UInt8)) (next:(Int×(List xZ2)×Int)→Option (Int×List xZ2×Int)) (v:Int×(List xZ2)×Int):Option (Int×List xZ2×Int):=xZ1k N (xZy N) c.1 c.2.1 c.2.2.1 c.2.2.2.1 c.2.2.2.2.1 c.2.2.2.2.2.1 c.2.2.2.2.2.2.1 c.2.2.2.2.2.2.2.1 c.2.2.2.2.2.2.2.2.1 c.2.2.2.2.2.2.2.2.2 (fun u0 u1 u2=>next (u0,u1,u2)) v.1 v.2.1 v.2.2
abbrev xZ7Y (N:Nat):(Int×Int×Int×Int×(List UInt8)×(List UInt8)×Int×Int×Int×(List UInt8))×(Int×(List xZ2)×Int)→Option (Int×List xZ2×Int):=fun a=>loopV (xZ3r N a.1) N a.2
def xZbg:Con tb:=.s 141 [true] (.c (.r 4) .n) (fun N a=>xZ2G N a.1) (R:=Int) (.p (.i .i64)) (fun _=>⟨rfl,(by kernel_rfl)⟩)
def xZae:Con tb:=.p 196 [true,true,true] (.c (.r 6) (.c (.i .i64) (.c (.i .i64) .n))) (fun N a=>xZ6m N a.1 a.2.1 a.2.2.1) (R:=(List xZ2×Int)⊕(List xZ2×Int×Int×Int)) (.or (.m (R:=List xZ2×Int) (.tu (.c (.r 4) (.c (.i .i64) (.c .ni .n)))) .n .n (fun z=>(z.1.1,z.1.2.1)) (fun r=>((r.1,r.2,(),()),(),())) (fun _=>rfl)) (.m (R:=List xZ2×Int×Int×Int) (.tu (.c (.r 4) (.c (.i .i64) (.o (.ifc 172 (.dp (.c (.i .i64) (.c (.i .i64) .n)))))))) .n .n (fun z=>(z.1.1,z.1.2.1,z.1.2.2.1,z.1.2.2.2.1)) (fun r=>((r.1,r.2.1,r.2.2.1,r.2.2.2,()),(),())) (fun _=>rfl))) (fun r=>by rcases r with _ | _<;>exact rfl)
def xZdD:Con tb:=.s 9 [] .n (fun N a=>xZ42 N) (R:=Bool) (.p .b) (fun _=>⟨rfl,(by kernel_rfl)⟩)
def xZbp:Con tb:=.s 8 [true] (.c (.r 3) .n) (fun N a=>xZ8Z N a.1) (R:=Int) (.p (.i .i64)) (fun _=>⟨rfl,(by kernel_rfl)⟩)
def xZ4x:LQ tb (((List xZ1))×(Int)):=(LQ.m [] [0,3] (.c 0 (.r 3) (.c 3 (.i .i64) .n)) .n .n).re (fun a=>(a.1.1,a.1.2.1)) (fun x=>((x.1,x.2,()),(),())) (fun _=>rfl)
def xZ65:LQ tb (((List xZ1)×Int)×(Int)):=(LQ.m [] [0,3,4] (.c 0 (.r 3) (.c 3 (.i .i64) (.c 4 (.i .i64) .n))) .n .n).re (fun a=>((a.1.1,a.1.2.1),a.1.2.2.1)) (fun x=>((x.1.1,x.1.2,x.2,()),(),())) (fun _=>rfl)
def xZc2 (N:Nat) (next0:((List xZ1))×(Int)→Option Int) (c:(List xZ1)×Int) (next:Int→Option Int) (v:Int):Option Int:=xZ6e N c.1 c.2 (fun u0=>next0 (c.1,u0)) (fun u0=>next u0) v
abbrev xZgG (N:Nat) (next0:((List xZ1))×(Int)→Option Int):((List xZ1)×Int)×(Int)→Option Int:=fun a=>loopV (xZc2 N next0 a.1) N a.2
def xZc0 (N:Nat) (c:(List xZ1)) (next:Int→Option Int) (v:Int):Option Int:=xZ6h N c (fun u0=>next u0) v
abbrev xZgm (N:Nat):((List xZ1))×(Int)→Option Int:=fun a=>loopV (xZc0 N a.1) N a.2
def xZd7:Con tb:=.p 23 [true] (.c (.r 4) .n) (fun N a=>xZay N a.1) (R:=List xZ2) (.p (.r 4)) (fun _=>rfl)
def xZ78:LQ tb (((List xZ2))×(Int×(List xZ2))):=(LQ.m [(3,none,4)] [0,3,4] (.c 0 (.r 4) (.c 3 (.own 0) (.c 4 (.i .i64) .n))) .n (.l 4 .n)).re (fun a=>(a.1.1,(a.1.2.2.1,a.2.2.1))) (fun x=>((x.1,(),x.2.1,()),(),x.2.2,())) (fun _=>rfl)
def xZdy (N:Nat) (c:(List xZ2)) (next:(Int×(List xZ2))→Option (List xZ2)) (v:Int×(List xZ2)):Option (List xZ2):=xZ7C N c (fun u0 u1=>next (u0,u1)) v.1 v.2
abbrev xZid (N:Nat):((List xZ2))×(Int×(List xZ2))→Option (List xZ2):=fun a=>loopV (xZdy N a.1) N a.2
def xZcU:Con tb:=.p 10 [true] (.c (.el tb_ok 9) .n) (fun N a=>xZaz N a.1) (R:=xZ5) (.p (.el tb_ok 9)) (fun _=>rfl)
def xZ7w:LQ tb (((List xZ0)×Int×(List UInt8)×Int×Int×(List UInt8)×Int)×(Int×(List xZ0))):=(LQ.m [(3,some 0,5)] [1,2,3,4] (.c 1 (.ptr 0 0) (.c 2 (.ptr 1 0) (.c 3 (.ptr 2 0) (.c 4 (.i .i64) .n)))) (.c (.c (.r 5) (.c (.i .i64) (.c .s (.c (.i .u8) .n)))) (.c (.c .e (.c (.li .i64 0) (.c (.ls []) (.c (.li .u8 0) .n)))) (.c (.c (.own 0) (.c (.i .i64) (.c .s (.c (.i .u8) .n)))) .n))) (.l 5 .n)).re (fun a=>((a.2.1.1.1,a.2.1.1.2.1,a.2.1.1.2.2.1,a.2.1.1.2.2.2.1,a.2.1.2.2.1.2.1,a.2.1.2.2.1.2.2.1,a.2.1.2.2.1.2.2.2.1),(a.1.2.2.2.1,a.2.2.1))) (fun x=>(((),(),(),x.2.1,()),((x.1.1,x.1.2.1,x.1.2.2.1,x.1.2.2.2.1,()),((),(),(),(),()),((),x.1.2.2.2.2.1,x.1.2.2.2.2.2.1,x.1.2.2.2.2.2.2,()),()),x.2.2,())) (fun _=>rfl)
def xZdw (N:Nat) (c:(List xZ0)×Int×(List UInt8)×Int×Int×(List UInt8)×Int) (next:(Int×(List xZ0))→Option xZ5) (v:Int×(List xZ0)):Option xZ5:=xZ7r N c.1 c.2.2.2.2.1 c.2.2.2.2.2.1 c.2.2.2.2.2.2 (fun u0 u1=>next (u0,u1)) v.1 v.2
abbrev xZiB (N:Nat):((List xZ0)×Int×(List UInt8)×Int×Int×(List UInt8)×Int)×(Int×(List xZ0))→Option xZ5:=fun a=>loopV (xZdw N a.1) N a.2
def xZd2:Con tb:=.p 12 [true] (.c (.r 3) .n) (fun N a=>xZd9 N a.1) (R:=List xZ1) (.p (.r 3)) (fun _=>rfl)
def xZ5m:LQ tb (((List xZ1))×(Int×(List xZ1))):=(LQ.m [(3,none,3)] [0,3,4] (.c 0 (.r 3) (.c 3 (.own 0) (.c 4 (.i .i64) .n))) .n (.l 3 .n)).re (fun a=>(a.1.1,(a.1.2.2.1,a.2.2.1))) (fun x=>((x.1,(),x.2.1,()),(),x.2.2,())) (fun _=>rfl)
def xZ7u:LQ tb (((List xZ1)×Int×(List UInt8))×(Int×(List xZ1)×(List xZ6))):=(LQ.m [(5,some 1,2)] [0,3,4,5,6] (.c 0 (.r 3) (.c 3 (.own 0) (.c 4 (.i .i64) (.c 5 (.ptr 0 0) (.c 6 (.i .i64) .n))))) (.c (.c .s (.c (.own 1) .n)) .n) (.l 3 (.l 2 .n))).re (fun a=>((a.1.1,a.1.2.2.1,a.2.1.1.1),(a.1.2.2.2.2.1,a.2.2.1,a.2.2.2.1))) (fun x=>((x.1.1,(),x.1.2.1,(),x.2.1,()),((x.1.2.2,(),()),()),x.2.2.1,x.2.2.2,())) (fun _=>rfl)
def xZdx (N:Nat) (next0:((List xZ1))×(Int×(List xZ1))→Option (List xZ1)) (c:(List xZ1)×Int×(List UInt8)) (next:(Int×(List xZ1)×(List xZ6))→Option (List xZ1)) (v:Int×(List xZ1)×(List xZ6)):Option (List xZ1):=xZ7G N c.1 c.2.1 c.2.2 (fun u0 u1=>next0 (c.1,(u0,u1))) (fun u0 u1 u2=>next (u0,u1,u2)) v.1 v.2.1 v.2.2
abbrev xZhB (N:Nat) (next0:((List xZ1))×(Int×(List xZ1))→Option (List xZ1)):((List xZ1)×Int×(List UInt8))×(Int×(List xZ1)×(List xZ6))→Option (List xZ1):=fun a=>loopV (xZdx N next0 a.1) N a.2
def xZdK (N:Nat) (c:(List xZ1)) (next:(Int×(List xZ1))→Option (List xZ1)) (v:Int×(List xZ1)):Option (List xZ1):=xZ7f N c (fun u0 u1=>next (u0,u1)) v.1 v.2
abbrev xZig (N:Nat):((List xZ1))×(Int×(List xZ1))→Option (List xZ1):=fun a=>loopV (xZdK N a.1) N a.2
def xZ2w:Con tb:=.s 139 [true] (.c (.el tb_ok 5) .n) (fun N a=>xZ1V N a.1) (R:=Bool) (.p .b) (fun _=>⟨rfl,(by kernel_rfl)⟩)
def xZ4i:Con tb:=.s 92 [true,true] (.c (.el tb_ok 5) (.c (.i .u8) .n)) (fun N a=>xZ2B N a.1 a.2.1) (R:=Bool) (.p .b) (fun _=>⟨rfl,(by kernel_rfl)⟩)
def xZ4Y:Con tb:=.s 140 [true] (.c (.el tb_ok 5) .n) (fun N a=>xZ37 N a.1) (R:=Bool) (.p .b) (fun _=>⟨rfl,(by kernel_rfl)⟩)
def xZ4J:Con tb:=.s 93 [true] (.c (.el tb_ok 5) .n) (fun N a=>xZ34 N a.1) (R:=Bool) (.p .b) (fun _=>⟨rfl,(by kernel_rfl)⟩)
def xZ5D:Con tb:=.s 142 [true] (.c (.el tb_ok 5) .n) (fun N a=>xZJ N a.1) (R:=Bool) (.p .b) (fun _=>⟨rfl,(by kernel_rfl)⟩)
def xZ5F:Con tb:=.s 94 [true] (.c (.el tb_ok 5) .n) (fun N a=>xZ3D N a.1) (R:=Bool) (.p .b) (fun _=>⟨rfl,(by kernel_rfl)⟩)
def xZ5A:Con tb:=.s 95 [true] (.c (.el tb_ok 5) .n) (fun N a=>xZ3C N a.1) (R:=Int) (.p (.i .i64)) (fun _=>⟨rfl,(by kernel_rfl)⟩)
def xZ6M:Con tb:=.p 48 [true,true,true] (.c (.r 5) (.c (.i .u8) (.c (.i .i64) .n))) (fun N a=>xZbj N a.1 a.2.1 a.2.2.1) (R:=List xZ0×Int) (.p (.tu (.c (.r 5) (.o (.i .i64))))) (fun _=>rfl)
def xZ5J:LQ tb ((Int×Int×Int×Int×Int×Int×(List UInt8)×(List UInt8)×(List xZ2))×((List xZ0)×Int)):=(LQ.m [] [2,8,9,42,43] (.c 2 (.i .i64) (.c 8 (.ptr 0 0) (.c 9 (.r 5) (.c 42 (.i .i64) (.c 43 (.i .i64) .n))))) (.c (.c (.i .u8) (.c (.i .i64) (.c (.i .i64) (.c (.i .i64) (.c .s (.c .s (.c (.r 4) .n))))))) .n) .n).re (fun a=>((a.1.1,a.1.2.2.2.1,a.2.1.1.1,a.2.1.1.2.1,a.2.1.1.2.2.1,a.2.1.1.2.2.2.1,a.2.1.1.2.2.2.2.1,a.2.1.1.2.2.2.2.2.1,a.2.1.1.2.2.2.2.2.2.1),(a.1.2.2.1,a.1.2.2.2.2.1))) (fun x=>((x.1.1,(),x.2.1,x.1.2.1,x.2.2,()),((x.1.2.2.1,x.1.2.2.2.1,x.1.2.2.2.2.1,x.1.2.2.2.2.2.1,x.1.2.2.2.2.2.2.1,x.1.2.2.2.2.2.2.2.1,x.1.2.2.2.2.2.2.2.2,()),()),())) (fun _=>rfl)
def xZca (N:Nat) (c:Int×Int×Int×Int×Int×Int×(List UInt8)×(List UInt8)×(List xZ2)) (next:((List xZ0)×Int)→Option (List xZ0×Int)) (v:(List xZ0)×Int):Option (List xZ0×Int):=xZ93 N (xZ7x N) c.1 c.2.1 c.2.2.1 (fun u0 u1=>next (u0,u1)) v.1 v.2
abbrev xZg5 (N:Nat):(Int×Int×Int×Int×Int×Int×(List UInt8)×(List UInt8)×(List xZ2))×((List xZ0)×Int)→Option (List xZ0×Int):=fun a=>loopV (xZca N a.1) N a.2
def xZbq:Con tb:=.s 50 [true] (.c (.i .u8) .n) (fun N a=>xZ6O N a.1) (R:=List UInt8) (.p .s) (fun _=>⟨rfl,(by kernel_rfl)⟩)
def xZ7l:Con tb:=.s 24 [true] (.c (.el tb_ok 9) .n) (fun N a=>xZ5n N a.1) (R:=Int) (.p (.i .i64)) (fun _=>⟨rfl,(by kernel_rfl)⟩)
def xZ1W:Con tb:=.s 55 [true,true] (.c (.el tb_ok 3) (.c .s .n)) (fun N a=>xZT N a.1 a.2.1) (R:=Int×Int) (.p (.tu (.c (.i .i64) (.o (.i .u8))))) (fun _=>⟨rfl,(by kernel_rfl)⟩)
def xZ2b:LQ tb (((List UInt8)×(List xZ6)×Int)×(Int)):=(LQ.m [] [1,9,10,11] (.c 1 .s (.c 9 (.r 2) (.c 10 (.i .i64) (.c 11 (.i .i64) .n)))) .n .n).re (fun a=>((a.1.1,a.1.2.1,a.1.2.2.1),a.1.2.2.2.1)) (fun x=>((x.1.1,x.1.2.1,x.1.2.2,x.2,()),(),())) (fun _=>rfl)
def xZ5G (N:Nat) (c:(List UInt8)×(List xZ6)×Int) (next:Int→Option (Int×Int)) (v:Int):Option (Int×Int):=xZ2d N c.1 c.2.1 c.2.2 (fun u0=>next u0) v
abbrev xZaG (N:Nat):((List UInt8)×(List xZ6)×Int)×(Int)→Option (Int×Int):=fun a=>loopV (xZ5G N a.1) N a.2
def xZb5:Con tb:=.s 99 [true] (.c (.i .u8) .n) (fun N a=>xZ6u N a.1) (R:=List UInt8) (.p .s) (fun _=>⟨rfl,(by kernel_rfl)⟩)
def xZ4v:Con tb:=.s 51 [true] (.c (.el tb_ok 3) .n) (fun N a=>xZ2z N a.1) (R:=Int) (.p (.i .i64)) (fun _=>⟨rfl,(by kernel_rfl)⟩)
def xZ2c:LQ tb (((List xZ6)×Int×(List UInt8)×(List xZ6))×(Int)):=(LQ.m [] [1,16,17,18] (.c 1 (.ptr 0 0) (.c 16 (.r 2) (.c 17 (.i .i64) (.c 18 (.i .i64) .n)))) (.c (.c .s (.c (.r 2) .n)) .n) .n).re (fun a=>((a.1.2.1,a.1.2.2.1,a.2.1.1.1,a.2.1.1.2.1),a.1.2.2.2.1)) (fun x=>(((),x.1.1,x.1.2.1,x.2,()),((x.1.2.2.1,x.1.2.2.2,()),()),())) (fun _=>rfl)
def xZ5H (N:Nat) (c:(List xZ6)×Int×(List UInt8)×(List xZ6)) (next:Int→Option Int) (v:Int):Option Int:=xZ2e N c.1 c.2.1 c.2.2.1 c.2.2.2 (fun u0=>next u0) v
abbrev xZaF (N:Nat):((List xZ6)×Int×(List UInt8)×(List xZ6))×(Int)→Option Int:=fun a=>loopV (xZ5H N a.1) N a.2
def xZ7q:Con tb:=.p 52 [true,true] (.c (.r 3) (.c .s .n)) (fun N a=>xZ7E N a.1 a.2.1) (R:=xZ1×Bool) (.p (.tu (.c (.el tb_ok 3) (.o .b)))) (fun _=>rfl)
def xZ58:LQ tb (((List UInt8)×(List xZ1)×Int)×(Int)):=(LQ.m [] [1,4,8,9,10] (.c 1 .s (.c 4 (.ptr 0 0) (.c 8 (.r 3) (.c 9 (.i .i64) (.c 10 (.i .i64) .n))))) (.c (.c (.ls []) (.c .e .n)) .n) .n).re (fun a=>((a.1.1,a.1.2.2.1,a.1.2.2.2.1),a.1.2.2.2.2.1)) (fun x=>((x.1.1,(),x.1.2.1,x.1.2.2,x.2,()),(((),(),()),()),())) (fun _=>rfl)
def xZaP (N:Nat) (c:(List UInt8)×(List xZ1)×Int) (next:Int→Option (xZ1×Bool)) (v:Int):Option (xZ1×Bool):=xZ51 N c.1 c.2.1 c.2.2 (fun u0=>next u0) v
abbrev xZfj (N:Nat):((List UInt8)×(List xZ1)×Int)×(Int)→Option (xZ1×Bool):=fun a=>loopV (xZaP N a.1) N a.2
def xZ8R:Con tb:=.s 25 [true] (.c (.r 3) .n) (fun N a=>xZ68 N a.1) (R:=Int) (.p (.i .i64)) (fun _=>⟨rfl,(by kernel_rfl)⟩)
def xZ4t:LQ tb (((List xZ1)×(List xZ1)×Int)×(Int)):=(LQ.m [] [0,11,12,13] (.c 0 (.r 3) (.c 11 (.r 3) (.c 12 (.i .i64) (.c 13 (.i .i64) .n)))) .n .n).re (fun a=>((a.1.1,a.1.2.1,a.1.2.2.1),a.1.2.2.2.1)) (fun x=>((x.1.1,x.1.2.1,x.1.2.2,x.2,()),(),())) (fun _=>rfl)
def xZa9 (N:Nat) (c:(List xZ1)×(List xZ1)×Int) (next:Int→Option Int) (v:Int):Option Int:=xZ4s N c.1 c.2.1 c.2.2 (fun u0=>next u0) v
abbrev xZeK (N:Nat):((List xZ1)×(List xZ1)×Int)×(Int)→Option Int:=fun a=>loopV (xZa9 N a.1) N a.2
def xZ2O:Con tb:=.s 28 [true] (.c (.el tb_ok 5) .n) (fun N a=>xZ2o N a.1) (R:=Bool) (.p .b) (fun _=>⟨rfl,(by kernel_rfl)⟩)
def xZ4N:Con tb:=.m 143 [true,false] (.c (.el tb_ok 5) (.c (.ptr 0 0) .n)) (.c (.c .s .n) .n) .n (fun N a=>xZ3c N a.1.1 a.2.1.1.1) (R:=Bool×List UInt8) (.m (R:=Bool×List UInt8) .b (.c (.c .s .n) .n) .n (fun z=>(z.1,z.2.1.1.1)) (fun r=>(r.1,((r.2,()),()),())) (fun _=>rfl))
def xZY:Con tb:=.m 27 [true,false] (.c (.r 5) (.c (.fn 143 .n (.c (.ptr 0 0) .n)) .n)) (.c (.c .s .n) .n) .n (fun N a=>xZw N a.1.1 a.2.1.1.1) (R:=Int×List UInt8) (.m (R:=Int×List UInt8) (.i .i64) (.c (.c .s .n) .n) .n (fun z=>(z.1,z.2.1.1.1)) (fun r=>(r.1,((r.2,()),()),())) (fun _=>rfl))
def xZs:LQ tb (((List xZ0)×Int)×(Int×(List UInt8))):=(LQ.m [] [0,1,7,8] (.c 0 (.r 5) (.c 1 (.fn 143 .n (.c (.ptr 0 0) .n)) (.c 7 (.i .i64) (.c 8 (.i .i64) .n)))) (.c (.c .s .n) .n) .n).re (fun a=>((a.1.1,a.1.2.2.1),(a.1.2.2.2.1,a.2.1.1.1))) (fun x=>((x.1.1,((),(),()),x.1.2,x.2.1,()),((x.2.2,()),()),())) (fun _=>rfl)
def xZ1I (N:Nat) (c:(List xZ0)×Int) (next:(Int×(List UInt8))→Option (Int×List UInt8)) (v:Int×(List UInt8)):Option (Int×List UInt8):=xZM N c.1 c.2 (fun u0 u1=>next (u0,u1)) v.1 v.2
abbrev xZ3N (N:Nat):((List xZ0)×Int)×(Int×(List UInt8))→Option (Int×List UInt8):=fun a=>loopV (xZ1I N a.1) N a.2
def xZc3:Con tb:=.s 101 [true,true] (.c (.r 5) (.c .s .n)) (fun N a=>xZab N a.1 a.2.1) (R:=Int) (.p (.i .i64)) (fun _=>⟨rfl,(by kernel_rfl)⟩)
def xZ9q:Con tb:=.s 58 [true] (.c (.el tb_ok 5) .n) (fun N a=>xZ4W N a.1) (R:=Int) (.p (.i .i64)) (fun _=>⟨rfl,(by kernel_rfl)⟩)
def xZ6K:Con tb:=.p 102 [true,true] (.c (.el tb_ok 10) (.c (.el tb_ok 10) .n)) (fun N a=>xZ2U N a.1 a.2.1) (R:=A40 Bool) (.p (.el tb_ok 10)) (fun _=>rfl)
def xZ39:LQ tb (((A40 Bool)×(A40 Bool))×(Int×(A40 Bool))):=(LQ.m [] [2,3,4,6] (.c 2 (.ptr 0 0) (.c 3 (.ptr 1 0) (.c 4 (.ptr 2 0) (.c 6 (.i .i64) .n)))) (.c (.a tb_ok 10 .n) (.c (.a tb_ok 10 .n) (.c (.a tb_ok 10 .n) .n))) .n).re (fun a=>((a.2.1.2.1.1,a.2.1.2.2.1.1),(a.1.2.2.2.1,a.2.1.1.1))) (fun x=>(((),(),(),x.2.1,()),((x.2.2,()),(x.1.1,()),(x.1.2,()),()),())) (fun _=>rfl)
def xZ8z (N:Nat) (c:(A40 Bool)×(A40 Bool)) (next:(Int×(A40 Bool))→Option (A40 Bool)) (v:Int×(A40 Bool)):Option (A40 Bool):=xZ4V N c.1 (fun u0 u1=>next (u0,u1)) v.1 v.2
abbrev xZcF (N:Nat):((A40 Bool)×(A40 Bool))×(Int×(A40 Bool))→Option (A40 Bool):=fun a=>loopV (xZ8z N a.1) N a.2
def xZ1m:Con tb:=.m 53 [false,true,true] (.c (.ptr 0 0) (.c (.i .i64) (.c (.el tb_ok 10) .n))) (.c (.c (.r 5) (.a tb_ok 12 .n)) .n) .n (fun N a=>xZ5r N a.1.2.1 a.1.2.2.1 a.2.1.1.1 a.2.1.1.2.1) (R:=A40 Bool×Int×List xZ0×A40 (A40 Bool)) (.m (R:=A40 Bool×Int×List xZ0×A40 (A40 Bool)) (.tu (.c (.el tb_ok 10) (.o (.i .i64)))) (.c (.c (.r 5) (.a tb_ok 12 .n)) .n) .n (fun z=>(z.1.1,z.1.2,z.2.1.1.1,z.2.1.1.2.1)) (fun r=>((r.1,r.2.1),((r.2.2.1,r.2.2.2,()),()),())) (fun _=>rfl))
def xZ1B:LQ tb ((Int×(A40 Bool)×(A40 Bool)×Int×Int×Int×Int×(List UInt8)×(List UInt8)×(List xZ2))×(Int×Int×(List xZ0)×(A40 (A40 Bool))×(A40 Bool))):=(LQ.m [] [0,5,6,8,9,10,48,49] (.c 0 (.ptr 0 0) (.c 5 (.ptr 1 0) (.c 6 (.ptr 2 0) (.c 8 (.ptr 3 0) (.c 9 (.ptr 4 0) (.c 10 (.i .i64) (.c 48 (.i .i64) (.c 49 (.i .i64) .n)))))))) (.c (.c (.r 5) (.a tb_ok 12 .n)) (.c (.a tb_ok 10 .n) (.c (.a tb_ok 10 .n) (.c (.c (.i .u8) (.c (.i .i64) (.c (.i .i64) (.c (.i .i64) (.c .s (.c .s (.c (.r 4) .n))))))) (.c (.a tb_ok 10 .n) .n))))) .n).re (fun a=>((a.1.2.2.2.2.2.2.1,a.2.1.2.1.1,a.2.1.2.2.1.1,a.2.1.2.2.2.1.1,a.2.1.2.2.2.1.2.1,a.2.1.2.2.2.1.2.2.1,a.2.1.2.2.2.1.2.2.2.1,a.2.1.2.2.2.1.2.2.2.2.1,a.2.1.2.2.2.1.2.2.2.2.2.1,a.2.1.2.2.2.1.2.2.2.2.2.2.1),(a.1.2.2.2.2.2.1,a.1.2.2.2.2.2.2.2.1,a.2.1.1.1,a.2.1.1.2.1,a.2.1.2.2.2.2.1.1))) (fun x=>(((),(),(),(),(),x.2.1,x.1.1,x.2.2.1,()),((x.2.2.2.1,x.2.2.2.2.1,()),(x.1.2.1,()),(x.1.2.2.1,()),(x.1.2.2.2.1,x.1.2.2.2.2.1,x.1.2.2.2.2.2.1,x.1.2.2.2.2.2.2.1,x.1.2.2.2.2.2.2.2.1,x.1.2.2.2.2.2.2.2.2.1,x.1.2.2.2.2.2.2.2.2.2,()),(x.2.2.2.2.2,()),()),())) (fun _=>rfl)
def xZ4e (N:Nat) (c:Int×(A40 Bool)×(A40 Bool)×Int×Int×Int×Int×(List UInt8)×(List UInt8)×(List xZ2)) (next:(Int×Int×(List xZ0)×(A40 (A40 Bool))×(A40 Bool))→Option (A40 Bool×Int×List xZ0×A40 (A40 Bool))) (v:Int×Int×(List xZ0)×(A40 (A40 Bool))×(A40 Bool)):Option (A40 Bool×Int×List xZ0×A40 (A40 Bool)):=xZ1x N (xZv N) c.1 c.2.1 c.2.2.2.1 c.2.2.2.2.2.1 (fun u0 u1 u2 u3 u4=>next (u0,u1,u2,u3,u4)) v.1 v.2.1 v.2.2.1 v.2.2.2.1 v.2.2.2.2
abbrev xZ8S (N:Nat):(Int×(A40 Bool)×(A40 Bool)×Int×Int×Int×Int×(List UInt8)×(List UInt8)×(List xZ2))×(Int×Int×(List xZ0)×(A40 (A40 Bool))×(A40 Bool))→Option (A40 Bool×Int×List xZ0×A40 (A40 Bool)):=fun a=>loopV (xZ4e N a.1) N a.2
def xZ94:Con tb:=.m 26 [true] (.c (.r 5) .n) .n .n (fun N a=>xZ6n N a.1.1) (R:=List xZ0×A40 (A40 Bool)) (.m (R:=List xZ0×A40 (A40 Bool)) (.ptr 0 0) (.c (.c (.r 5) (.a tb_ok 12 .n)) .n) .n (fun z=>(z.2.1.1.1,z.2.1.1.2.1)) (fun r=>((),((r.1,r.2,()),()),())) (fun _=>rfl))
def xZV:Con tb:=.s 27 [true,false] (.c (.r 5) (.c (.fn 28 .n .n) .n)) (fun N a=>xZx N a.1) (R:=Int) (.p (.i .i64)) (fun _=>⟨rfl,(by kernel_rfl)⟩)
def xZp:LQ tb (((List xZ0)×Int)×(Int)):=(LQ.m [] [0,1,7,8] (.c 0 (.r 5) (.c 1 (.fn 28 .n .n) (.c 7 (.i .i64) (.c 8 (.i .i64) .n)))) .n .n).re (fun a=>((a.1.1,a.1.2.2.1),a.1.2.2.2.1)) (fun x=>((x.1.1,((),()),x.1.2,x.2,()),(),())) (fun _=>rfl)
def xZ1J (N:Nat) (c:(List xZ0)×Int) (next:Int→Option Int) (v:Int):Option Int:=xZr N c.1 c.2 (fun u0=>next u0) v
abbrev xZ3M (N:Nat):((List xZ0)×Int)×(Int)→Option Int:=fun a=>loopV (xZ1J N a.1) N a.2
def xZ1h:Con tb:=.m 54 [false,true] (.c (.ptr 0 0) (.c (.i .i64) .n)) (.c (.c (.r 5) (.c (.i .i64) (.c .s (.c (.i .u8) (.c (.r 3) (.c (.ptr 1 0) .n)))))) (.c (.c (.r 5) (.a tb_ok 12 .n)) .n)) .n (fun N a=>xZl N a.1.2.1 a.2.1.1.1 a.2.1.1.2.1 a.2.1.1.2.2.1 a.2.1.1.2.2.2.1 a.2.1.1.2.2.2.2.1 a.2.1.2.1.1 a.2.1.2.1.2.1) (R:=xZ1×Bool×List xZ0×Int×List UInt8×Int×List xZ1×List xZ0×A40 (A40 Bool)) (.m (R:=xZ1×Bool×List xZ0×Int×List UInt8×Int×List xZ1×List xZ0×A40 (A40 Bool)) (.tu (.c (.el tb_ok 3) (.o .b))) (.c (.c (.r 5) (.c (.i .i64) (.c .s (.c (.i .u8) (.c (.r 3) (.c (.ptr 1 0) .n)))))) (.c (.c (.r 5) (.a tb_ok 12 .n)) .n)) .n (fun z=>(z.1.1,z.1.2,z.2.1.1.1,z.2.1.1.2.1,z.2.1.1.2.2.1,z.2.1.1.2.2.2.1,z.2.1.1.2.2.2.2.1,z.2.1.2.1.1,z.2.1.2.1.2.1)) (fun r=>((r.1,r.2.1),((r.2.2.1,r.2.2.2.1,r.2.2.2.2.1,r.2.2.2.2.2.1,r.2.2.2.2.2.2.1,(),()),(r.2.2.2.2.2.2.2.1,r.2.2.2.2.2.2.2.2,()),()),())) (fun _=>rfl))
def xZ24:Con tb:=.m 29 [false,true,true] (.c (.ptr 0 0) (.c (.i .i64) (.c (.i .i64) .n))) (.c (.c (.r 5) (.c (.i .i64) (.c .s (.c (.i .u8) (.c (.r 3) (.c (.ptr 1 0) .n)))))) (.c (.c (.r 5) (.a tb_ok 12 .n)) .n)) .n (fun N a=>xZ1i N a.1.2.1 a.1.2.2.1 a.2.1.1.1 a.2.1.1.2.1 a.2.1.1.2.2.1 a.2.1.1.2.2.2.1 a.2.1.1.2.2.2.2.1 a.2.1.2.1.1 a.2.1.2.1.2.1) (R:=Int×List xZ0×Int×List UInt8×Int×List xZ1×List xZ0×A40 (A40 Bool)) (.m (R:=Int×List xZ0×Int×List UInt8×Int×List xZ1×List xZ0×A40 (A40 Bool)) (.i .i64) (.c (.c (.r 5) (.c (.i .i64) (.c .s (.c (.i .u8) (.c (.r 3) (.c (.ptr 1 0) .n)))))) (.c (.c (.r 5) (.a tb_ok 12 .n)) .n)) .n (fun z=>(z.1,z.2.1.1.1,z.2.1.1.2.1,z.2.1.1.2.2.1,z.2.1.1.2.2.2.1,z.2.1.1.2.2.2.2.1,z.2.1.2.1.1,z.2.1.2.1.2.1)) (fun r=>(r.1,((r.2.1,r.2.2.1,r.2.2.2.1,r.2.2.2.2.1,r.2.2.2.2.2.1,(),()),(r.2.2.2.2.2.2.1,r.2.2.2.2.2.2.2,()),()),())) (fun _=>rfl))
def xZ11:LQ tb ((Int×Int×(List xZ0)×Int×(List xZ0)×Int×(List UInt8)×Int×(List xZ1)×(List xZ0)×(A40 (A40 Bool))×Int×Int×Int×Int×(List UInt8)×(List UInt8)×(List xZ2))×(Int)):=(LQ.m [] [0,1,2,7,32,33,34] (.c 0 (.ptr 0 0) (.c 1 (.i .i64) (.c 2 (.i .i64) (.c 7 (.ptr 2 0) (.c 32 (.r 5) (.c 33 (.i .i64) (.c 34 (.i .i64) .n))))))) (.c (.c (.r 5) (.c (.i .i64) (.c .s (.c (.i .u8) (.c (.r 3) (.c (.ptr 1 0) .n)))))) (.c (.c (.r 5) (.a tb_ok 12 .n)) (.c (.c (.i .u8) (.c (.i .i64) (.c (.i .i64) (.c (.i .i64) (.c .s (.c .s (.c (.r 4) .n))))))) .n))) .n).re (fun a=>((a.1.2.1,a.1.2.2.1,a.1.2.2.2.2.1,a.1.2.2.2.2.2.1,a.2.1.1.1,a.2.1.1.2.1,a.2.1.1.2.2.1,a.2.1.1.2.2.2.1,a.2.1.1.2.2.2.2.1,a.2.1.2.1.1,a.2.1.2.1.2.1,a.2.1.2.2.1.1,a.2.1.2.2.1.2.1,a.2.1.2.2.1.2.2.1,a.2.1.2.2.1.2.2.2.1,a.2.1.2.2.1.2.2.2.2.1,a.2.1.2.2.1.2.2.2.2.2.1,a.2.1.2.2.1.2.2.2.2.2.2.1),a.1.2.2.2.2.2.2.1)) (fun x=>(((),x.1.1,x.1.2.1,(),x.1.2.2.1,x.1.2.2.2.1,x.2,()),((x.1.2.2.2.2.1,x.1.2.2.2.2.2.1,x.1.2.2.2.2.2.2.1,x.1.2.2.2.2.2.2.2.1,x.1.2.2.2.2.2.2.2.2.1,(),()),(x.1.2.2.2.2.2.2.2.2.2.1,x.1.2.2.2.2.2.2.2.2.2.2.1,()),(x.1.2.2.2.2.2.2.2.2.2.2.2.1,x.1.2.2.2.2.2.2.2.2.2.2.2.2.1,x.1.2.2.2.2.2.2.2.2.2.2.2.2.2.1,x.1.2.2.2.2.2.2.2.2.2.2.2.2.2.2.1,x.1.2.2.2.2.2.2.2.2.2.2.2.2.2.2.2.1,x.1.2.2.2.2.2.2.2.2.2.2.2.2.2.2.2.2.1,x.1.2.2.2.2.2.2.2.2.2.2.2.2.2.2.2.2.2,()),()),())) (fun _=>rfl)
def xZ2L (N:Nat) (c:Int×Int×(List xZ0)×Int×(List xZ0)×Int×(List UInt8)×Int×(List xZ1)×(List xZ0)×(A40 (A40 Bool))×Int×Int×Int×Int×(List UInt8)×(List UInt8)×(List xZ2)) (next:Int→Option (Int×List xZ0×Int×List UInt8×Int×List xZ1×List xZ0×A40 (A40 Bool))) (v:Int):Option (Int×List xZ0×Int×List UInt8×Int×List xZ1×List xZ0×A40 (A40 Bool)):=xZ10 N c.1 c.2.1 c.2.2.1 c.2.2.2.1 c.2.2.2.2.1 c.2.2.2.2.2.1 c.2.2.2.2.2.2.1 c.2.2.2.2.2.2.2.1 c.2.2.2.2.2.2.2.2.1 c.2.2.2.2.2.2.2.2.2.1 c.2.2.2.2.2.2.2.2.2.2.1 c.2.2.2.2.2.2.2.2.2.2.2.2.2.2.2.1 (fun u0=>next u0) v
abbrev xZ6F (N:Nat):(Int×Int×(List xZ0)×Int×(List xZ0)×Int×(List UInt8)×Int×(List xZ1)×(List xZ0)×(A40 (A40 Bool))×Int×Int×Int×Int×(List UInt8)×(List UInt8)×(List xZ2))×(Int)→Option (Int×List xZ0×Int×List UInt8×Int×List xZ1×List xZ0×A40 (A40 Bool)):=fun a=>loopV (xZ2L N a.1) N a.2
def xZ1j:Con tb:=.m 56 [false,true,true] (.c (.ptr 0 0) (.c (.i .i64) (.c (.el tb_ok 4) .n))) (.c (.c (.r 5) (.c (.i .i64) (.c .s (.c (.i .u8) (.c (.r 3) (.c (.ptr 1 0) .n)))))) (.c (.c (.r 5) (.a tb_ok 12 .n)) .n)) .n (fun N a=>xZd N a.1.2.1 a.1.2.2.1 a.2.1.1.1 a.2.1.1.2.1 a.2.1.1.2.2.1 a.2.1.1.2.2.2.1 a.2.1.1.2.2.2.2.1 a.2.1.2.1.1 a.2.1.2.1.2.1) (R:=Int×Int×List xZ0×Int×List UInt8×Int×List xZ1×List xZ0×A40 (A40 Bool)) (.m (R:=Int×Int×List xZ0×Int×List UInt8×Int×List xZ1×List xZ0×A40 (A40 Bool)) (.tu (.c (.i .u8) (.o (.i .i64)))) (.c (.c (.r 5) (.c (.i .i64) (.c .s (.c (.i .u8) (.c (.r 3) (.c (.ptr 1 0) .n)))))) (.c (.c (.r 5) (.a tb_ok 12 .n)) .n)) .n (fun z=>(z.1.1,z.1.2,z.2.1.1.1,z.2.1.1.2.1,z.2.1.1.2.2.1,z.2.1.1.2.2.2.1,z.2.1.1.2.2.2.2.1,z.2.1.2.1.1,z.2.1.2.1.2.1)) (fun r=>((r.1,r.2.1),((r.2.2.1,r.2.2.2.1,r.2.2.2.2.1,r.2.2.2.2.2.1,r.2.2.2.2.2.2.1,(),()),(r.2.2.2.2.2.2.2.1,r.2.2.2.2.2.2.2.2,()),()),())) (fun _=>rfl))
def xZ5x:Con tb:=.s 170 [true] (.c (.i .u8) .n) (fun N a=>xZ2t N a.1) (R:=Bool) (.p .b) (fun _=>⟨rfl,(by kernel_rfl)⟩)
def xZ7c:Con tb:=.s 144 [true,true] (.c (.i .u8) (.c (.i .u8) .n)) (fun N a=>xZA N a.1 a.2.1) (R:=Int) (.p (.i .u8)) (fun _=>⟨rfl,(by kernel_rfl)⟩)
def xZR:Con tb:=.m 103 [false,true,true] (.c (.ptr 0 0) (.c (.i .i64) (.c (.i .i64) .n))) (.c (.c (.r 5) (.c (.i .i64) (.c .s (.c (.i .u8) (.c (.r 3) (.c (.ptr 1 0) .n)))))) (.c (.c (.r 5) (.a tb_ok 12 .n)) .n)) .n (fun N a=>xZa N a.1.2.1 a.1.2.2.1 a.2.1.1.1 a.2.1.1.2.1 a.2.1.1.2.2.1 a.2.1.1.2.2.2.1 a.2.1.1.2.2.2.2.1 a.2.1.2.1.1 a.2.1.2.1.2.1) (R:=Int×Int×List xZ0×Int×List UInt8×Int×List xZ1×List xZ0×A40 (A40 Bool)) (.m (R:=Int×Int×List xZ0×Int×List UInt8×Int×List xZ1×List xZ0×A40 (A40 Bool)) (.tu (.c (.i .u8) (.o (.i .i64)))) (.c (.c (.r 5) (.c (.i .i64) (.c .s (.c (.i .u8) (.c (.r 3) (.c (.ptr 1 0) .n)))))) (.c (.c (.r 5) (.a tb_ok 12 .n)) .n)) .n (fun z=>(z.1.1,z.1.2,z.2.1.1.1,z.2.1.1.2.1,z.2.1.1.2.2.1,z.2.1.1.2.2.2.1,z.2.1.1.2.2.2.2.1,z.2.1.2.1.1,z.2.1.2.1.2.1)) (fun r=>((r.1,r.2.1),((r.2.2.1,r.2.2.2.1,r.2.2.2.2.1,r.2.2.2.2.2.1,r.2.2.2.2.2.2.1,(),()),(r.2.2.2.2.2.2.2.1,r.2.2.2.2.2.2.2.2,()),()),())) (fun _=>rfl))
def xZ9m:Con tb:=.s 104 [true,true,true] (.c (.i .u8) (.c (.i .u8) (.c (.i .u8) .n))) (fun N a=>xZK N a.1 a.2.1 a.2.2.1) (R:=Bool) (.p .b) (fun _=>⟨rfl,(by kernel_rfl)⟩)
def xZ2g:Con tb:=.m 57 [false,true,true] (.c (.ptr 0 0) (.c (.i .i64) (.c (.i .i64) .n))) (.c (.c (.r 5) (.c (.i .i64) (.c .s (.c (.i .u8) (.c (.r 3) (.c (.ptr 1 0) .n)))))) (.c (.c (.r 5) (.a tb_ok 12 .n)) .n)) .n (fun N a=>xZ1r N a.1.2.1 a.1.2.2.1 a.2.1.1.1 a.2.1.1.2.1 a.2.1.1.2.2.1 a.2.1.1.2.2.2.1 a.2.1.1.2.2.2.2.1 a.2.1.2.1.1 a.2.1.2.1.2.1) (R:=Bool×List xZ0×Int×List UInt8×Int×List xZ1×List xZ0×A40 (A40 Bool)) (.m (R:=Bool×List xZ0×Int×List UInt8×Int×List xZ1×List xZ0×A40 (A40 Bool)) .b (.c (.c (.r 5) (.c (.i .i64) (.c .s (.c (.i .u8) (.c (.r 3) (.c (.ptr 1 0) .n)))))) (.c (.c (.r 5) (.a tb_ok 12 .n)) .n)) .n (fun z=>(z.1,z.2.1.1.1,z.2.1.1.2.1,z.2.1.1.2.2.1,z.2.1.1.2.2.2.1,z.2.1.1.2.2.2.2.1,z.2.1.2.1.1,z.2.1.2.1.2.1)) (fun r=>(r.1,((r.2.1,r.2.2.1,r.2.2.2.1,r.2.2.2.2.1,r.2.2.2.2.2.1,(),()),(r.2.2.2.2.2.2.1,r.2.2.2.2.2.2.2,()),()),())) (fun _=>rfl))
def xZ2k:Con tb:=.m 30 [false,true] (.c (.ptr 0 0) (.c (.i .i64) .n)) (.c (.c (.r 5) (.c (.i .i64) (.c .s (.c (.i .u8) (.c (.r 3) (.c (.ptr 1 0) .n)))))) (.c (.c (.r 5) (.a tb_ok 12 .n)) .n)) .n (fun N a=>xZ1s N a.1.2.1 a.2.1.1.1 a.2.1.1.2.1 a.2.1.1.2.2.1 a.2.1.1.2.2.2.1 a.2.1.1.2.2.2.2.1 a.2.1.2.1.1 a.2.1.2.1.2.1) (R:=Int×List xZ0×Int×List UInt8×Int×List xZ1×List xZ0×A40 (A40 Bool)) (.m (R:=Int×List xZ0×Int×List UInt8×Int×List xZ1×List xZ0×A40 (A40 Bool)) (.i .i64) (.c (.c (.r 5) (.c (.i .i64) (.c .s (.c (.i .u8) (.c (.r 3) (.c (.ptr 1 0) .n)))))) (.c (.c (.r 5) (.a tb_ok 12 .n)) .n)) .n (fun z=>(z.1,z.2.1.1.1,z.2.1.1.2.1,z.2.1.1.2.2.1,z.2.1.1.2.2.2.1,z.2.1.1.2.2.2.2.1,z.2.1.2.1.1,z.2.1.2.1.2.1)) (fun r=>(r.1,((r.2.1,r.2.2.1,r.2.2.2.1,r.2.2.2.2.1,r.2.2.2.2.2.1,(),()),(r.2.2.2.2.2.2.1,r.2.2.2.2.2.2.2,()),()),())) (fun _=>rfl))
def xZ16:LQ tb ((Int×(List xZ2)×(List xZ2)×Int)×(Int×(List xZ0)×Int×(List UInt8)×Int×(List xZ1)×(List xZ0)×(A40 (A40 Bool)))):=(LQ.m [] [0,1,5,20,21,22] (.c 0 (.ptr 0 0) (.c 1 (.i .i64) (.c 5 (.r 4) (.c 20 (.r 4) (.c 21 (.i .i64) (.c 22 (.i .i64) .n)))))) (.c (.c (.r 5) (.c (.i .i64) (.c .s (.c (.i .u8) (.c (.r 3) (.c (.ptr 1 0) .n)))))) (.c (.c (.r 5) (.a tb_ok 12 .n)) .n)) .n).re (fun a=>((a.1.2.1,a.1.2.2.1,a.1.2.2.2.1,a.1.2.2.2.2.1),(a.1.2.2.2.2.2.1,a.2.1.1.1,a.2.1.1.2.1,a.2.1.1.2.2.1,a.2.1.1.2.2.2.1,a.2.1.1.2.2.2.2.1,a.2.1.2.1.1,a.2.1.2.1.2.1))) (fun x=>(((),x.1.1,x.1.2.1,x.1.2.2.1,x.1.2.2.2,x.2.1,()),((x.2.2.1,x.2.2.2.1,x.2.2.2.2.1,x.2.2.2.2.2.1,x.2.2.2.2.2.2.1,(),()),(x.2.2.2.2.2.2.2.1,x.2.2.2.2.2.2.2.2,()),()),())) (fun _=>rfl)
def xZ1a:LQ tb ((Int×Int)×(Int×(List xZ0)×Int×(List UInt8)×Int×(List xZ1)×(List xZ0)×(A40 (A40 Bool)))):=(LQ.m [] [0,1,46,47] (.c 0 (.ptr 0 0) (.c 1 (.i .i64) (.c 46 (.i .i64) (.c 47 (.i .i64) .n)))) (.c (.c (.r 5) (.c (.i .i64) (.c .s (.c (.i .u8) (.c (.r 3) (.c (.ptr 1 0) .n)))))) (.c (.c (.r 5) (.a tb_ok 12 .n)) .n)) .n).re (fun a=>((a.1.2.1,a.1.2.2.1),(a.1.2.2.2.1,a.2.1.1.1,a.2.1.1.2.1,a.2.1.1.2.2.1,a.2.1.1.2.2.2.1,a.2.1.1.2.2.2.2.1,a.2.1.2.1.1,a.2.1.2.1.2.1))) (fun x=>(((),x.1.1,x.1.2,x.2.1,()),((x.2.2.1,x.2.2.2.1,x.2.2.2.2.1,x.2.2.2.2.2.1,x.2.2.2.2.2.2.1,(),()),(x.2.2.2.2.2.2.2.1,x.2.2.2.2.2.2.2.2,()),()),())) (fun _=>rfl)
def xZ3h (N:Nat) (c:Int×Int) (next:(Int×(List xZ0)×Int×(List UInt8)×Int×(List xZ1)×(List xZ0)×(A40 (A40 Bool)))→Option (Int×List xZ0×Int×List UInt8×Int×List xZ1×List xZ0×A40 (A40 Bool))) (v:Int×(List xZ0)×Int×(List UInt8)×Int×(List xZ1)×(List xZ0)×(A40 (A40 Bool))):Option (Int×List xZ0×Int×List UInt8×Int×List xZ1×List xZ0×A40 (A40 Bool)):=xZ1O N c.1 c.2 (fun u0 u1 u2 u3 u4 u5 u6 u7=>next (u0,u1,u2,u3,u4,u5,u6,u7)) v.1 v.2.1 v.2.2.1 v.2.2.2.1 v.2.2.2.2.1 v.2.2.2.2.2.1 v.2.2.2.2.2.2.1 v.2.2.2.2.2.2.2
abbrev xZ77 (N:Nat):(Int×Int)×(Int×(List xZ0)×Int×(List UInt8)×Int×(List xZ1)×(List xZ0)×(A40 (A40 Bool)))→Option (Int×List xZ0×Int×List UInt8×Int×List xZ1×List xZ0×A40 (A40 Bool)):=fun a=>loopV (xZ3h N a.1) N a.2
def xZ3q (N:Nat) (c:Int×(List xZ2)×(List xZ2)×Int) (next:(Int×(List xZ0)×Int×(List UInt8)×Int×(List xZ1)×(List xZ0)×(A40 (A40 Bool)))→Option (Int×List xZ0×Int×List UInt8×Int×List xZ1×List xZ0×A40 (A40 Bool))) (v:Int×(List xZ0)×Int×(List UInt8)×Int×(List xZ1)×(List xZ0)×(A40 (A40 Bool))):Option (Int×List xZ0×Int×List UInt8×Int×List xZ1×List xZ0×A40 (A40 Bool)):=xZ1Q N c.1 c.2.1 c.2.2.1 c.2.2.2 (fun u0 u1 u2 u3 u4 u5 u6 u7=>next (u0,u1,u2,u3,u4,u5,u6,u7)) v.1 v.2.1 v.2.2.1 v.2.2.2.1 v.2.2.2.2.1 v.2.2.2.2.2.1 v.2.2.2.2.2.2.1 v.2.2.2.2.2.2.2
abbrev xZ6V (N:Nat):(Int×(List xZ2)×(List xZ2)×Int)×(Int×(List xZ0)×Int×(List UInt8)×Int×(List xZ1)×(List xZ0)×(A40 (A40 Bool)))→Option (Int×List xZ0×Int×List UInt8×Int×List xZ1×List xZ0×A40 (A40 Bool)):=fun a=>loopV (xZ3q N a.1) N a.2
def xZ4Q:Con tb:=.p 59 [true,true] (.c (.el tb_ok 10) (.c (.el tb_ok 10) .n)) (fun N a=>xZ1G N a.1 a.2.1) (R:=A40 Bool) (.p (.el tb_ok 10)) (fun _=>rfl)
def xZ2s:LQ tb (((A40 Bool)×(A40 Bool))×(Int×(A40 Bool))):=(LQ.m [] [2,3,4,6] (.c 2 (.ptr 0 0) (.c 3 (.ptr 1 0) (.c 4 (.ptr 2 0) (.c 6 (.i .i64) .n)))) (.c (.a tb_ok 10 .n) (.c (.a tb_ok 10 .n) (.c (.a tb_ok 10 .n) .n))) .n).re (fun a=>((a.2.1.2.1.1,a.2.1.2.2.1.1),(a.1.2.2.2.1,a.2.1.1.1))) (fun x=>(((),(),(),x.2.1,()),((x.2.2,()),(x.1.1,()),(x.1.2,()),()),())) (fun _=>rfl)
def xZ6v (N:Nat) (c:(A40 Bool)×(A40 Bool)) (next:(Int×(A40 Bool))→Option (A40 Bool)) (v:Int×(A40 Bool)):Option (A40 Bool):=xZ3S N c.1 (fun u0 u1=>next (u0,u1)) v.1 v.2
abbrev xZby (N:Nat):((A40 Bool)×(A40 Bool))×(Int×(A40 Bool))→Option (A40 Bool):=fun a=>loopV (xZ6v N a.1) N a.2
def xZ1e:Con tb:=.m 31 [false,true] (.c (.ptr 0 0) (.c (.i .i64) .n)) (.c (.c (.r 5) (.a tb_ok 10 .n)) .n) .n (fun N a=>xZ4F N a.1.2.1 a.2.1.1.1 a.2.1.1.2.1) (R:=Bool×A40 Bool×Int×List xZ0×A40 Bool) (.m (R:=Bool×A40 Bool×Int×List xZ0×A40 Bool) (.tu (.c .b (.c (.el tb_ok 10) (.o (.i .i64))))) (.c (.c (.r 5) (.a tb_ok 10 .n)) .n) .n (fun z=>(z.1.1,z.1.2.1,z.1.2.2,z.2.1.1.1,z.2.1.1.2.1)) (fun r=>((r.1,r.2.1,r.2.2.1),((r.2.2.2.1,r.2.2.2.2,()),()),())) (fun _=>rfl))
def xZ1u:LQ tb ((Int×(A40 Bool)×Int×Int×Int×Int×(List UInt8)×(List UInt8)×(List xZ2))×(Bool×Int×Int×(List xZ0)×(A40 Bool)×(A40 Bool))):=(LQ.m [] [0,5,7,9,10,11,35,36] (.c 0 (.ptr 0 0) (.c 5 (.ptr 1 0) (.c 7 (.ptr 2 0) (.c 9 (.ptr 3 0) (.c 10 .b (.c 11 (.i .i64) (.c 35 (.i .i64) (.c 36 (.i .i64) .n)))))))) (.c (.c (.r 5) (.a tb_ok 10 .n)) (.c (.a tb_ok 10 .n) (.c (.c (.i .u8) (.c (.i .i64) (.c (.i .i64) (.c (.i .i64) (.c .s (.c .s (.c (.r 4) .n))))))) (.c (.a tb_ok 10 .n) .n)))) .n).re (fun a=>((a.1.2.2.2.2.2.2.1,a.2.1.2.1.1,a.2.1.2.2.1.1,a.2.1.2.2.1.2.1,a.2.1.2.2.1.2.2.1,a.2.1.2.2.1.2.2.2.1,a.2.1.2.2.1.2.2.2.2.1,a.2.1.2.2.1.2.2.2.2.2.1,a.2.1.2.2.1.2.2.2.2.2.2.1),(a.1.2.2.2.2.1,a.1.2.2.2.2.2.1,a.1.2.2.2.2.2.2.2.1,a.2.1.1.1,a.2.1.1.2.1,a.2.1.2.2.2.1.1))) (fun x=>(((),(),(),(),x.2.1,x.2.2.1,x.1.1,x.2.2.2.1,()),((x.2.2.2.2.1,x.2.2.2.2.2.1,()),(x.1.2.1,()),(x.1.2.2.1,x.1.2.2.2.1,x.1.2.2.2.2.1,x.1.2.2.2.2.2.1,x.1.2.2.2.2.2.2.1,x.1.2.2.2.2.2.2.2.1,x.1.2.2.2.2.2.2.2.2,()),(x.2.2.2.2.2.2,()),()),())) (fun _=>rfl)
def xZ3T (N:Nat) (c:Int×(A40 Bool)×Int×Int×Int×Int×(List UInt8)×(List UInt8)×(List xZ2)) (next:(Bool×Int×Int×(List xZ0)×(A40 Bool)×(A40 Bool))→Option (Bool×A40 Bool×Int×List xZ0×A40 Bool)) (v:Bool×Int×Int×(List xZ0)×(A40 Bool)×(A40 Bool)):Option (Bool×A40 Bool×Int×List xZ0×A40 Bool):=xZ1w N (xZq N) c.1 c.2.2.1 c.2.2.2.2.1 (fun u0 u1 u2 u3 u4 u5=>next (u0,u1,u2,u3,u4,u5)) v.1 v.2.1 v.2.2.1 v.2.2.2.1 v.2.2.2.2.1 v.2.2.2.2.2
abbrev xZ8v (N:Nat):(Int×(A40 Bool)×Int×Int×Int×Int×(List UInt8)×(List UInt8)×(List xZ2))×(Bool×Int×Int×(List xZ0)×(A40 Bool)×(A40 Bool))→Option (Bool×A40 Bool×Int×List xZ0×A40 Bool):=fun a=>loopV (xZ3T N a.1) N a.2
def xZ9S:Con tb:=.s 11 [true,true] (.c (.el tb_ok 9) (.c (.r 3) .n)) (fun N a=>xZ3X N a.1 a.2.1) (R:=Int×Int) (.p (.tu (.c (.i .i64) (.o (.i .i64))))) (fun _=>⟨rfl,(by kernel_rfl)⟩)
def xZ54:LQ tb ((Int×(List xZ0)×Int×(List xZ0)×Int×(List UInt8)×Int)×(Int×(List xZ0)×Int×(List UInt8)×Int×(List xZ1)×(List xZ0)×(A40 (A40 Bool)))):=(LQ.m [] [2,6,7,38,39,40] (.c 2 (.ptr 0 0) (.c 6 (.ptr 1 0) (.c 7 (.i .i64) (.c 38 (.r 5) (.c 39 (.i .i64) (.c 40 (.i .i64) .n)))))) (.c (.c (.r 5) (.c (.i .i64) (.c .s (.c (.i .u8) .n)))) (.c (.c (.r 5) (.c (.i .i64) (.c .s (.c (.i .u8) (.c (.r 3) (.c (.ptr 2 0) .n)))))) (.c (.c (.r 5) (.a tb_ok 12 .n)) .n))) .n).re (fun a=>((a.1.2.2.1,a.1.2.2.2.1,a.1.2.2.2.2.1,a.2.1.1.1,a.2.1.1.2.1,a.2.1.1.2.2.1,a.2.1.1.2.2.2.1),(a.1.2.2.2.2.2.1,a.2.1.2.1.1,a.2.1.2.1.2.1,a.2.1.2.1.2.2.1,a.2.1.2.1.2.2.2.1,a.2.1.2.1.2.2.2.2.1,a.2.1.2.2.1.1,a.2.1.2.2.1.2.1))) (fun x=>(((),(),x.1.1,x.1.2.1,x.1.2.2.1,x.2.1,()),((x.1.2.2.2.1,x.1.2.2.2.2.1,x.1.2.2.2.2.2.1,x.1.2.2.2.2.2.2,()),(x.2.2.1,x.2.2.2.1,x.2.2.2.2.1,x.2.2.2.2.2.1,x.2.2.2.2.2.2.1,(),()),(x.2.2.2.2.2.2.2.1,x.2.2.2.2.2.2.2.2,()),()),())) (fun _=>rfl)
def xZ56:LQ tb ((Int×(List xZ0)×Int×(List UInt8)×Int)×(Int×(List xZ0)×Int×(List UInt8)×Int×(List xZ1)×(List xZ0)×(A40 (A40 Bool)))):=(LQ.m [] [2,6,59,60] (.c 2 (.ptr 0 0) (.c 6 (.ptr 1 0) (.c 59 (.i .i64) (.c 60 (.i .i64) .n)))) (.c (.c (.r 5) (.c (.i .i64) (.c .s (.c (.i .u8) .n)))) (.c (.c (.r 5) (.c (.i .i64) (.c .s (.c (.i .u8) (.c (.r 3) (.c (.ptr 2 0) .n)))))) (.c (.c (.r 5) (.a tb_ok 12 .n)) .n))) .n).re (fun a=>((a.1.2.2.1,a.2.1.1.1,a.2.1.1.2.1,a.2.1.1.2.2.1,a.2.1.1.2.2.2.1),(a.1.2.2.2.1,a.2.1.2.1.1,a.2.1.2.1.2.1,a.2.1.2.1.2.2.1,a.2.1.2.1.2.2.2.1,a.2.1.2.1.2.2.2.2.1,a.2.1.2.2.1.1,a.2.1.2.2.1.2.1))) (fun x=>(((),(),x.1.1,x.2.1,()),((x.1.2.1,x.1.2.2.1,x.1.2.2.2.1,x.1.2.2.2.2,()),(x.2.2.1,x.2.2.2.1,x.2.2.2.2.1,x.2.2.2.2.2.1,x.2.2.2.2.2.2.1,(),()),(x.2.2.2.2.2.2.2.1,x.2.2.2.2.2.2.2.2,()),()),())) (fun _=>rfl)
def xZ5g:LQ tb ((Bool×(List xZ0)×Int×(List xZ0)×(A40 Bool)×(A40 Bool))×(Int)):=(LQ.m [] [13,14,15,82,83,84] (.c 13 (.ptr 0 0) (.c 14 .b (.c 15 (.ptr 1 0) (.c 82 (.r 5) (.c 83 (.i .i64) (.c 84 (.i .i64) .n)))))) (.c (.c (.r 5) (.a tb_ok 10 .n)) (.c (.a tb_ok 10 .n) .n)) .n).re (fun a=>((a.1.2.1,a.1.2.2.2.1,a.1.2.2.2.2.1,a.2.1.1.1,a.2.1.1.2.1,a.2.1.2.1.1),a.1.2.2.2.2.2.1)) (fun x=>(((),x.1.1,(),x.1.2.1,x.1.2.2.1,x.2,()),((x.1.2.2.2.1,x.1.2.2.2.2.1,()),(x.1.2.2.2.2.2,()),()),())) (fun _=>rfl)
def xZaV (N:Nat) (c:Bool×(List xZ0)×Int×(List xZ0)×(A40 Bool)×(A40 Bool)) (next:Int→Option (Int×Int)) (v:Int):Option (Int×Int):=xZ8r N c.1 c.2.1 c.2.2.1 c.2.2.2.2.1 c.2.2.2.2.2 (fun u0=>next u0) v
abbrev xZfB (N:Nat):(Bool×(List xZ0)×Int×(List xZ0)×(A40 Bool)×(A40 Bool))×(Int)→Option (Int×Int):=fun a=>loopV (xZaV N a.1) N a.2
def xZaS (N:Nat) (c:Int×(List xZ0)×Int×(List UInt8)×Int) (next:(Int×(List xZ0)×Int×(List UInt8)×Int×(List xZ1)×(List xZ0)×(A40 (A40 Bool)))→Option (Int×Int)) (v:Int×(List xZ0)×Int×(List UInt8)×Int×(List xZ1)×(List xZ0)×(A40 (A40 Bool))):Option (Int×Int):=xZ8b N c.1 c.2.1 (fun u0 u1 u2 u3 u4 u5 u6 u7=>next (u0,u1,u2,u3,u4,u5,u6,u7)) v.1 v.2.1 v.2.2.1 v.2.2.2.1 v.2.2.2.2.1 v.2.2.2.2.2.1 v.2.2.2.2.2.2.1 v.2.2.2.2.2.2.2
abbrev xZfi (N:Nat):(Int×(List xZ0)×Int×(List UInt8)×Int)×(Int×(List xZ0)×Int×(List UInt8)×Int×(List xZ1)×(List xZ0)×(A40 (A40 Bool)))→Option (Int×Int):=fun a=>loopV (xZaS N a.1) N a.2
def xZaT (N:Nat) (c:Int×(List xZ0)×Int×(List xZ0)×Int×(List UInt8)×Int) (next:(Int×(List xZ0)×Int×(List UInt8)×Int×(List xZ1)×(List xZ0)×(A40 (A40 Bool)))→Option (Int×Int)) (v:Int×(List xZ0)×Int×(List UInt8)×Int×(List xZ1)×(List xZ0)×(A40 (A40 Bool))):Option (Int×Int):=xZ8f N c.1 c.2.1 c.2.2.1 c.2.2.2.1 (fun u0 u1 u2 u3 u4 u5 u6 u7=>next (u0,u1,u2,u3,u4,u5,u6,u7)) v.1 v.2.1 v.2.2.1 v.2.2.2.1 v.2.2.2.2.1 v.2.2.2.2.2.1 v.2.2.2.2.2.2.1 v.2.2.2.2.2.2.2
abbrev xZfz (N:Nat):(Int×(List xZ0)×Int×(List xZ0)×Int×(List UInt8)×Int)×(Int×(List xZ0)×Int×(List UInt8)×Int×(List xZ1)×(List xZ0)×(A40 (A40 Bool)))→Option (Int×Int):=fun a=>loopV (xZaT N a.1) N a.2
def xZ6G:Con tb:=.s 107 [true] (.c .s .n) (fun N a=>xZ4q N a.1) (R:=Bool) (.p .b) (fun _=>⟨rfl,(by kernel_rfl)⟩)
def xZ3a:LQ tb (((List UInt8)×(List (List UInt8)))×(Int)):=(LQ.m [] [0,3,4] (.c 0 .s (.c 3 (.own 0) (.c 4 (.i .i64) .n))) .n (.l 1 .n)).re (fun a=>((a.1.1,a.2.2.1),a.1.2.2.1)) (fun x=>((x.1.1,(),x.2,()),(),x.1.2,())) (fun _=>rfl)
def xZ8J (N:Nat) (c:(List UInt8)×(List (List UInt8))) (next:Int→Option Bool) (v:Int):Option Bool:=xZ1H N c.1 c.2 (fun u0=>next u0) v
abbrev xZd1 (N:Nat):((List UInt8)×(List (List UInt8)))×(Int)→Option Bool:=fun a=>loopV (xZ8J N a.1) N a.2
def xZ4R:Con tb:=.s 61 [true] (.c .s .n) (fun N a=>xZ1f N a.1) (R:=Bool) (.p .b) (fun _=>⟨rfl,(by kernel_rfl)⟩)
def xZ64:LQ tb (((List UInt8))×(Int)):=(LQ.m [] [0,3] (.c 0 .s (.c 3 (.i .i64) .n)) .n .n).re (fun a=>(a.1.1,a.1.2.1)) (fun x=>((x.1,x.2,()),(),())) (fun _=>rfl)
def xZcb (N:Nat) (c:(List UInt8)) (next:Int→Option Bool) (v:Int):Option Bool:=xZ3b N c (fun u0=>next u0) v
abbrev xZge (N:Nat):((List UInt8))×(Int)→Option Bool:=fun a=>loopV (xZcb N a.1) N a.2
def xZcC:Con tb:=.s 189 [true,true] (.c (.i .u8) (.c (.i .i64) .n)) (fun N a=>xZau N a.1 a.2.1) (R:=Bool) (.p .b) (fun _=>⟨rfl,(by kernel_rfl)⟩)
def xZcE:Con tb:=.s 213 [true] (.c (.i .u64) .n) (fun N a=>xZ3W N a.1) (R:=Int) (.p (.i .i64)) (fun _=>⟨rfl,(by kernel_rfl)⟩)
def xZbo:Con tb:=.s 214 [true] (.c (.i .u64) .n) (fun N a=>xZ4L N a.1) (R:=Int) (.p (.i .u64)) (fun _=>⟨rfl,(by kernel_rfl)⟩)
def xZbC:Con tb:=.s 209 [true] (.c (.i .u64) .n) (fun N a=>xZ99 N a.1) (R:=Int) (.p (.i .u8)) (fun _=>⟨rfl,(by kernel_rfl)⟩)
def xZao:Con tb:=.s 205 [true] (.c (.i .u64) .n) (fun N a=>xZ2K N a.1) (R:=Int) (.p (.i .u64)) (fun _=>⟨rfl,(by kernel_rfl)⟩)
def xZ9L:Con tb:=.s 200 [true] (.c (.el tb_ok 8) .n) (fun N a=>xZ5k N a.1) (R:=Int) (.p (.i .i64)) (fun _=>⟨rfl,(by kernel_rfl)⟩)
def xZ9K:Con tb:=.s 190 [true] (.c (.el tb_ok 4) .n) (fun N a=>xZ7H N a.1) (R:=Int) (.p (.i .i64)) (fun _=>⟨rfl,(by kernel_rfl)⟩)
def xZaq:LQ tb ((Bool×Int×Int×(List UInt8)×(List UInt8)×Int×Int×Int×(List UInt8))×(Unit)):=(LQ.m [] [1,3,4] (.c 1 (.ptr 0 0) (.c 3 (.ptr 1 0) (.c 4 .b .n))) (.c (.c (.i .u8) (.c (.i .u8) (.c .s (.c .s (.c (.i .u8) (.c (.i .i64) (.c (.i .u64) (.c .s .n)))))))) (.c (.c (.li .u8 0) (.c (.li .i64 0) (.c (.li .u64 0) (.c (.ls []) .n)))) .n)) .n).re (fun a=>((a.1.2.2.1,a.2.1.1.1,a.2.1.1.2.1,a.2.1.1.2.2.1,a.2.1.1.2.2.2.1,a.2.1.1.2.2.2.2.1,a.2.1.1.2.2.2.2.2.1,a.2.1.1.2.2.2.2.2.2.1,a.2.1.1.2.2.2.2.2.2.2.1),())) (fun x=>(((),(),x.1.1,()),((x.1.2.1,x.1.2.2.1,x.1.2.2.2.1,x.1.2.2.2.2.1,x.1.2.2.2.2.2.1,x.1.2.2.2.2.2.2.1,x.1.2.2.2.2.2.2.2.1,x.1.2.2.2.2.2.2.2.2,()),((),(),(),(),()),()),())) (fun _=>rfl)
abbrev xZ9E (N:Nat):(Bool×Int×Int×(List UInt8)×(List UInt8)×Int×Int×Int×(List UInt8))×(Unit)→Option Int:=fun a=>xZ1o N a.1.1 a.1.2.1 a.1.2.2.1 a.1.2.2.2.1 a.1.2.2.2.2.1 a.1.2.2.2.2.2.1 a.1.2.2.2.2.2.2.1 a.1.2.2.2.2.2.2.2.1 a.1.2.2.2.2.2.2.2.2
def xZbs:Con tb:=.s 191 [true] (.c (.i .u8) .n) (fun N a=>xZ98 N a.1) (R:=Int) (.p (.i .i64)) (fun _=>⟨rfl,(by kernel_rfl)⟩)
def xZcz:Con tb:=.s 192 [true,true] (.c (.i .u8) (.c (.i .i64) .n)) (fun N a=>xZaw N a.1 a.2.1) (R:=Int) (.p (.i .i64)) (fun _=>⟨rfl,(by kernel_rfl)⟩)
def xZ6y:Con tb:=.s 171 [true,true,true,true] (.c (.r 4) (.c (.i .i64) (.c (.i .i64) (.c (.i .i64) .n)))) (fun N a=>xZeW N a.1 a.2.1 a.2.2.1 a.2.2.2.1) (R:=Int×Int) (.p (.tu (.c (.i .i64) (.o (.i .i64))))) (fun _=>⟨rfl,(by kernel_rfl)⟩)
def xZ6f:LQ tb (((List xZ2)×Int×Int×Int×(List UInt8)×(List UInt8)×Int×Int×Int×(List UInt8))×(Int×Int)):=(LQ.m [] [0,1,3,10,12] (.c 0 (.r 4) (.c 1 (.i .i64) (.c 3 (.i .i64) (.c 10 (.ptr 0 0) (.c 12 (.i .i64) .n))))) (.c (.c (.i .u8) (.c (.i .u8) (.c .s (.c .s (.c (.i .u8) (.c (.i .i64) (.c (.i .u64) (.c .s .n)))))))) .n) .n).re (fun a=>((a.1.1,a.1.2.2.1,a.2.1.1.1,a.2.1.1.2.1,a.2.1.1.2.2.1,a.2.1.1.2.2.2.1,a.2.1.1.2.2.2.2.1,a.2.1.1.2.2.2.2.2.1,a.2.1.1.2.2.2.2.2.2.1,a.2.1.1.2.2.2.2.2.2.2.1),(a.1.2.1,a.1.2.2.2.2.1))) (fun x=>((x.1.1,x.2.1,x.1.2.1,(),x.2.2,()),((x.1.2.2.1,x.1.2.2.2.1,x.1.2.2.2.2.1,x.1.2.2.2.2.2.1,x.1.2.2.2.2.2.2.1,x.1.2.2.2.2.2.2.2.1,x.1.2.2.2.2.2.2.2.2.1,x.1.2.2.2.2.2.2.2.2.2,()),()),())) (fun _=>rfl)
def xZci (N:Nat) (c:(List xZ2)×Int×Int×Int×(List UInt8)×(List UInt8)×Int×Int×Int×(List UInt8)) (next:(Int×Int)→Option (Int×Int)) (v:Int×Int):Option (Int×Int):=xZ6b N (xZ43 N) c.1 c.2.1 c.2.2.1 (fun u0 u1=>next (u0,u1)) v.1 v.2
abbrev xZgB (N:Nat):((List xZ2)×Int×Int×Int×(List UInt8)×(List UInt8)×Int×Int×Int×(List UInt8))×(Int×Int)→Option (Int×Int):=fun a=>loopV (xZci N a.1) N a.2
def xZac:Con tb:=.s 145 [true] (.c (.r 4) .n) (fun N a=>xZ7z N a.1) (R:=Int) (.p (.i .i64)) (fun _=>⟨rfl,(by kernel_rfl)⟩)
def xZ9G:Con tb:=.s 105 [true] (.c (.el tb_ok 5) .n) (fun N a=>xZ2V N a.1) (R:=Int) (.p (.i .i64)) (fun _=>⟨rfl,(by kernel_rfl)⟩)
def xZ9F:LQ tb ((Bool×Int×Int×Int×Int×(List UInt8)×(List UInt8)×(List xZ2))×(Unit)):=(LQ.m [] [1,3] (.c 1 (.ptr 0 0) (.c 3 .b .n)) (.c (.c (.i .u8) (.c (.i .i64) (.c (.i .i64) (.c (.i .i64) (.c .s (.c .s (.c (.r 4) .n))))))) .n) .n).re (fun a=>((a.1.2.1,a.2.1.1.1,a.2.1.1.2.1,a.2.1.1.2.2.1,a.2.1.1.2.2.2.1,a.2.1.1.2.2.2.2.1,a.2.1.1.2.2.2.2.2.1,a.2.1.1.2.2.2.2.2.2.1),())) (fun x=>(((),x.1.1,()),((x.1.2.1,x.1.2.2.1,x.1.2.2.2.1,x.1.2.2.2.2.1,x.1.2.2.2.2.2.1,x.1.2.2.2.2.2.2.1,x.1.2.2.2.2.2.2.2,()),()),())) (fun _=>rfl)
def xZ9D:LQ tb ((Bool×Bool×Int×Int×Int×Int×(List UInt8)×(List UInt8)×(List xZ2))×(Unit)):=(LQ.m [] [1,3,4] (.c 1 (.ptr 0 0) (.c 3 .b (.c 4 .b .n))) (.c (.c (.i .u8) (.c (.i .i64) (.c (.i .i64) (.c (.i .i64) (.c .s (.c .s (.c (.r 4) .n))))))) .n) .n).re (fun a=>((a.1.2.1,a.1.2.2.1,a.2.1.1.1,a.2.1.1.2.1,a.2.1.1.2.2.1,a.2.1.1.2.2.2.1,a.2.1.1.2.2.2.2.1,a.2.1.1.2.2.2.2.2.1,a.2.1.1.2.2.2.2.2.2.1),())) (fun x=>(((),x.1.1,x.1.2.1,()),((x.1.2.2.1,x.1.2.2.2.1,x.1.2.2.2.2.1,x.1.2.2.2.2.2.1,x.1.2.2.2.2.2.2.1,x.1.2.2.2.2.2.2.2.1,x.1.2.2.2.2.2.2.2.2,()),()),())) (fun _=>rfl)
def xZ9P:LQ tb ((Bool×Bool×Int×Int×Int×Int×(List UInt8)×(List UInt8)×(List xZ2))×(Unit)):=(LQ.m [] [1,3,31] (.c 1 (.ptr 0 0) (.c 3 .b (.c 31 .b .n))) (.c (.c (.i .u8) (.c (.i .i64) (.c (.i .i64) (.c (.i .i64) (.c .s (.c .s (.c (.r 4) .n))))))) .n) .n).re (fun a=>((a.1.2.1,a.1.2.2.1,a.2.1.1.1,a.2.1.1.2.1,a.2.1.1.2.2.1,a.2.1.1.2.2.2.1,a.2.1.1.2.2.2.2.1,a.2.1.1.2.2.2.2.2.1,a.2.1.1.2.2.2.2.2.2.1),())) (fun x=>(((),x.1.1,x.1.2.1,()),((x.1.2.2.1,x.1.2.2.2.1,x.1.2.2.2.2.1,x.1.2.2.2.2.2.1,x.1.2.2.2.2.2.2.1,x.1.2.2.2.2.2.2.2.1,x.1.2.2.2.2.2.2.2.2,()),()),())) (fun _=>rfl)
def xZ9X:LQ tb ((Bool×Bool×Int×Int×Int×Int×(List UInt8)×(List UInt8)×(List xZ2))×(Unit)):=(LQ.m [] [1,3,81] (.c 1 (.ptr 0 0) (.c 3 .b (.c 81 .b .n))) (.c (.c (.i .u8) (.c (.i .i64) (.c (.i .i64) (.c (.i .i64) (.c .s (.c .s (.c (.r 4) .n))))))) .n) .n).re (fun a=>((a.1.2.1,a.1.2.2.1,a.2.1.1.1,a.2.1.1.2.1,a.2.1.1.2.2.1,a.2.1.1.2.2.2.1,a.2.1.1.2.2.2.2.1,a.2.1.1.2.2.2.2.2.1,a.2.1.1.2.2.2.2.2.2.1),())) (fun x=>(((),x.1.1,x.1.2.1,()),((x.1.2.2.1,x.1.2.2.2.1,x.1.2.2.2.2.1,x.1.2.2.2.2.2.1,x.1.2.2.2.2.2.2.1,x.1.2.2.2.2.2.2.2.1,x.1.2.2.2.2.2.2.2.2,()),()),())) (fun _=>rfl)
def xZa2:LQ tb ((Bool×Bool×Int×Int×Int×Int×(List UInt8)×(List UInt8)×(List xZ2))×(Unit)):=(LQ.m [] [1,3,100] (.c 1 (.ptr 0 0) (.c 3 .b (.c 100 .b .n))) (.c (.c (.i .u8) (.c (.i .i64) (.c (.i .i64) (.c (.i .i64) (.c .s (.c .s (.c (.r 4) .n))))))) .n) .n).re (fun a=>((a.1.2.1,a.1.2.2.1,a.2.1.1.1,a.2.1.1.2.1,a.2.1.1.2.2.1,a.2.1.1.2.2.2.1,a.2.1.1.2.2.2.2.1,a.2.1.1.2.2.2.2.2.1,a.2.1.1.2.2.2.2.2.2.1),())) (fun x=>(((),x.1.1,x.1.2.1,()),((x.1.2.2.1,x.1.2.2.2.1,x.1.2.2.2.2.1,x.1.2.2.2.2.2.1,x.1.2.2.2.2.2.2.1,x.1.2.2.2.2.2.2.2.1,x.1.2.2.2.2.2.2.2.2,()),()),())) (fun _=>rfl)
abbrev xZah (N:Nat):(Bool×Bool×Int×Int×Int×Int×(List UInt8)×(List UInt8)×(List xZ2))×(Unit)→Option Int:=fun a=>xZ1n N a.1.1 a.1.2.1 a.1.2.2.1 a.1.2.2.2.1 a.1.2.2.2.2.1 a.1.2.2.2.2.2.1 a.1.2.2.2.2.2.2.1 a.1.2.2.2.2.2.2.2.1 a.1.2.2.2.2.2.2.2.2
abbrev xZag (N:Nat):(Bool×Bool×Int×Int×Int×Int×(List UInt8)×(List UInt8)×(List xZ2))×(Unit)→Option Int:=fun a=>xZg N a.1.1 a.1.2.1 a.1.2.2.1 a.1.2.2.2.1 a.1.2.2.2.2.1 a.1.2.2.2.2.2.1 a.1.2.2.2.2.2.2.1 a.1.2.2.2.2.2.2.2.1 a.1.2.2.2.2.2.2.2.2
abbrev xZa6 (N:Nat):(Bool×Bool×Int×Int×Int×Int×(List UInt8)×(List UInt8)×(List xZ2))×(Unit)→Option Int:=fun a=>xZU N a.1.1 a.1.2.1 a.1.2.2.1 a.1.2.2.2.1 a.1.2.2.2.2.1 a.1.2.2.2.2.2.1 a.1.2.2.2.2.2.2.1 a.1.2.2.2.2.2.2.2.1 a.1.2.2.2.2.2.2.2.2
abbrev xZa3 (N:Nat):(Bool×Bool×Int×Int×Int×Int×(List UInt8)×(List UInt8)×(List xZ2))×(Unit)→Option Int:=fun a=>xZ2R N a.1.1 a.1.2.1 a.1.2.2.1 a.1.2.2.2.1 a.1.2.2.2.2.1 a.1.2.2.2.2.2.1 a.1.2.2.2.2.2.2.1 a.1.2.2.2.2.2.2.2.1 a.1.2.2.2.2.2.2.2.2
abbrev xZaf (N:Nat):(Bool×Int×Int×Int×Int×(List UInt8)×(List UInt8)×(List xZ2))×(Unit)→Option Int:=fun a=>xZ6H N a.1.1 a.1.2.1 a.1.2.2.1 a.1.2.2.2.1 a.1.2.2.2.2.1 a.1.2.2.2.2.2.1 a.1.2.2.2.2.2.2.1 a.1.2.2.2.2.2.2.2
def xZ6w:Con tb:=.s 106 [true] (.c (.el tb_ok 5) .n) (fun N a=>xZ4S N a.1) (R:=Int) (.p (.i .i64)) (fun _=>⟨rfl,(by kernel_rfl)⟩)
def xZ6s:Con tb:=.s 60 [true,true,true,true] (.c (.r 5) (.c (.i .i64) (.c (.i .u8) (.c (.i .i64) .n)))) (fun N a=>xZbu N a.1 a.2.1 a.2.2.1 a.2.2.2.1) (R:=Int×Int) (.p (.tu (.c (.i .i64) (.o (.i .i64))))) (fun _=>⟨rfl,(by kernel_rfl)⟩)
def xZ5Y:LQ tb (((List xZ0)×Int×Int×Int×Int×Int×(List UInt8)×(List UInt8)×(List xZ2))×(Int×Int)):=(LQ.m [] [0,1,3,10,12] (.c 0 (.r 5) (.c 1 (.i .i64) (.c 3 (.i .i64) (.c 10 (.ptr 0 0) (.c 12 (.i .i64) .n))))) (.c (.c (.i .u8) (.c (.i .i64) (.c (.i .i64) (.c (.i .i64) (.c .s (.c .s (.c (.r 4) .n))))))) .n) .n).re (fun a=>((a.1.1,a.1.2.2.1,a.2.1.1.1,a.2.1.1.2.1,a.2.1.1.2.2.1,a.2.1.1.2.2.2.1,a.2.1.1.2.2.2.2.1,a.2.1.1.2.2.2.2.2.1,a.2.1.1.2.2.2.2.2.2.1),(a.1.2.1,a.1.2.2.2.2.1))) (fun x=>((x.1.1,x.2.1,x.1.2.1,(),x.2.2,()),((x.1.2.2.1,x.1.2.2.2.1,x.1.2.2.2.2.1,x.1.2.2.2.2.2.1,x.1.2.2.2.2.2.2.1,x.1.2.2.2.2.2.2.2.1,x.1.2.2.2.2.2.2.2.2,()),()),())) (fun _=>rfl)
def xZck (N:Nat) (c:(List xZ0)×Int×Int×Int×Int×Int×(List UInt8)×(List UInt8)×(List xZ2)) (next:(Int×Int)→Option (Int×Int)) (v:Int×Int):Option (Int×Int):=xZ2p N (xZ41 N) c.1 c.2.1 c.2.2.1 c.2.2.2.1 c.2.2.2.2.1 c.2.2.2.2.2.1 c.2.2.2.2.2.2.1 c.2.2.2.2.2.2.2.1 c.2.2.2.2.2.2.2.2 (fun u0 u1=>next (u0,u1)) v.1 v.2
abbrev xZgy (N:Nat):((List xZ0)×Int×Int×Int×Int×Int×(List UInt8)×(List UInt8)×(List xZ2))×(Int×Int)→Option (Int×Int):=fun a=>loopV (xZck N a.1) N a.2
def xZbd:Con tb:=.s 62 [true] (.c (.i .u8) .n) (fun N a=>xZ6D N a.1) (R:=List UInt8) (.p .s) (fun _=>⟨rfl,(by kernel_rfl)⟩)
def xZ7m:Con tb:=.s 32 [true] (.c (.el tb_ok 9) .n) (fun N a=>xZ5t N a.1) (R:=Int) (.p (.i .i64)) (fun _=>⟨rfl,(by kernel_rfl)⟩)
def xZb7:Con tb:=.s 108 [true] (.c (.i .u8) .n) (fun N a=>xZbw N a.1) (R:=List UInt8) (.p .s) (fun _=>⟨rfl,(by kernel_rfl)⟩)
def xZcG:Con tb:=.s 63 [true] (.c (.el tb_ok 3) .n) (fun N a=>xZaE N a.1) (R:=Int) (.p (.i .i64)) (fun _=>⟨rfl,(by kernel_rfl)⟩)
def xZ5o:LQ tb (((List UInt8)×(List xZ6))×(Int)):=(LQ.m [] [1,3] (.c 1 (.ptr 0 0) (.c 3 (.i .i64) .n)) (.c (.c .s (.c (.r 2) .n)) .n) .n).re (fun a=>((a.2.1.1.1,a.2.1.1.2.1),a.1.2.1)) (fun x=>(((),x.2,()),((x.1.1,x.1.2,()),()),())) (fun _=>rfl)
def xZ7B:LQ tb ((Int×(List UInt8)×(List xZ6)×(List UInt8)×Int)×(Int)):=(LQ.m [] [1,3,4,5] (.c 1 (.ptr 0 0) (.c 3 (.i .i64) (.c 4 (.ptr 1 0) (.c 5 (.i .i64) .n)))) (.c (.c .s (.c (.r 2) .n)) (.c (.c .s (.c (.i .u8) .n)) .n)) .n).re (fun a=>((a.1.2.1,a.2.1.1.1,a.2.1.1.2.1,a.2.1.2.1.1,a.2.1.2.1.2.1),a.1.2.2.2.1)) (fun x=>(((),x.1.1,(),x.2,()),((x.1.2.1,x.1.2.2.1,()),(x.1.2.2.2.1,x.1.2.2.2.2,()),()),())) (fun _=>rfl)
def xZdA (N:Nat) (next0:((List UInt8)×(List xZ6))×(Int)→Option Int) (c:Int×(List UInt8)×(List xZ6)×(List UInt8)×Int) (next:Int→Option Int) (v:Int):Option Int:=xZ7p N c.1 c.2.2.1 c.2.2.2.1 (fun u0=>next0 ((c.2.1,c.2.2.1),u0)) (fun u0=>next u0) v
abbrev xZhy (N:Nat) (next0:((List UInt8)×(List xZ6))×(Int)→Option Int):(Int×(List UInt8)×(List xZ6)×(List UInt8)×Int)×(Int)→Option Int:=fun a=>loopV (xZdA N next0 a.1) N a.2
def xZdh (N:Nat) (c:(List UInt8)×(List xZ6)) (next:Int→Option Int) (v:Int):Option Int:=xZ7e N c.2 (fun u0=>next u0) v
abbrev xZhr (N:Nat):((List UInt8)×(List xZ6))×(Int)→Option Int:=fun a=>loopV (xZdh N a.1) N a.2
def xZal:Con tb:=.s 33 [true] (.c (.r 3) .n) (fun N a=>xZ7g N a.1) (R:=Int) (.p (.i .i64)) (fun _=>⟨rfl,(by kernel_rfl)⟩)
def xZ3u:LQ tb (((List xZ1))×(Int)):=(LQ.m [] [0,3] (.c 0 (.r 3) (.c 3 (.i .i64) .n)) .n .n).re (fun a=>(a.1.1,a.1.2.1)) (fun x=>((x.1,x.2,()),(),())) (fun _=>rfl)
def xZ52:LQ tb (((List xZ1)×Int)×(Int)):=(LQ.m [] [0,3,5] (.c 0 (.r 3) (.c 3 (.i .i64) (.c 5 (.i .i64) .n))) .n .n).re (fun a=>((a.1.1,a.1.2.1),a.1.2.2.1)) (fun x=>((x.1.1,x.1.2,x.2,()),(),())) (fun _=>rfl)
def xZaH (N:Nat) (next0:((List xZ1))×(Int)→Option Int) (c:(List xZ1)×Int) (next:Int→Option Int) (v:Int):Option Int:=xZ5e N c.1 c.2 (fun u0=>next0 (c.1,u0)) (fun u0=>next u0) v
abbrev xZfn (N:Nat) (next0:((List xZ1))×(Int)→Option Int):((List xZ1)×Int)×(Int)→Option Int:=fun a=>loopV (xZaH N next0 a.1) N a.2
def xZaM (N:Nat) (c:(List xZ1)) (next:Int→Option Int) (v:Int):Option Int:=xZ57 N c (fun u0=>next u0) v
abbrev xZfC (N:Nat):((List xZ1))×(Int)→Option Int:=fun a=>loopV (xZaM N a.1) N a.2
def xZ2W:Con tb:=.s 34 [true] (.c (.el tb_ok 5) .n) (fun N a=>xZ1Z N a.1) (R:=Bool) (.p .b) (fun _=>⟨rfl,(by kernel_rfl)⟩)
def xZ6t:Con tb:=.p 64 [true,true] (.c (.r 3) (.c .s .n)) (fun N a=>xZ29 N a.1 a.2.1) (R:=xZ1×Bool) (.p (.tu (.c (.el tb_ok 3) (.o .b)))) (fun _=>rfl)
def xZ5N:LQ tb (((List xZ1)×(List UInt8))×(Int)):=(LQ.m [] [0,1,4,6] (.c 0 (.r 3) (.c 1 .s (.c 4 (.ptr 0 0) (.c 6 (.i .i64) .n)))) (.c (.c (.ls []) (.c .e .n)) .n) .n).re (fun a=>((a.1.1,a.1.2.1),a.1.2.2.2.1)) (fun x=>((x.1.1,x.1.2,(),x.2,()),(((),(),()),()),())) (fun _=>rfl)
def xZce (N:Nat) (c:(List xZ1)×(List UInt8)) (next:Int→Option (xZ1×Bool)) (v:Int):Option (xZ1×Bool):=xZ6c N c.1 c.2 (fun u0=>next u0) v
abbrev xZgs (N:Nat):((List xZ1)×(List UInt8))×(Int)→Option (xZ1×Bool):=fun a=>loopV (xZce N a.1) N a.2
def xZct:Con tb:=.s 65 [true,true] (.c (.el tb_ok 3) (.c .s .n)) (fun N a=>xZ3v N a.1 a.2.1) (R:=Int×Int) (.p (.tu (.c (.i .i64) (.o (.i .u8))))) (fun _=>⟨rfl,(by kernel_rfl)⟩)
def xZ96:LQ tb (((List UInt8)×(List UInt8)×(List xZ6))×(Int)):=(LQ.m [] [1,2,6] (.c 1 .s (.c 2 (.ptr 0 0) (.c 6 (.i .i64) .n))) (.c (.c .s (.c (.r 2) .n)) .n) .n).re (fun a=>((a.1.1,a.2.1.1.1,a.2.1.1.2.1),a.1.2.2.1)) (fun x=>((x.1.1,(),x.2,()),((x.1.2.1,x.1.2.2,()),()),())) (fun _=>rfl)
def xZes (N:Nat) (c:(List UInt8)×(List UInt8)×(List xZ6)) (next:Int→Option (Int×Int)) (v:Int):Option (Int×Int):=xZ8Y N c.1 c.2.2 (fun u0=>next u0) v
abbrev xZjg (N:Nat):((List UInt8)×(List UInt8)×(List xZ6))×(Int)→Option (Int×Int):=fun a=>loopV (xZes N a.1) N a.2
def xZaj:Con tb:=.s 35 [true,true,true] (.c (.el tb_ok 9) (.c (.r 3) (.c (.i .i64) .n))) (fun N a=>xZ7s N a.1 a.2.1 a.2.2.1) (R:=Int) (.p (.i .i64)) (fun _=>⟨rfl,(by kernel_rfl)⟩)
def xZ5j:LQ tb (((List xZ1)×Int×(List xZ0)×Int×(List UInt8)×Int)×(Int×Int)):=(LQ.m [] [1,2,3,7,8] (.c 1 (.r 3) (.c 2 (.i .i64) (.c 3 (.ptr 0 0) (.c 7 (.i .i64) (.c 8 (.i .i64) .n))))) (.c (.c (.r 5) (.c (.i .i64) (.c .s (.c (.i .u8) .n)))) .n) .n).re (fun a=>((a.1.1,a.1.2.1,a.2.1.1.1,a.2.1.1.2.1,a.2.1.1.2.2.1,a.2.1.1.2.2.2.1),(a.1.2.2.2.1,a.1.2.2.2.2.1))) (fun x=>((x.1.1,x.1.2.1,(),x.2.1,x.2.2,()),((x.1.2.2.1,x.1.2.2.2.1,x.1.2.2.2.2.1,x.1.2.2.2.2.2,()),()),())) (fun _=>rfl)
def xZaO (N:Nat) (c:(List xZ1)×Int×(List xZ0)×Int×(List UInt8)×Int) (next:(Int×Int)→Option Int) (v:Int×Int):Option Int:=xZ88 N c.1 c.2.1 c.2.2.1 c.2.2.2.2.1 (fun u0 u1=>next (u0,u1)) v.1 v.2
abbrev xZfr (N:Nat):((List xZ1)×Int×(List xZ0)×Int×(List UInt8)×Int)×(Int×Int)→Option Int:=fun a=>loopV (xZaO N a.1) N a.2
def xZb3:Con tb:=.p 75 [true,true] (.c (.r 1) (.c .s .n)) (fun N a=>xZ95 N a.1 a.2.1) (R:=List (List UInt8)) (.p (.r 1)) (fun _=>rfl)
def xZ63:LQ tb (((List (List UInt8))×(List UInt8))×(Int)):=(LQ.m [] [0,1,5,6] (.c 0 (.r 1) (.c 1 .s (.c 5 .e (.c 6 (.i .i64) .n)))) .n .n).re (fun a=>((a.1.1,a.1.2.1),a.1.2.2.2.1)) (fun x=>((x.1.1,x.1.2,(),x.2,()),(),())) (fun _=>rfl)
def xZbS (N:Nat) (c:(List (List UInt8))×(List UInt8)) (next:Int→Option (List (List UInt8))) (v:Int):Option (List (List UInt8)):=xZ5P N c.1 c.2 (fun u0=>next u0) v
abbrev xZgP (N:Nat):((List (List UInt8))×(List UInt8))×(Int)→Option (List (List UInt8)):=fun a=>loopV (xZbS N a.1) N a.2
def xZb2:Con tb:=.s 112 [true,true] (.c (.r 5) (.c (.i .i64) .n)) (fun N a=>xZ9g N a.1 a.2.1) (R:=Int) (.p (.i .i64)) (fun _=>⟨rfl,(by kernel_rfl)⟩)
def xZ6d:LQ tb (((List xZ0)×Int)×(Int×Int)):=(LQ.m [] [0,1,5,6] (.c 0 (.r 5) (.c 1 (.i .i64) (.c 5 (.i .i64) (.c 6 (.i .i64) .n)))) .n .n).re (fun a=>((a.1.1,a.1.2.1),(a.1.2.2.1,a.1.2.2.2.1))) (fun x=>((x.1.1,x.1.2,x.2.1,x.2.2,()),(),())) (fun _=>rfl)
def xZbL (N:Nat) (c:(List xZ0)×Int) (next:(Int×Int)→Option Int) (v:Int×Int):Option Int:=xZ5L N c.1 c.2 (fun u0 u1=>next (u0,u1)) v.1 v.2
abbrev xZh5 (N:Nat):((List xZ0)×Int)×(Int×Int)→Option Int:=fun a=>loopV (xZbL N a.1) N a.2
def xZ6E:Con tb:=.p 72 [true,true] (.c (.r 5) (.c (.i .i64) .n)) (fun N a=>xZ2Z N a.1 a.2.1) (R:=List Int) (.p (.r 0)) (fun _=>rfl)
def xZ6a:LQ tb (((List xZ0)×Int)×(Int×Int×(List Int))):=(LQ.m [(5,none,0)] [0,1,5,6,7] (.c 0 (.r 5) (.c 1 (.i .i64) (.c 5 (.own 0) (.c 6 (.i .i64) (.c 7 (.i .i64) .n))))) .n (.l 0 .n)).re (fun a=>((a.1.1,a.1.2.1),(a.1.2.2.2.1,a.1.2.2.2.2.1,a.2.2.1))) (fun x=>((x.1.1,x.1.2,(),x.2.1,x.2.2.1,()),(),x.2.2.2,())) (fun _=>rfl)
def xZbX (N:Nat) (c:(List xZ0)×Int) (next:(Int×Int×(List Int))→Option (List Int)) (v:Int×Int×(List Int)):Option (List Int):=xZ9d N c.1 c.2 (fun u0 u1 u2=>next (u0,u1,u2)) v.1 v.2.1 v.2.2
abbrev xZgz (N:Nat):((List xZ0)×Int)×(Int×Int×(List Int))→Option (List Int):=fun a=>loopV (xZbX N a.1) N a.2
def xZaB:Con tb:=.s 66 [true,true] (.c (.r 1) (.c .s .n)) (fun N a=>xZ8C N a.1 a.2.1) (R:=Bool) (.p .b) (fun _=>⟨rfl,(by kernel_rfl)⟩)
def xZ7o:LQ tb (((List (List UInt8))×(List UInt8))×(Int)):=(LQ.m [] [0,1,5] (.c 0 (.r 1) (.c 1 .s (.c 5 (.i .i64) .n))) .n .n).re (fun a=>((a.1.1,a.1.2.1),a.1.2.2.1)) (fun x=>((x.1.1,x.1.2,x.2,()),(),())) (fun _=>rfl)
def xZdk (N:Nat) (c:(List (List UInt8))×(List UInt8)) (next:Int→Option Bool) (v:Int):Option Bool:=xZ7D N c.1 c.2 (fun u0=>next u0) v
abbrev xZhb (N:Nat):((List (List UInt8))×(List UInt8))×(Int)→Option Bool:=fun a=>loopV (xZdk N a.1) N a.2
def xZbt:Con tb:=.p 76 [true,true] (.c (.r 1) (.c (.r 1) .n)) (fun N a=>xZ3K N a.1 a.2.1) (R:=List (List UInt8)) (.p (.r 1)) (fun _=>rfl)
def xZ6g:LQ tb (((List (List UInt8))×(List (List UInt8)))×(Int×(List (List UInt8)))):=(LQ.m [(5,none,1)] [0,1,5,6] (.c 0 (.r 1) (.c 1 (.r 1) (.c 5 (.own 0) (.c 6 (.i .i64) .n)))) .n (.l 1 .n)).re (fun a=>((a.1.1,a.1.2.1),(a.1.2.2.2.1,a.2.2.1))) (fun x=>((x.1.1,x.1.2,(),x.2.1,()),(),x.2.2,())) (fun _=>rfl)
def xZbO (N:Nat) (c:(List (List UInt8))×(List (List UInt8))) (next:(Int×(List (List UInt8)))→Option (List (List UInt8))) (v:Int×(List (List UInt8))):Option (List (List UInt8)):=xZ5O N c.1 c.2 (fun u0 u1=>next (u0,u1)) v.1 v.2
abbrev xZgx (N:Nat):((List (List UInt8))×(List (List UInt8)))×(Int×(List (List UInt8)))→Option (List (List UInt8)):=fun a=>loopV (xZbO N a.1) N a.2
def xZ3w:Con tb:=.p 40 [true,true,true,true] (.c (.r 5) (.c (.i .i64) (.c (.r 1) (.c (.i .i64) .n)))) (fun N a=>xZ81 N a.1 a.2.1 a.2.2.1 a.2.2.2.1) (R:=List (List UInt8)×List (List UInt8)×Bool) (.p (.tu (.c (.r 1) (.c (.r 1) (.o .b))))) (fun _=>rfl)
def xZ3F:LQ tb (((List xZ0)×(List (List UInt8))×Int×(List Int)×Int×Int×Int×Int×(List UInt8)×(List UInt8)×(List xZ2))×((List (List UInt8))×(List (List UInt8))×Bool×Int)):=(LQ.m [] [0,2,3,11,13,14,15,16,17] (.c 0 (.r 5) (.c 2 (.r 1) (.c 3 (.i .i64) (.c 11 (.ptr 0 0) (.c 13 (.r 0) (.c 14 (.r 1) (.c 15 (.r 1) (.c 16 .b (.c 17 (.i .i64) .n))))))))) (.c (.c (.i .u8) (.c (.i .i64) (.c (.i .i64) (.c (.i .i64) (.c .s (.c .s (.c (.r 4) .n))))))) .n) .n).re (fun a=>((a.1.1,a.1.2.1,a.1.2.2.1,a.1.2.2.2.2.1,a.2.1.1.1,a.2.1.1.2.1,a.2.1.1.2.2.1,a.2.1.1.2.2.2.1,a.2.1.1.2.2.2.2.1,a.2.1.1.2.2.2.2.2.1,a.2.1.1.2.2.2.2.2.2.1),(a.1.2.2.2.2.2.1,a.1.2.2.2.2.2.2.1,a.1.2.2.2.2.2.2.2.1,a.1.2.2.2.2.2.2.2.2.1))) (fun x=>((x.1.1,x.1.2.1,x.1.2.2.1,(),x.1.2.2.2.1,x.2.1,x.2.2.1,x.2.2.2.1,x.2.2.2.2,()),((x.1.2.2.2.2.1,x.1.2.2.2.2.2.1,x.1.2.2.2.2.2.2.1,x.1.2.2.2.2.2.2.2.1,x.1.2.2.2.2.2.2.2.2.1,x.1.2.2.2.2.2.2.2.2.2.1,x.1.2.2.2.2.2.2.2.2.2.2,()),()),())) (fun _=>rfl)
def xZ9v (N:Nat) (c:(List xZ0)×(List (List UInt8))×Int×(List Int)×Int×Int×Int×Int×(List UInt8)×(List UInt8)×(List xZ2)) (next:((List (List UInt8))×(List (List UInt8))×Bool×Int)→Option (List (List UInt8)×List (List UInt8)×Bool)) (v:(List (List UInt8))×(List (List UInt8))×Bool×Int):Option (List (List UInt8)×List (List UInt8)×Bool):=xZ2v N (xZ2i N) c.1 c.2.1 c.2.2.1 c.2.2.2.1 c.2.2.2.2.1 c.2.2.2.2.2.2.1 (fun u0 u1 u2 u3=>next (u0,u1,u2,u3)) v.1 v.2.1 v.2.2.1 v.2.2.2
abbrev xZe8 (N:Nat):((List xZ0)×(List (List UInt8))×Int×(List Int)×Int×Int×Int×Int×(List UInt8)×(List UInt8)×(List xZ2))×((List (List UInt8))×(List (List UInt8))×Bool×Int)→Option (List (List UInt8)×List (List UInt8)×Bool):=fun a=>loopV (xZ9v N a.1) N a.2
def xZ7t:Con tb:=.p 16 [true,true] (.c (.el tb_ok 9) (.c (.i .i64) .n)) (fun N a=>xZO N a.1 a.2.1) (R:=List (List UInt8)) (.p (.r 1)) (fun _=>rfl)
def xZ9f:Con tb:=.p 109 [true,true,true] (.c (.el tb_ok 9) (.c (.r 3) (.c .s .n))) (fun N a=>xZ66 N a.1 a.2.1 a.2.2.1) (R:=xZ1) (.p (.el tb_ok 3)) (fun _=>rfl)
def xZ4m:LQ tb (((List xZ1)×(List UInt8)×(List xZ0)×Int×(List UInt8)×Int)×(Int)):=(LQ.m [] [1,2,3,6,7] (.c 1 (.r 3) (.c 2 .s (.c 3 (.ptr 0 0) (.c 6 (.ptr 1 0) (.c 7 (.i .i64) .n))))) (.c (.c (.r 5) (.c (.i .i64) (.c .s (.c (.i .u8) .n)))) (.c (.c (.ls []) (.c .e .n)) .n)) .n).re (fun a=>((a.1.1,a.1.2.1,a.2.1.1.1,a.2.1.1.2.1,a.2.1.1.2.2.1,a.2.1.1.2.2.2.1),a.1.2.2.2.2.1)) (fun x=>((x.1.1,x.1.2.1,(),(),x.2,()),((x.1.2.2.1,x.1.2.2.2.1,x.1.2.2.2.2.1,x.1.2.2.2.2.2,()),((),(),()),()),())) (fun _=>rfl)
def xZ9M (N:Nat) (c:(List xZ1)×(List UInt8)×(List xZ0)×Int×(List UInt8)×Int) (next:Int→Option xZ1) (v:Int):Option xZ1:=xZ4b N c.1 c.2.1 c.2.2.1 (fun u0=>next u0) v
abbrev xZfc (N:Nat):((List xZ1)×(List UInt8)×(List xZ0)×Int×(List UInt8)×Int)×(Int)→Option xZ1:=fun a=>loopV (xZ9M N a.1) N a.2
def xZ7a:Con tb:=.s 67 [true,true,true,true] (.c (.el tb_ok 9) (.c (.r 3) (.c (.i .i64) (.c (.el tb_ok 4) .n)))) (fun N a=>xZ1D N a.1 a.2.1 a.2.2.1 a.2.2.2.1) (R:=Int) (.p (.i .u8)) (fun _=>⟨rfl,(by kernel_rfl)⟩)
def xZ69:Con tb:=.s 111 [true] (.c (.i .u8) .n) (fun N a=>xZ2r N a.1) (R:=Bool) (.p .b) (fun _=>⟨rfl,(by kernel_rfl)⟩)
def xZdc:Con tb:=.s 110 [true,true] (.c (.i .u8) (.c (.i .u8) .n)) (fun N a=>xZat N a.1 a.2.1) (R:=Int) (.p (.i .u8)) (fun _=>⟨rfl,(by kernel_rfl)⟩)
def xZ6q:Con tb:=.s 68 [true,true,true,true] (.c (.el tb_ok 9) (.c (.r 3) (.c (.i .i64) (.c (.i .i64) .n)))) (fun N a=>xZL N a.1 a.2.1 a.2.2.1 a.2.2.2.1) (R:=Int×Int) (.p (.tu (.c (.i .u8) (.o (.i .i64))))) (fun _=>⟨rfl,(by kernel_rfl)⟩)
def xZbx:Con tb:=.s 69 [true,true,true] (.c (.i .u8) (.c (.i .u8) (.c (.i .u8) .n))) (fun N a=>xZ3I N a.1 a.2.1 a.2.2.1) (R:=Bool) (.p .b) (fun _=>⟨rfl,(by kernel_rfl)⟩)
def xZbk:Con tb:=.s 36 [true,true,true] (.c (.el tb_ok 9) (.c (.r 3) (.c (.i .i64) .n))) (fun N a=>xZ9h N a.1 a.2.1 a.2.2.1) (R:=Int) (.p (.i .i64)) (fun _=>⟨rfl,(by kernel_rfl)⟩)
def xZ5X:LQ tb (((List xZ1)×Int×(List xZ2)×(List (List UInt8))×(List xZ0)×Int×(List UInt8)×Int)×(Int)):=(LQ.m [] [1,2,3,7,8,9] (.c 1 (.r 3) (.c 2 (.i .i64) (.c 3 (.ptr 0 0) (.c 7 (.r 4) (.c 8 (.r 1) (.c 9 (.i .i64) .n)))))) (.c (.c (.r 5) (.c (.i .i64) (.c .s (.c (.i .u8) .n)))) .n) .n).re (fun a=>((a.1.1,a.1.2.1,a.1.2.2.2.1,a.1.2.2.2.2.1,a.2.1.1.1,a.2.1.1.2.1,a.2.1.1.2.2.1,a.2.1.1.2.2.2.1),a.1.2.2.2.2.2.1)) (fun x=>((x.1.1,x.1.2.1,(),x.1.2.2.1,x.1.2.2.2.1,x.2,()),((x.1.2.2.2.2.1,x.1.2.2.2.2.2.1,x.1.2.2.2.2.2.2.1,x.1.2.2.2.2.2.2.2,()),()),())) (fun _=>rfl)
def xZ62:LQ tb (((List xZ1)×Int×(List xZ2)×(List xZ0)×Int×(List UInt8)×Int)×(Int)):=(LQ.m [] [1,2,3,7,10] (.c 1 (.r 3) (.c 2 (.i .i64) (.c 3 (.ptr 0 0) (.c 7 (.r 4) (.c 10 (.i .i64) .n))))) (.c (.c (.r 5) (.c (.i .i64) (.c .s (.c (.i .u8) .n)))) .n) .n).re (fun a=>((a.1.1,a.1.2.1,a.1.2.2.2.1,a.2.1.1.1,a.2.1.1.2.1,a.2.1.1.2.2.1,a.2.1.1.2.2.2.1),a.1.2.2.2.2.1)) (fun x=>((x.1.1,x.1.2.1,(),x.1.2.2.1,x.2,()),((x.1.2.2.2.1,x.1.2.2.2.2.1,x.1.2.2.2.2.2.1,x.1.2.2.2.2.2.2,()),()),())) (fun _=>rfl)
def xZbH (N:Nat) (c:(List xZ1)×Int×(List xZ2)×(List xZ0)×Int×(List UInt8)×Int) (next:Int→Option Int) (v:Int):Option Int:=xZ6i N c.1 c.2.1 c.2.2.1 c.2.2.2.1 c.2.2.2.2.1 c.2.2.2.2.2.1 c.2.2.2.2.2.2 (fun u0=>next u0) v
abbrev xZga (N:Nat):((List xZ1)×Int×(List xZ2)×(List xZ0)×Int×(List UInt8)×Int)×(Int)→Option Int:=fun a=>loopV (xZbH N a.1) N a.2
def xZbU (N:Nat) (c:(List xZ1)×Int×(List xZ2)×(List (List UInt8))×(List xZ0)×Int×(List UInt8)×Int) (next:Int→Option Int) (v:Int):Option Int:=xZ9a N c.1 c.2.1 c.2.2.1 c.2.2.2.1 c.2.2.2.2.1 c.2.2.2.2.2.1 c.2.2.2.2.2.2.1 c.2.2.2.2.2.2.2 (fun u0=>next u0) v
abbrev xZh0 (N:Nat):((List xZ1)×Int×(List xZ2)×(List (List UInt8))×(List xZ0)×Int×(List UInt8)×Int)×(Int)→Option Int:=fun a=>loopV (xZbU N a.1) N a.2
def xZ3Y:Con tb:=.s 38 [true,true] (.c (.r 5) (.c (.i .i64) .n)) (fun N a=>xZ5s N a.1 a.2.1) (R:=Bool) (.p .b) (fun _=>⟨rfl,(by kernel_rfl)⟩)
def xZ5a:LQ tb (((List xZ0)×(List Int)×Int×Int×Int×Int×(List UInt8)×(List UInt8)×(List xZ2))×(Bool×Bool×Int)):=(LQ.m [] [0,5,6,7,8,9] (.c 0 (.r 5) (.c 5 (.ptr 0 0) (.c 6 (.r 0) (.c 7 .b (.c 8 .b (.c 9 (.i .i64) .n)))))) (.c (.c (.i .u8) (.c (.i .i64) (.c (.i .i64) (.c (.i .i64) (.c .s (.c .s (.c (.r 4) .n))))))) .n) .n).re (fun a=>((a.1.1,a.1.2.2.1,a.2.1.1.1,a.2.1.1.2.1,a.2.1.1.2.2.1,a.2.1.1.2.2.2.1,a.2.1.1.2.2.2.2.1,a.2.1.1.2.2.2.2.2.1,a.2.1.1.2.2.2.2.2.2.1),(a.1.2.2.2.1,a.1.2.2.2.2.1,a.1.2.2.2.2.2.1))) (fun x=>((x.1.1,(),x.1.2.1,x.2.1,x.2.2.1,x.2.2.2,()),((x.1.2.2.1,x.1.2.2.2.1,x.1.2.2.2.2.1,x.1.2.2.2.2.2.1,x.1.2.2.2.2.2.2.1,x.1.2.2.2.2.2.2.2.1,x.1.2.2.2.2.2.2.2.2,()),()),())) (fun _=>rfl)
def xZaI (N:Nat) (c:(List xZ0)×(List Int)×Int×Int×Int×Int×(List UInt8)×(List UInt8)×(List xZ2)) (next:(Bool×Bool×Int)→Option Bool) (v:Bool×Bool×Int):Option Bool:=xZ7R N (xZ33 N) c.1 c.2.1 c.2.2.1 (fun u0 u1 u2=>next (u0,u1,u2)) v.1 v.2.1 v.2.2
abbrev xZfo (N:Nat):((List xZ0)×(List Int)×Int×Int×Int×Int×(List UInt8)×(List UInt8)×(List xZ2))×(Bool×Bool×Int)→Option Bool:=fun a=>loopV (xZaI N a.1) N a.2
def xZ5l:Con tb:=.p 71 [true,true] (.c (.r 5) (.c (.i .i64) .n)) (fun N a=>xZ5p N a.1 a.2.1) (R:=List Int) (.p (.r 0)) (fun _=>rfl)
def xZ55:LQ tb (((List xZ0)×(List Int)×Int×Int×Int×Int×(List UInt8)×(List UInt8)×(List xZ2))×(Int×(List Int))):=(LQ.m [(6,none,0)] [0,5,6,7,8] (.c 0 (.r 5) (.c 5 (.ptr 0 0) (.c 6 (.own 0) (.c 7 (.r 0) (.c 8 (.i .i64) .n))))) (.c (.c (.i .u8) (.c (.i .i64) (.c (.i .i64) (.c (.i .i64) (.c .s (.c .s (.c (.r 4) .n))))))) .n) (.l 0 .n)).re (fun a=>((a.1.1,a.1.2.2.2.1,a.2.1.1.1,a.2.1.1.2.1,a.2.1.1.2.2.1,a.2.1.1.2.2.2.1,a.2.1.1.2.2.2.2.1,a.2.1.1.2.2.2.2.2.1,a.2.1.1.2.2.2.2.2.2.1),(a.1.2.2.2.2.1,a.2.2.1))) (fun x=>((x.1.1,(),(),x.1.2.1,x.2.1,()),((x.1.2.2.1,x.1.2.2.2.1,x.1.2.2.2.2.1,x.1.2.2.2.2.2.1,x.1.2.2.2.2.2.2.1,x.1.2.2.2.2.2.2.2.1,x.1.2.2.2.2.2.2.2.2,()),()),x.2.2,())) (fun _=>rfl)
def xZaX (N:Nat) (c:(List xZ0)×(List Int)×Int×Int×Int×Int×(List UInt8)×(List UInt8)×(List xZ2)) (next:(Int×(List Int))→Option (List Int)) (v:Int×(List Int)):Option (List Int):=xZ7T N (xZ4w N) c.1 c.2.1 c.2.2.1 (fun u0 u1=>next (u0,u1)) v.1 v.2
abbrev xZfw (N:Nat):((List xZ0)×(List Int)×Int×Int×Int×Int×(List UInt8)×(List UInt8)×(List xZ2))×(Int×(List Int))→Option (List Int):=fun a=>loopV (xZaX N a.1) N a.2
def xZeY:Con tb:=.s 70 [true,true] (.c (.r 0) (.c (.i .i64) .n)) (fun N a=>xZ9I N a.1 a.2.1) (R:=Bool) (.p .b) (fun _=>⟨rfl,(by kernel_rfl)⟩)
def xZ9o:LQ tb (((List Int)×Int)×(Int)):=(LQ.m [] [0,1,5] (.c 0 (.r 0) (.c 1 (.i .i64) (.c 5 (.i .i64) .n))) .n .n).re (fun a=>((a.1.1,a.1.2.1),a.1.2.2.1)) (fun x=>((x.1.1,x.1.2,x.2,()),(),())) (fun _=>rfl)
def xZeI (N:Nat) (c:(List Int)×Int) (next:Int→Option Bool) (v:Int):Option Bool:=xZ9i N c.1 c.2 (fun u0=>next u0) v
abbrev xZj6 (N:Nat):((List Int)×Int)×(Int)→Option Bool:=fun a=>loopV (xZeI N a.1) N a.2
def xZ5y:Con tb:=.s 37 [true,true] (.c (.r 5) (.c (.i .i64) .n)) (fun N a=>xZ3E N a.1 a.2.1) (R:=Bool) (.p .b) (fun _=>⟨rfl,(by kernel_rfl)⟩)
def xZ2D:LQ tb (((List xZ0)×Int)×(Int)):=(LQ.m [] [0,1,5] (.c 0 (.r 5) (.c 1 (.i .i64) (.c 5 (.i .i64) .n))) .n .n).re (fun a=>((a.1.1,a.1.2.1),a.1.2.2.1)) (fun x=>((x.1.1,x.1.2,x.2,()),(),())) (fun _=>rfl)
def xZ7y (N:Nat) (c:(List xZ0)×Int) (next:Int→Option Bool) (v:Int):Option Bool:=xZ4f N c.1 c.2 (fun u0=>next u0) v
abbrev xZcf (N:Nat):((List xZ0)×Int)×(Int)→Option Bool:=fun a=>loopV (xZ7y N a.1) N a.2
def xZ9R:Con tb:=.s 13 [true,true] (.c (.el tb_ok 9) (.c (.r 3) .n)) (fun N a=>xZ47 N a.1 a.2.1) (R:=Int×Int) (.p (.tu (.c (.i .i64) (.o (.i .i64))))) (fun _=>⟨rfl,(by kernel_rfl)⟩)
def xZ5b:LQ tb (((List xZ1)×(List xZ0)×Int×(List UInt8)×Int)×(Int)):=(LQ.m [] [1,2,6] (.c 1 (.r 3) (.c 2 (.ptr 0 0) (.c 6 (.i .i64) .n))) (.c (.c (.r 5) (.c (.i .i64) (.c .s (.c (.i .u8) .n)))) .n) .n).re (fun a=>((a.1.1,a.2.1.1.1,a.2.1.1.2.1,a.2.1.1.2.2.1,a.2.1.1.2.2.2.1),a.1.2.2.1)) (fun x=>((x.1.1,(),x.2,()),((x.1.2.1,x.1.2.2.1,x.1.2.2.2.1,x.1.2.2.2.2,()),()),())) (fun _=>rfl)
def xZ59:LQ tb (((List xZ1)×(List xZ0)×Int×(List UInt8)×Int)×(Int)):=(LQ.m [] [1,2,8] (.c 1 (.r 3) (.c 2 (.ptr 0 0) (.c 8 (.i .i64) .n))) (.c (.c (.r 5) (.c (.i .i64) (.c .s (.c (.i .u8) .n)))) .n) .n).re (fun a=>((a.1.1,a.2.1.1.1,a.2.1.1.2.1,a.2.1.1.2.2.1,a.2.1.1.2.2.2.1),a.1.2.2.1)) (fun x=>((x.1.1,(),x.2,()),((x.1.2.1,x.1.2.2.1,x.1.2.2.2.1,x.1.2.2.2.2,()),()),())) (fun _=>rfl)
def xZ5h:LQ tb (((List xZ0)×Int×(List UInt8)×Int)×(Int)):=(LQ.m [] [2,10] (.c 2 (.ptr 0 0) (.c 10 (.i .i64) .n)) (.c (.c (.r 5) (.c (.i .i64) (.c .s (.c (.i .u8) .n)))) .n) .n).re (fun a=>((a.2.1.1.1,a.2.1.1.2.1,a.2.1.1.2.2.1,a.2.1.1.2.2.2.1),a.1.2.1)) (fun x=>(((),x.2,()),((x.1.1,x.1.2.1,x.1.2.2.1,x.1.2.2.2,()),()),())) (fun _=>rfl)
def xZaW (N:Nat) (c:(List xZ0)×Int×(List UInt8)×Int) (next:Int→Option (Int×Int)) (v:Int):Option (Int×Int):=xZ7S N c.1 (fun u0=>next u0) v
abbrev xZfy (N:Nat):((List xZ0)×Int×(List UInt8)×Int)×(Int)→Option (Int×Int):=fun a=>loopV (xZaW N a.1) N a.2
def xZaN (N:Nat) (c:(List xZ1)×(List xZ0)×Int×(List UInt8)×Int) (next:Int→Option (Int×Int)) (v:Int):Option (Int×Int):=xZ7Z N c.1 c.2.1 c.2.2.1 c.2.2.2.1 c.2.2.2.2 (fun u0=>next u0) v
abbrev xZfx (N:Nat):((List xZ1)×(List xZ0)×Int×(List UInt8)×Int)×(Int)→Option (Int×Int):=fun a=>loopV (xZaN N a.1) N a.2
def xZaL (N:Nat) (c:(List xZ1)×(List xZ0)×Int×(List UInt8)×Int) (next:Int→Option (Int×Int)) (v:Int):Option (Int×Int):=xZ80 N c.1 c.2.1 c.2.2.1 c.2.2.2.1 c.2.2.2.2 (fun u0=>next u0) v
abbrev xZfq (N:Nat):((List xZ1)×(List xZ0)×Int×(List UInt8)×Int)×(Int)→Option (Int×Int):=fun a=>loopV (xZaL N a.1) N a.2
def xZ3V:Con tb:=.m 39 [false] (.c (.own 0) .n) .n (.l 1 .n) (fun N a=>xZP N a.2.2.1) (R:=List (List UInt8)) (.m (R:=List (List UInt8)) (.tu .n) .n (.l 1 .n) (fun z=>z.2.2.1) (fun r=>((),(),r,())) (fun _=>rfl))
def xZ9T:Con tb:=.p 15 [true,true] (.c (.el tb_ok 9) (.c (.i .i64) .n)) (fun N a=>xZ1F N a.1 a.2.1) (R:=List (List UInt8)) (.p (.r 1)) (fun _=>rfl)
def xZ53:LQ tb (((A40 Bool)×(List xZ0)×Int×(List UInt8)×Int)×(Int×(List (List UInt8)))):=(LQ.m [(5,none,1)] [2,5,38,39] (.c 2 (.ptr 0 0) (.c 5 (.own 0) (.c 38 (.ag (.a tb_ok 10 .n)) (.c 39 (.i .i64) .n)))) (.c (.c (.r 5) (.c (.i .i64) (.c .s (.c (.i .u8) .n)))) .n) (.l 1 .n)).re (fun a=>((a.1.2.2.1.1,a.2.1.1.1,a.2.1.1.2.1,a.2.1.1.2.2.1,a.2.1.1.2.2.2.1),(a.1.2.2.2.1,a.2.2.1))) (fun x=>(((),(),(x.1.1,()),x.2.1,()),((x.1.2.1,x.1.2.2.1,x.1.2.2.2.1,x.1.2.2.2.2,()),()),x.2.2,())) (fun _=>rfl)
def xZaK (N:Nat) (c:(A40 Bool)×(List xZ0)×Int×(List UInt8)×Int) (next:(Int×(List (List UInt8)))→Option (List (List UInt8))) (v:Int×(List (List UInt8))):Option (List (List UInt8)):=xZ7Q N c.1 c.2.1 (fun u0 u1=>next (u0,u1)) v.1 v.2
abbrev xZfd (N:Nat):((A40 Bool)×(List xZ0)×Int×(List UInt8)×Int)×(Int×(List (List UInt8)))→Option (List (List UInt8)):=fun a=>loopV (xZaK N a.1) N a.2
def xZ5E:Con tb:=.s 14 [true,true] (.c (.r 1) (.c (.r 1) .n)) (fun N a=>xZ2x N a.1 a.2.1) (R:=Bool) (.p .b) (fun _=>⟨rfl,(by kernel_rfl)⟩)
def xZ2A:LQ tb (((List (List UInt8))×(List (List UInt8)))×(Int)):=(LQ.m [] [0,1,5] (.c 0 (.r 1) (.c 1 (.r 1) (.c 5 (.i .i64) .n))) .n .n).re (fun a=>((a.1.1,a.1.2.1),a.1.2.2.1)) (fun x=>((x.1.1,x.1.2,x.2,()),(),())) (fun _=>rfl)
def xZ7K (N:Nat) (c:(List (List UInt8))×(List (List UInt8))) (next:Int→Option Bool) (v:Int):Option Bool:=xZ2F N c.1 c.2 (fun u0=>next u0) v
abbrev xZbR (N:Nat):((List (List UInt8))×(List (List UInt8)))×(Int)→Option Bool:=fun a=>loopV (xZ7K N a.1) N a.2
def xZ8N:Con tb:=.s 3 [true,true,true] (.c (.el tb_ok 9) (.c (.r 3) (.c (.i .i64) .n))) (fun N a=>xZ3d N a.1 a.2.1 a.2.2.1) (R:=Bool) (.p .b) (fun _=>⟨rfl,(by kernel_rfl)⟩)
def xZ2n:LQ tb (((List xZ0)×Int×(List UInt8)×Int×(List xZ0)×Int×(List UInt8)×Int)×(Int)):=(LQ.m [] [3,7,12] (.c 3 (.ptr 0 0) (.c 7 (.ptr 1 0) (.c 12 (.i .i64) .n))) (.c (.c (.r 5) (.c (.i .i64) (.c .s (.c (.i .u8) .n)))) (.c (.c (.r 5) (.c (.i .i64) (.c .s (.c (.i .u8) .n)))) .n)) .n).re (fun a=>((a.2.1.1.1,a.2.1.1.2.1,a.2.1.1.2.2.1,a.2.1.1.2.2.2.1,a.2.1.2.1.1,a.2.1.2.1.2.1,a.2.1.2.1.2.2.1,a.2.1.2.1.2.2.2.1),a.1.2.2.1)) (fun x=>(((),(),x.2,()),((x.1.1,x.1.2.1,x.1.2.2.1,x.1.2.2.2.1,()),(x.1.2.2.2.2.1,x.1.2.2.2.2.2.1,x.1.2.2.2.2.2.2.1,x.1.2.2.2.2.2.2.2,()),()),())) (fun _=>rfl)
def xZ6N (N:Nat) (c:(List xZ0)×Int×(List UInt8)×Int×(List xZ0)×Int×(List UInt8)×Int) (next:Int→Option Bool) (v:Int):Option Bool:=xZ2q N c.1 c.2.1 c.2.2.1 c.2.2.2.1 c.2.2.2.2.1 c.2.2.2.2.2.1 c.2.2.2.2.2.2.1 c.2.2.2.2.2.2.2 (fun u0=>next u0) v
abbrev xZb0 (N:Nat):((List xZ0)×Int×(List UInt8)×Int×(List xZ0)×Int×(List UInt8)×Int)×(Int)→Option Bool:=fun a=>loopV (xZ6N N a.1) N a.2
end
end
end Go.Proofs.YtbioikdfpfafaaaGreatDoor.T
