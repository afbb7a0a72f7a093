/- Typed values of a walk, and the run of a compact code over them, as a plain function. No premise beyond what each theorem says. -/
import Derived.Test.YtbioikdfpfafaaaGreatDoorTA2
import Derived.Defers
set_option linter.all false
set_option linter.unusedSimpArgs false
set_option linter.unusedVariables false
namespace Go.Proofs.YtbioikdfpfafaaaGreatDoor.T
open Go
def flm {α β:Type} (f:α→List β):List α→List β
 | []=>[]
 | x::l=>f x++flm f l
def oc {α X:Type} (f:α→List α→Option X):List α→Option X
 | x::l=>f x l
 | []=>none
def on {α X:Type} (x:X):List α→Option X
 | []=>some x
 | _=>none
theorem xZsZ {α X:Type} {f:α→List α→Option X} {l:List α} {x:X} (h:oc f l=some x):∃ a r,l=a::r∧f a r=some x:=by
 cases l with
 | nil=>cases h
 | cons a r=>exact ⟨a,r,rfl,h⟩
theorem xZtI {α X:Type} {y x:X} {l:List α} (h:on y l=some x):l=[]∧y=x:=by
 cases l with
 | nil=>cases h;exact ⟨rfl,rfl⟩
 | cons a r=>cases h
inductive BV (T:Nat→Type) where
 | raw (x:AV)
 | emp
 | int (k:IntKind) (n:Int)
 | bool (b:Bool)
 | str (s:List UInt8)
 | flt (k:FloatKind) (n:Nat)
 | agg (cs:List (BV T))
 | tup (cs:List (BV T))
 | sl (i:Nat) (l:List (T i))
 | own (t:Nat)
 | ptr (b o:Nat)
 | aptr (b o:Nat) (p:List (Nat×Nat×Int×Nat))
 | eptr (t i:Nat) (n:Int) (o:Nat)
 | dptr (cs:List (BV T))
 | fn (f:Fn) (a b:List (BV T))
 | ifc (t:TypeId) (x:BV T)
 | tr (i:Nat) (x:T i)
inductive BB (T:Nat→Type) where
 | dead
 | live (i:Nat) (l:List (T i))
 | froz (i:Nat) (l:List (T i))
structure BH (T:Nat→Type) where
 box:List (List (BV T))
 buf:List (BB T)
structure Tb (T:Nat→Type) where
 k:Nat→Nat
 ag:Nat→Bool
 eA:(i:Nat)→T i→AV
 enc:(i:Nat)→T i→List (BV T)
 dec:(i:Nat)→List (BV T)→Option (T i)
 eX:(i:Nat)→T i→AV:=fun _ _=>.any
 el:(i:Nat)→T i→(R:Type)→(BV T→Option R)→Option R:=fun _ _ _ _=>none
 fo:TypeId→Option Nat:=fun _=>none
 fd:(i:Nat)→TypeId→BV T→Option (T i):=fun _ _ _=>none
section
variable {T:Nat→Type}
def pofs (B:Tb T):List (Nat×Nat×Int×Nat)→Nat
 | []=>0
 | (i,_,n,f)::p=>n.toNat * B.k i+f+pofs B p
mutual
def BV.av (B:Tb T):BV T→AV
 | .raw x=>x
 | .emp=>.emp
 | .int k n=>.v (.int k n)
 | .bool b=>.v (.bool b)
 | .str s=>.v (.string (bs s))
 | .flt k n=>.v (.float k n)
 | .agg cs=>.agg (BV.avs B cs)
 | .tup cs=>.tup (BV.avs B cs)
 | .sl i l=>.sl (B.k i) (l.map (B.eA i))
 | .own t=>.own t
 | .ptr b o=>.ptr b o
 | .aptr b o p=>.ptr b (o+pofs B p)
 | .eptr t i n o=>.eptr t (B.k i) n.toNat o
 | .dptr cs=>.dptr (BV.avs B cs)
 | .fn f a b=>.fn f (BV.avs B a) (BV.avs B b)
 | .ifc t x=>.ifc t (BV.av B x)
 | .tr i x=>.opq (B.eX i x)
def BV.avs (B:Tb T):List (BV T)→List AV
 | []=>[]
 | x::xs=>BV.av B x::BV.avs B xs
end
def BB.av (B:Tb T):BB T→Buf
 | .dead=>.dead
 | .live i l=>.live (B.k i) (l.map (B.eA i))
 | .froz i l=>.froz (B.k i) (l.map (B.eA i))
def BH.av (B:Tb T) (H:BH T):AH:=⟨H.box.map (BV.avs B),H.buf.map (BB.av B)⟩
end
abbrev SE (T:Nat→Type):=List (Nat×BV T)
section
variable {T:Nat→Type}
def lk:SE T→Nat→BV T
 | [],_=>.raw .any
 | (m,v)::r,n=>match Nat.beq m n with
   | true=>v
   | false=>lk r n
def cbv1:AV→BV T
 | .v (.int k n)=>.int k n
 | .v (.bool b)=>.bool b
 | .v (.string s)=>.str s.data.toList
 | .v (.float k n)=>.flt k n
 | .emp=>.emp
 | x=>.raw x
def cbv:AV→BV T
 | .agg cs=>.agg (cs.map cbv1)
 | .fn f [] []=>.fn f [] []
 | x=>cbv1 x
def bod (e:SE T):Od→BV T
 | .t n=>lk e n
 | .c x=>cbv x
def putE (e:SE T):Option Nat→BV T→SE T
 | some d,v=>(d,v)::e
 | none,_=>e
def BV.cells:BV T→List (BV T)
 | .agg cs=>cs
 | .raw x=>match x with
   | .agg cs=>cs.map .raw
   | x=>[.raw x]
 | x=>[x]
def BV.one:BV T→Bool
 | .raw x=>x.one
 | .agg _ | .tup _=>false
 | _=>true
def onesB (cs:List (BV T)):Bool:=cs.all BV.one
def mkB (ag:Bool) (cs:List (BV T)):BV T:=match ag with
 | true=>.agg cs
 | false=>cs.headD (.raw .any)
def putB (cs:List (BV T)) (o:Nat):List (BV T)→List (BV T)
 | []=>cs
 | x::xs=>putB (cs.set o x) (o+1) xs
def castR (j i:Nat) (l:List (T j)):Option (List (T i)):=if h:j=i then some (h ▸ l) else none
def asInt (k:IntKind):BV T→Option Int
 | .int k' n=>if k'=k then some n else none
 | _=>none
def asBool:BV T→Option Bool
 | .bool b=>some b
 | _=>none
def asStr:BV T→Option (List UInt8)
 | .str s=>some s
 | _=>none
def asFlt (k:FloatKind):BV T→Option Nat
 | .flt k' n=>if k'=k then some n else none
 | _=>none
def asRow (i:Nat):BV T→Option (List (T i))
 | .sl j l=>castR j i l
 | .emp=>some []
 | _=>none
def P1 {α X:Type} (d:BV T→Option α) (f:α→List (BV T)→Option X):List (BV T)→Option X
 | c::cs=>(d c).bind fun a=>f a cs
 | []=>none
def P0 {X:Type} (x:X):List (BV T)→Option X
 | []=>some x
 | _=>none
variable {R:Type} (B:Tb T)
def gd (p:Bool) (x:Option R):Option R:=cond p x none
def leB:Int→Int→Bool
 | .ofNat a,.ofNat b=>Nat.ble a b
 | .ofNat _,.negSucc _=>false
 | .negSucc _,.ofNat _=>true
 | .negSucc a,.negSucc b=>Nat.ble b a
def ltB (a b:Int):Bool:=!(leB b a)
def i64b (n:Int):Bool:=leB (-9223372036854775808) n&&leB n 9223372036854775807
def biI (op:BinOp) (wr:Bool) (k:IntKind) (a b:Int) (K:BV T→Option R):Option R:=
 match op with
 | .add=>match k,wr with
   | .i64,false=>gd (i64b (a+b)) (K (.int .i64 (a+b)))
   | k,_=>K (.int k (k.wrap (a+b)))
 | .sub=>match k,wr with
   | .i64,false=>gd (i64b (a - b)) (K (.int .i64 (a - b)))
   | k,_=>K (.int k (k.wrap (a - b)))
 | .mul=>match k,wr with
   | .i64,false=>gd (i64b (a * b)) (K (.int .i64 (a * b)))
   | k,_=>K (.int k (k.wrap (a * b)))
 | .quo=>gd (b != 0) (K (.int k (k.wrap (a.tdiv b))))
 | .rem=>gd (b != 0) (K (.int k (a.tmod b)))
 | .and=>K (.int k (k.wrap (BitVec.ofInt k.bits a &&& BitVec.ofInt k.bits b).toNat))
 | .or=>K (.int k (k.wrap (BitVec.ofInt k.bits a ||| BitVec.ofInt k.bits b).toNat))
 | .xor=>K (.int k (k.wrap (BitVec.ofInt k.bits a ^^^ BitVec.ofInt k.bits b).toNat))
 | .andNot=>K (.int k (k.wrap (BitVec.ofInt k.bits a &&& ~~~ BitVec.ofInt k.bits b).toNat))
 | .shl=>gd (leB 0 b) (K (.int k (k.wrap (a * 2 ^ (min b.toNat k.bits)))))
 | .shr=>gd (leB 0 b) (K (.int k (a.fdiv (2 ^ (min b.toNat k.bits)))))
 | .eql=>K (.bool (a==b))
 | .neq=>K (.bool (a != b))
 | .lss=>K (.bool (ltB a b))
 | .leq=>K (.bool (leB a b))
 | .gtr=>K (.bool (ltB b a))
 | .geq=>K (.bool (leB b a))
def biS (op:BinOp) (x y:List UInt8) (K:BV T→Option R):Option R:=
 match op with
 | .add=>gd (Nat.ble (x.length+y.length) 9223372036854775807) (K (.str (x++y)))
 | .eql=>K (.bool (x==y))
 | .neq=>K (.bool (!(x==y)))
 | .lss=>K (.bool (Op.bytesLess x y))
 | .leq=>K (.bool (Op.bytesLess x y || x==y))
 | .gtr=>K (.bool (!(Op.bytesLess x y || x==y)))
 | .geq=>K (.bool (!Op.bytesLess x y))
 | _=>none
def isShift:BinOp→Bool
 | .shl | .shr=>true
 | _=>false
def binS' (op:BinOp) (wr:Bool) (x y:BV T) (K:BV T→Option R):Option R:=
 match x,y with
 | .int k a,.int k' b=>match isShift op || decide (k=k') with
   | true=>biI op wr k a b K
   | false=>none
 | .str a,.str b=>biS op a b K
 | _,_=>none
def neS (ne:Bool) (b:Bool):Bool:=match ne with
 | true=>!b
 | false=>b
def eqL1 (k:EK) (x y:BV T):Option Bool:=
 match k,x,y with
 | .i k,.int k1 a,.int k2 b=>if k1=k∧k2=k then some (a==b) else none
 | .s,.str a,.str b=>some (a==b)
 | .b,.bool a,.bool b=>some (a==b)
 | _,_,_=>none
def eqLs:List (Nat×EK)→List (BV T)→List (BV T)→Option Bool
 | [],_,_=>some true
 | [(o,k)],xs,ys=>eqL1 k (xs.getD o (.raw .any)) (ys.getD o (.raw .any))
 | (o,k)::l,xs,ys=>match eqL1 k (xs.getD o (.raw .any)) (ys.getD o (.raw .any)),eqLs l xs ys with
   | some b,some r=>some (b&&r)
   | _,_=>none
def optK (x:Option (BV T)) (K:BV T→Option R):Option R:=match x with
 | some v=>K v
 | none=>none
def eqiB (ne c:Bool):BV T→BV T→Option (BV T)
 | .raw (.v .nilIface),.raw (.v .nilIface)=>match c with
   | true=>some (.bool (neS ne true))
   | false=>none
 | .ifc _ _,.raw (.v .nilIface)=>some (.bool (neS ne false))
 | .raw (.v .nilIface),.ifc _ _=>some (.bool (neS ne false))
 | _,_=>none
def eqpB (ne:Bool):BV T→BV T→Option (BV T)
 | .raw (.v (.pointer none)),.raw (.v (.pointer none))=>some (.bool (neS ne true))
 | .ptr _ _,.raw (.v (.pointer none))=>some (.bool (neS ne false))
 | .eptr _ _ _ _,.raw (.v (.pointer none))=>some (.bool (neS ne false))
 | .dptr _,.raw (.v (.pointer none))=>some (.bool (neS ne false))
 | .ptr b o,.ptr b' o'=>match Nat.beq b b'&&Nat.beq o o' with
   | true=>some (.bool (neS ne true))
   | false=>none
 | _,_=>none
def bufA (H:BH T) (t:Nat):BB T:=H.buf.getD t .dead
def lenB' (H:BH T) (st:Bool):BV T→Option (BV T)
 | .str s=>match st with
   | true=>some (.int .i64 (s.length:Int))
   | false=>none
 | .sl _ l=>match st with
   | true=>none
   | false=>some (.int .i64 (l.length:Int))
 | .emp=>match st with
   | true=>none
   | false=>some (.int .i64 0)
 | .own u=>match st,bufA H u with
   | false,.live _ l=>some (.int .i64 (l.length:Int))
   | false,.froz _ l=>some (.int .i64 (l.length:Int))
   | _,_=>none
 | _=>none
def fillS (e:SE T) (cs:List (BV T)):List (Nat×Nat×Od)→Option (List (BV T))
 | []=>some cs
 | (o,n,x)::ps=>match Nat.beq (bod e x).cells.length n&&onesB (bod e x).cells&&Nat.ble (o+n) cs.length with
   | true=>fillS e (putB cs o (bod e x).cells) ps
   | false=>none
def frzBB:BB T→BB T
 | .live i l=>.froz i l
 | b=>b
def frzHB (H:BH T) (ts:List Nat):BH T:=⟨H.box,ts.foldl (fun buf t=>buf.set t (frzBB (buf.getD t .dead))) H.buf⟩
def own1B:BV T→List Nat
 | .own t=>[t]
 | .raw x=>own1 x
 | _=>[]
def ownsB:BV T→List Nat
 | .agg cs=>cs.flatMap own1B
 | .raw x=>owns x
 | x=>own1B x
def frz1S (H:BH T):BV T→BV T
 | .own t=>match bufA H t with
   | .froz i l=>.sl i l
   | _=>.own t
 | .raw x=>.raw (frz1 (H.av B) x)
 | x=>x
def frzS' (H:BH T):BV T→BV T
 | .agg cs=>.agg (cs.map (frz1S B H))
 | .raw x=>.raw (frz (H.av B) x)
 | x=>frz1S B H x
def isAgB:BV T→Bool
 | .agg _=>true
 | .raw x=>match x with
   | .agg _=>true
   | _=>false
 | _=>false
def decL (i:Nat):List (BV T)→Option (List (T i))
 | []=>some []
 | x::xs=>match Bool.xor (isAgB x) (B.ag i),B.dec i x.cells,decL i xs with
   | false,some a,some l=>some (a::l)
   | _,_,_=>none
def srcS (H:BH T):BV T→Option ((i:Nat)×List (T i))
 | .sl i l=>some ⟨i,l⟩
 | .own u=>match bufA H u with
   | .live i l=>some ⟨i,l⟩
   | .froz i l=>some ⟨i,l⟩
   | .dead=>none
 | _=>none
def appJ (i by_:Nat) (xs:List (T i)) (H:BH T) (buf:List (BB T)) (ys:List (T i)) (K:BV T→BH T→Option R):Option R:=
 match Nat.blt 0 by_ with
 | true=>gd (Nat.ble ((xs.length+ys.length) * by_) 140737488355328) (K (.own H.buf.length) ⟨H.box,buf++[.live i (xs++ys)]⟩)
 | false=>none
def appS (sb:Nat→Option (List UInt8→(i:Nat)×List (T i))) (k by_:Nat) (H:BH T) (x y:BV T) (K:BV T→BH T→Option R):Option R:=
 match x with
 | .emp=>match y with
   | .emp=>none
   | .str s=>match sb k with
     | some f=>match f s with
       | ⟨i,ys⟩=>appJ i by_ [] H H.buf ys K
     | none=>none
   | y=>match srcS H y with
     | some ⟨i,ys⟩=>match Nat.beq (B.k i) k with
       | true=>appJ i by_ [] H H.buf ys K
       | false=>none
     | none=>none
 | .own u=>match bufA H u with
   | .live i xs=>match Nat.beq (B.k i) k with
     | true=>match y with
       | .emp=>appJ i by_ xs H (H.buf.set u .dead) [] K
       | .str s=>match sb k with
         | some f=>match f s with
           | ⟨j,ys⟩=>match castR j i ys with
             | some ys=>appJ i by_ xs H (H.buf.set u .dead) ys K
             | none=>none
         | none=>none
       | y=>match srcS H y with
         | some ⟨j,ys⟩=>match castR j i ys with
           | some ys=>appJ i by_ xs H (H.buf.set u .dead) ys K
           | none=>none
         | none=>none
     | false=>none
   | _=>none
 | _=>none
def bndS (e:SE T) (n:Int):Option Od→Option Int
 | none=>some n
 | some x=>match bod e x with
   | .int _ m=>some m
   | _=>none
def cutL {α:Type} (l:List α) (lo hi:Option Int):List α:=
 match lo,hi with
 | none,none=>l
 | none,some h=>l.take h.toNat
 | some a,none=>l.drop a.toNat
 | some a,some h=>(l.take h.toNat).drop a.toNat
def bndO (e:SE T):Option Od→Option (Option Int)
 | none=>some none
 | some x=>match bod e x with
   | .int _ m=>some (some m)
   | _=>none
def cutS (lo hi:Option Int) (n:Int) (x:Option R):Option R:=
 match lo,hi with
 | none,none=>x
 | none,some h=>gd (leB 0 h) (gd (leB h n) x)
 | some a,none=>gd (leB 0 a) (gd (leB a n) x)
 | some a,some h=>gd (leB 0 a) (gd (leB a h) (gd (leB h n) x))
def slcS (e:SE T) (H:BH T) (dr st:Bool) (k:Nat) (x:BV T) (lo hi mx:Option Od) (K:BV T→BH T→Option R):Option R:=
 match mx with
 | some m=>match m,x,st with
   | .c (.v (.int _ 0)),.sl _ _,false=>match bndS e 0 lo,bndS e 1 hi with
     | some 0,some 0=>K .emp H
     | _,_=>none
   | .c (.v (.int _ 0)),.emp,false=>match bndS e 0 lo,bndS e 1 hi with
     | some 0,some 0=>K .emp H
     | _,_=>none
   | _,_,_=>none
 | none=>match bndO e lo,bndO e hi with
   | some a,some h=>match x with
     | .str s=>match st with
       | true=>cutS a h (s.length:Int) (K (.str (cutL s a h)) H)
       | false=>none
     | .sl i l=>match !st&&Nat.beq (B.k i) k with
       | true=>cutS a h (l.length:Int) (K (.sl i (cutL l a h)) H)
       | false=>none
     | .emp=>match st with
       | true=>none
       | false=>cutS a h 0 (K .emp H)
     | .own u=>match bufA H u with
       | .froz i l=>match !st&&Nat.beq (B.k i) k with
         | true=>cutS a h (l.length:Int) (K (.sl i (cutL l a h)) H)
         | false=>none
       | .live i l=>match !st&&Nat.beq (B.k i) k&&!dr with
         | true=>cutS a h (l.length:Int) (K (.sl i (cutL l a h)) (frzHB H [u]))
         | false=>none
       | .dead=>none
     | _=>none
   | _,_=>none
structure Hint (T:Nat→Type) where
 bt:List (Nat×Nat)
 mks:List (TypeId×((i:Nat)×T i×Nat))
 sb:Nat→Option (List UInt8→(i:Nat)×List (T i))
 bo:(i:Nat)→List (T i)→Option (List UInt8)
def hintOf:List (Nat×Nat)→Nat→Option Nat
 | [],_=>none
 | (m,i)::r,n=>match Nat.beq m n with
   | true=>some i
   | false=>hintOf r n
def xZrr (e:SE T) (H:BH T) (d:Option Nat) (ty:TypeId) (x:Od) (K:SE T→BH T→Option R):Option R:=
 match B.fo ty with
 | some i=>match B.fd i ty (bod e x) with
   | some y=>K (putE e d (.tr i y)) H
   | none=>none
 | none=>K (putE e d (.ifc ty (bod e x))) H
def xZ8q (e:SE T) (H:BH T) (d:Option Nat) (x:Od) (K:SE T→BH T→Option R):Option R:=
 match onesB (bod e x).cells with
 | true=>K (putE e d (.ptr H.box.length 0)) ⟨H.box++[(bod e x).cells],H.buf⟩
 | false=>none
def xZ20 (e:SE T) (H:BH T) (d:Option Nat) (zs:List AV) (K:SE T→BH T→Option R):Option R:=
 match onesB (zs.map (cbv1 (T:=T))) with
 | true=>K (putE e d (.ptr H.box.length 0)) ⟨H.box++[zs.map cbv1],H.buf⟩
 | false=>none
def xZ22 (e:SE T) (H:BH T) (d:Option Nat) (zs:List AV) (ps:List (Nat×Nat×Od)) (K:SE T→BH T→Option R):Option R:=
 match onesB (zs.map (cbv1 (T:=T))),fillS e (zs.map cbv1) ps with
 | true,some cs=>K (putE e d (.agg cs)) H
 | _,_=>none
def hintD (h:Hint T) (d:Nat):Bool:=match hintOf h.bt (d+1000000) with
 | some _=>true
 | none=>false
def xZ8o (h:Hint T) (dr:Bool) (e:SE T) (H:BH T) (d:Option Nat) (k:Nat) (ps:List Od) (K:SE T→BH T→Option R):Option R:=
 match d with
 | some d=>match hintOf h.bt d with
   | some i=>match Nat.beq (B.k i) k with
     | true=>match dr || hintD h d with
       | true=>match decL B i (ps.map (bod e)) with
         | some l=>K ((d,.sl i l)::e) H
         | none=>none
       | false=>
         let H1:=frzHB H ((ps.map (bod e)).flatMap ownsB)
         match decL B i (ps.map fun x=>frzS' B H1 (bod e x)) with
         | some l=>K ((d,.own H.buf.length)::e) ⟨H1.box,H1.buf++[.live i l]⟩
         | none=>none
     | false=>none
   | none=>none
 | none=>none
def hintI (h:Hint T):Option Nat→Option Nat
 | some d=>hintOf h.bt (d+2000000)
 | none=>none
def ieq (a b:Int):Bool:=leB a b&&leB b a
def decM (i:Nat):Nat→List (BV T)→Option (List (T i))
 | 0,_=>some []
 | m+1,cs=>match B.dec i (cs.take (B.k i)),decM i m (cs.drop (B.k i)) with
   | some a,some l=>some (a::l)
   | _,_=>none
def setM {i:Nat} (n:Int) (v:T i):Nat→List (T i)→List (T i)
 | _,[]=>[]
 | j,x::l=>cond (ieq n (Int.ofNat j)) v x::setM n v (j+1) l
def encM (i:Nat):List (T i)→List (BV T)→List (BV T)
 | [],r=>r
 | x::l,r=>B.enc i x++encM i l r
def pofA:List (Nat×Nat×Int×Nat)→Nat→List (Nat×Nat×Int×Nat)
 | [],_=>[]
 | [(i,m,n,f)],x=>[(i,m,n,f+x)]
 | a::p,x=>a::pofA p x
def ldM:List (Nat×Nat×Int×Nat)→List (BV T)→(List (BV T)→Option R)→Option R
 | [],cs,K=>K cs
 | (i,m,n,f)::p,cs,K=>match Nat.ble f (B.k i),decM B i m cs with
   | true,some l=>(ix l n).bind fun el=>ldM p ((B.enc i el).drop f) K
   | _,_=>none
def stM (ys:List (BV T)):List (Nat×Nat×Int×Nat)→List (BV T)→(List (BV T)→Option R)→Option R
 | [],cs,K=>match Nat.ble ys.length cs.length with
   | true=>K (putB cs 0 ys)
   | false=>none
 | (i,m,n,f)::p,cs,K=>match Nat.ble f (B.k i),decM B i m cs with
   | true,some l=>(ix l n).bind fun el=>stM ys p ((B.enc i el).drop f) fun c'=>match B.dec i ((B.enc i el).take f++c') with
     | some el'=>K (encM B i (setM n el' 0 l) (cs.drop (m * B.k i)))
     | none=>none
   | _,_=>none
def op_ld (e:SE T) (H:BH T) (d:Option Nat) (n:Nat) (ag:Bool) (x:Od) (K:SE T→BH T→Option R):Option R:=
 match bod e x with
 | .ptr b o=>match H.box[b]? with
   | some cs=>match Nat.ble (o+n) cs.length with
     | true=>K (putE e d (mkB ag ((cs.drop o).take n))) H
     | false=>none
   | none=>none
 | .dptr cs=>match Nat.ble n cs.length with
   | true=>K (putE e d (mkB ag (cs.take n))) H
   | false=>none
 | .eptr t i m o=>match bufA H t with
   | .live j l=>match Nat.beq (B.k i) (B.k j)&&Nat.ble (o+n) (B.k j) with
     | true=>(ix l m).bind fun el=>K (putE e d (mkB ag (((B.enc j el).drop o).take n))) H
     | false=>none
   | .froz j l=>match Nat.beq (B.k i) (B.k j)&&Nat.ble (o+n) (B.k j) with
     | true=>(ix l m).bind fun el=>K (putE e d (mkB ag (((B.enc j el).drop o).take n))) H
     | false=>none
   | .dead=>none
 | .aptr b o p=>match H.box[b]? with
   | some cs=>ldM B p (cs.drop o) fun c'=>match Nat.ble o cs.length&&Nat.ble n c'.length with
     | true=>K (putE e d (mkB ag (c'.take n))) H
     | false=>none
   | none=>none
 | _=>none
def op_st (e:SE T) (H:BH T) (d:Option Nat) (n:Nat) (x:Od) (y:Od) (K:SE T→BH T→Option R):Option R:=
 match bod e x with
 | .ptr b o=>match H.box[b]? with
   | some cs=>match Nat.beq (bod e y).cells.length n&&onesB (bod e y).cells&&Nat.ble (o+n) cs.length with
     | true=>K (putE e d (.raw (.v undef))) ⟨H.box.set b (putB cs o (bod e y).cells),H.buf⟩
     | false=>none
   | none=>none
 | .eptr t i m o=>match bufA H t with
   | .live j l=>
     let ys:=(frzS' B H (bod e y)).cells
     match Nat.beq (B.k i) (B.k j)&&Nat.ble (o+n) (B.k j)&&Nat.beq ys.length n&&Nat.blt 0 n with
     | true=>(ix l m).bind fun el=>match B.dec j (putB (B.enc j el) o ys) with
       | some el'=>K (putE e d (.raw (.v undef))) ⟨H.box,H.buf.set t (.live j (l.set m.toNat el'))⟩
       | none=>none
     | false=>none
   | _=>none
 | .aptr b o p=>match H.box[b]? with
   | some cs=>match Nat.beq (bod e y).cells.length n&&onesB (bod e y).cells&&Nat.ble o cs.length with
     | true=>stM B (bod e y).cells p (cs.drop o) fun c'=>K (putE e d (.raw (.v undef))) ⟨H.box.set b (cs.take o++c'),H.buf⟩
     | false=>none
   | none=>none
 | _=>none
def op_fa (e:SE T) (H:BH T) (d:Option Nat) (off:Nat) (x:Od) (K:SE T→BH T→Option R):Option R:=
 match bod e x with
 | .ptr b o=>K (putE e d (.ptr b (o+off))) H
 | .dptr cs=>match Nat.ble off cs.length with
   | true=>K (putE e d (.dptr (cs.drop off))) H
   | false=>none
 | .eptr t i m o=>K (putE e d (.eptr t i m (o+off))) H
 | .aptr b o (q::p)=>K (putE e d (.aptr b o (pofA (q::p) off))) H
 | _=>none
def xZ7X (e:SE T) (H:BH T) (d:Option Nat) (off:Nat) (n:Nat) (ag:Bool) (x:Od) (K:SE T→BH T→Option R):Option R:=
 match bod e x with
 | .agg cs=>match Nat.ble (off+n) cs.length with
   | true=>K (putE e d (mkB ag ((cs.drop off).take n))) H
   | false=>none
 | _=>none
def op_ia (e:SE T) (H:BH T) (d:Option Nat) (k:Nat) (x:Od) (i:Od) (K:SE T→BH T→Option R):Option R:=
 match bod e x,bod e i with
 | .sl j l,.int _ n=>match Nat.beq (B.k j) k with
   | true=>(ix l n).bind fun el=>K (putE e d (.dptr (B.enc j el))) H
   | false=>none
 | .own u,.int _ n=>match bufA H u with
   | .live j l=>match Nat.beq (B.k j) k with
     | true=>(ix l n).bind fun _=>K (putE e d (.eptr u j n 0)) H
     | false=>none
   | .froz j l=>match Nat.beq (B.k j) k with
     | true=>(ix l n).bind fun el=>K (putE e d (.dptr (B.enc j el))) H
     | false=>none
   | .dead=>none
 | _,_=>none
def xZ6T (h:Hint T) (e:SE T) (H:BH T) (d:Option Nat) (m:Nat) (k:Nat) (x:Od) (i:Od) (K:SE T→BH T→Option R):Option R:=
 match hintI h d with
 | some j=>match Nat.beq (B.k j) k,bod e x,bod e i with
   | true,.ptr b o,.int _ n=>gd (leB 0 n) (gd (ltB n (m:Int)) (K (putE e d (.aptr b o [(j,m,n,0)])) H))
   | true,.aptr b o p,.int _ n=>gd (leB 0 n) (gd (ltB n (m:Int)) (K (putE e d (.aptr b o (p++[(j,m,n,0)]))) H))
   | true,.dptr cs,.int _ n=>gd (leB 0 n) (gd (ltB n (m:Int)) (match decM B j m cs with
     | some l=>(ix l n).bind fun el=>K (putE e d (.dptr (B.enc j el))) H
     | none=>none))
   | _,_,_=>none
 | none=>match bod e x,bod e i with
 | .ptr b o,.int _ n=>gd (leB 0 n) (gd (ltB n (m:Int)) (K (putE e d (.ptr b (o+n.toNat * k))) H))
 | .dptr cs,.int _ n=>gd (leB 0 n) (gd (ltB n (m:Int)) (match Nat.ble (n.toNat * k) cs.length with
   | true=>K (putE e d (.dptr (cs.drop (n.toNat * k)))) H
   | false=>none))
 | _,_=>none
def op_ix (e:SE T) (H:BH T) (d:Option Nat) (x:Od) (i:Od) (K:SE T→BH T→Option R):Option R:=
 match bod e x,bod e i with
 | .str s,.int _ n=>(ix s n).bind fun c=>K (putE e d (.int .u8 (c.toNat:Int))) H
 | _,_=>none
def xZ87 (e:SE T) (H:BH T) (d:Option Nat) (st:Bool) (x:Od) (K:SE T→BH T→Option R):Option R:=optK (lenB' H st (bod e x)) fun v=>K (putE e d v) H
def xZ8a (e:SE T) (H:BH T) (d:Option Nat) (op:BinOp) (wr:Bool) (x:Od) (y:Od) (K:SE T→BH T→Option R):Option R:=binS' op wr (bod e x) (bod e y) fun v=>K (putE e d v) H
def xZ8j (e:SE T) (H:BH T) (d:Option Nat) (ne:Bool) (ls:List (Nat×EK)) (x:Od) (y:Od) (K:SE T→BH T→Option R):Option R:=
 match bod e x,bod e y with
 | .agg xs,.agg ys=>match eqLs ls xs ys with
   | some b=>K (putE e d (.bool (neS ne b))) H
   | none=>none
 | _,_=>none
def xZ83 (e:SE T) (H:BH T) (d:Option Nat) (ne:Bool) (x:Od) (y:Od) (K:SE T→BH T→Option R):Option R:=
 match bod e x,bod e y with
 | .bool a,.bool b=>K (putE e d (.bool (neS ne (a==b)))) H
 | _,_=>none
def xZ82 (e:SE T) (H:BH T) (d:Option Nat) (ne:Bool) (c:Bool) (x:Od) (y:Od) (K:SE T→BH T→Option R):Option R:=optK (eqiB ne c (bod e x) (bod e y)) fun v=>K (putE e d v) H
def xZ85 (e:SE T) (H:BH T) (d:Option Nat) (ne:Bool) (x:Od) (y:Od) (K:SE T→BH T→Option R):Option R:=optK (eqpB ne (bod e x) (bod e y)) fun v=>K (putE e d v) H
def op_un (e:SE T) (H:BH T) (d:Option Nat) (op:UnOp) (x:Od) (K:SE T→BH T→Option R):Option R:=
 match op,bod e x with
 | .not,.bool a=>K (putE e d (.bool (!a))) H
 | .neg,.int k a=>K (putE e d (.int k (k.wrap (0 - a)))) H
 | .xor,.int k a=>K (putE e d (.int k (k.wrap (BitVec.ofInt k.bits (if k.signed then -1 else k.max) ^^^ BitVec.ofInt k.bits a).toNat))) H
 | _,_=>none
def xZ8n (e:SE T) (H:BH T) (d:Option Nat) (k:IntKind) (x:Od) (K:SE T→BH T→Option R):Option R:=
 match bod e x with
 | .int _ a=>K (putE e d (.int k (k.wrap a))) H
 | _=>none
def xZ8c (e:SE T) (H:BH T) (d:Option Nat) (x:Od) (K:SE T→BH T→Option R):Option R:=
 match bod e x with
 | .str s=>K (putE e d (.str s)) H
 | _=>none
def xZ7W (e:SE T) (H:BH T) (d:Option Nat) (i:Nat) (x:Od) (K:SE T→BH T→Option R):Option R:=
 match bod e x with
 | .tup cs=>match Nat.blt i cs.length with
   | true=>K (putE e d (cs.getD i (.raw .any))) H
   | false=>none
 | _=>none
def xZ3A (e:SE T) (H:BH T) (d:Option Nat) (c:Od) (a:Od) (b:Od) (K:SE T→BH T→Option R):Option R:=
 match bod e c with
 | .bool c=>cond c (K (putE e d (bod e a)) H) (K (putE e d (bod e b)) H)
 | _=>none
def xZ7U (h:Hint T) (e:SE T) (H:BH T) (d:Option Nat) (k:Nat) (by_:Nat) (x:Od) (y:Od) (K:SE T→BH T→Option R):Option R:=appS B h.sb k by_ H (bod e x) (bod e y) fun v H=>K (putE e d v) H
variable (h:Hint T)
def opS (dr:Bool) (e:SE T) (H:BH T) (d:Option Nat) (o:SO) (K:SE T→BH T→Option R):Option R:=
 match o with
 | .mov x=>K (putE e d (bod e x)) H
 | .box x=>xZ8q e H d x K
 | .alloc zs=>xZ20 e H d zs K
 | .build zs ps=>xZ22 e H d zs ps K
 | .bsl k ps=>xZ8o B h dr e H d k ps K
 | .ld n ag x=>op_ld B e H d n ag x K
 | .st n x y=>op_st B e H d n x y K
 | .fa off x=>op_fa e H d off x K
 | .fld off n ag x=>xZ7X e H d off n ag x K
 | .ia k x i=>op_ia B e H d k x i K
 | .iaa m k x i=>xZ6T B h e H d m k x i K
 | .ix x i=>op_ix e H d x i K
 | .len st x=>xZ87 e H d st x K
 | .lenc n=>K (putE e d (.int .i64 n)) H
 | .bin op wr x y=>xZ8a e H d op wr x y K
 | .eqs ne ls x y=>xZ8j e H d ne ls x y K
 | .eqb ne x y=>xZ83 e H d ne x y K
 | .eqi ne c x y=>xZ82 e H d ne c x y K
 | .eqp ne x y=>xZ85 e H d ne x y K
 | .un op x=>op_un e H d op x K
 | .cvi k x=>xZ8n e H d k x K
 | .cvs x=>xZ8c e H d x K
 | .ext i x=>xZ7W e H d i x K
 | .pick c a b=>xZ3A e H d c a b K
 | .app k by_ x y=>xZ7U B h e H d k by_ x y K
 | .slc st k x lo hi mx=>slcS B e H dr st k (bod e x) lo hi mx fun v H=>K (putE e d v) H
 | .mki ty x=>xZrr B e H d ty x K
 | .fnv f a b=>K (putE e d (.fn f (a.map (bod e)) (b.map (bod e)))) H
 | .call _ _=>none
 | .callv _ _=>none
 | .raw _ _=>none
end
end Go.Proofs.YtbioikdfpfafaaaGreatDoor.T
namespace Go.Proofs.YtbioikdfpfafaaaGreatDoor.T
open Go
section
variable {T:Nat→Type}
theorem xZ2I (B:Tb T):∀ l:List (BV T),BV.avs B l=l.map (BV.av B)
 | []=>by simp [BV.avs]
 | x::l=>by simp [BV.avs,xZ2I B l]
def SE.av (B:Tb T) (nt:Nat) (e:SE T):List AV:=(List.range nt).map fun i=>(lk e i).av B
mutual
inductive LW:AV→AV→Prop
 | refl (x:AV):LW x x
 | emp (k:Nat):LW .emp (.sl k [])
 | sl (k:Nat) {a b:List AV} (h:LWs a b):LW (.sl k a) (.sl k b)
 | agg {a b:List AV} (h:LWs a b):LW (.agg a) (.agg b)
 | tup {a b:List AV} (h:LWs a b):LW (.tup a) (.tup b)
 | dptr {a b:List AV} (h:LWs a b):LW (.dptr a) (.dptr b)
 | fn (f:Fn) {a b c d:List AV} (h:LWs a b) (h':LWs c d):LW (.fn f a c) (.fn f b d)
 | ifc (t:TypeId) {x y:AV} (h:LW x y):LW (.ifc t x) (.ifc t y)
inductive LWs:List AV→List AV→Prop
 | nil:LWs [] []
 | cons {x y:AV} {a b:List AV} (h:LW x y) (r:LWs a b):LWs (x::a) (y::b)
end
theorem LWs.refl:∀ l:List AV,LWs l l
 | []=>.nil
 | x::l=>.cons (.refl x) (LWs.refl l)
theorem LWs.len:∀ {a b:List AV},LWs a b→a.length=b.length
 | _,_,.nil=>rfl
 | _,_,.cons _ r=>by simp [LWs.len r]
theorem LWs.append:∀ {a b c d:List AV},LWs a b→LWs c d→LWs (a++c) (b++d)
 | _,_,_,_,.nil,h=>h
 | _,_,_,_,.cons h r,q=>.cons h (LWs.append r q)
theorem LWs.get:∀ {a b:List AV},LWs a b→∀ i,LW (a.getD i .any) (b.getD i .any)
 | _,_,.nil,i=>by simp;exact .refl _
 | _,_,.cons h r,0=>by simpa using h
 | _,_,.cons h r,i+1=>by simpa using LWs.get r i
theorem LW.one {x y:AV} (h:LW x y):x.one=y.one:=by cases h<;>rfl
theorem LWs.ones:∀ {a b:List AV},LWs a b→ones a=ones b
 | _,_,.nil=>rfl
 | _,_,.cons h r=>by
   have:=LWs.ones r
   simp only [Go.Proofs.YtbioikdfpfafaaaGreatDoor.T.ones,List.all_cons] at this ⊢
   rw [h.one,this]
theorem LW.cells {x y:AV} (h:LW x y):LWs x.cells y.cells:=by
 cases h with
 | refl=>exact .refl _
 | emp k=>exact .cons (.emp k) .nil
 | sl k h=>exact .cons (.sl k h) .nil
 | agg h=>exact h
 | tup h=>exact .cons (.tup h) .nil
 | dptr h=>exact .cons (.dptr h) .nil
 | fn f h h'=>exact .cons (.fn f h h') .nil
 | ifc t h=>exact .cons (.ifc t h) .nil
section
variable {S:Nat→Prop} {w:World}
mutual
theorem LW.drep:∀ {x y:AV},LW x y→∀ {v},DRep S w v x→DRep S w v y
 | _,_,.refl _,_,h=>h
 | _,_,.emp k,_,h=>by cases h with | emp a=>exact .sl0 a 0 k
 | _,_,.sl k h,_,hv=>by
   cases hv with
   | sl0 a cap _=>have:=h.len;cases h;exact .sl0 a cap k
   | sl g o cap _ xs c T fz hc hs hg hb hk h1 q=>
     have hl:=h.len
     rw [hl]
     refine .sl g o cap k _ c T fz (by rw [← hl];exact hc) hs hg (by rw [← hl];exact hb) (fun i hi=>?_) (fun i hi j hj=>?_) fun i hi j hj=>?_
     ·rw [← (h.get i).cells.len];exact hk i (by rw [hl];exact hi)
     ·rw [← ((h.get i).cells.get j).one];exact h1 i (by rw [hl];exact hi) j hj
     ·exact LWs.drep2 h i (by rw [hl];exact hi) j (by rw [hk i (by rw [hl];exact hi)];exact hj) (q i (by rw [hl];exact hi) j hj)
 | _,_,.agg h,_,hv=>by
   cases hv with
   | agg vs _ hn q=>exact .agg vs _ (hn.trans h.len) fun i hi=>LWs.drep h i (by rw [h.len];exact hi) (q i (by rw [h.len];exact hi))
 | _,_,.tup h,_,hv=>by
   cases hv with
   | tup vs _ hn q=>exact .tup vs _ (hn.trans h.len) fun i hi=>LWs.drep h i (by rw [h.len];exact hi) (q i (by rw [h.len];exact hi))
 | _,_,.dptr h,_,hv=>by
   cases hv with
   | dptr g o cs c T fz hs hg hb h1 q=>
     exact .dptr g o _ c T fz hs hg (by rw [← h.len];exact hb) (fun j hj=>by rw [← (h.get j).one];exact h1 j (by rw [h.len];exact hj)) fun j hj=>LWs.drep h j (by rw [h.len];exact hj) (q j (by rw [h.len];exact hj))
 | _,_,.fn f h h',_,hv=>by
   cases hv with
   | fn _ vs us as bs hn hm q q'=>exact .fn f vs us _ _ (hn.trans h.len) (hm.trans h'.len) (fun i hi=>LWs.drep h i (by rw [h.len];exact hi) (q i (by rw [h.len];exact hi))) (fun i hi=>LWs.drep h' i (by rw [h'.len];exact hi) (q' i (by rw [h'.len];exact hi)))
 | _,_,.ifc t h,_,hv=>by
   cases hv with
   | ifc _ v a q=>exact .ifc t v _ (LW.drep h q)
theorem LWs.drep:∀ {a b:List AV},LWs a b→∀ i,i < a.length→∀ {v},DRep S w v (a.getD i .any)→DRep S w v (b.getD i .any)
 | _,_,.nil,i,hi,_,_=>by simp at hi
 | _,_,.cons h r,0,_,_,hv=>by simp only [List.getD_cons_zero] at hv ⊢;exact LW.drep h hv
 | _,_,.cons h r,i+1,hi,_,hv=>by simp only [List.getD_cons_succ] at hv ⊢;exact LWs.drep r i (by simpa using hi) hv
theorem LW.drepC:∀ {x y:AV},LW x y→∀ j,j < x.cells.length→∀ {v},DRep S w v (x.cells.getD j .any)→DRep S w v (y.cells.getD j .any)
 | _,_,.refl _,_,_,_,h=>h
 | _,_,.agg h,j,hj,_,hv=>LWs.drep h j hj hv
 | _,_,.emp k,0,_,_,hv=>LW.drep (.emp k) hv
 | _,_,.sl k h,0,_,_,hv=>LW.drep (.sl k h) hv
 | _,_,.tup h,0,_,_,hv=>LW.drep (.tup h) hv
 | _,_,.dptr h,0,_,_,hv=>LW.drep (.dptr h) hv
 | _,_,.fn f h h',0,_,_,hv=>LW.drep (.fn f h h') hv
 | _,_,.ifc t h,0,_,_,hv=>LW.drep (.ifc t h) hv
 | _,_,.emp _,j+1,hj,_,_=>by simp [AV.cells] at hj
 | _,_,.sl _ _,j+1,hj,_,_=>by simp [AV.cells] at hj
 | _,_,.tup _,j+1,hj,_,_=>by simp [AV.cells] at hj
 | _,_,.dptr _,j+1,hj,_,_=>by simp [AV.cells] at hj
 | _,_,.fn _ _ _,j+1,hj,_,_=>by simp [AV.cells] at hj
 | _,_,.ifc _ _,j+1,hj,_,_=>by simp [AV.cells] at hj
theorem LWs.drep2:∀ {a b:List AV},LWs a b→∀ i,i < a.length→∀ j,j < (a.getD i .any).cells.length→∀ {v},DRep S w v ((a.getD i .any).cells.getD j .any)→DRep S w v ((b.getD i .any).cells.getD j .any)
 | _,_,.nil,i,hi,_,_,_,_=>by simp at hi
 | _,_,.cons h r,0,_,j,hj,_,hv=>by simp only [List.getD_cons_zero] at hj hv ⊢;exact LW.drepC h j hj hv
 | _,_,.cons h r,i+1,hi,j,hj,_,hv=>by simp only [List.getD_cons_succ] at hj hv ⊢;exact LWs.drep2 r i (by simpa using hi) j hj hv
end
variable {M:Maps}
mutual
def AV.dd:AV→Bool
 | .agg cs=>dds cs
 | .ifc _ x=>x.dd
 | x=>x.dat
def dds:List AV→Bool
 | []=>true
 | x::l=>x.dd&&dds l
end
theorem xZoU:∀ {l:List AV},dds l=true→∀ i,i < l.length→(l.getD i .any).dd=true
 | [],_,i,hi=>by simp at hi
 | x::l,h,0,_=>by simp only [dds,Bool.and_eq_true] at h;simpa using h.1
 | x::l,h,i+1,hi=>by simp only [dds,Bool.and_eq_true] at h;simpa using xZoU h.2 i (by simpa using hi)
theorem xZvi {v:Value} {x:AV} (h:VRep M S w v x) (hd:x.dd=true):DRep S w v x:=by
 induction h with
 | data h=>exact h
 | agg vs cs hn _ ih=>exact .agg vs cs hn fun i hi=>ih i hi (xZoU (by simpa only [AV.dd] using hd) i hi)
 | ifc t v a _ ih=>exact .ifc t v a (ih (by simpa only [AV.dd] using hd))
 | _=>simp [AV.dd,AV.dat] at hd
mutual
theorem LW.rep:∀ {x y:AV},LW x y→∀ {v},VRep M S w v x→VRep M S w v y
 | _,_,.refl _,_,h=>h
 | _,_,.emp k,_,h=>.data (LW.drep (.emp k) (xZ3n h rfl))
 | _,_,.sl k h,_,hv=>.data (LW.drep (.sl k h) (xZ3n hv rfl))
 | _,_,.agg h,_,hv=>by
   obtain ⟨vs,rfl,hn,q⟩:=xZfG hv
   exact .agg vs _ (hn.trans h.len) fun i hi=>LWs.rep h i (by rw [h.len];exact hi) (q i (by rw [h.len];exact hi))
 | _,_,.tup h,_,hv=>by
   cases hv with
   | data hd=>exact .data (LW.drep (.tup h) hd)
   | tup vs _ hn q=>exact .tup vs _ (hn.trans h.len) fun i hi=>LWs.rep h i (by rw [h.len];exact hi) (q i (by rw [h.len];exact hi))
 | _,_,.dptr h,_,hv=>.data (LW.drep (.dptr h) (xZ3n hv rfl))
 | _,_,.fn f h h',_,hv=>by
   cases hv with
   | data hd=>exact .data (LW.drep (.fn f h h') hd)
   | fn _ vs us as bs hn hm q q'=>exact .fn f vs us _ _ (hn.trans h.len) (hm.trans h'.len) (fun i hi=>LWs.rep h i (by rw [h.len];exact hi) (q i (by rw [h.len];exact hi))) (fun i hi=>LWs.rep h' i (by rw [h'.len];exact hi) (q' i (by rw [h'.len];exact hi)))
 | _,_,.ifc t h,_,hv=>by
   cases hv with
   | data hd=>exact .data (LW.drep (.ifc t h) hd)
   | ifc _ v a q=>exact .ifc t v _ (LW.rep h q)
theorem LWs.rep:∀ {a b:List AV},LWs a b→∀ i,i < a.length→∀ {v},VRep M S w v (a.getD i .any)→VRep M S w v (b.getD i .any)
 | _,_,.nil,i,hi,_,_=>by simp at hi
 | _,_,.cons h r,0,_,_,hv=>by simp only [List.getD_cons_zero] at hv ⊢;exact LW.rep h hv
 | _,_,.cons h r,i+1,hi,_,hv=>by simp only [List.getD_cons_succ] at hv ⊢;exact LWs.rep r i (by simpa using hi) hv
end
theorem xZrb {v:Value} {t:TypeId} {x y:AV} (h:VRep M S w v (.ifc t x)) (hd:x.dd=true) (hl:LW x y):VRep M S w v (.opq (.ifc t y)):=by
 have h:=xZvi h (by simpa only [AV.dd] using hd)
 cases h with
 | ifc _ u _ h=>exact .data (.opq _ _ rfl (.ifc t u _ (hl.drep h)))
end
inductive BLW:Buf→Buf→Prop
 | dead (b:Buf) (h:b.isLive=false):BLW b .dead
 | live (k:Nat) {a b:List AV} (h:LWs a b):BLW (.live k a) (.live k b)
 | froz (k:Nat) {a b:List AV} (h:LWs a b):BLW (.froz k a) (.froz k b)
theorem BLW.refl (b:Buf):BLW b b:=by
 cases b with
 | dead=>exact .dead _ rfl
 | live k xs=>exact .live k (.refl _)
 | froz k xs=>exact .froz k (.refl _)
theorem BLW.isLive {a b:Buf} (h:BLW a b):a.isLive=b.isLive:=by
 cases h with
 | dead _ h=>exact h
 | live=>rfl
 | froz=>rfl
theorem LiveRep.lw {S w v k} {a b:List AV} (hl:LiveRep S w v k a) (h:LWs a b):LiveRep S w v k b:=by
 rcases hl with ⟨hv,rfl⟩ | ⟨g,cap,c,T,hv,hs,hg,hr⟩
 ·cases h;exact .inl ⟨hv,rfl⟩
 ·refine .inr ⟨g,cap,c,T,by rw [← h.len];exact hv,hs,hg,⟨by rw [← h.len];exact hr.fits,hr.small,hr.size,fun i hi=>?_,fun i hi j hj=>?_,fun i hi j hj=>?_⟩⟩
  ·rw [← (h.get i).cells.len];exact hr.len i (by rw [h.len];exact hi)
  ·rw [← ((h.get i).cells.get j).one];exact hr.one i (by rw [h.len];exact hi) j hj
  ·exact h.drep2 i (by rw [h.len];exact hi) j (by rw [hr.len i (by rw [h.len];exact hi)];exact hj) (hr.rep i (by rw [h.len];exact hi) j hj)
structure LWH (H H':AH):Prop where
 n:H.box.length=H'.box.length
 m:H.buf.length=H'.buf.length
 box:∀ b,LWs (H.box.getD b []) (H'.box.getD b [])
 buf:∀ t,BLW (H.buf.getD t .dead) (H'.buf.getD t .dead)
theorem LWH.refl (H:AH):LWH H H:=⟨rfl,rfl,fun _=>.refl _,fun _=>.refl _⟩
theorem xZef {M:Maps} {H H':AH} (h:LWH H H') (t g:Nat):lives M H t g ↔ lives M H' t g:=by
 simp only [lives,h.m,(h.buf t).isLive]
theorem xZez {M:Maps} {H H':AH} (h:LWH H H') (g:Nat):foot M H g ↔ foot M H' g:=by
 simp only [foot,xZef h,h.n]
theorem RelH.lw {M S w} {H H':AH} (hh:RelH M S H w) (h:LWH H H'):RelH M S H' w where
 nb:=hh.nb.trans h.n
 nt:=hh.nt.trans h.m
 sits:=hh.sits
 box:=fun b hb=>by
  obtain ⟨un,c,T,hg,hs,q⟩:=hh.box b (by rw [h.n];exact hb)
  have hl:=(h.box b).len
  refine ⟨un,c,T,hg,hs.trans hl,fun i hi=>?_⟩
  have:=q i (by rw [hl];exact hi)
  exact ⟨by rw [← ((h.box b).get i).one];exact this.1,(h.box b).rep i (by rw [hl];exact hi) this.2⟩
 buf:=fun t ht=>by
  have q:=hh.buf t (by rw [h.m];exact ht)
  have hb:=h.buf t
  generalize H.buf.getD t .dead=x at q hb
  generalize H'.buf.getD t .dead=y at hb
  cases hb with
  | dead _ _=>trivial
  | live k h=>exact LiveRep.lw q h
  | froz k h=>exact LW.drep (.sl k h) q
 bb:=fun b b' h1 h2=>hh.bb b b' (by rw [h.n];exact h1) (by rw [h.n];exact h2)
 tt:=fun t t' g h1 h2=>hh.tt t t' g ((xZef h t g).2 h1) ((xZef h t' g).2 h2)
 bt:=fun b t g h1 h2=>hh.bt b t g (by rw [h.n];exact h1) ((xZef h t g).2 h2)
theorem Frm.lwR {M S H w M' S' w'} {H1 H2:AH} (hf:Frm M S H w M' S' H1 w') (h:LWH H1 H2):Frm M S H w M' S' H2 w':=
 { hf with newf:=fun g hg=>hf.newf g ((xZez h g).2 hg) }
theorem Frm.lwL {M S w M' S' w'} {H H0 H1:AH} (hf:Frm M S H w M' S' H1 w') (h:LWH H0 H):Frm M S H0 w M' S' H1 w':=
 { hf with
  wnb:=hf.wnb.trans h.n.symm
  wnt:=hf.wnt.trans h.m.symm
  old:=fun g hg hn=>hf.old g hg (fun hx=>hn ((xZez h g).2 hx))
  news:=fun g hg=>(hf.news g hg).imp id fun q=>q.imp (fun x=>(xZez h g).2 x) id
  newf:=fun g hg=>(hf.newf g hg).imp (fun x=>(xZez h g).2 x) id }
theorem CRes.lw {P:Program} {f:FuncId} {a a0:List AV} {H H0:AH} {r:AE} {H':AH} (hc:CRes P f a H r H') (ha:LWs a0 a) (hH:LWH H0 H):CRes P f a0 H0 r H':=by
 intro M S w vs hh hp hs hall
 refine (hc M S w vs (hh.lw hH) (hp.sub fun g h=>(xZez hH g).2 h) (hs.trans ha.len) fun i hi=>ha.rep i (by rw [ha.len];exact hi) (hall i (by rw [ha.len];exact hi))).mono fun en w' ⟨M',S',he,hh',hf⟩=>?_
 exact ⟨M',S',he,hh',hf.lwL hH⟩
def LWe:AE→AE→Prop
 | .ret x,.ret y=>LW x y
 | .pan x,.pan y=>LW x y
 | _,_=>False
theorem xZop {M S w en} {r e:AE} (h:EndRep M S w en r) (hl:LWe r e):EndRep M S w en e:=by
 cases r with
 | ret x=>
   cases e with
   | pan y=>exact hl.elim
   | ret y=>
     cases en with
     | returned v=>exact LW.rep hl h
     | panicked ch=>exact h.elim
     | outgrown=>exact h.elim
 | pan x=>
   cases e with
   | ret y=>exact hl.elim
   | pan y=>
     cases en with
     | returned v=>exact h.elim
     | panicked ch=>obtain ⟨v,q,hv⟩:=h;exact ⟨v,q,LW.rep hl hv⟩
     | outgrown=>exact h.elim
theorem go_lw {X:Ctx} {k:List SI} {t t':List AV} {H H':AH} (hk:notOps k) (ht:t.length=t'.length∧∀ i,i < t'.length→LW (t.getD i .any) (t'.getD i .any)∨t'.getD i .any=.any) (hH:LWH H H') (h:go X k t' H'):go X k t H:=by
 refine xZbW hk ?_
 intro hok M0 S0 w0 hp0 M S a w items hr hf hta hh hd b hb hbk
 refine xZcW h hok M0 S0 w0 hp0 M S a w items hr (hf.lwR hH) ⟨hta.1.trans ht.1,fun i hi=>?_⟩ (hh.lw hH) hd b hb hbk
 rcases ht.2 i hi with q | q
 ·exact LW.rep q (hta.2 i (by rw [ht.1];exact hi))
 ·rw [q];exact .data (.any _)
end
end Go.Proofs.YtbioikdfpfafaaaGreatDoor.T
namespace Go.Proofs.YtbioikdfpfafaaaGreatDoor.T
open Go
section
variable {T:Nat→Type}
def memN:List Nat→Nat→Bool
 | [],_=>false
 | m::l,n=>match Nat.beq m n with
   | true=>true
   | false=>memN l n
def addN (l:List Nat) (n:Nat):List Nat:=match memN l n with
 | true=>l
 | false=>l++[n]
def idxN:List Nat→Nat→Option Nat
 | [],_=>none
 | m::l,n=>match Nat.beq m n with
   | true=>some 0
   | false=>match idxN l n with
     | some i=>some (i+1)
     | none=>none
def plB:BV T→Bool
 | .emp=>true
 | .int _ _=>true
 | .bool _=>true
 | .str _=>true
 | .flt _ _=>true
 | .sl _ _=>true
 | .dptr _=>true
 | .tr _ _=>true
 | _=>false
def plL:List (BV T)→Bool
 | []=>true
 | x::l=>match plB x with
   | true=>plL l
   | false=>false
def flatP:List (List (BV T))→List (BV T)
 | []=>[]
 | cs::l=>match plL cs with
   | true=>flatP l
   | false=>cs++flatP l
def rch (H:BH T):Nat→List (BV T)→List Nat→List Nat→List Nat×List Nat
 | 0,_,rb,rt=>(rb,rt)
 | _+1,[],rb,rt=>(rb,rt)
 | n+1,x::w,rb,rt=>match x with
   | .own t=>rch H n w rb (addN rt t)
   | .eptr t _ _ _=>rch H n w rb (addN rt t)
   | .ptr b _=>match memN rb b with
     | true=>rch H n w rb rt
     | false=>match plL (H.box.getD b []) with
       | true=>rch H n w (rb++[b]) rt
       | false=>rch H n (H.box.getD b []++w) (rb++[b]) rt
   | .agg cs=>rch H n (cs++w) rb rt
   | .tup cs=>rch H n (cs++w) rb rt
   | .fn _ a b=>rch H n (a++b++w) rb rt
   | .ifc _ x=>rch H n (x::w) rb rt
   | _=>rch H n w rb rt
def rnL (f:BV T→Option (BV T)):List (BV T)→Option (List (BV T))
 | []=>some []
 | x::l=>match f x,rnL f l with
   | some y,some r=>some (y::r)
   | _,_=>none
def rnA (rb rt:List Nat) (H:BH T):BV T→Option (BV T)
 | .own t=>match idxN rt t with
   | some j=>some (.own j)
   | none=>match bufA H t with
     | .froz i l=>some (.sl i l)
     | _=>none
 | .ptr b o=>match idxN rb b with
   | some j=>some (.ptr j o)
   | none=>none
 | .eptr t i n o=>match idxN rt t with
   | some j=>some (.eptr j i n o)
   | none=>none
 | .emp=>some .emp
 | .int k n=>some (.int k n)
 | .bool b=>some (.bool b)
 | .str s=>some (.str s)
 | .flt k n=>some (.flt k n)
 | .sl i l=>some (.sl i l)
 | .dptr cs=>some (.dptr cs)
 | .tr i x=>some (.tr i x)
 | .raw (.v x)=>some (.raw (.v x))
 | _=>none
def rn0 (rb rt:List Nat) (H:BH T):BV T→Option (BV T)
 | .agg cs=>match rnL (rnA rb rt H) cs with
   | some l=>some (.agg l)
   | none=>none
 | x=>rnA rb rt H x
def rnC (rb rt:List Nat) (H:BH T):BV T→Option (BV T)
 | .fn f a b=>match rnL (rnA rb rt H) a,rnL (rnA rb rt H) b with
   | some a,some b=>some (.fn f a b)
   | _,_=>none
 | .ifc t x=>match rn0 rb rt H x with
   | some y=>some (.ifc t y)
   | none=>none
 | x=>rnA rb rt H x
def rn1 (rb rt:List Nat) (H:BH T):BV T→Option (BV T)
 | .agg cs=>match rnL (rnC rb rt H) cs with
   | some l=>some (.agg l)
   | none=>none
 | x=>rnC rb rt H x
def rn2 (rb rt:List Nat) (H:BH T):BV T→Option (BV T)
 | .tup cs=>match rnL (rn1 rb rt H) cs with
   | some l=>some (.tup l)
   | none=>none
 | x=>rn1 rb rt H x
def rnBx (rb rt:List Nat) (H:BH T) (cs:List (BV T)):Option (List (BV T)):=match plL cs with
 | true=>some cs
 | false=>rnL (rnC rb rt H) cs
theorem xZoY (rb rt:List Nat) (H:BH T):∀ cs,rnBx rb rt H cs=rnL (rnC rb rt H) cs
 | []=>rfl
 | x::l=>by
   have ih:=xZoY rb rt H l
   unfold rnBx at ih ⊢
   cases hp:plB x with
   | false=>simp only [plL,hp]
   | true=>
     have hx:rnC rb rt H x=some x:=by cases x<;>first | rfl | cases hp
     cases hl:plL l with
     | false=>simp only [plL,hp,hl]
     | true=>rw [hl] at ih;simp only [plL,hp,hl,rnL,hx,← ih]
def rnBoxes (rb rt:List Nat) (H:BH T):List Nat→Option (List (List (BV T)))
 | []=>some []
 | b::l=>match Nat.blt b H.box.length,rnBx rb rt H (H.box.getD b []),rnBoxes rb rt H l with
   | true,some cs,some r=>match onesB cs with
     | true=>some (cs::r)
     | false=>none
   | _,_,_=>none
def rnBufs (H:BH T):List Nat→Option (List (BB T))
 | []=>some []
 | t::l=>match Nat.blt t H.buf.length,rnBufs H l with
   | true,some r=>some (bufA H t::r)
   | _,_=>none
def nodupN:List Nat→Bool
 | []=>true
 | x::l=>match memN l x with
   | true=>false
   | false=>nodupN l
def rnH.{u} {R:Type u} (rb rt:List Nat) (H:BH T) (K:BH T→Option R):Option R:=
 match nodupN rb&&nodupN rt,rnBoxes rb rt H rb,rnBufs H rt with
 | true,some bx,some bu=>K ⟨bx,bu⟩
 | _,_,_=>none
def upN:List Nat→Nat→Nat→Nat
 | [],n,i=>n+i
 | b::_,_,0=>b
 | _::l,n,i+1=>upN l n i
def setL {α:Type}:List Nat→List α→List α→List α
 | [],new,old=>old++new
 | _::_,[],old=>old
 | b::l,x::r,old=>setL l r (old.set b x)
mutual
def BV.up (f g:Nat→Nat):BV T→BV T
 | .raw x=>.raw (x.up f g)
 | .emp=>.emp
 | .int k n=>.int k n
 | .bool b=>.bool b
 | .str s=>.str s
 | .flt k n=>.flt k n
 | .agg cs=>.agg (BV.upL f g cs)
 | .tup cs=>.tup (BV.upL f g cs)
 | .sl i l=>.sl i l
 | .own t=>.own (g t)
 | .ptr b o=>.ptr (f b) o
 | .aptr b o p=>.aptr (f b) o p
 | .eptr t i n o=>.eptr (g t) i n o
 | .dptr cs=>.dptr cs
 | .fn h a b=>.fn h (BV.upL f g a) (BV.upL f g b)
 | .ifc t x=>.ifc t (BV.up f g x)
 | .tr i x=>.tr i x
def BV.upL (f g:Nat→Nat):List (BV T)→List (BV T)
 | []=>[]
 | x::xs=>BV.up f g x::BV.upL f g xs
end
def upBx (f g:Nat→Nat) (cs:List (BV T)):List (BV T):=match plL cs with
 | true=>cs
 | false=>BV.upL f g cs
theorem xZpq (f g:Nat→Nat):∀ cs:List (BV T),upBx f g cs=BV.upL f g cs
 | []=>by simp only [upBx,plL,BV.upL]
 | x::l=>by
   have ih:=xZpq f g l
   unfold upBx at ih ⊢
   cases hp:plB x with
   | false=>simp only [plL,hp]
   | true=>
     have hx:BV.up f g x=x:=by cases x<;>first | (simp only [BV.up];done) | cases hp
     cases hl:plL l with
     | false=>simp only [plL,hp,hl]
     | true=>rw [hl] at ih;simp only [plL,hp,hl,BV.upL,hx,← ih]
def upHB (rb rt:List Nat) (H Hc:BH T):BH T:=⟨setL rb (Hc.box.map (upBx (upN rb H.box.length) (upN rt H.buf.length))) H.box,setL rt Hc.buf H.buf⟩
section
variable (B:Tb T)
structure Pat (A:Type) where
 dec:BV T→Option A
 enc:A→BV T
 ok:∀ x a,dec x=some a→LW (x.av B) ((enc a).av B)
structure PL (A:Type) where
 dec:List (BV T)→Option A
 enc:A→List (BV T)
 ok:∀ x a,dec x=some a→LWs (BV.avs B x) (BV.avs B (enc a))
structure PE (A:Type) where
 ks:List Nat
 dec:SE T→Option A
 enc:A→SE T
 key:∀ a,(enc a).map (·.1)=ks
 ok:∀ e a,dec e=some a→∀ i,LW ((lk e i).av B) ((lk (enc a) i).av B)∨lk (enc a) i=.raw .any
structure PX (A:Type) where
 dec:List (List (BV T))→Option A
 enc:A→List (List (BV T))
 ok:∀ x a,dec x=some a→x.length=(enc a).length∧∀ b,LWs (BV.avs B (x.getD b [])) (BV.avs B ((enc a).getD b []))
structure PU (A:Type) where
 dec:List (BB T)→Option A
 enc:A→List (BB T)
 ok:∀ x a,dec x=some a→x.map (BB.av B)=(enc a).map (BB.av B)
structure Out (R:Type) where
 dec:BV T→BH T→Option R
 enc:R→BV T×BH T
 elim:{S:Type}→R→(BV T→BH T→Option S)→Option S
 eE:∀ {S:Type} (r:R) (K:BV T→BH T→Option S),elim r K=K (enc r).1 (enc r).2
 ok:∀ x H r,dec x H=some r→LW (x.av B) ((enc r).1.av B)∧LWH (H.av B) ((enc r).2.av B)
structure Con where
 f:FuncId
 A:Type
 R:Type
 md:List Bool
 inp:List (BV T)→BH T→Option A
 inn:A→List (BV T)×BH T
 sh:Nat→A→Option R
 o:Out B R
 pl:Bool
 scal:Bool
 ok:∀ xs H a,inp xs H=some a→LWs (BV.avs B xs) (BV.avs B (inn a).1)∧LWH (H.av B) ((inn a).2.av B)
 okp:pl=true→(∀ a,(inn a).2=⟨[],[]⟩)∧∀ r,(o.enc r).2=⟨[],[]⟩
 oks:scal=true→∀ r,((o.enc r).1.av B).scal=true
structure Lp (R:Type) where
 A:Type
 ks:List Nat
 em:List (Nat×Option Nat×Nat)
 live:List Nat
 dec:SE T→BH T→Option A
 enc:A→SE T×BH T
 run:A→Option R
 key:∀ a,(enc a).1.map (·.1)=ks
 ok:∀ e H a,dec e H=some a→(∀ i,LW ((lk e i).av B) ((lk (enc a).1 i).av B)∨lk (enc a).1 i=.raw .any)∧LWH (H.av B) ((enc a).2.av B)
variable {R:Type} {B}
def rawArgs:List Bool→List (BV T)→List (BV T)
 | true::m,_::l=>rawArgs m l
 | _::m,x::l=>x::rawArgs m l
 | [],l=>l
 | _,[]=>[]
def datArgs:List Bool→List (BV T)→List (BV T)
 | true::m,x::l=>x::datArgs m l
 | _::m,_::l=>datArgs m l
 | _,_=>[]
def rnArgs (rb rt:List Nat) (H:BH T):List Bool→List (BV T)→Option (List (BV T))
 | _,[]=>some []
 | true::m,x::l=>match rn1 [] [] H x,rnArgs rb rt H m l with
   | some y,some r=>some (y::r)
   | _,_=>none
 | m,x::l=>match rn1 rb rt H x,rnArgs rb rt H m.tail l with
   | some y,some r=>some (y::r)
   | _,_=>none
def PM:Nat:=16777216
def aeA:AV→AE
 | .ifc t x=>match Nat.ble PM t with
   | true=>.pan (.ifc (t - PM) x)
   | false=>.ret (.ifc t x)
 | x=>.ret x
def noPM:BV T→Bool
 | .ifc t _=>!Nat.ble PM t
 | .raw x=>match x with
   | .ifc _ _=>false
   | _=>true
 | _=>true
def onP (v:BV T) (P:Nat→BV T→Option R) (K:Option R):Option R:=match v with
 | .ifc t x=>match Nat.ble PM t with
   | true=>P (t - PM) x
   | false=>K
 | .raw x=>match x with
   | .ifc _ _=>none
   | _=>K
 | _=>K
def callHit (c:Con B) (dr:Bool) (args:List (BV T)) (H:BH T) (N:Nat) (K:BV T→BH T→Option R) (next:Option R):Option R:=
 let ts:=(datArgs c.md args).flatMap ownsB
 let H1:=frzHB H ts
 match rch H 1000 (rawArgs c.md args) [] [] with
 | (rb,rt)=>match c.pl with
   | true=>match rb,rt with
     | [],[]=>match dr with
       | true=>match rnArgs [] [] ⟨[],[]⟩ c.md args with
         | some xs=>match c.inp xs ⟨[],[]⟩ with
           | some a=>(c.sh N a).bind fun r=>c.o.elim r fun v _=>K v H
           | none=>next
         | none=>next
       | false=>match rnArgs [] [] H1 c.md args with
         | some xs=>match c.inp xs ⟨[],[]⟩ with
           | some a=>match ts,c.scal with
             | [],_=>(c.sh N a).bind fun r=>c.o.elim r fun v _=>K v H
             | _,true=>(c.sh N a).bind fun r=>c.o.elim r fun v _=>K v H
             | _,false=>(c.sh N a).bind fun r=>c.o.elim r fun v _=>K v H1
           | none=>next
         | none=>next
     | _,_=>next
   | false=>match dr with
     | true=>next
     | false=>match rnArgs rb rt H1 c.md args with
       | some xs=>rnH rb rt H1 fun Hc=>match c.inp xs Hc with
         | some a=>(c.sh N a).bind fun r=>c.o.elim r fun v Hc'=>K (v.up (upN rb H1.box.length) (upN rt H1.buf.length)) (upHB rb rt H1 Hc')
         | none=>next
       | none=>next
def callS (dr:Bool) (args:List (BV T)) (H:BH T) (N:Nat) (K:BV T→BH T→Option R) (f:FuncId):List (Con B)→Option R
 | []=>none
 | c::Γ=>match Nat.beq c.f f with
   | false=>callS dr args H N K f Γ
   | true=>callHit c dr args H N K (callS dr args H N K f Γ)
def emS (nt:Nat):List (Nat×Option Nat×Nat)→SE T→BH T→(SE T→BH T→Option R)→Option R
 | [],e,H,K=>K e H
 | (n,none,i)::l,e,H,K=>match lk e n with
   | .emp=>emS nt l ((n,.own H.buf.length)::e) ⟨H.box,H.buf++[.live i []]⟩ K
   | _=>emS nt l e H K
 | (n,some j,i)::l,e,H,K=>match lk e n with
   | .ptr b 0=>match (H.box.getD b []).getD j (.raw .any) with
     | .emp=>emS nt l e ⟨H.box.set b ((H.box.getD b []).set j (.own H.buf.length)),H.buf++[.live i []]⟩ K
     | .own u=>match Nat.blt u nt,bufA H u with
       | true,.live i' xs=>emS nt l e ⟨H.box.set b ((H.box.getD b []).set j (.own H.buf.length)),H.buf.set u .dead++[.live i' xs]⟩ K
       | _,_=>emS nt l e H K
     | _=>emS nt l e H K
   | _=>emS nt l e H K
def rnE (rb rt:List Nat) (H:BH T) (e:SE T):List Nat→Option (SE T)
 | []=>some []
 | n::l=>match rn2 rb rt H (lk e n),rnE rb rt H e l with
   | some y,some r=>some ((n,y)::r)
   | _,_=>none
def loopN (nb nt:Nat) (L:Lp B R) (e:SE T) (H:BH T) (next:Option R):Option R:=
 emS nt L.em e H fun e H=>
  match rch H 2000 (flatP (H.box.take nb)++L.live.map (lk e)) (List.range nb) (List.range nt) with
  | (rb,rt)=>match keeps nb rb&&keeps nt rt,rnE rb rt H e L.live with
    | true,some e'=>rnH rb rt H fun H'=>match L.dec e' H' with
      | some a=>L.run a
      | none=>next
    | _,_=>next
def loopS (nb nt:Nat) (e:SE T) (H:BH T):List (Lp B R)→Option R
 | []=>none
 | L::l=>loopN nb nt L e H (loopS nb nt e H l)
def lpOf:List (Nat×Lp B R)→Nat→List (Lp B R)
 | [],_=>[]
 | (m,L)::r,n=>match Nat.beq m n with
   | true=>L::lpOf r n
   | false=>lpOf r n
def JM:Nat:=1000000
def firstD:List SL→Option Nat
 | []=>none
 | .op (some d) _::_=>some d
 | _::l=>firstD l
def jnN:SC→Option Nat
 | .ops _ l=>match firstD l with
   | some d=>some (2 * d)
   | none=>none
 | .cond (.t s) _ _=>some (2 * s+1)
 | _=>none
def isJn (ms:List Nat) (c:SC):Option Nat:=match ms with
 | []=>none
 | _::_=>match jnN c with
   | some n=>match memN ms n with
     | true=>some (JM+n)
     | false=>none
   | none=>none
def resS (e:SE T) (H:BH T):List Rs→Option (List (BV T))
 | []=>some []
 | .t n::rs=>match resS e H rs with
   | some l=>some (lk e n::l)
   | none=>none
 | .cell n sz ag::rs=>match lk e n with
   | .ptr b o=>match H.box[b]?,resS e H rs with
     | some cs,some l=>match Nat.ble (o+sz) cs.length with
       | true=>some (mkB ag ((cs.drop o).take sz)::l)
       | false=>none
     | _,_=>none
   | _=>none
def tupS:List (BV T)→BV T
 | [x]=>x
 | l=>.tup l
variable (B) in
structure Rt (R:Type) where
 md:List Bool
 em:Option Nat
 o:Out B R
def retS (nb nt:Nat) (q:Rt B R) (l:List (BV T)) (H:BH T):Option R:=
 let H1:=frzHB H ((datArgs q.md l).flatMap ownsB)
 match rch H1 2000 (flatP (H1.box.take nb)++rawArgs q.md l) (List.range nb) (List.range nt) with
 | (rb,rt)=>match keeps nb rb&&keeps nt rt,rnArgs rb rt H1 q.md l with
   | true,some xs=>match noPM (tupS xs) with
     | true=>rnH rb rt H1 fun H'=>q.o.dec (tupS xs) H'
     | false=>none
   | _,_=>none
def retE (nb nt:Nat) (q:Rt B R) (l:List (BV T)) (H:BH T):Option R:=
 match q.em,l with
 | some i,[.emp]=>retS nb nt q [.own H.buf.length] ⟨H.box,H.buf++[.live i []]⟩
 | _,l=>retS nb nt q l H
def retP (nb nt:Nat) (q:Rt B R) (t:Nat) (x:BV T) (H:BH T):Option R:=
 match rch H 2000 (flatP (H.box.take nb)++[x]) (List.range nb) (List.range nt) with
 | (rb,rt)=>match keeps nb rb&&keeps nt rt,rn0 rb rt H x with
   | true,some y=>rnH rb rt H fun H'=>q.o.dec (.ifc (PM+t) y) H'
   | _,_=>none
def pvS (e0:SE T) (ns:Nat):List (Nat×Nat×Od)→SE T→BH T→(SE T→BH T→Option R)→Option R
 | [],e,H,K=>K e H
 | (d,n,y)::bs,e,H,K=>match Nat.blt d ns&&Nat.beq (bod e0 y).cells.length n&&onesB (bod e0 y).cells with
   | true=>pvS e0 ns bs ((d,.ptr H.box.length 0)::e) ⟨H.box++[(bod e0 y).cells],H.buf⟩ K
   | false=>none
def okD (ns:Nat):Option Nat→Bool
 | some d=>Nat.blt d ns
 | none=>true
def killE (e:SE T):List SP→SE T
 | []=>e
 | s::l=>killE (putE e s.d (.raw (.v undef))) l
inductive EK' where
 | ib
 | cs
 | fb
 | ne
def exOf:List (FuncId×EK')→FuncId→Option EK'
 | [],_=>none
 | (m,z)::r,n=>match Nat.beq m n with
   | true=>some z
   | false=>exOf r n
def extS (k:EK') (xs:List (BV T)) (K:BV T→Option R):Option R:=
 match k,xs with
 | .ib,[.str s,.int .u8 c]=>K (.int .i64 (Lib.indexByte s (UInt8.ofNat c.toNat)))
 | .cs,[.str s,.int .u8 c]=>K (.int .i64 ((Lib.countByte s (UInt8.ofNat c.toNat):Nat):Int))
 | .fb,[.int .u64 n]=>K (.flt .f64 n.toNat)
 | .ne,[x]=>K x
 | _,_=>none
structure EqR (R:Type) where
 f:R→R→Bool
 eq:∀ x y,f x y=true→x=y
 refl:∀ x,f x x=true
noncomputable def EqR.cls {R:Type}:EqR R:=⟨fun x y=>@decide (x=y) (Classical.propDecidable _),fun x y h=>@of_decide_eq_true _ (Classical.propDecidable _) h,fun x=>@decide_eq_true _ (Classical.propDecidable _) rfl⟩
def EqR.bytes:EqR (List UInt8):=⟨fun x y=>x==y,fun _ _ h=>eq_of_beq h,fun x=>beq_self_eq_true x⟩
def both {R:Type} (q:EqR R) (a b:Option R):Option R:=a.bind fun x=>b.bind fun y=>match q.f x y with
 | true=>some x
 | false=>none
theorem xZo2 {R:Type} {q:EqR R} {a b:Option R} {r:R} (h:both q a b=some r):a=some r∧b=some r:=by
 obtain ⟨x,hx,h⟩:=Option.bind_eq_some_iff.1 h
 obtain ⟨y,hy,h⟩:=Option.bind_eq_some_iff.1 h
 split at h
 ·rename_i he
  cases h
  exact ⟨hx,by rw [hy,q.eq _ _ he]⟩
 ·cases h
def alls {R:Type} (q:EqR R):List (Option R)→Option R
 | []=>none
 | a::l=>match l with
   | []=>a
   | _=>both q a (alls q l)
theorem xZkU {R:Type} {q:EqR R}:∀ {l:List (Option R)} {r:R},alls q l=some r→∀ a∈l,a=some r
 | [],_,h,_,_=>by cases h
 | [a],r,h,b,hb=>by cases List.mem_singleton.1 hb;exact h
 | a::b::l,r,h,c,hc=>by
   obtain ⟨h1,h2⟩:=xZo2 h
   rcases List.mem_cons.1 hc with rfl | hc
   ·exact h1
   ·exact xZkU h2 c hc
theorem xZoJ {R:Type} {q:EqR R} {a b:Option R} (h:b=a):both q a b=a:=by
 subst h
 cases b with
 | none=>rfl
 | some x=>simp [both,q.refl]
def bothN {R:Type} (q:EqR R):Nat→Option R→Option R
 | 0,x=>x
 | n+1,x=>both q x (bothN q n x)
theorem xZg8 {R:Type} {q:EqR R} {x:Option R}:∀ n,bothN q n x=x
 | 0=>rfl
 | n+1=>xZoJ (xZg8 n)
def deferOf:List SL→Option (Nat×FuncId×List Od)
 | [.op (some d) (.fnv (.func f) [] cs),.op none (.raw (.defer ⟨.value (.tmp e),args,ts⟩) _)]=>match Nat.beq d e,args.toList,ts.toList with
   | true,[],[]=>some (d,f,cs)
   | _,_,_=>none
 | _=>none
variable (B) in
structure Set (R:Type) where
 P:Program
 ex:List (FuncId×EK')
 h:Hint T
 N:Nat
 con:FuncId→List (Con B)
 lps:List (Nat×Lp B R)
 res:List Rs
 ret:Rt B R
 nb:Nat
 nt:Nat
 ns:Nat
 kt:SE T→BH T→Bool
 alt:Option (EqR R)
 df:List (FuncId×Nat)
 jm:List Nat
def Set.off {R:Type} (G:Set B R):Set B R:={ G with lps:=[],kt:=fun _ _=>false,df:=[] }
def mkOf:List (Nat×((i:Nat)×T i×Nat))→Nat→Option ((i:Nat)×T i×Nat)
 | [],_=>none
 | (m,z)::r,n=>match Nat.beq m n with
   | true=>some z
   | false=>mkOf r n
def bodP (e:SE T) (x:Operand):BV T:=bod e (cOd x)
def sameO:Operand→Operand→Bool
 | .tmp a,.tmp b=>Nat.beq a b
 | _,_=>false
def gdN (b:Bool) (p:Bool) (x:Option R):Option R:=match b with
 | true=>x
 | false=>gd p x
def oprOf (o:Op):Oper:={ dst:=none,op:=o,type:=0,pos := "",after:=#[],guard:=none }
def cCv (P:Program) (src dst:TypeId):Bool:=
 match P.underlying src,P.underlying dst with
 | some (.slice e),some .string=>match P.underlying e with
   | some (.int .u8)=>true
   | _=>false
 | _,_=>false
theorem xZre {P:Program} {src dst:TypeId} (h:cCv P src dst=true):∃ e,P.underlying src=some (.slice e)∧P.underlying dst=some .string∧P.underlying e=some (.int .u8):=by
 unfold cCv at h
 split at h
 ·rename_i e h1 h2
  split at h
  ·rename_i h3;exact ⟨e,h1,h2,h3⟩
  ·cases h
 ·cases h
def cIdx (P:Program) (te:TypeId):Option (Nat×Nat×Bool):=match P.underlying te with
 | some (.array m e)=>match cLd P e with
   | some (k,ag)=>some (m,k,ag)
   | none=>none
 | _=>none
theorem xZoj {P:Program} {te:TypeId} {m k:Nat} {ag:Bool} (h:cIdx P te=some (m,k,ag)):∃ e,P.underlying te=some (.array m e)∧cLd P e=some (k,ag):=by
 unfold cIdx at h
 split at h
 ·rename_i m' e hu
  split at h
  ·rename_i k' ag' hl;cases h;exact ⟨e,hu,hl⟩
  ·cases h
 ·cases h
variable (B) in
def rawS (P:Program) (h:Hint T) (e:SE T) (H:BH T) (d:Option Nat) (o:Op) (K:SE T→BH T→Option R):Option R:=
 match o with
 | .call { callee:=.builtin .max,args,.. }=>match args.toList with
   | [x,y]=>match bodP e x,bodP e y with
     | .int k a,.int _ b=>K (putE e d (.int k (max a b))) H
     | _,_=>none
   | _=>none
 | .call { callee:=.builtin .min,args,.. }=>match args.toList with
   | [x,y]=>match bodP e x,bodP e y with
     | .int k a,.int _ b=>K (putE e d (.int k (min a b))) H
     | _,_=>none
   | _=>none
 | .nilCheck x=>match bodP e x with
   | .ptr b o=>K (putE e d (.ptr b o)) H
   | .eptr t i n o=>K (putE e d (.eptr t i n o)) H
   | .dptr cs=>K (putE e d (.dptr cs)) H
   | _=>none
 | .binOp op _ x y _=>match isCmp op,bodP e x,bodP e y with
   | true,.flt k m,.flt k' n=>if k'=k then K (putE e d (.bool (fcmpB op k m n))) H else none
   | _,_,_=>none
 | .typeAssert x _ ad ok=>match ok,cTa P ad with
   | true,some z=>match bodP e x with
     | .ifc t v=>match Nat.beq t ad with
       | true=>K (putE e d (.tup [v,.bool true])) H
       | false=>K (putE e d (.tup [cbv z,.bool false])) H
     | .raw (.v .nilIface)=>K (putE e d (.tup [cbv z,.bool false])) H
     | _=>none
   | _,_=>none
 | .convert src dst x=>match cCv P src dst,bodP e x with
   | true,.sl i l=>match h.bo i l with
     | some s=>K (putE e d (.str s)) H
     | none=>none
   | true,.own u=>match bufA H u with
     | .live i l=>match h.bo i l with
       | some s=>K (putE e d (.str s)) H
       | none=>none
     | .froz i l=>match h.bo i l with
       | some s=>K (putE e d (.str s)) H
       | none=>none
     | .dead=>none
   | true,.emp=>K (putE e d (.str [])) H
   | _,_=>none
 | .makeSlice te x y=>match mkOf h.mks te,bodP e x,bodP e y with
   | some ⟨i,z,by_⟩,.int _ l,.int _ c=>match Nat.blt 0 by_ with
     | true=>gd (leB 0 l) (gdN (sameO x y) (leB l c) (gd (leB ((by_:Int) * c) 281474976710656) (K (putE e d (.own H.buf.length)) ⟨H.box,H.buf++[.live i (List.replicate l.toNat z)]⟩)))
     | false=>none
   | _,_,_=>none
 | .index te x i=>match cIdx P te,bodP e x,bodP e i with
   | some (m,k,ag),.agg cs,.int _ n=>match hintI h d with
     | some j=>match Nat.beq (B.k j) k,decM B j m cs with
       | true,some l=>(ix l n).bind fun el=>K (putE e d (mkB ag (B.enc j el))) H
       | _,_=>none
     | none=>match leB 0 n&&ltB n (m:Int)&&Nat.ble (n.toNat * k+k) cs.length with
       | true=>K (putE e d (mkB ag ((cs.drop (n.toNat * k)).take k))) H
       | false=>none
   | _,_,_=>none
 | .buildSlice ty n pp=>match cOp0 P (true,[]) (oprOf (.buildSlice ty n pp)) with
   | some (.bsl k ps)=>opS B h false e H d (.bsl k ps) K
   | _=>none
 | _=>none
variable (G:Set B R)
def panS (e:SE T) (dr:Bool) (H:BH T) (t:Nat) (x:BV T):Option R:=match dr,G.kt e H with
 | false,true=>retP G.nb G.nt G.ret t x H
 | _,_=>none
def sxLoop (k:List SI) (e:SE T) (H:BH T):Option R:=match k with
 | .blk id::_=>loopS G.nb G.nt e H (lpOf G.lps id)
 | _=>none
def sxRet (e:SE T) (H:BH T):Option R:=match resS e H G.res with
 | some l=>retE G.nb G.nt G.ret l H
 | none=>none
variable (rec:List SI→SE T→BH T→Option R)
def sxGrp (dr:Bool) (j:Nat) (w:Bool) (l1:List SP) (l:List SL) (k:List SI) (e:SE T) (H:BH T):Option R:=match l1.all (fun s=>okD G.ns s.d),lk e j with
 | true,.bool c=>cond c
   (match w with
     | true=>rec (.ops dr (l1.map SP.sl++l)::k) ((j,.bool true)::e) H
     | false=>rec (.ops dr l::k) (killE ((j,.bool true)::e) l1) H)
   (match w with
     | true=>rec (.ops dr l::k) (killE ((j,.bool false)::e) l1) H
     | false=>rec (.ops dr (l1.map SP.sl++l)::k) ((j,.bool false)::e) H)
 | true,.raw (.v (.tuple _))=>rec (.ops dr l::k) (killE e l1) H
 | _,_=>none
def sxCall (dr:Bool) (d:Option Nat) (f:FuncId) (args:List (BV T)) (l:List SL) (k:List SI) (e:SE T) (H:BH T):Option R:=callS dr args H G.N (fun v H=>onP v (panS G e dr H) (rec (.ops dr l::k) (putE e d v) H)) f (G.con f)
def sxInv (hd dr:Bool) (d:Option Nat) (t:TypeId) (v:BV T) (m:String) (args:Array Operand) (l:List SL) (k:List SI) (e:SE T) (H:BH T):Option R:=match cMeth G.P t m with
 | some f=>callS (dr&&!hd) (v::args.toList.map (bodP e)) H G.N (fun v H=>onP v (panS G e dr H) (rec (.ops dr l::k) (putE e d v) H)) f (G.con f)
 | none=>none
def sxRaw (hd dr:Bool) (d:Option Nat) (o:Op) (l:List SL) (k:List SI) (e:SE T) (H:BH T):Option R:=match o with
 | .call { callee:=.invoke x m,args,.. }=>match bodP e x with
   | .ifc t v=>sxInv G rec hd dr d t v m args l k e H
   | .tr i y=>B.el i y _ fun z=>match z with
     | .ifc t v=>sxInv G rec hd dr d t v m args l k e H
     | _=>none
   | _=>none
 | .call { callee:=.value x,args,.. }=>match bodP e x with
   | .fn (.func f) a b=>callS false (a++args.toList.map (bodP e)++b) H G.N (fun v H=>onP v (panS G e dr H) (rec (.ops dr l::k) (putE e d v) H)) f (G.con f)
   | _=>none
 | .panic x=>match dr,bodP e x with
   | dr,.ifc t v=>panS G e dr H t v
   | _,_=>none
 | o=>rawS B G.P G.h e H d o fun e H=>rec (.ops dr l::k) e H
def sxCall0 (dr:Bool) (d:Option Nat) (f:FuncId) (as:List Od) (l:List SL) (k:List SI) (e:SE T) (H:BH T):Option R:=match exOf G.ex f with
 | some q=>extS q (as.map (bod e)) fun v=>rec (.ops dr l::k) (putE e d v) H
 | none=>sxCall G rec dr d f (as.map (bod e)) l k e H
def sxCallv (dr:Bool) (d:Option Nat) (x:Od) (as:List Od) (l:List SL) (k:List SI) (e:SE T) (H:BH T):Option R:=match bod e x with
 | .fn (.func f) a b=>sxCall G rec dr d f (a++as.map (bod e)++b) l k e H
 | _=>none
def sxOp (dr:Bool) (d:Option Nat) (o:SO) (l:List SL) (k:List SI) (e:SE T) (H:BH T):Option R:=match okD G.ns d with
 | false=>none
 | true=>match o with
   | .call f as=>sxCall0 G rec dr d f as l k e H
   | .callv x as=>sxCallv G rec dr d x as l k e H
   | .raw o ty=>sxRaw G rec (hardI o ty) dr d o l k e H
   | o=>opS B G.h dr e H d o fun e H=>rec (.ops dr l::k) e H
def sxOps (dr:Bool) (l:List SL) (k:List SI) (e:SE T) (H:BH T):Option R:=match l with
 | []=>rec k e H
 | .grp j w l1::l=>sxGrp G rec dr j w l1 l k e H
 | .op d o::l=>sxOp G rec dr d o l k e H
def sxAlts (o:Option (List SL)) (ls:List (List SL)) (k:List SI) (e:SE T) (H:BH T):Option R:=match G.alt,ls with
 | some q,l::ls=>alls q ((l::ls).map fun l=>rec (.ops true l::k) e H)
 | _,_=>match o with
   | some l=>rec (.ops true l::k) e H
   | none=>none
def ptr0:BV T→Bool
 | .ptr _ 0=>true
 | _=>false
def memDf:List (FuncId×Nat)→FuncId→Nat→Bool
 | [],_,_=>false
 | (f,n)::l,g,m=>match Nat.beq f g&&Nat.beq n m with
   | true=>true
   | false=>memDf l g m
variable (off:List SI→SE T→BH T→Option R)
def sxDefer (l:List SL) (k:List SI) (e:SE T) (H:BH T) (s:Nat) (f:FuncId) (cs:List Od):Option R:=
 match memDf G.df f cs.length&&Nat.blt s G.ns&&(cs.all fun c=>ptr0 (bod e c)) with
 | true=>off k ((s,.raw .any)::e) H
 | false=>none
def sxReg (d:Bool) (l:List SL) (k:List SI) (e:SE T) (H:BH T):Option R:=match G.df with
 | []=>rec (.ops d l::k) e H
 | _::_=>match d,deferOf l with
   | false,some (s,f,cs)=>sxDefer G off l k e H s f cs
   | _,_=>rec (.ops d l::k) e H
def sxC (c:SC) (k:List SI) (e:SE T) (H:BH T):Option R:=match c with
 | .skip=>rec k e H
 | .ops d l=>sxReg G rec off d l k e H
 | .priv l bs=>rec (.ops true l::.pv bs::k) e H
 | .alts o ls=>sxAlts G rec o ls k e H
 | .seq a b=>rec (.c a::.c b::k) e H
 | .cond x a b=>match bod e x with
   | .bool c=>cond c (rec (.c a::k) e H) (rec (.c b::k) e H)
   | _=>none
 | .block id b=>rec (.c b::.blk id::k) e H
 | .loop _=>sxLoop G k e H
 | .scope b=>rec (.c b::.scp::k) e H
 | .exit id=>match exitS id k with
   | some k=>rec k e H
   | none=>none
 | .ret=>sxRet G e H
 | .bad=>none
def sxJ (c:SC) (k:List SI) (e:SE T) (H:BH T):Option R:=match isJn G.jm c with
 | none=>sxC G rec off c k e H
 | some i=>match lpOf G.lps i with
   | []=>sxC G rec off c k e H
   | L::l=>loopS G.nb G.nt e H (L::l)
def sxT (todo:List SI) (e:SE T) (H:BH T):Option R:=match todo with
 | []=>sxRet G e H
 | .blk _::k=>rec k e H
 | .scp::k=>rec k e H
 | .pv bs::k=>pvS e G.ns bs e H fun e H=>rec k e H
 | .lp _::k=>sxLoop G k e H
 | .ops dr l::k=>sxOps G rec dr l k e H
 | .c c::k=>sxJ G rec off c k e H
omit rec off
noncomputable def sx (n:Nat):List SI→SE T→BH T→Option R:=Nat.rec (motive:=fun _=>Set B R→List SI→SE T→BH T→Option R) (fun _ _ _ _=>none) (fun _ go G=>sxT G (go G) (go G.off)) n G
theorem xZij (n:Nat) (todo:List SI) (e:SE T) (H:BH T):sx G (n+1) todo e H=sxT G (sx G n) (sx G.off n) todo e H:=rfl
end
end
end Go.Proofs.YtbioikdfpfafaaaGreatDoor.T
namespace Go.Proofs.YtbioikdfpfafaaaGreatDoor.T
open Go
section
variable {T:Nat→Type} {B:Tb T}
structure Tb.Ok (B:Tb T):Prop where
 enc:∀ i x,BV.avs B (B.enc i x)=(B.eA i x).cells
 len:∀ i x,(B.enc i x).length=B.k i
 one:∀ i x,ones (B.eA i x).cells=true
 dat:∀ i x,(B.eA i x).data=true
 sg:∀ i x,B.ag i=false→(B.eA i x).cells=[B.eA i x]
 ag:∀ i x,B.ag i=true→B.eA i x=.agg (B.eA i x).cells
 dec:∀ i cs x,B.dec i cs=some x→LWs (BV.avs B cs) (B.eA i x).cells
 el:∀ i x (R:Type) (K:BV T→Option R) r,B.el i x R K=some r→∃ z,z.av B=B.eX i x∧K z=some r
 fd:∀ i ty v x,B.fd i ty v=some x→∃ y,B.eX i x=.ifc ty y∧(v.av B).dd=true∧LW (v.av B) y
theorem xZa7 {j i:Nat} {l:List (T j)} {l':List (T i)} (h:castR j i l=some l'):∃ e:j=i,l'=e ▸ l:=by
 unfold castR at h
 split at h
 ·rename_i e;exact ⟨e,by cases h;rfl⟩
 ·cases h
theorem xZjE {k:IntKind} {x:BV T} {n:Int} (h:asInt k x=some n):x=.int k n:=by
 unfold asInt at h
 split at h
 ·split at h
  ·rename_i e;cases h;rw [e]
  ·cases h
 ·cases h
theorem xZgE {x:BV T} {b:Bool} (h:asBool x=some b):x=.bool b:=by
 unfold asBool at h
 split at h
 ·cases h;rfl
 ·cases h
theorem xZjS {x:BV T} {s:List UInt8} (h:asStr x=some s):x=.str s:=by
 unfold asStr at h
 split at h
 ·cases h;rfl
 ·cases h
theorem xZqw {k:FloatKind} {x:BV T} {n:Nat} (h:asFlt k x=some n):x=.flt k n:=by
 unfold asFlt at h
 split at h
 ·split at h
  ·rename_i e;cases h;rw [e]
  ·cases h
 ·cases h
theorem xZex {i:Nat} {x:BV T} {l:List (T i)} (h:asRow i x=some l):LW (x.av B) ((BV.sl i l:BV T).av B):=by
 unfold asRow at h
 split at h
 ·obtain ⟨e,rfl⟩:=xZa7 h
  subst e;exact .refl _
 ·cases h;simp only [BV.av,List.map_nil];exact .emp _
 ·cases h
def Pat.i (k:IntKind):Pat B Int:=⟨asInt k,.int k,fun x a h=>by rw [xZjE h];exact .refl _⟩
def Pat.b:Pat B Bool:=⟨asBool,.bool,fun x a h=>by rw [xZgE h];exact .refl _⟩
def Pat.s:Pat B (List UInt8):=⟨asStr,.str,fun x a h=>by rw [xZjS h];exact .refl _⟩
def Pat.f (k:FloatKind):Pat B Nat:=⟨asFlt k,.flt k,fun x a h=>by rw [xZqw h];exact .refl _⟩
def Pat.r (i:Nat):Pat B (List (T i)):=⟨asRow i,.sl i,fun x a h=>xZex h⟩
def castT (j i:Nat) (x:T j):Option (T i):=if h:j=i then some (h ▸ x) else none
theorem xZmz {j i:Nat} {x:T j} {y:T i} (h:castT j i x=some y):∃ e:j=i,y=e ▸ x:=by
 unfold castT at h
 split at h
 ·rename_i e;exact ⟨e,by cases h;rfl⟩
 ·cases h
def asTr (i:Nat):BV T→Option (T i)
 | .tr j x=>castT j i x
 | _=>none
theorem xZtA {i:Nat} {x:BV T} {y:T i} (h:asTr i x=some y):x=.tr i y:=by
 unfold asTr at h
 split at h
 ·obtain ⟨e,rfl⟩:=xZmz h;subst e;rfl
 ·cases h
def Pat.tr (i:Nat):Pat B (T i):=⟨asTr i,.tr i,fun x a h=>by rw [xZtA h];exact .refl _⟩
def Pat.li (k:IntKind) (m:Int):Pat B Unit:=⟨fun x=>match asInt k x with
 | some n=>if n=m then some () else none
 | none=>none,fun _=>.int k m,fun x a h=>by
 split at h
 ·rename_i n hn
  split at h
  ·rename_i e;rw [xZjE hn,e];exact .refl _
  ·cases h
 ·cases h⟩
def Pat.lb (m:Bool):Pat B Unit:=⟨fun x=>match asBool x with
 | some n=>if n=m then some () else none
 | none=>none,fun _=>.bool m,fun x a h=>by
 split at h
 ·rename_i n hn
  split at h
  ·rename_i e;rw [xZgE hn,e];exact .refl _
  ·cases h
 ·cases h⟩
def Pat.ls (m:List UInt8):Pat B Unit:=⟨fun x=>match asStr x with
 | some n=>if n=m then some () else none
 | none=>none,fun _=>.str m,fun x a h=>by
 split at h
 ·rename_i n hn
  split at h
  ·rename_i e;rw [xZjS hn,e];exact .refl _
  ·cases h
 ·cases h⟩
def Pat.own (t:Nat):Pat B Unit:=⟨fun x=>match x with
 | .own u=>match h:Nat.beq u t with
   | true=>some ()
   | false=>none
 | _=>none,fun _=>.own t,fun x a h=>by
 split at h
 ·split at h
  ·rename_i e;rw [Nat.eq_of_beq_eq_true e];exact .refl _
  ·cases h
 ·cases h⟩
def Pat.ptr (b o:Nat):Pat B Unit:=⟨fun x=>match x with
 | .ptr b' o'=>match h:Nat.beq b' b,h':Nat.beq o' o with
   | true,true=>some ()
   | _,_=>none
 | _=>none,fun _=>.ptr b o,fun x a h=>by
 split at h
 ·split at h
  ·rename_i e e';rw [Nat.eq_of_beq_eq_true e,Nat.eq_of_beq_eq_true e'];exact .refl _
  ·cases h
 ·cases h⟩
def Pat.ni:Pat B Unit:=⟨fun x=>match x with
 | .raw (.v .nilIface)=>some ()
 | _=>none,fun _=>.raw (.v .nilIface),fun x a h=>by
 split at h
 ·exact .refl _
 ·cases h⟩
def Pat.e:Pat B Unit:=⟨fun x=>match x with
 | .emp=>some ()
 | _=>none,fun _=>.emp,fun x a h=>by
 split at h
 ·exact .refl _
 ·cases h⟩
def PL.n:PL B Unit:=⟨fun x=>match x with
 | []=>some ()
 | _=>none,fun _=>[],fun x a h=>by
 split at h
 ·exact .refl _
 ·cases h⟩
def PL.c {A A':Type} (p:Pat B A) (q:PL B A'):PL B (A×A'):=⟨fun x=>match x with
 | y::l=>match p.dec y,q.dec l with
   | some a,some b=>some (a,b)
   | _,_=>none
 | []=>none,fun a=>p.enc a.1::q.enc a.2,fun x a h=>by
 split at h
 ·split at h
  ·rename_i h1 h2;cases h;simp only [BV.avs];exact .cons (p.ok _ _ h1) (q.ok _ _ h2)
  ·cases h
 ·cases h⟩
def PL.el (hB:B.Ok) (i:Nat):PL B (T i):=⟨B.dec i,B.enc i,fun x a h=>by rw [hB.enc];exact hB.dec i x a h⟩
def decN (k:Nat) {α:Type} (d:List (BV T)→Option α):Nat→List (BV T)→Option (List α)
 | 0,[]=>some []
 | 0,_=>none
 | m+1,cs=>match d (cs.take k),decN k d m (cs.drop k) with
   | some a,some l=>some (a::l)
   | _,_=>none
theorem xZnF {k:Nat} {α:Type} {d:List (BV T)→Option α} {f:α→List AV} (hd:∀ cs a,d cs=some a→LWs (BV.avs B cs) (f a)):∀ {m:Nat} {cs:List (BV T)} {l:List α},decN k d m cs=some l→LWs (BV.avs B cs) (flm f l)
 | 0,[],l,h=>by cases h;exact .nil
 | 0,_::_,l,h=>by cases h
 | m+1,cs,l,h=>by
   simp only [decN] at h
   split at h
   ·rename_i a l' h1 h2
    cases h
    have e:BV.avs B cs=BV.avs B (cs.take k)++BV.avs B (cs.drop k):=by rw [xZ2I,xZ2I,xZ2I,← List.map_append,List.take_append_drop]
    rw [e]
    exact LWs.append (hd _ _ h1) (xZnF hd h2)
   ·cases h
def PL.a (hB:B.Ok) (i:Nat) {A':Type} (q:PL B A'):PL B (T i×A'):=⟨fun x=>match B.dec i (x.take (B.k i)),q.dec (x.drop (B.k i)) with
 | some a,some b=>some (a,b)
 | _,_=>none,fun a=>B.enc i a.1++q.enc a.2,fun x a h=>by
 split at h
 ·rename_i h1 h2
  cases h
  have e:BV.avs B x=BV.avs B (x.take (B.k i))++BV.avs B (x.drop (B.k i)):=by rw [xZ2I,xZ2I,xZ2I,← List.map_append,List.take_append_drop]
  rw [e,xZ2I B (_++_),List.map_append,← xZ2I,← xZ2I,hB.enc]
  exact LWs.append (hB.dec i _ _ h1) (q.ok _ _ h2)
 ·cases h⟩
def Pat.ag {A:Type} (p:PL B A):Pat B A:=⟨fun x=>match x with
 | .agg cs=>p.dec cs
 | _=>none,fun a=>.agg (p.enc a),fun x a h=>by
 split at h
 ·simp only [BV.av];exact .agg (p.ok _ _ h)
 ·cases h⟩
def Pat.tu {A:Type} (p:PL B A):Pat B A:=⟨fun x=>match x with
 | .tup cs=>p.dec cs
 | _=>none,fun a=>.tup (p.enc a),fun x a h=>by
 split at h
 ·simp only [BV.av];exact .tup (p.ok _ _ h)
 ·cases h⟩
def Pat.dp {A:Type} (p:PL B A):Pat B A:=⟨fun x=>match x with
 | .dptr cs=>p.dec cs
 | _=>none,fun a=>.dptr (p.enc a),fun x a h=>by
 split at h
 ·simp only [BV.av];exact .dptr (p.ok _ _ h)
 ·cases h⟩
def Pat.fn {A A':Type} (f:FuncId) (p:PL B A) (q:PL B A'):Pat B (A×A'):=⟨fun x=>match x with
 | .fn (.func g) a b=>match h:Nat.beq g f,p.dec a,q.dec b with
   | true,some u,some v=>some (u,v)
   | _,_,_=>none
 | _=>none,fun a=>.fn (.func f) (p.enc a.1) (q.enc a.2),fun x a h=>by
 split at h
 ·split at h
  ·rename_i e h1 h2;cases h;simp only [BV.av];rw [Nat.eq_of_beq_eq_true e];exact .fn _ (p.ok _ _ h1) (q.ok _ _ h2)
  ·cases h
 ·cases h⟩
def Pat.ifc {A:Type} (t:TypeId) (p:Pat B A):Pat B A:=⟨fun x=>match x with
 | .ifc t' y=>match h:Nat.beq t' t with
   | true=>p.dec y
   | false=>none
 | _=>none,fun a=>.ifc t (p.enc a),fun x a h=>by
 split at h
 ·split at h
  ·rename_i e;simp only [BV.av];rw [Nat.eq_of_beq_eq_true e];exact .ifc _ (p.ok _ _ h)
  ·cases h
 ·cases h⟩
def Pat.el (hB:B.Ok) (i:Nat):Pat B (T i):=Pat.ag (PL.el hB i)
theorem xZfa (m:Nat) (v:BV T) (r:SE T) (n:Nat):lk ((m,v)::r) n=if m=n then v else lk r n:=by
 simp only [lk]
 by_cases h:m=n
 ·subst h;simp
 ·have:Nat.beq m n=false:=by
   cases hb:Nat.beq m n with
   | true=>exact absurd (Nat.eq_of_beq_eq_true hb) h
   | false=>rfl
  rw [this,if_neg h]
def PE.n:PE B Unit:=⟨[],fun _=>some (),fun _=>[],fun _=>rfl,fun _ _ _ _=>.inr rfl⟩
def PE.c {A A':Type} (n:Nat) (p:Pat B A) (q:PE B A'):PE B (A×A'):=⟨n::q.ks,fun e=>match p.dec (lk e n),q.dec e with
 | some a,some b=>some (a,b)
 | _,_=>none,fun a=>(n,p.enc a.1)::q.enc a.2,fun a=>by simp [q.key],fun e a h i=>by
 split at h
 ·rename_i h1 h2
  cases h
  rw [xZfa]
  by_cases hi:n=i
  ·subst hi;rw [if_pos rfl];exact .inl (p.ok _ _ h1)
  ·rw [if_neg hi];exact q.ok e _ h2 i
 ·cases h⟩
def PX.n:PX B Unit:=⟨fun x=>match x with
 | []=>some ()
 | _=>none,fun _=>[],fun x a h=>by
 split at h
 ·exact ⟨rfl,fun _=>.refl _⟩
 ·cases h⟩
def PX.c {A A':Type} (p:PL B A) (q:PX B A'):PX B (A×A'):=⟨fun x=>match x with
 | y::l=>match p.dec y,q.dec l with
   | some a,some b=>some (a,b)
   | _,_=>none
 | []=>none,fun a=>p.enc a.1::q.enc a.2,fun x a h=>by
 split at h
 ·split at h
  ·rename_i h1 h2
   cases h
   obtain ⟨q1,q2⟩:=q.ok _ _ h2
   refine ⟨by simp [q1],fun b=>?_⟩
   cases b with
   | zero=>exact p.ok _ _ h1
   | succ b=>exact q2 b
  ·cases h
 ·cases h⟩
def PU.n:PU B Unit:=⟨fun x=>match x with
 | []=>some ()
 | _=>none,fun _=>[],fun x a h=>by
 split at h
 ·rfl
 ·cases h⟩
def PU.d {A':Type} (q:PU B A'):PU B A':=⟨fun x=>match x with
 | .dead::l=>q.dec l
 | _=>none,fun a=>.dead::q.enc a,fun x a h=>by
 split at h
 ·simp only [List.map_cons,q.ok _ _ h]
 ·cases h⟩
def PU.l {A':Type} (i:Nat) (q:PU B A'):PU B (List (T i)×A'):=⟨fun x=>match x with
 | .live j xs::l=>match castR j i xs,q.dec l with
   | some a,some b=>some (a,b)
   | _,_=>none
 | _=>none,fun a=>.live i a.1::q.enc a.2,fun x a h=>by
 split at h
 ·split at h
  ·rename_i h1 h2
   cases h
   obtain ⟨e,rfl⟩:=xZa7 h1
   subst e
   simp only [List.map_cons,q.ok _ _ h2]
  ·cases h
 ·cases h⟩
def PU.f {A':Type} (i:Nat) (q:PU B A'):PU B (List (T i)×A'):=⟨fun x=>match x with
 | .froz j xs::l=>match castR j i xs,q.dec l with
   | some a,some b=>some (a,b)
   | _,_=>none
 | _=>none,fun a=>.froz i a.1::q.enc a.2,fun x a h=>by
 split at h
 ·split at h
  ·rename_i h1 h2
   cases h
   obtain ⟨e,rfl⟩:=xZa7 h1
   subst e
   simp only [List.map_cons,q.ok _ _ h2]
  ·cases h
 ·cases h⟩
theorem xZq3 {H:BH T} {bx:List (List (BV T))} {bu:List (BB T)} (h1:H.box.length=bx.length∧∀ b,LWs (BV.avs B (H.box.getD b [])) (BV.avs B (bx.getD b []))) (h2:H.buf.map (BB.av B)=bu.map (BB.av B)):LWH (H.av B) ((⟨bx,bu⟩:BH T).av B):=by
 have e:∀ (l:List (List (BV T))) b,(l.map (BV.avs B)).getD b []=BV.avs B (l.getD b []):=fun l b=>by
  simp only [List.getD,List.getElem?_map]
  cases l[b]? with
  | none=>simp [BV.avs]
  | some x=>rfl
 have h3:(BH.av B H).buf=(BH.av B ⟨bx,bu⟩).buf:=h2
 refine ⟨by simp [BH.av,h1.1],by rw [h3],fun b=>?_,fun t=>by rw [h3];exact .refl _⟩
 simp only [BH.av,e]
 exact h1.2 b
def Out.p {R:Type} (o:Pat B R):Out B R:=
 ⟨fun v H=>match H with
   | ⟨[],[]⟩=>o.dec v
   | _=>none,fun r=>(o.enc r,⟨[],[]⟩),fun r K=>K (o.enc r) ⟨[],[]⟩,fun _ _=>rfl,fun x H r h=>by
 split at h
 ·exact ⟨o.ok _ _ h,LWH.refl _⟩
 ·cases h⟩
def Out.m {R1 R2 R3 R:Type} (o:Pat B R1) (x:PX B R2) (u:PU B R3) (to:R1×R2×R3→R) (of:R→R1×R2×R3) (h:∀ z,of (to z)=z):Out B R:=
 ⟨fun v H=>match o.dec v,x.dec H.box,u.dec H.buf with
   | some a,some b,some c=>some (to (a,b,c))
   | _,_,_=>none,fun r=>(o.enc (of r).1,⟨x.enc (of r).2.1,u.enc (of r).2.2⟩),fun r K=>K (o.enc (of r).1) ⟨x.enc (of r).2.1,u.enc (of r).2.2⟩,fun _ _=>rfl,fun v H r h0=>by
 split at h0
 ·rename_i h1 h2 h3
  cases h0
  rw [h]
  exact ⟨o.ok _ _ h1,xZq3 (x.ok _ _ h2) (u.ok _ _ h3)⟩
 ·cases h0⟩
def Out.or {R1 R2:Type} (o1:Out B R1) (o2:Out B R2):Out B (R1⊕R2):=
 ⟨fun v H=>match o1.dec v H with
   | some r=>some (.inl r)
   | none=>match o2.dec v H with
     | some r=>some (.inr r)
     | none=>none,fun r=>match r with
   | .inl r=>o1.enc r
   | .inr r=>o2.enc r,fun r K=>Sum.elim (fun r=>o1.elim r K) (fun r=>o2.elim r K) r,fun r K=>by
     cases r with
     | inl r=>exact o1.eE r K
     | inr r=>exact o2.eE r K,fun v H r h=>by
 split at h
 ·rename_i h1;cases h;exact o1.ok _ _ _ h1
 ·split at h
  ·rename_i h2;cases h;exact o2.ok _ _ _ h2
  ·cases h⟩
def Con.p (f:FuncId) (md:List Bool) {A:Type} (p:PL B A) {R:Type} (sh:Nat→A→Option R) (o:Out B R) (ho:∀ r,(o.enc r).2=⟨[],[]⟩):Con B:=
 ⟨f,A,R,md,fun xs H=>match H with
   | ⟨[],[]⟩=>p.dec xs
   | _=>none,fun a=>(p.enc a,⟨[],[]⟩),sh,o,true,false,fun xs H a h=>(by
 split at h
 ·exact ⟨p.ok _ _ h,LWH.refl _⟩
 ·cases h),fun _=>⟨fun _=>rfl,ho⟩,fun h=>(by cases h)⟩
def Con.s (f:FuncId) (md:List Bool) {A:Type} (p:PL B A) {R:Type} (sh:Nat→A→Option R) (o:Out B R) (ho:∀ r,(o.enc r).2=⟨[],[]⟩∧((o.enc r).1.av B).scal=true):Con B:=
 ⟨f,A,R,md,fun xs H=>match H with
   | ⟨[],[]⟩=>p.dec xs
   | _=>none,fun a=>(p.enc a,⟨[],[]⟩),sh,o,true,true,fun xs H a h=>(by
 split at h
 ·exact ⟨p.ok _ _ h,LWH.refl _⟩
 ·cases h),fun _=>⟨fun _=>rfl,fun r=>(ho r).1⟩,fun _ r=>(ho r).2⟩
def Con.m (f:FuncId) (md:List Bool) {A1 A2 A3:Type} (p:PL B A1) (x:PX B A2) (u:PU B A3) {R:Type} (sh:Nat→A1×A2×A3→Option R) (o:Out B R):Con B:=
 ⟨f,A1×A2×A3,R,md,fun xs H=>match p.dec xs,x.dec H.box,u.dec H.buf with
   | some a,some b,some c=>some (a,b,c)
   | _,_,_=>none,fun a=>(p.enc a.1,⟨x.enc a.2.1,u.enc a.2.2⟩),sh,o,false,false,fun xs H a h=>(by
 split at h
 ·rename_i h1 h2 h3
  cases h
  exact ⟨p.ok _ _ h1,xZq3 (x.ok _ _ h2) (u.ok _ _ h3)⟩
 ·cases h),fun h=>(by cases h),fun h=>(by cases h)⟩
structure LQ (B:Tb T) (A:Type) where
 ks:List Nat
 em:List (Nat×Option Nat×Nat)
 live:List Nat
 dec:SE T→BH T→Option A
 enc:A→SE T×BH T
 key:∀ a,(enc a).1.map (·.1)=ks
 ok:∀ e H a,dec e H=some a→(∀ i,LW ((lk e i).av B) ((lk (enc a).1 i).av B)∨lk (enc a).1 i=.raw .any)∧LWH (H.av B) ((enc a).2.av B)
def LQ.m (em:List (Nat×Option Nat×Nat)) (live:List Nat) {A1 A2 A3:Type} (p:PE B A1) (x:PX B A2) (u:PU B A3):LQ B (A1×A2×A3):=
 ⟨p.ks,em,live,fun e H=>match p.dec e,x.dec H.box,u.dec H.buf with
   | some a,some b,some c=>some (a,b,c)
   | _,_,_=>none,fun a=>(p.enc a.1,⟨x.enc a.2.1,u.enc a.2.2⟩),fun a=>p.key a.1,fun e H a h=>by
 split at h
 ·rename_i h1 h2 h3
  cases h
  exact ⟨p.ok _ _ h1,xZq3 (x.ok _ _ h2) (u.ok _ _ h3)⟩
 ·cases h⟩
def Lp.of {A R:Type} (q:LQ B A) (run:A→Option R):Lp B R:=⟨A,q.ks,q.em,q.live,q.dec,q.enc,run,q.key,q.ok⟩
end
end Go.Proofs.YtbioikdfpfafaaaGreatDoor.T
namespace Go.Proofs.YtbioikdfpfafaaaGreatDoor.T
open Go
def bd (P:Program) (fn:Func):SC:=match fn.body with
 | some c=>match comp P false c with
   | some s=>s
   | none=>.bad
 | none=>.bad
def resOf (P:Program) (fn:Func):List Rs:=match cRes P fn.results.toList with
 | some l=>l
 | none=>[]
def isOk (P:Program) (fn:Func):Bool:=match fn.body with
 | some c=>(comp P false c).isSome&&(cRes P fn.results.toList).isSome&&!(fn.name == "runtime.NumGoroutine")
 | none=>false
theorem Is.of {P:Program} {f:FuncId} {fn:Func} (hf:P.funcs[f]?=some fn) (h:isOk P fn=true):Is P f fn.ntmps (resOf P fn) (bd P fn):=by
 unfold isOk at h
 split at h
 ·rename_i c hc
  simp only [Bool.and_eq_true,Bool.not_eq_true'] at h
  obtain ⟨⟨h1,h2⟩,h3⟩:=h
  obtain ⟨s,h1⟩:=Option.isSome_iff_exists.1 h1
  obtain ⟨r,h2⟩:=Option.isSome_iff_exists.1 h2
  exact Is.mk' fn c false hf hc (by simp only [bd,hc,h1]) (by simp only [resOf,h2]) rfl h3
 ·cases h
def lpL:SC→List SI→List (Nat×List SI)
 | .seq a b,k=>lpL a (.c b::k)++lpL b k
 | .cond _ a b,k=>lpL a k++lpL b k
 | .block i a,k=>lpL a (.blk i::k)
 | .scope a,k=>lpL a (.scp::k)
 | .loop b,k=>match k with
   | .blk i::_=>(i,.lp b::k)::lpL b (.lp b::k)
   | _=>lpL b (.lp b::k)
 | _,_=>[]
def lkp:List (Nat×List SI)→Nat→List SI
 | [],_=>[]
 | (m,l)::r,n=>match Nat.beq m n with
   | true=>l
   | false=>lkp r n
def jn1 (ms:List Nat) (c:SC) (k:List SI) (r:List (Nat×List SI)):List (Nat×List SI):=match isJn ms c with
 | none=>r
 | some i=>(i,.c c::k)::r
def jpL (ms:List Nat):SC→List SI→List (Nat×List SI)
 | .seq a b,k=>jpL ms a (.c b::k)++jpL ms b k
 | .cond x a b,k=>jn1 ms (.cond x a b) k (jpL ms a k++jpL ms b k)
 | .block i a,k=>jpL ms a (.blk i::k)
 | .scope a,k=>jpL ms a (.scp::k)
 | .loop b,k=>jpL ms b (.lp b::k)
 | .ops d l,k=>jn1 ms (.ops d l) k []
 | _,_=>[]
def allL (ms:List Nat) (c:SC):List (Nat×List SI):=match ms with
 | []=>lpL c []
 | _::_=>lpL c []++jpL ms c []
def stkO (ms:List Nat) (c:SC) (id:Nat):List SI:=lkp (allL ms c) id
def stk (ms:List Nat) (c:SC) (id:Nat):List SI:=match stkO ms c id with
 | .lp b::k=>.c b::.lp b::k
 | l=>l
section
variable {T:Nat→Type} {B:Tb T}
def argN:Nat→List (BV T)→SE T
 | _,[]=>[]
 | n,x::l=>(n,x)::argN (n+1) l
def argE (l:List (BV T)):SE T:=argN 0 l
def loopV {V R:Type} (f:(V→Option R)→V→Option R):Nat→V→Option R
 | 0,_=>none
 | n+1,v=>f (loopV f n) v
def lp0 {R:Type} (f:Option R→Option R) (n:Nat):Option R:=loopV (fun next (_:Unit)=>f (next ())) n ()
def lp1 {α0 R:Type} (f:(α0→Option R)→α0→Option R) (n:Nat) (u0:α0):Option R:=loopV (fun next (v:α0)=>f (fun u0=>next u0) v) n u0
def lp2 {α0 α1 R:Type} (f:(α0→α1→Option R)→α0→α1→Option R) (n:Nat) (u0:α0) (u1:α1):Option R:=loopV (fun next (v:α0×α1)=>f (fun u0 u1=>next (u0,u1)) v.1 v.2) n (u0,u1)
def lp3 {α0 α1 α2 R:Type} (f:(α0→α1→α2→Option R)→α0→α1→α2→Option R) (n:Nat) (u0:α0) (u1:α1) (u2:α2):Option R:=loopV (fun next (v:α0×α1×α2)=>f (fun u0 u1 u2=>next (u0,u1,u2)) v.1 v.2.1 v.2.2) n (u0,u1,u2)
def lp4 {α0 α1 α2 α3 R:Type} (f:(α0→α1→α2→α3→Option R)→α0→α1→α2→α3→Option R) (n:Nat) (u0:α0) (u1:α1) (u2:α2) (u3:α3):Option R:=loopV (fun next (v:α0×α1×α2×α3)=>f (fun u0 u1 u2 u3=>next (u0,u1,u2,u3)) v.1 v.2.1 v.2.2.1 v.2.2.2) n (u0,u1,u2,u3)
def lp5 {α0 α1 α2 α3 α4 R:Type} (f:(α0→α1→α2→α3→α4→Option R)→α0→α1→α2→α3→α4→Option R) (n:Nat) (u0:α0) (u1:α1) (u2:α2) (u3:α3) (u4:α4):Option R:=loopV (fun next (v:α0×α1×α2×α3×α4)=>f (fun u0 u1 u2 u3 u4=>next (u0,u1,u2,u3,u4)) v.1 v.2.1 v.2.2.1 v.2.2.2.1 v.2.2.2.2) n (u0,u1,u2,u3,u4)
def lp6 {α0 α1 α2 α3 α4 α5 R:Type} (f:(α0→α1→α2→α3→α4→α5→Option R)→α0→α1→α2→α3→α4→α5→Option R) (n:Nat) (u0:α0) (u1:α1) (u2:α2) (u3:α3) (u4:α4) (u5:α5):Option R:=loopV (fun next (v:α0×α1×α2×α3×α4×α5)=>f (fun u0 u1 u2 u3 u4 u5=>next (u0,u1,u2,u3,u4,u5)) v.1 v.2.1 v.2.2.1 v.2.2.2.1 v.2.2.2.2.1 v.2.2.2.2.2) n (u0,u1,u2,u3,u4,u5)
def lp8 {α0 α1 α2 α3 α4 α5 α6 α7 R:Type} (f:(α0→α1→α2→α3→α4→α5→α6→α7→Option R)→α0→α1→α2→α3→α4→α5→α6→α7→Option R) (n:Nat) (u0:α0) (u1:α1) (u2:α2) (u3:α3) (u4:α4) (u5:α5) (u6:α6) (u7:α7):Option R:=loopV (fun next (v:α0×α1×α2×α3×α4×α5×α6×α7)=>f (fun u0 u1 u2 u3 u4 u5 u6 u7=>next (u0,u1,u2,u3,u4,u5,u6,u7)) v.1 v.2.1 v.2.2.1 v.2.2.2.1 v.2.2.2.2.1 v.2.2.2.2.2.1 v.2.2.2.2.2.2.1 v.2.2.2.2.2.2.2) n (u0,u1,u2,u3,u4,u5,u6,u7)
theorem xZZ {α X:Type} {d:BV T→Option α} {f:α→List (BV T)→Option X} {cs:List (BV T)} {x:X} (h:P1 d f cs=some x):∃ c r a,cs=c::r∧d c=some a∧f a r=some x:=by
 cases cs with
 | nil=>cases h
 | cons c r=>
   obtain ⟨a,h1,h2⟩:=Option.bind_eq_some_iff.1 h
   exact ⟨c,r,a,rfl,h1,h2⟩
theorem xZ9u {X:Type} {y x:X} {cs:List (BV T)} (h:P0 y cs=some x):cs=[]∧x=y:=by
 cases cs with
 | nil=>cases h;exact ⟨rfl,rfl⟩
 | cons c r=>cases h
theorem xZ28 {k:IntKind} {x:BV T} {n:Int} (h:asInt k x=some n):LW (x.av B) (.v (.int k n)):=by rw [xZjE h];exact .refl _
theorem xZl3 {x:BV T} {b:Bool} (h:asBool x=some b):LW (x.av B) (.v (.bool b)):=by rw [xZgE h];exact .refl _
theorem xZ5B {x:BV T} {s:List UInt8} (h:asStr x=some s):LW (x.av B) (.v (.string (bs s))):=by rw [xZjS h];exact .refl _
def PL.o {A:Type} (p:Pat B A):PL B A:=⟨fun x=>match x with
 | [y]=>p.dec y
 | _=>none,fun a=>[p.enc a],fun x a h=>by
 split at h
 ·simp only [BV.avs];exact .cons (p.ok _ _ h) .nil
 ·cases h⟩
def LQ.re {A A':Type} (q:LQ B A) (to:A→A') (of:A'→A) (h:∀ a,of (to a)=a):LQ B A':=
 ⟨q.ks,q.em,q.live,fun e H=>match q.dec e H with
   | some a=>some (to a)
   | none=>none,fun a=>q.enc (of a),fun a=>q.key (of a),fun e H a h0=>by
 split at h0
 ·rename_i h1;cases h0;rw [h];exact q.ok _ _ _ h1
 ·cases h0⟩
def Con.clone (f:FuncId) (i:Nat) (sh:Nat→List (T i)→Option (List (T i))):Con B:=.m f [true] (.o (.r i)) .n .n (fun N a=>sh N a.1) (.m (.own 0) .n (.l i .n) (fun z=>z.2.2.1) (fun r=>((),(),r,())) (fun _=>rfl))
def Con.cloneD (f:FuncId) (i:Nat) (sh:Nat→List (T i)→Option (List (T i))):Con B:=.p f [true] (.o (.r i)) (fun N a=>sh N a) (.p (.r i)) (fun _=>rfl)
end
end Go.Proofs.YtbioikdfpfafaaaGreatDoor.T
namespace Go.Proofs.YtbioikdfpfafaaaGreatDoor.T
open Go
section
variable {T:Nat→Type} {B:Tb T}
theorem xZom (s:ByteArray):bs s.data.toList=s:=by simp [bs]
theorem xZpP (x:AV):(cbv1 x:BV T).av B=x:=by
 cases x with
 | v y=>cases y<;>simp only [cbv1,BV.av,xZom]
 | _=>simp only [cbv1,BV.av]
theorem xZeR (l:List AV):BV.avs B (l.map (cbv1 (T:=T)))=l:=by
 rw [xZ2I,List.map_map]
 exact (List.map_congr_left fun x _=>xZpP x).trans (List.map_id _)
theorem xZtW (x:AV):(cbv x:BV T).av B=x:=by
 unfold cbv
 split
 ·simp only [BV.av,xZeR]
 ·simp only [BV.av,BV.avs]
 ·exact xZpP _
structure RelE (B:Tb T) (e:SE T) (t:List AV) (ns:Nat):Prop where
 len:t.length=ns
 get:∀ i,t.getD i .any=(lk e i).av B
theorem RelE.od {e:SE T} {t ns} (h:RelE B e t ns) (x:Od):od t x=(bod e x).av B:=by
 cases x with
 | t n=>exact h.get n
 | c x=>exact (xZtW x).symm
theorem RelE.ods {e:SE T} {t ns} (h:RelE B e t ns) (l:List Od):l.map (Go.Proofs.YtbioikdfpfafaaaGreatDoor.T.od t)=BV.avs B (l.map (bod e)):=by
 rw [xZ2I,List.map_map]
 exact List.map_congr_left fun x _=>h.od x
theorem RelE.put {e:SE T} {t ns} (h:RelE B e t ns) {d:Option Nat} (hd:okD ns d=true) (v:BV T):RelE B (putE e d v) (putT t d (v.av B)) ns:=by
 cases d with
 | none=>exact h
 | some d=>
   have hd:d < ns:=by simpa [okD] using hd
   refine ⟨by simp [putT,h.len],fun i=>?_⟩
   simp only [putE,putT,xZfa]
   by_cases hi:d=i
   ·subst hi;rw [if_pos rfl,xZ1v (by rw [h.len];exact hd)]
   ·rw [if_neg hi,getD_set_ne' hi];exact h.get i
theorem xZ1E (l:List (BV T)):(BV.avs B l).length=l.length:=by rw [xZ2I];simp
theorem xZeB (l:List (BV T)) (i:Nat):(BV.avs B l).getD i .any=(l.getD i (.raw .any)).av B:=by
 rw [xZ2I]
 simp only [List.getD,List.getElem?_map]
 cases l[i]? with
 | none=>simp [BV.av]
 | some x=>rfl
theorem xZ3z (l m:List (BV T)):BV.avs B (l++m)=BV.avs B l++BV.avs B m:=by simp [xZ2I]
theorem xZbE (l:List (BV T)) (n:Nat):BV.avs B (l.take n)=(BV.avs B l).take n:=by simp [xZ2I,List.map_take]
theorem xZ9l (l:List (BV T)) (n:Nat):BV.avs B (l.drop n)=(BV.avs B l).drop n:=by simp [xZ2I,List.map_drop]
theorem xZmn (l:List (BV T)) (n:Nat) (x:BV T):BV.avs B (l.set n x)=(BV.avs B l).set n (x.av B):=by simp [xZ2I,List.map_set]
theorem xZtl (l:List AV):BV.avs B (l.map (BV.raw (T:=T)))=l:=by
 rw [xZ2I,List.map_map]
 exact (List.map_congr_left fun x _=>by simp only [Function.comp,BV.av];rfl).trans (List.map_id _)
theorem xZ8p (x:BV T):BV.avs B x.cells=(x.av B).cells:=by
 cases x with
 | raw x=>
   cases x with
   | agg cs=>simp only [BV.cells,BV.av,AV.cells,xZtl]
   | _=>simp only [BV.cells,BV.av,AV.cells,BV.avs]
 | agg cs=>simp only [BV.cells,BV.av,AV.cells]
 | _=>simp only [BV.cells,BV.av,AV.cells,BV.avs]
theorem xZcp (x:BV T):(x.av B).cells.length=x.cells.length:=by rw [← xZ8p,xZ1E]
theorem xZux (x:BV T):(x.av B).one=x.one:=by
 cases x<;>simp only [BV.av,BV.one]<;>rfl
theorem xZdJ (l:List (BV T)):ones (BV.avs B l)=onesB l:=by
 induction l with
 | nil=>rfl
 | cons x l ih=>simp only [BV.avs,ones,onesB,List.all_cons,xZux] at ih ⊢;rw [ih]
theorem mk_av (ag:Bool) (cs:List (BV T)):(mkB ag cs).av B=mk ag (BV.avs B cs):=by
 cases ag with
 | true=>simp only [mkB,mk,BV.av,if_true]
 | false=>
   simp only [mkB,mk,Bool.false_eq_true,if_false]
   cases cs with
   | nil=>simp [BV.av,BV.avs]
   | cons x l=>simp [BV.avs]
theorem xZnD:∀ (xs cs:List (BV T)) (o:Nat),BV.avs B (putB cs o xs)=putCells (BV.avs B cs) o (BV.avs B xs)
 | [],cs,o=>by simp [putB,putCells,BV.avs]
 | x::xs,cs,o=>by simp only [putB,BV.avs,putCells];rw [xZnD xs,xZmn]
theorem xZpF {e:SE T} {t ns} (h:RelE B e t ns):∀ (ps:List (Nat×Nat×Od)) (cs r:List (BV T)),fillS e cs ps=some r→fillA t (BV.avs B cs) ps=some (BV.avs B r)
 | [],cs,r,hf=>by simp only [fillS,Option.some.injEq] at hf;subst hf;rfl
 | (o,n,x)::ps,cs,r,hf=>by
   simp only [fillS] at hf
   split at hf
   ·rename_i hc
    simp only [Bool.and_eq_true,Nat.beq_eq,Nat.ble_eq] at hc
    simp only [fillA,h.od,xZcp,← xZ8p,xZdJ,xZ1E]
    rw [if_pos ⟨hc.1.1,hc.1.2,hc.2⟩,← xZnD]
    exact xZpF h ps _ _ hf
   ·cases hf
theorem xZln (H:BH T) (b:Nat):(H.av B).box.getD b []=BV.avs B (H.box.getD b []):=by
 simp only [BH.av,List.getD,List.getElem?_map]
 cases H.box[b]? with
 | none=>simp [BV.avs]
 | some x=>rfl
theorem xZdb {H:BH T} {b:Nat} {cs:List (BV T)} (h:H.box[b]?=some cs):(H.av B).box.getD b []=BV.avs B cs:=by
 rw [xZln];simp [List.getD,h]
theorem xZ9C (H:BH T) (t:Nat):(H.av B).buf.getD t .dead=(bufA H t).av B:=by
 simp only [BH.av,bufA,List.getD,List.getElem?_map]
 cases H.buf[t]? with
 | none=>rfl
 | some x=>rfl
theorem xZev (H:BH T):(H.av B).box.length=H.box.length:=by simp [BH.av]
theorem buf_len' (H:BH T):(H.av B).buf.length=H.buf.length:=by simp [BH.av]
theorem xZpU (b:BB T):(frzBB b).av B=frzB (b.av B):=by cases b<;>rfl
theorem xZa4 (H:BH T) (ts:List Nat):(frzHB H ts).av B=frzH (H.av B) ts:=by
 have key:∀ (ts:List Nat) (buf:List (BB T)),(ts.foldl (fun buf t=>buf.set t (frzBB (buf.getD t .dead))) buf).map (BB.av B)=ts.foldl frzT (buf.map (BB.av B)):=by
  intro ts
  induction ts with
  | nil=>intro buf;rfl
  | cons x ts ih=>
    intro buf
    simp only [List.foldl_cons]
    rw [ih]
    congr 1
    have e:(buf.map (BB.av B)).getD x .dead=(buf.getD x .dead).av B:=by
     simp only [List.getD,List.getElem?_map]
     cases buf[x]?<;>rfl
    simp only [frzT,e,List.map_set,xZpU]
 simp only [frzHB,frzH,BH.av,key]
theorem xZrC (x:BV T):own1B x=own1 (x.av B):=by
 cases x<;>simp only [own1B,BV.av]<;>rfl
theorem xZsM (x:BV T):ownsB x=owns (x.av B):=by
 cases x with
 | agg cs=>
   simp only [ownsB,BV.av,owns,xZ2I]
   induction cs with
   | nil=>rfl
   | cons y l ih=>simp only [List.flatMap_cons,List.map_cons,xZrC (B:=B) y,ih]
 | raw x=>simp only [ownsB,BV.av]
 | _=>simp only [ownsB,BV.av,owns,own1B]<;>rfl
theorem xZpI (H:BH T) (x:BV T):(frz1S B H x).av B=frz1 (H.av B) (x.av B):=by
 cases x with
 | own t=>
   simp only [frz1S,BV.av,frz1,xZ9C]
   cases bufA H t<;>simp only [BB.av,frz1B,BV.av]
 | raw x=>simp only [frz1S,BV.av]
 | _=>simp only [frz1S,BV.av]<;>rfl
theorem xZqZ (H:BH T) (x:BV T):(frzS' B H x).av B=frz (H.av B) (x.av B):=by
 cases x with
 | agg cs=>
   simp only [frzS',BV.av,frz,xZ2I,List.map_map]
   congr 1
   exact List.map_congr_left fun y _=>xZpI H y
 | raw x=>simp only [frzS',BV.av]
 | own t=>simp only [frzS',frz,BV.av];rw [xZpI];simp only [BV.av]
 | _=>simp only [frzS',frz,BV.av,frz1S]<;>rfl
theorem LW.dat {x y:AV} (h:LW x y):x.dat=y.dat:=by cases h<;>rfl
theorem LWs.dats:∀ {a b:List AV},LWs a b→a.all AV.dat=b.all AV.dat
 | _,_,.nil=>rfl
 | _,_,.cons h r=>by simp only [List.all_cons,h.dat,LWs.dats r]
variable (hB:B.Ok)
include hB
theorem xZv4 {i:Nat} {x:BV T} {a:T i} (hx:Bool.xor (isAgB x) (B.ag i)=false) (h:B.dec i x.cells=some a):LW (x.av B) (B.eA i a):=by
 have hc:=hB.dec i _ _ h
 rw [xZ8p] at hc
 cases hg:B.ag i with
 | true=>
   rw [hg] at hx
   rw [hB.ag i a hg]
   cases x with
   | agg cs=>exact .agg hc
   | raw x=>
     cases x with
     | agg cs=>exact .agg hc
     | _=>simp [isAgB] at hx
   | _=>simp [isAgB] at hx
 | false=>
   rw [hg] at hx
   rw [hB.sg i a hg] at hc
   have e:(x.av B).cells=[x.av B]:=by
    cases x with
    | agg cs=>simp [isAgB] at hx
    | raw x=>
      cases x with
      | agg cs=>simp [isAgB] at hx
      | _=>simp only [BV.av,AV.cells]
    | _=>simp only [BV.av,AV.cells]
   rw [e] at hc
   cases hc with
   | cons h _=>exact h
theorem xZmR {i:Nat}:∀ {xs:List (BV T)} {l:List (T i)},decL B i xs=some l→LWs (BV.avs B xs) (l.map (B.eA i))
 | [],l,h=>by cases h;exact .nil
 | x::xs,l,h=>by
   simp only [decL] at h
   split at h
   ·rename_i hx ha hl
    cases h
    exact .cons (xZv4 hB hx ha) (xZmR hl)
   ·cases h
theorem xZoK {i:Nat} {x:AV} {a:T i} (h:LW x (B.eA i a)):okE (B.k i) x:=by
 have hc:=h.cells
 refine ⟨?_,?_,?_⟩
 ·rw [hc.len,← hB.enc,xZ1E,hB.len]
 ·rw [hc.ones];exact hB.one i a
 ·have:=hB.dat i a
  simp only [AV.data] at this ⊢
  rw [hc.dats];exact this
theorem xZcw {i:Nat}:∀ {xs:List AV} {l:List (T i)},LWs xs (l.map (B.eA i))→okEs (B.k i) xs
 | [],_,_=>trivial
 | x::xs,[],h=>by cases h
 | x::xs,a::l,h=>by
   cases h with
   | cons h r=>exact ⟨xZoK hB h,xZcw r⟩
end
theorem OS.lw {P:Program} {o:SO} {t:List AV} {H H' H'':AH} {r r':AV} (h:OS P o t H (.ret r) H') (hr:LW r r') (hH:LWH H' H''):OS P o t H (.ret r') H'':=by
 intro wr oc hc M S w a hx hh hp K Q hK
 exact h wr oc hc M S w a hx hh hp K Q fun M' S' v w' h1 h2 h3=>hK M' S' v w' (h1.lw hH) (h2.lwR hH) (hr.rep h3)
end Go.Proofs.YtbioikdfpfafaaaGreatDoor.T
namespace Go.Proofs.YtbioikdfpfafaaaGreatDoor.T
open Go
section
variable {T:Nat→Type} {B:Tb T} {R:Type}
def StepOk (B:Tb T) (P:Program) (dr:Bool) (t:List AV) (H:BH T) (d:Option Nat) (o:SO) (ns:Nat) (K:SE T→BH T→Option R) (r:R):Prop:=∃ v H1 e' H',ES P dr o t (H.av B) v H1∧RelE B e' (putT t d v) ns∧H1=H'.av B∧K e' H'=some r
variable {P:Program} {dr:Bool} {e:SE T} {t:List AV} {ns:Nat} {H:BH T} {d:Option Nat} {K:SE T→BH T→Option R} {r:R}
theorem xZub {P:Program} {o:SO} {t:List AV} {H H':AH} {r r':AV} (h:OS P o t H (.ret r) H') (hl:∀ M S w v,VRep M S w v r→VRep M S w v r'):OS P o t H (.ret r') H':=
 fun wr oc hc M S w a hx hh hp K Q hk=>h wr oc hc M S w a hx hh hp K Q fun M' S' v w' h1 h2 h3=>hk M' S' v w' h1 h2 (hl _ _ _ _ h3)
theorem StepOk.kOp {o:SO} (hr:RelE B e t ns) (hd:okD ns d=true) {v:BV T} {H':BH T} (h:kOp (fun t' H1=>t'=putT t d (v.av B)∧H1=H'.av B) dr t (H.av B) d o) (hK:K (putE e d v) H'=some r):StepOk B P dr t H d o ns K r:=by
 obtain ⟨r1,H1,es,ht,hH⟩:=xZrR (P:=P) h
 exact ⟨r1,H1,putE e d v,H',es,by rw [ht];exact hr.put hd v,hH,hK⟩
theorem xZ1q {p:Bool} {x:Option R} (h:gd p x=some r):p=true∧x=some r:=by
 cases p with
 | true=>exact ⟨rfl,h⟩
 | false=>cases h
theorem xZ4g (a b:Int):leB a b=decide (a≤b):=by
 rw [Bool.eq_iff_iff,decide_eq_true_iff]
 cases a<;>cases b<;>simp only [leB,Nat.ble_eq,Bool.false_eq_true,false_iff,true_iff,Int.ofNat_eq_natCast]<;>omega
theorem xZ50 (a b:Int):ltB a b=decide (a < b):=by
 simp only [ltB,xZ4g]
 rw [Bool.eq_iff_iff]
 simp
theorem xZgN (n:Int):i64b n=true ↔ i64in n:=by
 simp only [i64b,xZ4g,Bool.and_eq_true,decide_eq_true_iff,i64in]
theorem xZI {a b:Int}:leB a b=true ↔ a≤b:=by rw [xZ4g];simp
theorem xZvH {op:BinOp} {wr:Bool} {k:IntKind} {a b:Int} {K:BV T→Option R} (h:biI op wr k a b K=some r):
 ∃ v p,(if op=.shl∨op=.shr then shf op k a b else binI op wr k a b)=some (p,BV.av B v)∧p∧K v=some r:=by
 cases op with
 | add=>
   simp only [biI] at h
   split at h
   ·obtain ⟨h1,h2⟩:=xZ1q h
    exact ⟨_,_,by simp [binI,BV.av],(xZgN _).1 h1,h2⟩
   ·rename_i hn
    refine ⟨_,True,?_,trivial,h⟩
    simp only [binI,BV.av]
    simp only [reduceCtorEq,or_self,if_false]
    rw [if_neg (by rintro ⟨rfl,rfl⟩;exact hn rfl rfl)]
 | sub=>
   simp only [biI] at h
   split at h
   ·obtain ⟨h1,h2⟩:=xZ1q h
    exact ⟨_,_,by simp [binI,BV.av],(xZgN _).1 h1,h2⟩
   ·rename_i hn
    refine ⟨_,True,?_,trivial,h⟩
    simp only [binI,BV.av]
    simp only [reduceCtorEq,or_self,if_false]
    rw [if_neg (by rintro ⟨rfl,rfl⟩;exact hn rfl rfl)]
 | mul=>
   simp only [biI] at h
   split at h
   ·obtain ⟨h1,h2⟩:=xZ1q h
    exact ⟨_,_,by simp [binI,BV.av],(xZgN _).1 h1,h2⟩
   ·rename_i hn
    refine ⟨_,True,?_,trivial,h⟩
    simp only [binI,BV.av]
    simp only [reduceCtorEq,or_self,if_false]
    rw [if_neg (by rintro ⟨rfl,rfl⟩;exact hn rfl rfl)]
 | quo=>obtain ⟨h1,h2⟩:=xZ1q h;exact ⟨_,_,by simp [binI,BV.av];rfl,by simpa using h1,h2⟩
 | rem=>obtain ⟨h1,h2⟩:=xZ1q h;exact ⟨_,_,by simp [binI,BV.av];rfl,by simpa using h1,h2⟩
 | shl=>obtain ⟨h1,h2⟩:=xZ1q h;exact ⟨_,_,by simp [shf,BV.av],xZI.1 h1,h2⟩
 | shr=>obtain ⟨h1,h2⟩:=xZ1q h;exact ⟨_,_,by simp [shf,BV.av],xZI.1 h1,h2⟩
 | lss=>exact ⟨_,True,by simp only [BV.av,xZ50];rfl,trivial,h⟩
 | leq=>exact ⟨_,True,by simp only [BV.av,xZ4g];rfl,trivial,h⟩
 | gtr=>exact ⟨_,True,by simp only [BV.av,xZ50];rfl,trivial,h⟩
 | geq=>exact ⟨_,True,by simp only [BV.av,xZ4g];rfl,trivial,h⟩
 | _=>exact ⟨_,True,by simp only [BV.av];rfl,trivial,h⟩
theorem xZuE {op:BinOp} {x y:List UInt8} {K:BV T→Option R} (h:biS op x y K=some r):
 ∃ v p,binS op x y=some (p,BV.av B v)∧p∧K v=some r:=by
 cases op with
 | add=>
   obtain ⟨h1,h2⟩:=xZ1q h
   refine ⟨_,_,by simp only [binS,BV.av];rfl,?_,h2⟩
   have:=Nat.le_of_ble_eq_true h1
   omega
 | eql=>exact ⟨_,True,by simp only [BV.av];rfl,trivial,h⟩
 | neq=>exact ⟨_,True,by simp only [BV.av];rfl,trivial,h⟩
 | lss=>exact ⟨_,True,by simp only [BV.av];rfl,trivial,h⟩
 | leq=>exact ⟨_,True,by simp only [BV.av];rfl,trivial,h⟩
 | gtr=>exact ⟨_,True,by simp only [BV.av];rfl,trivial,h⟩
 | geq=>exact ⟨_,True,by simp only [BV.av];rfl,trivial,h⟩
 | _=>cases h
theorem xZ90 (s:List UInt8):(bs s).data.toList=s:=by simp [bs]
theorem xZvC {op:BinOp} {wr:Bool} {x y:BV T} {K:BV T→Option R} (h:binS' op wr x y K=some r):
 ∃ v p,binV op wr (x.av B) (y.av B)=some (p,BV.av B v)∧p∧K v=some r:=by
 unfold binS' at h
 split at h
 ·rename_i k a k' b
  split at h
  ·rename_i hk
   obtain ⟨v,p,h1,h2,h3⟩:=xZvH (B:=B) h
   refine ⟨v,p,?_,h2,h3⟩
   simp only [BV.av,binV]
   rw [← h1]
   by_cases hs:op=.shl∨op=.shr
   ·rw [if_pos hs,if_pos hs]
   ·rw [if_neg hs,if_neg hs]
    have hns:isShift op=false:=by cases op<;>simp_all [isShift]
    rw [hns,Bool.false_or,decide_eq_true_iff] at hk
    rw [if_pos hk]
  ·cases h
 ·obtain ⟨v,p,h1,h2,h3⟩:=xZuE (B:=B) h
  exact ⟨v,p,by simp only [BV.av,binV,xZ90];exact h1,h2,h3⟩
 ·cases h
theorem xZft (ne b:Bool):neS ne b=neB ne b:=by cases ne<;>rfl
theorem xZsj {k:EK} {x y:BV T} {b:Bool} (h:eqL1 k x y=some b):eq1 k (x.av B) (y.av B)=some b:=by
 unfold eqL1 at h
 split at h
 ·simp only [BV.av,eq1];exact h
 ·simp only [BV.av,eq1,xZ90];exact h
 ·simp only [BV.av,eq1];exact h
 ·cases h
theorem xZpr {xs ys:List (BV T)}:∀ {l:List (Nat×EK)} {b:Bool},eqLs l xs ys=some b→eqCells l (BV.avs B xs) (BV.avs B ys)=some b
 | [],b,h=>h
 | [(o,k)],b,h=>by
   simp only [eqLs] at h
   have:=xZsj (B:=B) h
   simp only [eqCells,xZeB,this,Bool.and_true]
 | (o,k)::p::l,b,h=>by
   simp only [eqLs] at h
   split at h
   ·rename_i b1 b2 h1 h2
    cases h
    have q1:=xZsj (B:=B) h1
    have q2:=xZpr (l:=p::l) h2
    rw [eqCells,xZeB,xZeB,q1,q2]
   ·cases h
end
end Go.Proofs.YtbioikdfpfafaaaGreatDoor.T
namespace Go.Proofs.YtbioikdfpfafaaaGreatDoor.T
open Go
structure Hint.Ok {T:Nat→Type} (B:Tb T) (h:Hint T):Prop where
 sb:∀ k f s,h.sb k=some f→k=1∧B.k (f s).1=1∧(f s).2.map (B.eA (f s).1)=s.map byteV
 bo:∀ i l s,h.bo i l=some s→B.k i=1∧∃ m:List Int,l.map (B.eA i)=m.map u8V∧s=byS m
section
variable {T:Nat→Type} {B:Tb T} {R:Type}
variable {P:Program} {dr:Bool} {e:SE T} {t:List AV} {ns:Nat} {H:BH T} {d:Option Nat} {K:SE T→BH T→Option R} {r:R}
theorem kO_of {Rk:List AV→AH→Prop} {x:Option (Prop×AV)} {p:Prop} {v:AV} (h:x=some (p,v)) (hp:p) (hR:Rk (putT t d v) (H.av B)):kO Rk t (H.av B) d x:=by
 rw [h];exact ⟨hp,hR⟩
theorem beq_eq {a b:Nat} (h:Nat.beq a b=true):a=b:=Nat.eq_of_beq_eq_true h
theorem xZfD {α:Type} {l:List α} {n:Int} {x:α} (h:ix l n=some x):0≤n∧n < (l.length:Int)∧l[n.toNat]?=some x:=by
 obtain ⟨h1,h2,_,h3⟩:=xZrw h
 exact ⟨h1,h2,h3⟩
theorem xZuW {st:Bool} {x v:BV T} (h:lenB' H st x=some v):lenV (H.av B) st (x.av B)=some (True,v.av B):=by
 unfold lenB' at h
 split at h
 ·split at h
  ·cases h;simp only [BV.av,lenV,xZ90,if_true]
  ·cases h
 ·split at h
  ·cases h
  ·cases h;simp [BV.av,lenV]
 ·split at h
  ·cases h
  ·cases h;simp [BV.av,lenV]
 ·split at h
  ·rename_i hb;cases h;simp only [BV.av,lenV,xZ9C,hb,BB.av,lenB];simp
  ·rename_i hb;cases h;simp only [BV.av,lenV,xZ9C,hb,BB.av,lenB];simp
  ·cases h
 ·cases h
theorem xZvx {ne c:Bool} {x y v:BV T} (h:eqiB ne c x y=some v):eqiV ne c (x.av B) (y.av B)=some (True,v.av B):=by
 unfold eqiB at h
 split at h
 ·split at h
  ·cases h;simp [BV.av,eqiV,xZft]
  ·cases h
 ·cases h;simp [BV.av,eqiV,xZft]
 ·cases h;simp [BV.av,eqiV,xZft]
 ·cases h
theorem xZvd {ne:Bool} {x y v:BV T} (h:eqpB ne x y=some v):eqpV ne (x.av B) (y.av B)=some (True,v.av B):=by
 unfold eqpB at h
 split at h
 ·cases h;simp [BV.av,eqpV,xZft]
 ·cases h;simp [BV.av,eqpV,xZft]
 ·cases h;simp [BV.av,eqpV,xZft]
 ·cases h;simp [BV.av,eqpV,xZft]
 ·split at h
  ·rename_i hc
   simp only [Bool.and_eq_true] at hc
   have h1:=beq_eq hc.1
   have h2:=beq_eq hc.2
   cases h;simp [BV.av,eqpV,xZft,h1,h2]
  ·cases h
 ·cases h
theorem xZpp (hr:RelE B e t ns) {x:Option Od} {a:Option Int} (h:bndO e x=some a) (n:Int):bnd t n x=some (a.getD n):=by
 cases x with
 | none=>cases h;rfl
 | some y=>
   simp only [bndO] at h
   split at h
   ·rename_i k m hm
    cases h
    simp only [bnd,hr.od,hm,BV.av,Option.getD]
   ·cases h
theorem xZmq {α:Type} {l:List α} {lo hi:Option Int} {x:Option R} (h:cutS lo hi (l.length:Int) x=some r):
 0≤lo.getD 0∧lo.getD 0≤hi.getD (l.length:Int)∧hi.getD (l.length:Int)≤(l.length:Int)∧cutL l lo hi=(l.take (hi.getD (l.length:Int)).toNat).drop (lo.getD 0).toNat∧x=some r:=by
 unfold cutS at h
 cases lo with
 | none=>
   cases hi with
   | none=>exact ⟨by simp,by simp,by simp,by simp [cutL],h⟩
   | some b=>
     obtain ⟨h1,h⟩:=xZ1q h
     obtain ⟨h2,h⟩:=xZ1q h
     exact ⟨by simp,xZI.1 h1,xZI.1 h2,by simp [cutL],h⟩
 | some a=>
   cases hi with
   | none=>
     obtain ⟨h1,h⟩:=xZ1q h
     obtain ⟨h2,h⟩:=xZ1q h
     exact ⟨xZI.1 h1,xZI.1 h2,by simp,by simp [cutL],h⟩
   | some b=>
     obtain ⟨h1,h⟩:=xZ1q h
     obtain ⟨h2,h⟩:=xZ1q h
     obtain ⟨h3,h⟩:=xZ1q h
     exact ⟨xZI.1 h1,xZI.1 h2,xZI.1 h3,by simp [cutL],h⟩
variable (hB:B.Ok)
include hB
theorem xZuG (hr:RelE B e t ns) (hd:okD ns d=true) {st:Bool} {k:Nat} {x:Od} {lo hi mx:Option Od} (h:slcS B e H dr st k (bod e x) lo hi mx (fun v H=>K (putE e d v) H)=some r):StepOk B P dr t H d (.slc st k x lo hi mx) ns K r:=by
 unfold slcS at h
 split at h
 ·rename_i m
  split at h
  ·rename_i kz i l hx
   split at h
   ·rename_i h1 h2
    refine StepOk.kOp (v:=.emp) hr hd ?_ h
    simp only [kOp,kSlc,hr.od,hx,BV.av]
    refine kO_of (p:=True) ?_ trivial ⟨rfl,rfl⟩
    have b1:bnd t 0 lo=some 0:=by
     cases lo with
     | none=>rfl
     | some y=>simp only [bndS] at h1;split at h1<;>simp_all [bnd,hr.od,BV.av]
    have b2:bnd t 1 hi=some 0:=by
     cases hi with
     | none=>simp [bndS] at h2
     | some y=>simp only [bndS] at h2;split at h2<;>simp_all [bnd,hr.od,BV.av]
    simp [slcO,b1,b2,BV.av]
   ·cases h
  ·rename_i kz hx
   split at h
   ·rename_i h1 h2
    refine StepOk.kOp (v:=.emp) hr hd ?_ h
    simp only [kOp,kSlc,hr.od,hx,BV.av]
    refine kO_of (p:=True) ?_ trivial ⟨rfl,rfl⟩
    have b1:bnd t 0 lo=some 0:=by
     cases lo with
     | none=>rfl
     | some y=>simp only [bndS] at h1;split at h1<;>simp_all [bnd,hr.od,BV.av]
    have b2:bnd t 1 hi=some 0:=by
     cases hi with
     | none=>simp [bndS] at h2
     | some y=>simp only [bndS] at h2;split at h2<;>simp_all [bnd,hr.od,BV.av]
    simp [slcO,b1,b2,BV.av]
   ·cases h
  ·cases h
 ·split at h
  ·rename_i a b ha hb
   have b1:=xZpp hr ha 0
   have b2:=fun n=>xZpp hr hb n
   split at h
   ·rename_i s hx
    split at h
    ·obtain ⟨c1,c2,c3,c4,h⟩:=xZmq h
     refine StepOk.kOp (v:=.str (cutL s a b)) hr hd ?_ h
     simp only [kOp,kSlc,hr.od,hx,BV.av]
     refine kO_of (p:=0≤a.getD 0∧a.getD 0≤b.getD (s.length:Int)∧b.getD (s.length:Int)≤(s.length:Int)) ?_ ⟨c1,c2,c3⟩ ⟨rfl,rfl⟩
     simp only [slcO,b1,lenV,xZ90,if_true,b2,slcV,BV.av,c4]
    ·cases h
   ·rename_i i l hx
    split at h
    ·rename_i hk
     simp only [Bool.and_eq_true,Bool.not_eq_true'] at hk
     obtain ⟨rfl,hk⟩:=hk
     have hk:=beq_eq hk
     obtain ⟨c1,c2,c3,c4,h⟩:=xZmq h
     refine StepOk.kOp (v:=.sl i (cutL l a b)) hr hd ?_ h
     simp only [kOp,kSlc,hr.od,hx,BV.av]
     refine kO_of (p:=0≤a.getD 0∧a.getD 0≤b.getD (l.length:Int)∧b.getD (l.length:Int)≤(l.length:Int)) ?_ ⟨c1,c2,c3⟩ ⟨rfl,rfl⟩
     simp only [slcO,b1,lenV,Bool.false_eq_true,if_false,b2,slcV,hk,if_true,slcL,List.length_map,BV.av,c4,List.map_drop,List.map_take]
    ·cases h
   ·rename_i hx
    split at h
    ·cases h
    ·obtain ⟨c1,c2,c3,c4,h⟩:=xZmq (l:=([]:List Nat)) h
     refine StepOk.kOp (v:=.emp) hr hd ?_ h
     simp only [kOp,kSlc,hr.od,hx,BV.av]
     simp only [List.length_nil,Int.natCast_zero] at c2 c3
     have c3:b.getD 0≤0:=by simpa using c3
     have c2:a.getD 0≤b.getD 0:=by simpa using c2
     refine kO_of (p:=_) ?_ (show a.getD 0=0∧b.getD 0=0 from ⟨by omega,by omega⟩) ⟨rfl,rfl⟩
     simp [slcO,b1,b2,lenV,slcV,BV.av]
   ·rename_i u hx
    split at h
    ·rename_i i l hbu
     split at h
     ·rename_i hk
      simp only [Bool.and_eq_true,Bool.not_eq_true'] at hk
      obtain ⟨rfl,hk⟩:=hk
      have hk:=beq_eq hk
      obtain ⟨c1,c2,c3,c4,h⟩:=xZmq h
      refine StepOk.kOp (v:=.sl i (cutL l a b)) hr hd ?_ h
      simp only [kOp,kSlc,hr.od,hx,BV.av,xZ9C,hbu,BB.av,kSlcB]
      refine kO_of (p:=0≤a.getD 0∧a.getD 0≤b.getD (l.length:Int)∧b.getD (l.length:Int)≤(l.length:Int)) ?_ ⟨c1,c2,c3⟩ ⟨rfl,rfl⟩
      simp only [slcO,b1,lenV,xZ9C,hbu,BB.av,lenB,Bool.false_eq_true,if_false,b2,slcV,slcB,hk,if_true,slcL,List.length_map,BV.av,c4,List.map_drop,List.map_take]
     ·cases h
    ·rename_i i l hbu
     split at h
     ·rename_i hk
      simp only [Bool.and_eq_true,Bool.not_eq_true'] at hk
      obtain ⟨⟨rfl,hk⟩,rfl⟩:=hk
      have hk:=beq_eq hk
      obtain ⟨c1,c2,c3,c4,h⟩:=xZmq h
      refine StepOk.kOp (v:=.sl i (cutL l a b)) hr hd ?_ h
      have hfz:(frzH (H.av B) [u]).buf.getD u .dead=.froz (B.k i) (l.map (B.eA i)):=by
       rw [← xZa4,xZ9C]
       have hlt:u < H.buf.length:=by
        rcases Nat.lt_or_ge u H.buf.length with h' | h'
        ·exact h'
        ·simp [bufA,List.getD,List.getElem?_eq_none h'] at hbu
       have:bufA (frzHB H [u]) u=.froz i l:=by
        simp only [bufA] at hbu
        simp only [bufA,frzHB,List.foldl_cons,List.foldl_nil,xZ1v hlt,hbu,frzBB]
       rw [this];rfl
      simp only [kOp,kSlc,hr.od,hx,BV.av,xZ9C,hbu,BB.av,kSlcB]
      refine ⟨(by first | rfl | trivial),?_⟩
      have e1:slcO t (frzH (H.av B) [u]) false k (.own u) lo hi none=some (0≤a.getD 0∧a.getD 0≤b.getD (l.length:Int)∧b.getD (l.length:Int)≤(l.length:Int),(BV.sl i (cutL l a b):BV T).av B):=by
       simp only [slcO,b1,lenV,hfz,lenB,Bool.false_eq_true,if_false,b2,slcV,slcB,hk,if_true,slcL,List.length_map,BV.av,c4,List.map_drop,List.map_take]
      rw [e1]
      exact ⟨⟨c1,c2,c3⟩,rfl,by rw [xZa4]⟩
     ·cases h
    ·cases h
   ·cases h
  ·cases h
end
mutual
theorem LW.trans:∀ {x y z:AV},LW x y→LW y z→LW x z
 | _,_,_,.refl _,h=>h
 | _,_,_,.emp k,h=>by
   cases h with
   | refl=>exact .emp k
   | sl _ q=>cases q;exact .emp k
 | _,_,_,.sl k a,h=>by
   cases h with
   | refl=>exact .sl k a
   | sl _ q=>exact .sl k (LWs.trans a q)
 | _,_,_,.agg a,h=>by
   cases h with
   | refl=>exact .agg a
   | agg q=>exact .agg (LWs.trans a q)
 | _,_,_,.tup a,h=>by
   cases h with
   | refl=>exact .tup a
   | tup q=>exact .tup (LWs.trans a q)
 | _,_,_,.dptr a,h=>by
   cases h with
   | refl=>exact .dptr a
   | dptr q=>exact .dptr (LWs.trans a q)
 | _,_,_,.fn f a b,h=>by
   cases h with
   | refl=>exact .fn f a b
   | fn _ q q'=>exact .fn f (LWs.trans a q) (LWs.trans b q')
 | _,_,_,.ifc t a,h=>by
   cases h with
   | refl=>exact .ifc t a
   | ifc _ q=>exact .ifc t (LW.trans a q)
theorem LWs.trans:∀ {a b c:List AV},LWs a b→LWs b c→LWs a c
 | _,_,_,.nil,h=>h
 | _,_,_,.cons x r,h=>by
   cases h with
   | cons y q=>exact .cons (LW.trans x y) (LWs.trans r q)
end
theorem LWs.take:∀ {a b:List AV} (n:Nat),LWs a b→LWs (a.take n) (b.take n)
 | _,_,0,_=>by rw [List.take_zero,List.take_zero];exact .nil
 | _,_,_+1,.nil=>.nil
 | _,_,n+1,.cons h r=>.cons h (LWs.take n r)
theorem LWs.drop:∀ {a b:List AV} (n:Nat),LWs a b→LWs (a.drop n) (b.drop n)
 | _,_,0,h=>h
 | _,_,_+1,.nil=>.nil
 | _,_,n+1,.cons _ r=>LWs.drop n r
theorem LWs.set:∀ {a b:List AV} (n:Nat) (x:AV),LWs a b→LWs (a.set n x) (b.set n x)
 | _,_,_,_,.nil=>.nil
 | _,_,0,x,.cons _ r=>.cons (.refl x) r
 | _,_,n+1,x,.cons h r=>.cons h (LWs.set n x r)
theorem xZeO:∀ (ys:List AV) {a b:List AV} (o:Nat),LWs a b→LWs (putCells a o ys) (putCells b o ys)
 | [],_,_,_,h=>h
 | y::ys,_,_,o,h=>xZeO ys (o+1) (h.set o y)
theorem xZdp:∀ (ys a b:List AV) (o:Nat),o+ys.length≤a.length→putCells (a++b) o ys=putCells a o ys++b
 | [],_,_,_,_=>rfl
 | y::ys,a,b,o,h=>by
   simp only [List.length_cons] at h
   simp only [putCells]
   rw [List.set_append,if_pos (by omega)]
   exact xZdp ys _ b (o+1) (by rw [List.length_set];omega)
theorem xZ5S:∀ (ys a b:List AV) (o:Nat),putCells (a++b) (a.length+o) ys=a++putCells b o ys
 | [],_,_,_=>rfl
 | y::ys,a,b,o=>by
   simp only [putCells]
   rw [List.set_append,if_neg (by omega),show a.length+o - a.length=o by omega,Nat.add_assoc]
   exact xZ5S ys a _ (o+1)
theorem mk_lw (ag:Bool) {a b:List AV} (h:LWs a b):LW (mk ag a) (mk ag b):=by
 cases ag with
 | true=>exact .agg h
 | false=>cases h with
   | nil=>exact .refl _
   | cons h _=>exact h
section
variable {T:Nat→Type} {B:Tb T} {R:Type}
theorem xZlV (p q:List (Nat×Nat×Int×Nat)):pofs B (p++q)=pofs B p+pofs B q:=by
 induction p with
 | nil=>simp [pofs]
 | cons a p ih=>simp only [List.cons_append,pofs,ih];omega
theorem xZnd:∀ (q:Nat×Nat×Int×Nat) (p:List (Nat×Nat×Int×Nat)) (x:Nat),pofs B (pofA (q::p) x)=pofs B (q::p)+x
 | (i,m,n,f),[],x=>by simp only [pofA,pofs];omega
 | (i,m,n,f),a::p,x=>by
   have:=xZnd a p x
   simp only [pofA,pofs] at this ⊢
   omega
theorem xZnO {a b:Int}:ieq a b=true ↔ a=b:=by
 simp only [ieq,Bool.and_eq_true,xZI];omega
theorem xZpw {i:Nat} {n:Int} {v:T i}:∀ (l:List (T i)) (j:Nat),n < (j:Int)→setM n v j l=l
 | [],_,_=>rfl
 | x::l,j,h=>by
   have hc:ieq n (Int.ofNat j)=false:=by
    rw [Bool.eq_false_iff];intro hc;rw [xZnO] at hc
    have:(Int.ofNat j:Int)=(j:Int):=rfl
    omega
   simp only [setM,hc,cond_false]
   rw [xZpw l (j+1) (by omega)]
variable (hB:B.Ok)
include hB
theorem xZsO (i:Nat) (x:T i):(B.eA i x).cells.length=B.k i:=by rw [← hB.enc,xZ1E,hB.len]
theorem xZek {i m:Nat} {cs:List (BV T)} {l:List (T i)} (h:decM B i (m+1) cs=some l):
 ∃ a l',l=a::l'∧B.dec i (cs.take (B.k i))=some a∧decM B i m (cs.drop (B.k i))=some l'∧(cs.take (B.k i)).length=B.k i∧LWs (BV.avs B (cs.take (B.k i))) (B.eA i a).cells:=by
 simp only [decM] at h
 split at h
 ·rename_i a l' h1 h2
  cases h
  have q:=hB.dec _ _ _ h1
  have:=q.len
  rw [xZ1E,xZsO hB] at this
  exact ⟨a,l',rfl,h1,h2,this,q⟩
 ·cases h
theorem xZar (cs:List (BV T)) (k:Nat):BV.avs B cs=BV.avs B (cs.take k)++BV.avs B (cs.drop k):=by
 rw [← xZ3z,List.take_append_drop]
theorem xZkk {i:Nat}:∀ {m:Nat} {cs:List (BV T)} {l:List (T i)},decM B i m cs=some l→l.length=m∧m * B.k i≤cs.length
 | 0,cs,l,h=>by cases h;simp
 | m+1,cs,l,h=>by
   obtain ⟨a,l',rfl,_,h2,h3,_⟩:=xZek hB h
   obtain ⟨q1,q2⟩:=xZkk h2
   rw [List.length_drop] at q2
   rw [List.length_take] at h3
   refine ⟨by simp [q1],?_⟩
   rw [Nat.succ_mul];omega
theorem xZl5 {i:Nat}:∀ {m:Nat} {cs:List (BV T)} {l:List (T i)} {q:Nat} {el:T i},decM B i m cs=some l→l[q]?=some el→
 ∃ pre mid suf,BV.avs B cs=pre++mid++suf∧pre.length=q * B.k i∧mid.length=B.k i∧LWs mid (B.eA i el).cells
 | 0,cs,l,q,el,h,hq=>by cases h;simp at hq
 | m+1,cs,l,q,el,h,hq=>by
   obtain ⟨a,l',rfl,_,h2,h3,h4⟩:=xZek hB h
   cases q with
   | zero=>
     have:a=el:=by simpa using hq
     subst this
     exact ⟨[],BV.avs B (cs.take (B.k i)),BV.avs B (cs.drop (B.k i)),by rw [List.nil_append];exact xZar hB cs _,by simp,by rw [xZ1E];exact h3,h4⟩
   | succ q=>
     obtain ⟨pre,mid,suf,e1,e2,e3,e4⟩:=xZl5 h2 (by simpa using hq)
     refine ⟨BV.avs B (cs.take (B.k i))++pre,mid,suf,?_,?_,e3,e4⟩
     ·rw [xZar hB cs (B.k i),e1];simp only [List.append_assoc]
     ·rw [List.length_append,xZ1E,h3,e2,Nat.succ_mul];omega
theorem xZpH {i:Nat}:∀ {m:Nat} {cs:List (BV T)} {l:List (T i)},decM B i m cs=some l→LWs (BV.avs B cs) (BV.avs B (encM B i l (cs.drop (m * B.k i))))
 | 0,cs,l,h=>by cases h;simp only [encM,Nat.zero_mul,List.drop_zero];exact .refl _
 | m+1,cs,l,h=>by
   obtain ⟨a,l',rfl,_,h2,h3,h4⟩:=xZek hB h
   have ih:=xZpH h2
   rw [List.drop_drop,show B.k i+m * B.k i=(m+1) * B.k i by rw [Nat.succ_mul];omega] at ih
   simp only [encM]
   rw [xZar hB cs (B.k i),xZ3z,hB.enc]
   exact LWs.append h4 ih
theorem xZnN {i:Nat} {el el':T i} {n:Int} {t:Nat} {ys:List AV} (ht:t+ys.length≤B.k i)
 (X:∀ c:List AV,LWs c (B.eA i el).cells→LWs (putCells c t ys) (B.eA i el').cells):
 ∀ {m:Nat} {cs:List (BV T)} {l:List (T i)} {q j:Nat},decM B i m cs=some l→l[q]?=some el→n=((j+q:Nat):Int)→
 LWs (putCells (BV.avs B cs) (q * B.k i+t) ys) (BV.avs B (encM B i (setM n el' j l) (cs.drop (m * B.k i))))
 | 0,cs,l,q,j,h,hq,_=>by cases h;simp at hq
 | m+1,cs,l,q,j,h,hq,hn=>by
   obtain ⟨a,l',rfl,_,h2,h3,h4⟩:=xZek hB h
   have hd:(cs.drop (B.k i)).drop (m * B.k i)=cs.drop ((m+1) * B.k i):=by
    rw [List.drop_drop,show B.k i+m * B.k i=(m+1) * B.k i by rw [Nat.succ_mul];omega]
   cases q with
   | zero=>
     have:a=el:=by simpa using hq
     subst this
     have hc:ieq n (Int.ofNat j)=true:=by rw [xZnO];simpa using hn
     simp only [setM,hc,cond_true,encM]
     rw [xZpw l' (j+1) (by omega),xZar hB cs (B.k i),Nat.zero_mul,Nat.zero_add,xZdp _ _ _ _ (by rw [xZ1E,h3];exact ht),xZ3z,hB.enc]
     have ih:=xZpH hB h2
     rw [hd] at ih
     exact LWs.append (X _ h4) ih
   | succ q=>
     have hc:ieq n (Int.ofNat j)=false:=by
      rw [Bool.eq_false_iff];intro hc;rw [xZnO] at hc
      have:(Int.ofNat j:Int)=(j:Int):=rfl
      omega
     simp only [setM,hc,cond_false,encM]
     have ih:=xZnN (n:=n) (q:=q) ht X (j:=j+1) h2 (by simpa using hq) (by omega)
     rw [hd] at ih
     rw [xZar hB cs (B.k i),show (q+1) * B.k i+t=(BV.avs B (cs.take (B.k i))).length+(q * B.k i+t) by rw [xZ1E,h3,Nat.succ_mul];omega,xZ5S,xZ3z,hB.enc]
     exact LWs.append h4 ih
theorem xZrf:∀ {p:List (Nat×Nat×Int×Nat)} {cs:List (BV T)} {K:List (BV T)→Option R} {r:R},ldM B p cs K=some r→
 ∃ c',K c'=some r∧pofs B p+c'.length≤cs.length∧LWs (((BV.avs B cs).drop (pofs B p)).take c'.length) (BV.avs B c')
 | [],cs,K,r,h=>⟨cs,h,by simp [pofs],by simp only [pofs,List.drop_zero];rw [List.take_of_length_le (by rw [xZ1E];exact Nat.le_refl _)];exact .refl _⟩
 | (i,m,n,f)::p,cs,K,r,h=>by
   simp only [ldM] at h
   split at h
   ·rename_i l hf hl
    have hf:=Nat.le_of_ble_eq_true hf
    obtain ⟨el,hel,h⟩:=Option.bind_eq_some_iff.1 h
    obtain ⟨i1,i2,i3⟩:=xZfD hel
    obtain ⟨c',h1,h2,h3⟩:=xZrf h
    obtain ⟨pre,mid,suf,e1,e2,e3,e4⟩:=xZl5 hB hl i3
    have hlen:(BV.avs B cs).length=cs.length:=xZ1E _
    rw [e1] at hlen
    simp only [List.length_append,e2,e3] at hlen
    rw [List.length_drop,hB.len] at h2
    refine ⟨c',h1,by simp only [pofs];omega,?_⟩
    rw [xZ9l,hB.enc,List.drop_drop] at h3
    refine LWs.trans ?_ h3
    have ed:(BV.avs B cs).drop (pofs B ((i,m,n,f)::p))=mid.drop (f+pofs B p)++suf:=by
     rw [e1,List.append_assoc,show pofs B ((i,m,n,f)::p)=pre.length+(f+pofs B p) by rw [e2];simp only [pofs];omega,← List.drop_drop,List.drop_left,List.drop_append_of_le_length (by omega)]
    rw [ed,List.take_append_of_le_length (by rw [List.length_drop];omega)]
    exact (e4.drop _).take _
   ·cases h
theorem xZtB:∀ {p:List (Nat×Nat×Int×Nat)} {ys cs:List (BV T)} {K:List (BV T)→Option R} {r:R},stM B ys p cs K=some r→
 ∃ c',K c'=some r∧pofs B p+ys.length≤cs.length∧LWs (putCells (BV.avs B cs) (pofs B p) (BV.avs B ys)) (BV.avs B c')
 | [],ys,cs,K,r,h=>by
   simp only [stM] at h
   split at h
   ·rename_i hc
    exact ⟨_,h,by simp only [pofs];have:=Nat.le_of_ble_eq_true hc;omega,by rw [xZnD];exact .refl _⟩
   ·cases h
 | (i,m,n,f)::p,ys,cs,K,r,h=>by
   simp only [stM] at h
   split at h
   ·rename_i l hf hl
    have hf:=Nat.le_of_ble_eq_true hf
    obtain ⟨el,hel,h⟩:=Option.bind_eq_some_iff.1 h
    obtain ⟨i1,i2,i3⟩:=xZfD hel
    obtain ⟨c',h1,h2,h3⟩:=xZtB h
    split at h1
    ·rename_i el' hdec
     rw [List.length_drop,hB.len] at h2
     obtain ⟨hlm,hle⟩:=xZkk hB hl
     have hq:n.toNat < m:=by rw [← hlm];exact (List.getElem?_eq_some_iff.1 i3).1
     have hmul:n.toNat * B.k i+B.k i≤m * B.k i:=by
      have:=Nat.mul_le_mul_right (B.k i) (show n.toNat+1≤m from hq)
      rwa [Nat.succ_mul] at this
     refine ⟨_,h1,by simp only [pofs];omega,?_⟩
     have qd:=hB.dec _ _ _ hdec
     rw [xZ3z,xZbE,hB.enc] at qd
     rw [xZ9l,hB.enc] at h3
     have:=xZnN hB (i:=i) (el:=el) (el':=el') (n:=n) (t:=f+pofs B p) (ys:=BV.avs B ys) (by rw [xZ1E];omega) (fun c hc=>?_) (j:=0) hl i3 (by omega)
     ·rw [show pofs B ((i,m,n,f)::p)=n.toNat * B.k i+(f+pofs B p) by simp only [pofs];omega]
      exact this
     ·have hlc:c.length=B.k i:=by rw [hc.len,xZsO hB]
      have e1:putCells c (f+pofs B p) (BV.avs B ys)=c.take f++putCells (c.drop f) (pofs B p) (BV.avs B ys):=by
       have:=xZ5S (BV.avs B ys) (c.take f) (c.drop f) (pofs B p)
       rw [List.take_append_drop,List.length_take,Nat.min_eq_left (by omega)] at this
       exact this
      rw [e1]
      exact LWs.trans (LWs.append (hc.take f) (LWs.trans (xZeO _ _ (hc.drop f)) h3)) qd
    ·cases h1
   ·cases h
omit hB in
theorem xZov {M:Maps} {S:Nat→Prop} {w:World} {v:Value} {cs:List AV} (n:Nat) (h:VRep M S w v (.dptr cs)):VRep M S w v (.dptr (cs.take n)):=by
 have hd:=xZ3n h rfl
 cases hd with
 | dptr g o _ c T fz hs hg hb h1 q=>
   refine .data (.dptr g o _ c T fz hs hg (by rw [List.length_take];omega) (fun j hj=>?_) fun j hj=>?_)
   ·rw [List.length_take] at hj
    have:=h1 j (by omega)
    rwa [show (cs.take n).getD j .any=cs.getD j .any by simp only [List.getD];rw [List.getElem?_take_of_lt (by omega)]]
   ·rw [List.length_take] at hj
    have:=q j (by omega)
    rwa [show (cs.take n).getD j .any=cs.getD j .any by simp only [List.getD];rw [List.getElem?_take_of_lt (by omega)]]
end
end Go.Proofs.YtbioikdfpfafaaaGreatDoor.T
set_option linter.all false
namespace Go.Proofs.YtbioikdfpfafaaaGreatDoor.T
open Go
section
variable {T:Nat→Type} {B:Tb T} {R:Type}
variable {P:Program} {dr:Bool} {e:SE T} {t:List AV} {ns:Nat} {H:BH T} {d:Option Nat} {K:SE T→BH T→Option R} {r:R}
theorem xZpM {i by_:Nat} {xs ys:List (T i)} {buf:List (BB T)} {Kv:BV T→BH T→Option R} (h:appJ i by_ xs H buf ys Kv=some r):
 (xs.length+ys.length) * by_≤140737488355328∧xs.length+ys.length≤9223372036854775807∧Kv (.own H.buf.length) ⟨H.box,buf++[.live i (xs++ys)]⟩=some r:=by
 unfold appJ at h
 split at h
 ·rename_i hb
  obtain ⟨h1,h2⟩:=xZ1q h
  have h1:=Nat.le_of_ble_eq_true h1
  have hb:0 < by_:=by simpa using hb
  have:=Nat.le_mul_of_pos_right (xs.length+ys.length) hb
  exact ⟨h1,by omega,h2⟩
 ·cases h
theorem xZpA {y:BV T} {i:Nat} {l:List (T i)} (h:srcS H y=some ⟨i,l⟩) (k:Nat) (hk:B.k i=k):srcV (H.av B) k (y.av B)=some (l.map (B.eA i)):=by
 unfold srcS at h
 split at h
 ·cases h;simp only [BV.av,srcV,hk,if_true]
 ·split at h
  ·rename_i hb;cases h;simp only [BV.av,srcV,xZ9C,hb,BB.av,srcB,hk,if_true]
  ·rename_i hb;cases h;simp only [BV.av,srcV,xZ9C,hb,BB.av,srcB,hk,if_true]
  ·cases h
 ·cases h
theorem xZq0 {bx:List (List AV)} {bu:List Buf} {k:Nat} {xs ys:List AV} (h:LWs xs ys):LWH ⟨bx,bu++[.live k xs]⟩ ⟨bx,bu++[.live k ys]⟩:=by
 refine ⟨rfl,by simp,fun b=>.refl _,fun u=>?_⟩
 dsimp only
 rcases Nat.lt_or_ge u bu.length with hu | hu
 ·rw [xZ2N hu,xZ2N hu];exact .refl _
 ·rcases Nat.eq_or_lt_of_le hu with rfl | hu
  ·rw [xZ6o,xZ6o];exact .live _ h
  ·have:∀ z:Buf,(bu++[z]).getD u .dead=.dead:=fun z=>by
    simp only [List.getD];rw [List.getElem?_eq_none (by simp;omega)];rfl
   rw [this,this];exact .refl _
theorem xZl2:∀ l:List (BV T),l.flatMap ownsB=(BV.avs B l).flatMap owns
 | []=>by simp [BV.avs]
 | x::l=>by simp only [BV.avs,List.flatMap_cons,xZsM (B:=B) x,xZl2 l]
variable (hB:B.Ok) {h0:Hint T} (hh:h0.Ok B)
include hh
theorem xZuu (hr:RelE B e t ns) (hd:okD ns d=true) {k by_:Nat} {x y:Od} (h:appS B h0.sb k by_ H (bod e x) (bod e y) (fun v H=>K (putE e d v) H)=some r):StepOk B P dr t H d (.app k by_ x y) ns K r:=by
 unfold appS at h
 split at h
 ·rename_i hx
  have mk:∀ {i:Nat} {ys:List (T i)},B.k i=k→srcV (H.av B) k (od t y)=some (ys.map (B.eA i))→appJ i by_ [] H H.buf ys (fun v H=>K (putE e d v) H)=some r→StepOk B P dr t H d (.app k by_ x y) ns K r:=by
   intro i ys hk hs h
   obtain ⟨h1,h2,h3⟩:=xZpM h
   refine StepOk.kOp (v:=.own H.buf.length) hr hd ?_ h3
   simp only [kOp,hr.od x,hx,BV.av,kApp,hs,kAppS,List.length_nil,List.length_map,Nat.zero_add,List.nil_append]
   refine ⟨by simpa using h1,by simpa using h2,by rw [buf_len'],?_⟩
   simp only [BH.av,List.map_append,List.map_cons,List.map_nil,BB.av,hk,List.nil_append]
  split at h
  ·cases h
  ·rename_i s hy
   split at h
   ·rename_i f hf
    obtain ⟨q1,q2,q3⟩:=hh.sb _ _ s hf
    refine mk (q2.trans q1.symm) ?_ h
    rw [hr.od,hy,q3]
    simp only [BV.av,srcV,q1,if_true,xZ90]
   ·cases h
  ·rename_i hy1 hy2
   split at h
   ·rename_i i ys hs
    split at h
    ·rename_i hk
     have hk:=beq_eq hk
     exact mk hk (by rw [hr.od];exact xZpA hs k hk) h
    ·cases h
   ·cases h
 ·rename_i u hx
  split at h
  ·rename_i i xs hbu
   split at h
   ·rename_i hk
    have hk:=beq_eq hk
    have mk:∀ {ys:List (T i)},srcV (H.av B) k (od t y)=some (ys.map (B.eA i))→appJ i by_ xs H (H.buf.set u .dead) ys (fun v H=>K (putE e d v) H)=some r→StepOk B P dr t H d (.app k by_ x y) ns K r:=by
     intro ys hs h
     obtain ⟨h1,h2,h3⟩:=xZpM h
     refine StepOk.kOp (v:=.own H.buf.length) hr hd ?_ h3
     simp only [kOp,hr.od x,hx,BV.av,kApp,xZ9C,hbu,BB.av,kAppB,hs,kAppS,List.length_map]
     refine ⟨hk,h1,h2,by rw [buf_len'],?_⟩
     simp only [BH.av,List.map_append,List.map_cons,List.map_nil,BB.av,hk,List.map_set]
    split at h
    ·rename_i hy
     exact mk (ys:=[]) (by rw [hr.od,hy];simp [BV.av,srcV]) h
    ·rename_i s hy
     split at h
     ·rename_i f hf
      obtain ⟨q1,q2,q3⟩:=hh.sb _ _ s hf
      split at h
      rename_i j ys hfs
      rw [hfs] at q2 q3
      split at h
      ·rename_i ys' hc
       obtain ⟨ej,rfl⟩:=xZa7 hc
       subst ej
       refine mk ?_ h
       rw [hr.od,hy]
       simp only [BV.av,srcV,q1,if_true,xZ90]
       rw [← q3]
      ·cases h
     ·cases h
    ·split at h
     ·rename_i j ys hs
      split at h
      ·rename_i ys' hc
       obtain ⟨ej,rfl⟩:=xZa7 hc
       subst ej
       exact mk (by rw [hr.od];exact xZpA hs k hk) h
      ·cases h
     ·cases h
   ·cases h
  ·cases h
 ·cases h
include hB
theorem xZuq (hr:RelE B e t ns) (hd:okD ns d=true) {k:Nat} {ps:List Od} (h:opS B h0 dr e H d (.bsl k ps) K=some r):StepOk B P dr t H d (.bsl k ps) ns K r:=by
 simp only [opS,xZ8q,xZ20,xZ22,xZ8o,op_ld,op_st,op_fa,xZ7X,op_ia,xZ6T,op_ix,xZ87,xZ8a,xZ8j,xZ83,xZ82,xZ85,op_un,xZ8n,xZ8c,xZ7W,xZ3A,xZ7U] at h
 split at h
 ·rename_i d0
  split at h
  ·rename_i i hi
   split at h
   ·rename_i hk
    have hk:=beq_eq hk
    subst hk
    split at h
    ·split at h
     ·rename_i l hl
      have q:=xZmR hB hl
      rw [← hr.ods] at q
      have hok:=xZcw hB q
      refine ⟨.sl (B.k i) (l.map (B.eA i)),H.av B,(d0,.sl i l)::e,H,xZ2l fun H0=>(xZoX hok).lw (.sl _ q) (LWH.refl _),?_,rfl,h⟩
      have:=hr.put (B:=B) hd (.sl i l)
      simpa only [putE,BV.av] using this
     ·cases h
    ·rename_i hdr
     obtain rfl:dr=false:=by cases dr with | false=>rfl | true=>cases hdr
     split at h
     ·rename_i l hl
      have q:=xZmR hB hl
      have e1:(ps.map (bod e)).flatMap ownsB=(ps.map (od t)).flatMap owns:=by
       rw [hr.ods,xZl2 (B:=B)]
      have e2:BV.avs B (ps.map fun x=>frzS' B (frzHB H ((ps.map (bod e)).flatMap ownsB)) (bod e x))=(ps.map (od t)).map (frz (frzH (H.av B) ((ps.map (od t)).flatMap owns))):=by
       rw [xZ2I,List.map_map,List.map_map]
       refine List.map_congr_left fun x _=>?_
       simp only [Function.comp,xZqZ,xZa4,hr.od]
       rw [e1]
      rw [e2] at q
      have hok:=xZcw hB q
      have ef:(frzH (H.av B) ((ps.map (od t)).flatMap owns)).buf=(frzHB H ((ps.map (bod e)).flatMap ownsB)).buf.map (BB.av B):=by
       rw [← e1,← xZa4];rfl
      have eH:(⟨(frzHB H ((ps.map (bod e)).flatMap ownsB)).box,(frzHB H ((ps.map (bod e)).flatMap ownsB)).buf++[.live i l]⟩:BH T).av B=⟨(H.av B).box,(frzH (H.av B) ((ps.map (od t)).flatMap owns)).buf++[.live (B.k i) (l.map (B.eA i))]⟩:=by
       rw [ef]
       show AH.mk _ _=AH.mk _ _
       congr 1
       rw [List.map_append];rfl
      refine ⟨.own (H.av B).buf.length,_,(d0,.own H.buf.length)::e,_,xZj7 rfl ((xZul hok).lw (.refl _) (xZq0 q)),?_,eH.symm,h⟩
      have:=hr.put (B:=B) hd (.own H.buf.length)
      simp only [putE,BV.av] at this
      rw [buf_len']
      exact this
     ·cases h
   ·cases h
  ·cases h
 ·cases h
theorem st_ok (hr:RelE B e t ns) (hd:okD ns d=true) {n:Nat} {x y:Od} (h:opS B h0 dr e H d (.st n x y) K=some r):StepOk B P dr t H d (.st n x y) ns K r:=by
 simp only [opS,xZ8q,xZ20,xZ22,xZ8o,op_ld,op_st,op_fa,xZ7X,op_ia,xZ6T,op_ix,xZ87,xZ8a,xZ8j,xZ83,xZ82,xZ85,op_un,xZ8n,xZ8c,xZ7W,xZ3A,xZ7U] at h
 split at h
 ·rename_i b o hx
  split at h
  ·rename_i cs hcs
   split at h
   ·rename_i hc
    simp only [Bool.and_eq_true,Nat.ble_eq] at hc
    obtain ⟨⟨h1,h2⟩,h3⟩:=hc
    have h1:=beq_eq h1
    refine StepOk.kOp (v:=.raw (.v undef)) (H':=⟨H.box.set b (putB cs o (bod e y).cells),H.buf⟩) hr hd ?_ h
    simp only [kOp,hr.od,hx,BV.av,kSt,xZcp,← xZ8p,xZdJ,xZdb hcs,xZ1E]
    refine ⟨h1,h2,h3,(by first | rfl | trivial),?_⟩
    simp only [BH.av,List.map_set,xZnD]
   ·cases h
  ·cases h
 ·rename_i u i m o hx
  split at h
  ·rename_i j l hbu
   split at h
   ·rename_i hc
    simp only [Bool.and_eq_true,Nat.ble_eq] at hc
    obtain ⟨⟨⟨h1,h2⟩,h3⟩,h4⟩:=hc
    have h1:=beq_eq h1
    have h3:=beq_eq h3
    have h4:0 < n:=by simpa using h4
    obtain ⟨el,hel,h⟩:=Option.bind_eq_some_iff.1 h
    obtain ⟨i1,i2,i3⟩:=xZfD hel
    split at h
    ·rename_i el' hdec
     have q:=hB.dec j _ _ hdec
     rw [xZnD,hB.enc,xZ8p,xZqZ,← hr.od] at q
     have hys:(frz (H.av B) (od t y)).cells.length=n:=by rw [hr.od,← xZqZ,xZcp];exact h3
     have hel2:(l.map (B.eA j))[m.toNat]?=some (B.eA j el):=by rw [List.getElem?_map,i3];rfl
     have hck:(B.eA j el).cells.length=B.k j:=by rw [← hB.enc,xZ1E,hB.len]
     have hput:∀ z,z < n→((putCells (B.eA j el).cells o (frz (H.av B) (od t y)).cells).getD (o+z) .any)=(frz (H.av B) (od t y)).cells.getD z .any:=fun z hz=>by
      rw [xZ4T _ _ _ _ (by rw [hys,hck];exact h2),if_pos (by rw [hys];omega)];congr 1;omega
     have hlw:∀ z,z < n→LW ((frz (H.av B) (od t y)).cells.getD z .any) ((B.eA j el').cells.getD (o+z) .any):=fun z hz=>by
      rw [← hput z hz];exact q.get _
     have hck':(B.eA j el').cells.length=B.k j:=by rw [← hB.enc,xZ1E,hB.len]
     have h1s:ones (frz (H.av B) (od t y)).cells=true:=by
      simp only [ones,List.all_eq_true]
      intro c hc
      obtain ⟨z,hz,rfl⟩:=List.getElem_of_mem hc
      have hz':z < n:=by rw [← hys];exact hz
      have:=hlw z hz'
      rw [show (frz (H.av B) (od t y)).cells.getD z .any=(frz (H.av B) (od t y)).cells[z] by simp [List.getD,hz]] at this
      rw [this.one]
      exact xZ8U (hB.one j el') (by rw [hck'];omega)
     have hds:(frz (H.av B) (od t y)).cells.all AV.dat=true:=by
      rw [List.all_eq_true]
      intro c hc
      obtain ⟨z,hz,rfl⟩:=List.getElem_of_mem hc
      have hz':z < n:=by rw [← hys];exact hz
      have:=hlw z hz'
      rw [show (frz (H.av B) (od t y)).cells.getD z .any=(frz (H.av B) (od t y)).cells[z] by simp [List.getD,hz]] at this
      rw [this.dat]
      exact xZmr (hB.dat j el') (by rw [hck'];omega)
     have hsetE:LW (setE (B.eA j el) o (frz (H.av B) (od t y)).cells) (B.eA j el'):=by
      cases hg:B.ag j with
      | true=>
        rw [hB.ag j el hg,hB.ag j el' hg]
        exact .agg q
      | false=>
        have e1:=hB.sg j el hg
        have e2:=hB.sg j el' hg
        have hk1:B.k j=1:=by rw [← hck,e1];rfl
        have hn1:n=1∧o=0:=by omega
        obtain ⟨rfl,rfl⟩:=hn1
        have hs:setE (B.eA j el) 0 (frz (H.av B) (od t y)).cells=(frz (H.av B) (od t y)).cells.headD .any:=by
         unfold setE
         split
         ·rename_i cs hcs
          rw [hcs] at e1
          have e3:cs=[AV.agg cs]:=e1
          have e4:SizeOf.sizeOf cs=SizeOf.sizeOf [AV.agg cs]:=congrArg SizeOf.sizeOf e3
          simp at e4
          omega
         ·rfl
        rw [hs]
        have:=hlw 0 (by omega)
        rw [e2] at this
        cases hcz:(frz (H.av B) (od t y)).cells with
        | nil=>rw [hcz] at hys;cases hys
        | cons c cs=>rw [hcz] at this;simpa using this
     have hltu:u < H.buf.length:=by
      rcases Nat.lt_or_ge u H.buf.length with h' | h'
      ·exact h'
      ·simp [bufA,List.getD,List.getElem?_eq_none h'] at hbu
     have hos:=xZiw (P:=P) (t:=t) (H:=H.av B) (n:=n) (y:=x) (z:=y) (u:=u) (k:=B.k j) (i:=m.toNat) (o:=o) (xs:=l.map (B.eA j)) (e:=B.eA j el) (by rw [hr.od,hx];simp only [BV.av,h1]) (by rw [xZ9C,hbu];rfl) hys h1s hds h4 h2 hel2
     refine ⟨.v undef,_,putE e d (.raw (.v undef)),_,xZlB rfl (hos.lw (.refl _) (H'':=(⟨H.box,H.buf.set u (.live j (l.set m.toNat el'))⟩:BH T).av B) ?_),hr.put hd (.raw (.v undef)),rfl,h⟩
     refine ⟨rfl,by simp [BH.av],fun b=>.refl _,fun w=>?_⟩
     simp only [BH.av,List.map_set]
     by_cases hw:u=w
     ·subst hw
      rw [xZ1v (by simpa using hltu),xZ1v (by simpa using hltu)]
      simp only [BB.av,List.map_set]
      refine .live _ ?_
      have key:∀ (l:List AV) (q:Nat) {a b:AV},LW a b→LWs (l.set q a) (l.set q b):=by
       intro l
       induction l with
       | nil=>intro q a b _;exact .nil
       | cons c l ih=>
         intro q a b hab
         cases q with
         | zero=>exact .cons hab (.refl _)
         | succ q=>exact .cons (.refl _) (ih q hab)
      exact key _ _ hsetE
     ·rw [getD_set_ne' hw,getD_set_ne' hw];exact .refl _
    ·cases h
   ·cases h
  ·cases h
 ·rename_i b o p hx
  split at h
  ·rename_i cs hcs
   split at h
   ·rename_i hc
    simp only [Bool.and_eq_true,Nat.ble_eq] at hc
    obtain ⟨⟨h1,h2⟩,h3⟩:=hc
    have h1:=beq_eq h1
    obtain ⟨c',q1,q2,q3⟩:=xZtB hB h
    rw [List.length_drop] at q2
    have hb:b < H.box.length:=(List.getElem?_eq_some_iff.1 hcs).1
    have hos:=xZkP (P:=P) (t:=t) (H:=H.av B) (n:=n) (y:=x) (z:=y) (b:=b) (o:=o+pofs B p) (by rw [hr.od,hx];simp only [BV.av]) (by rw [hr.od,xZcp];exact h1) (by rw [hr.od,← xZ8p,xZdJ];exact h2) (by rw [xZdb hcs,xZ1E];omega)
    refine ⟨.v undef,_,putE e d (.raw (.v undef)),_,xZlB rfl (hos.lw (.refl _) (H'':=(⟨H.box.set b (cs.take o++c'),H.buf⟩:BH T).av B) ?_),hr.put hd (.raw (.v undef)),rfl,q1⟩
    refine ⟨by simp [BH.av],rfl,fun w=>?_,fun _=>.refl _⟩
    simp only [BH.av,List.map_set]
    by_cases hw:b=w
    ·subst hw
     rw [xZ1v (by simpa using hb),xZ1v (by simpa using hb)]
     have e0:(H.box.map (BV.avs B)).getD b []=BV.avs B cs:=xZdb hcs
     rw [e0,hr.od,← xZ8p,xZ3z]
     have e1:putCells (BV.avs B cs) (o+pofs B p) (BV.avs B (bod e y).cells)=BV.avs B (cs.take o)++putCells (BV.avs B (cs.drop o)) (pofs B p) (BV.avs B (bod e y).cells):=by
      have:=xZ5S (BV.avs B (bod e y).cells) (BV.avs B (cs.take o)) (BV.avs B (cs.drop o)) (pofs B p)
      rw [← xZar hB cs o,xZ1E,List.length_take,Nat.min_eq_left h3] at this
      exact this
     rw [e1]
     exact LWs.append (.refl _) q3
    ·rw [getD_set_ne' hw,getD_set_ne' hw];exact .refl _
   ·cases h
  ·cases h
 ·cases h
theorem xZv9 (hr:RelE B e t ns) (hd:okD ns d=true) {o:SO} (h:opS B h0 dr e H d o K=some r):StepOk B P dr t H d o ns K r:=by
 cases o with
 | mov x=>
   refine StepOk.kOp (v:=bod e x) hr hd ?_ h
   simp only [kOp,hr.od];exact ⟨(by first | rfl | trivial),(by first | rfl | trivial)⟩
 | box x=>
   simp only [opS,xZ8q,xZ20,xZ22,xZ8o,op_ld,op_st,op_fa,xZ7X,op_ia,xZ6T,op_ix,xZ87,xZ8a,xZ8j,xZ83,xZ82,xZ85,op_un,xZ8n,xZ8c,xZ7W,xZ3A,xZ7U] at h
   split at h
   ·rename_i hc
    refine StepOk.kOp (v:=.ptr H.box.length 0) hr hd ?_ h
    simp only [kOp,hr.od,kBox,← xZ8p,xZdJ,BV.av,xZev]
    refine ⟨hc,(by first | rfl | trivial),?_⟩
    simp only [BH.av,List.map_append,List.map_cons,List.map_nil]
   ·cases h
 | alloc zs=>
   simp only [opS,xZ8q,xZ20,xZ22,xZ8o,op_ld,op_st,op_fa,xZ7X,op_ia,xZ6T,op_ix,xZ87,xZ8a,xZ8j,xZ83,xZ82,xZ85,op_un,xZ8n,xZ8c,xZ7W,xZ3A,xZ7U] at h
   split at h
   ·rename_i hc
    refine StepOk.kOp (v:=.ptr H.box.length 0) hr hd ?_ h
    simp only [kOp,kBox,BV.av,xZev]
    rw [← xZdJ (B:=B),xZeR] at hc
    refine ⟨hc,(by first | rfl | trivial),?_⟩
    simp only [BH.av,List.map_append,List.map_cons,List.map_nil,xZeR]
   ·cases h
 | build zs ps=>
   simp only [opS,xZ8q,xZ20,xZ22,xZ8o,op_ld,op_st,op_fa,xZ7X,op_ia,xZ6T,op_ix,xZ87,xZ8a,xZ8j,xZ83,xZ82,xZ85,op_un,xZ8n,xZ8c,xZ7W,xZ3A,xZ7U] at h
   split at h
   ·rename_i hc hf
    refine StepOk.kOp (v:=.agg _) hr hd ?_ h
    rw [← xZdJ (B:=B),xZeR] at hc
    have q:=xZpF hr _ _ _ hf
    rw [xZeR] at q
    simp only [kOp,q,kBuild,BV.av]
    exact ⟨hc,(by first | rfl | trivial),(by first | rfl | trivial)⟩
   ·cases h
 | bsl k ps=>exact xZuq hB hh hr hd h
 | ld n ag x=>
   simp only [opS,xZ8q,xZ20,xZ22,xZ8o,op_ld,op_st,op_fa,xZ7X,op_ia,xZ6T,op_ix,xZ87,xZ8a,xZ8j,xZ83,xZ82,xZ85,op_un,xZ8n,xZ8c,xZ7W,xZ3A,xZ7U] at h
   split at h
   ·rename_i b o hx
    split at h
    ·rename_i cs hcs
     split at h
     ·rename_i hc
      refine StepOk.kOp hr hd ?_ h
      simp only [kOp,hr.od,hx,BV.av,kLd,xZdb hcs,xZ1E,mk_av,xZbE,xZ9l]
      exact ⟨Nat.le_of_ble_eq_true hc,(by first | rfl | trivial),(by first | rfl | trivial)⟩
     ·cases h
    ·cases h
   ·rename_i cs hx
    split at h
    ·rename_i hc
     refine StepOk.kOp hr hd ?_ h
     simp only [kOp,hr.od,hx,BV.av,kLd,xZ1E,mk_av,xZbE]
     exact ⟨Nat.le_of_ble_eq_true hc,(by first | rfl | trivial),(by first | rfl | trivial)⟩
    ·cases h
   ·rename_i u i m o hx
    have mk':∀ {j:Nat} {l:List (T j)},(Nat.beq (B.k i) (B.k j)&&Nat.ble (o+n) (B.k j))=true→((H.av B).buf.getD u .dead=.live (B.k j) (l.map (B.eA j))∨(H.av B).buf.getD u .dead=.froz (B.k j) (l.map (B.eA j)))→
     ((ix l m).bind fun el=>K (putE e d (mkB ag (((B.enc j el).drop o).take n))) H)=some r→StepOk B P dr t H d (.ld n ag x) ns K r:=by
     intro j l hc hb h
     simp only [Bool.and_eq_true,Nat.ble_eq] at hc
     obtain ⟨hk,hc⟩:=hc
     have hk:=beq_eq hk
     obtain ⟨el,hel,h⟩:=Option.bind_eq_some_iff.1 h
     obtain ⟨i1,i2,i3⟩:=xZfD hel
     have hlt:m.toNat < l.length:=(List.getElem?_eq_some_iff.1 i3).1
     refine StepOk.kOp hr hd ?_ h
     rcases hb with hb | hb
     all_goals
      simp only [kOp,hr.od,hx,BV.av,kLd,hb,kLdE,List.length_map,List.getElem?_map,i3,mk_av,xZbE,xZ9l,hB.enc]
      refine ⟨hk.symm,by rw [hk];exact hc,hlt,?_⟩
      intro x hx
      cases hx
      exact ⟨(by first | rfl | trivial),(by first | rfl | trivial)⟩
    split at h
    ·rename_i j l hbu
     split at h
     ·rename_i hc;exact mk' hc (.inl (by rw [xZ9C,hbu];rfl)) h
     ·cases h
    ·rename_i j l hbu
     split at h
     ·rename_i hc;exact mk' hc (.inr (by rw [xZ9C,hbu];rfl)) h
     ·cases h
    ·cases h
   ·rename_i b o p hx
    split at h
    ·rename_i cs hcs
     obtain ⟨c',h1,h2,h3⟩:=xZrf hB h
     split at h1
     ·rename_i hc
      simp only [Bool.and_eq_true,Nat.ble_eq] at hc
      obtain ⟨ho,hn⟩:=hc
      rw [List.length_drop] at h2
      refine ⟨_,_,putE e d (mkB ag (c'.take n)),H,xZbm rfl fun bx=>?_,hr.put hd _,rfl,h1⟩
      have hb:b < (H.av B).box.length:=by rw [xZev];exact (List.getElem?_eq_some_iff.1 hcs).1
      have hbx:((H.av B).box++bx).getD b []=BV.avs B cs:=by rw [xZ2N hb,xZdb hcs]
      have hos:=xZkS (P:=P) (t:=t) (H:=⟨(H.av B).box++bx,(H.av B).buf⟩) (n:=n) (ag:=ag) (y:=x) (b:=b) (o:=o+pofs B p) (by rw [hr.od,hx];simp only [BV.av]) (by rw [hbx,xZ1E];omega)
      refine hos.lw ?_ (LWH.refl _)
      rw [hbx,mk_av,xZbE]
      refine mk_lw ag ?_
      have h4:=h3.take n
      rw [xZ9l,List.drop_drop,List.take_take,Nat.min_eq_left hn] at h4
      exact h4
     ·cases h1
    ·cases h
   ·cases h
 | st n x y=>exact st_ok hB hh hr hd h
 | fa off x=>
   simp only [opS,xZ8q,xZ20,xZ22,xZ8o,op_ld,op_st,op_fa,xZ7X,op_ia,xZ6T,op_ix,xZ87,xZ8a,xZ8j,xZ83,xZ82,xZ85,op_un,xZ8n,xZ8c,xZ7W,xZ3A,xZ7U] at h
   split at h
   ·rename_i b o hx
    refine StepOk.kOp hr hd ?_ h
    simp only [kOp,hr.od,hx,BV.av,kFa];exact ⟨(by first | rfl | trivial),(by first | rfl | trivial)⟩
   ·rename_i cs hx
    split at h
    ·rename_i hc
     refine StepOk.kOp hr hd ?_ h
     simp only [kOp,hr.od,hx,BV.av,kFa,xZ1E,xZ9l];exact ⟨Nat.le_of_ble_eq_true hc,(by first | rfl | trivial),(by first | rfl | trivial)⟩
    ·cases h
   ·rename_i u i m o hx
    refine StepOk.kOp hr hd ?_ h
    simp only [kOp,hr.od,hx,BV.av,kFa];exact ⟨(by first | rfl | trivial),(by first | rfl | trivial)⟩
   ·rename_i b o q p hx
    refine StepOk.kOp hr hd ?_ h
    simp only [kOp,hr.od,hx,BV.av,kFa,xZnd,Nat.add_assoc];exact ⟨(by first | rfl | trivial),(by first | rfl | trivial)⟩
   ·cases h
 | fld off n ag x=>
   simp only [opS,xZ8q,xZ20,xZ22,xZ8o,op_ld,op_st,op_fa,xZ7X,op_ia,xZ6T,op_ix,xZ87,xZ8a,xZ8j,xZ83,xZ82,xZ85,op_un,xZ8n,xZ8c,xZ7W,xZ3A,xZ7U] at h
   split at h
   ·rename_i cs hx
    split at h
    ·rename_i hc
     refine StepOk.kOp hr hd ?_ h
     simp only [kOp,hr.od,hx,BV.av,kFld,xZ1E,mk_av,xZbE,xZ9l];exact ⟨Nat.le_of_ble_eq_true hc,(by first | rfl | trivial),(by first | rfl | trivial)⟩
    ·cases h
   ·cases h
 | ia k x i=>
   simp only [opS,xZ8q,xZ20,xZ22,xZ8o,op_ld,op_st,op_fa,xZ7X,op_ia,xZ6T,op_ix,xZ87,xZ8a,xZ8j,xZ83,xZ82,xZ85,op_un,xZ8n,xZ8c,xZ7W,xZ3A,xZ7U] at h
   split at h
   ·rename_i j l ik n hx hi
    split at h
    ·rename_i hk
     have hk:=beq_eq hk
     obtain ⟨el,hel,h⟩:=Option.bind_eq_some_iff.1 h
     obtain ⟨i1,i2,i3⟩:=xZfD hel
     refine StepOk.kOp hr hd ?_ h
     simp only [kOp,hr.od,hx,hi,BV.av,kIa,kIaL,List.length_map,List.getElem?_map,i3,hB.enc]
     refine ⟨hk,i1,i2,?_⟩
     intro x hx
     cases hx
     exact ⟨(by first | rfl | trivial),(by first | rfl | trivial)⟩
    ·cases h
   ·rename_i u ik n hx hi
    split at h
    ·rename_i j l hbu
     split at h
     ·rename_i hk
      have hk:=beq_eq hk
      obtain ⟨el,hel,h⟩:=Option.bind_eq_some_iff.1 h
      obtain ⟨i1,i2,i3⟩:=xZfD hel
      refine StepOk.kOp hr hd ?_ h
      simp only [kOp,hr.od,hx,hi,BV.av,kIa,xZ9C,hbu,BB.av,kIaB,List.length_map]
      exact ⟨hk,i1,i2,by rw [hk],(by first | rfl | trivial)⟩
     ·cases h
    ·rename_i j l hbu
     split at h
     ·rename_i hk
      have hk:=beq_eq hk
      obtain ⟨el,hel,h⟩:=Option.bind_eq_some_iff.1 h
      obtain ⟨i1,i2,i3⟩:=xZfD hel
      refine StepOk.kOp hr hd ?_ h
      simp only [kOp,hr.od,hx,hi,BV.av,kIa,xZ9C,hbu,BB.av,kIaB,kIaL,List.length_map,List.getElem?_map,i3,hB.enc]
      refine ⟨hk,i1,i2,?_⟩
      intro x hx
      cases hx
      exact ⟨(by first | rfl | trivial),(by first | rfl | trivial)⟩
     ·cases h
    ·cases h
   ·cases h
 | iaa m k x i=>
   simp only [opS,xZ6T] at h
   split at h
   ·rename_i j hj
    split at h
    ·rename_i b o ik n hk hx hi
     have hk:=beq_eq hk
     obtain ⟨h1,h⟩:=xZ1q h
     obtain ⟨h2,h⟩:=xZ1q h
     refine StepOk.kOp hr hd ?_ h
     simp only [kOp,hr.od,hx,hi,BV.av,kIaa,pofs,Nat.add_zero,hk]
     exact ⟨xZI.1 h1,by rw [xZ50] at h2;simpa using h2,(by first | rfl | trivial),(by first | rfl | trivial)⟩
    ·rename_i b o p ik n hk hx hi
     have hk:=beq_eq hk
     obtain ⟨h1,h⟩:=xZ1q h
     obtain ⟨h2,h⟩:=xZ1q h
     refine StepOk.kOp hr hd ?_ h
     simp only [kOp,hr.od,hx,hi,BV.av,kIaa,xZlV,pofs,Nat.add_zero,hk,Nat.add_assoc]
     exact ⟨xZI.1 h1,by rw [xZ50] at h2;simpa using h2,(by first | rfl | trivial),(by first | rfl | trivial)⟩
    ·rename_i cs ik n hk hx hi
     have hk:=beq_eq hk
     obtain ⟨h1,h⟩:=xZ1q h
     obtain ⟨h2,h⟩:=xZ1q h
     split at h
     ·rename_i l hl
      obtain ⟨el,hel,h⟩:=Option.bind_eq_some_iff.1 h
      obtain ⟨i1,i2,i3⟩:=xZfD hel
      obtain ⟨pre,mid,suf,e1,e2,e3,e4⟩:=xZl5 hB hl i3
      have hlen:=congrArg List.length e1
      simp only [List.length_append,xZ1E,e2,e3] at hlen
      refine ⟨_,_,putE e d (.dptr (B.enc j el)),H,xZ2l (fun H0=>?_),hr.put hd _,rfl,h⟩
      have hos:=xZfS (P:=P) (t:=t) (H:=H0) (m:=m) (k:=k) (y:=x) (z:=i) (cs:=BV.avs B cs) (ik:=ik) (n:=n) (by rw [hr.od,hx];simp only [BV.av]) (by rw [hr.od,hi];simp only [BV.av]) i1 (by rw [xZ50] at h2;simpa using h2) (by rw [xZ1E,← hk];omega)
      refine xZub hos fun M S w v hv=>?_
      have h5:=xZov (B.k j) hv
      have e5:((BV.avs B cs).drop (n.toNat * k)).take (B.k j)=mid:=by
       rw [e1,← hk,← e2,List.append_assoc,List.drop_left,List.take_append_of_le_length (by omega),List.take_of_length_le (by omega)]
      rw [e5] at h5
      have h6:=LW.rep (.dptr e4) h5
      rw [← hB.enc] at h6
      simpa only [BV.av] using h6
     ·cases h
    ·cases h
   split at h
   ·rename_i b o ik n hx hi
    obtain ⟨h1,h⟩:=xZ1q h
    obtain ⟨h2,h⟩:=xZ1q h
    refine StepOk.kOp hr hd ?_ h
    simp only [kOp,hr.od,hx,hi,BV.av,kIaa]
    exact ⟨xZI.1 h1,by rw [xZ50] at h2;simpa using h2,(by first | rfl | trivial),(by first | rfl | trivial)⟩
   ·rename_i cs ik n hx hi
    obtain ⟨h1,h⟩:=xZ1q h
    obtain ⟨h2,h⟩:=xZ1q h
    split at h
    ·rename_i hc
     refine StepOk.kOp hr hd ?_ h
     simp only [kOp,hr.od,hx,hi,BV.av,kIaa,xZ1E,xZ9l]
     exact ⟨xZI.1 h1,by rw [xZ50] at h2;simpa using h2,Nat.le_of_ble_eq_true hc,(by first | rfl | trivial),(by first | rfl | trivial)⟩
    ·cases h
   ·cases h
 | ix x i=>
   simp only [opS,xZ8q,xZ20,xZ22,xZ8o,op_ld,op_st,op_fa,xZ7X,op_ia,xZ6T,op_ix,xZ87,xZ8a,xZ8j,xZ83,xZ82,xZ85,op_un,xZ8n,xZ8c,xZ7W,xZ3A,xZ7U] at h
   split at h
   ·rename_i s ik n hx hi
    obtain ⟨el,hel,h⟩:=Option.bind_eq_some_iff.1 h
    obtain ⟨i1,i2,i3⟩:=xZfD hel
    refine StepOk.kOp hr hd ?_ h
    simp only [kOp,hr.od,hx,hi,BV.av,kIx,xZ90,i3]
    refine ⟨i1,i2,?_⟩
    intro b hb
    cases hb
    exact ⟨(by first | rfl | trivial),(by first | rfl | trivial)⟩
   ·cases h
 | len st x=>
   simp only [opS,xZ8q,xZ20,xZ22,xZ8o,op_ld,op_st,op_fa,xZ7X,op_ia,xZ6T,op_ix,xZ87,xZ8a,xZ8j,xZ83,xZ82,xZ85,op_un,xZ8n,xZ8c,xZ7W,xZ3A,xZ7U,optK] at h
   split at h
   ·rename_i v hv
    refine StepOk.kOp hr hd ?_ h
    simp only [kOp,hr.od]
    exact kO_of (xZuW hv) trivial ⟨rfl,rfl⟩
   ·cases h
 | lenc n=>exact StepOk.kOp (v:=.int .i64 n) hr hd ⟨rfl,rfl⟩ h
 | bin op wr x y=>
   obtain ⟨v,p,h1,h2,h3⟩:=xZvC (B:=B) h
   refine StepOk.kOp hr hd ?_ h3
   simp only [kOp,hr.od]
   exact kO_of h1 h2 ⟨rfl,rfl⟩
 | eqs ne ls x y=>
   simp only [opS,xZ8q,xZ20,xZ22,xZ8o,op_ld,op_st,op_fa,xZ7X,op_ia,xZ6T,op_ix,xZ87,xZ8a,xZ8j,xZ83,xZ82,xZ85,op_un,xZ8n,xZ8c,xZ7W,xZ3A,xZ7U] at h
   split at h
   ·rename_i xs ys hx hy
    split at h
    ·rename_i b hb
     refine StepOk.kOp (v:=.bool (neS ne b)) hr hd ?_ h
     simp only [kOp,hr.od,hx,hy,BV.av]
     exact kO_of (p:=True) (by simp only [eqsV,xZpr hb,Option.map_some,xZft]) trivial ⟨rfl,rfl⟩
    ·cases h
   ·cases h
 | eqb ne x y=>
   simp only [opS,xZ8q,xZ20,xZ22,xZ8o,op_ld,op_st,op_fa,xZ7X,op_ia,xZ6T,op_ix,xZ87,xZ8a,xZ8j,xZ83,xZ82,xZ85,op_un,xZ8n,xZ8c,xZ7W,xZ3A,xZ7U] at h
   split at h
   ·rename_i a b hx hy
    refine StepOk.kOp (v:=.bool (neS ne (a==b))) hr hd ?_ h
    simp only [kOp,hr.od,hx,hy,BV.av]
    exact kO_of (p:=True) (by simp only [eqbV,xZft]) trivial ⟨rfl,rfl⟩
   ·cases h
 | eqi ne c x y=>
   simp only [opS,xZ8q,xZ20,xZ22,xZ8o,op_ld,op_st,op_fa,xZ7X,op_ia,xZ6T,op_ix,xZ87,xZ8a,xZ8j,xZ83,xZ82,xZ85,op_un,xZ8n,xZ8c,xZ7W,xZ3A,xZ7U,optK] at h
   split at h
   ·rename_i v hv
    refine StepOk.kOp hr hd ?_ h
    simp only [kOp,hr.od]
    exact kO_of (xZvx hv) trivial ⟨rfl,rfl⟩
   ·cases h
 | eqp ne x y=>
   simp only [opS,xZ8q,xZ20,xZ22,xZ8o,op_ld,op_st,op_fa,xZ7X,op_ia,xZ6T,op_ix,xZ87,xZ8a,xZ8j,xZ83,xZ82,xZ85,op_un,xZ8n,xZ8c,xZ7W,xZ3A,xZ7U,optK] at h
   split at h
   ·rename_i v hv
    refine StepOk.kOp hr hd ?_ h
    simp only [kOp,hr.od]
    exact kO_of (xZvd hv) trivial ⟨rfl,rfl⟩
   ·cases h
 | un op x=>
   simp only [opS,xZ8q,xZ20,xZ22,xZ8o,op_ld,op_st,op_fa,xZ7X,op_ia,xZ6T,op_ix,xZ87,xZ8a,xZ8j,xZ83,xZ82,xZ85,op_un,xZ8n,xZ8c,xZ7W,xZ3A,xZ7U] at h
   split at h
   ·rename_i a hx
    refine StepOk.kOp (v:=.bool (!a)) hr hd ?_ h
    simp only [kOp,hr.od,hx,BV.av]
    exact kO_of (p:=True) (by simp [unV]) trivial ⟨rfl,rfl⟩
   ·rename_i k a hx
    refine StepOk.kOp (v:=.int k (k.wrap (0 - a))) hr hd ?_ h
    simp only [kOp,hr.od,hx,BV.av]
    exact kO_of (p:=True) (by simp [unV]) trivial ⟨rfl,rfl⟩
   ·rename_i k a hx
    refine StepOk.kOp (v:=.int k _) hr hd ?_ h
    simp only [kOp,hr.od,hx,BV.av]
    exact kO_of (p:=True) (by simp only [unV,reduceCtorEq,if_false,if_true]) trivial ⟨rfl,rfl⟩
   ·cases h
 | cvi k x=>
   simp only [opS,xZ8q,xZ20,xZ22,xZ8o,op_ld,op_st,op_fa,xZ7X,op_ia,xZ6T,op_ix,xZ87,xZ8a,xZ8j,xZ83,xZ82,xZ85,op_un,xZ8n,xZ8c,xZ7W,xZ3A,xZ7U] at h
   split at h
   ·rename_i k' a hx
    refine StepOk.kOp (v:=.int k (k.wrap a)) hr hd ?_ h
    simp only [kOp,hr.od,hx,BV.av]
    exact kO_of (p:=True) rfl trivial ⟨rfl,rfl⟩
   ·cases h
 | cvs x=>
   simp only [opS,xZ8q,xZ20,xZ22,xZ8o,op_ld,op_st,op_fa,xZ7X,op_ia,xZ6T,op_ix,xZ87,xZ8a,xZ8j,xZ83,xZ82,xZ85,op_un,xZ8n,xZ8c,xZ7W,xZ3A,xZ7U] at h
   split at h
   ·rename_i s hx
    refine StepOk.kOp (v:=.str s) hr hd ?_ h
    simp only [kOp,hr.od,hx,BV.av]
    exact kO_of (p:=True) rfl trivial ⟨rfl,rfl⟩
   ·cases h
 | ext i x=>
   simp only [opS,xZ8q,xZ20,xZ22,xZ8o,op_ld,op_st,op_fa,xZ7X,op_ia,xZ6T,op_ix,xZ87,xZ8a,xZ8j,xZ83,xZ82,xZ85,op_un,xZ8n,xZ8c,xZ7W,xZ3A,xZ7U] at h
   split at h
   ·rename_i cs hx
    split at h
    ·rename_i hc
     refine StepOk.kOp hr hd ?_ h
     simp only [kOp,hr.od,hx,BV.av]
     exact kO_of (p:=i < (BV.avs B cs).length) (by simp only [extV,xZeB]) (by rw [xZ1E];simpa using hc) ⟨rfl,rfl⟩
    ·cases h
   ·cases h
 | pick c a b=>
   simp only [opS,xZ8q,xZ20,xZ22,xZ8o,op_ld,op_st,op_fa,xZ7X,op_ia,xZ6T,op_ix,xZ87,xZ8a,xZ8j,xZ83,xZ82,xZ85,op_un,xZ8n,xZ8c,xZ7W,xZ3A,xZ7U] at h
   split at h
   ·rename_i c hc
    cases c with
    | true=>
      refine StepOk.kOp (v:=bod e a) hr hd ?_ h
      simp only [kOp,hr.od,hc,BV.av]
      exact kO_of (p:=True) rfl trivial ⟨rfl,rfl⟩
    | false=>
      refine StepOk.kOp (v:=bod e b) hr hd ?_ h
      simp only [kOp,hr.od,hc,BV.av]
      exact kO_of (p:=True) rfl trivial ⟨rfl,rfl⟩
   ·cases h
 | app k by_ x y=>exact xZuu hh hr hd h
 | slc st k x lo hi mx=>exact xZuG hB hr hd h
 | mki ty x=>
   simp only [opS,xZrr] at h
   split at h
   ·rename_i i hi
    split at h
    ·rename_i y hy
     obtain ⟨z,h1,h2,h3⟩:=hB.fd _ _ _ _ hy
     exact ⟨_,_,putE e d (.tr i y),H,xZ2l fun _=>xZub xZuk fun M S w v hv=>(by
      have hv:=xZrb (y:=z) hv (by rw [hr.od];exact h2) (by rw [hr.od];exact h3)
      rw [← h1] at hv
      exact hv),hr.put hd (.tr i y),rfl,h⟩
    ·cases h
   refine StepOk.kOp (v:=.ifc ty (bod e x)) hr hd ?_ h
   simp only [kOp,hr.od,BV.av];exact ⟨(by first | rfl | trivial),(by first | rfl | trivial)⟩
 | fnv f a b=>
   refine StepOk.kOp (v:=.fn f (a.map (bod e)) (b.map (bod e))) hr hd ?_ h
   simp only [kOp,hr.ods,BV.av];exact ⟨(by first | rfl | trivial),(by first | rfl | trivial)⟩
 | call f as=>cases h
 | callv x as=>cases h
 | raw o ty=>cases h
end
end Go.Proofs.YtbioikdfpfafaaaGreatDoor.T
namespace Go.Proofs.YtbioikdfpfafaaaGreatDoor.T
open Go
section
variable {T:Nat→Type} {B:Tb T} {R:Type} {rb rt:List Nat} {H:BH T}
theorem xZej:∀ {l:List Nat} {n i:Nat},idxN l n=some i→l[i]?=some n
 | [],n,i,h=>by cases h
 | m::l,n,i,h=>by
   simp only [idxN] at h
   split at h
   ·rename_i hm;cases h;rw [beq_eq hm];rfl
   ·split at h
    ·rename_i j hj;cases h;simpa using xZej hj
    ·cases h
def AV.atom:AV→Bool
 | .agg _ | .tup _ | .fn _ _ _ | .ifc _ _=>false
 | _=>true
theorem xZhZ {x y:BV T} (h:rnA rb rt H x=some y):leA rb rt (H.av B) (x.av B) (y.av B)∧(x.av B).atom=true:=by
 unfold rnA at h
 split at h
 ·rename_i t
  split at h
  ·rename_i j hj
   cases h
   exact ⟨by simp only [BV.av,leA];exact xZej hj,rfl⟩
  ·split at h
   ·rename_i i l hb
    cases h
    exact ⟨by simp only [BV.av,leA,xZ9C,hb];rfl,rfl⟩
   ·cases h
 ·split at h
  ·rename_i j hj;cases h;exact ⟨by simp only [BV.av,leA];exact ⟨xZej hj,trivial⟩,rfl⟩
  ·cases h
 ·split at h
  ·rename_i j hj;cases h;exact ⟨by simp only [BV.av,leA];exact ⟨xZej hj,trivial,trivial,trivial⟩,rfl⟩
  ·cases h
 all_goals first
  | (cases h;exact ⟨by simp only [BV.av];simp [leA,AV.dat],by simp only [BV.av,AV.atom]⟩)
  | cases h
theorem le0_A {A:AH} {x y:AV} (h:leA rb rt A x y) (hx:x.atom=true):le0 rb rt A x y:=by
 unfold le0
 split
 ·cases hx
 ·exact h
theorem leC_A {A:AH} {x y:AV} (h:leA rb rt A x y) (hx:x.atom=true):leC rb rt A x y:=by
 unfold leC
 split
 ·cases hx
 ·cases hx
 ·exact h
theorem xZjR {f:BV T→Option (BV T)} {Q:AV→AV→Prop} (hf:∀ x y,f x=some y→Q (x.av B) (y.av B)):∀ {l r:List (BV T)},rnL f l=some r→listP Q (BV.avs B l) (BV.avs B r)
 | [],r,h=>by cases h;trivial
 | x::l,r,h=>by
   simp only [rnL] at h
   split at h
   ·rename_i y r' h1 h2
    cases h
    exact ⟨hf _ _ h1,xZjR hf h2⟩
   ·cases h
theorem xZtt {x y:BV T} (h:rn0 rb rt H x=some y):le0 rb rt (H.av B) (x.av B) (y.av B):=by
 unfold rn0 at h
 split at h
 ·split at h
  ·rename_i l hl
   cases h
   simp only [BV.av,le0]
   exact xZjR (fun x y h=>(xZhZ h).1) hl
  ·cases h
 ·exact le0_A (xZhZ h).1 (xZhZ (B:=B) h).2
def AV.nagg:AV→Bool
 | .agg _ | .tup _=>false
 | _=>true
theorem xZo8 {x:AV} (h:x.atom=true):x.nagg=true:=by cases x<;>first | rfl | cases h
theorem xZqr {x y:BV T} (h:rnC rb rt H x=some y):leC rb rt (H.av B) (x.av B) (y.av B)∧(x.av B).nagg=true:=by
 unfold rnC at h
 split at h
 ·split at h
  ·rename_i a b ha hb
   cases h
   simp only [BV.av,leC]
   exact ⟨⟨trivial,xZjR (fun x y h=>(xZhZ h).1) ha,xZjR (fun x y h=>(xZhZ h).1) hb⟩,rfl⟩
  ·cases h
 ·split at h
  ·rename_i y hy
   cases h
   simp only [BV.av,leC]
   exact ⟨⟨trivial,xZtt hy⟩,rfl⟩
  ·cases h
 ·exact ⟨leC_A (xZhZ h).1 (xZhZ (B:=B) h).2,xZo8 (xZhZ h).2⟩
def AV.ntup:AV→Bool
 | .tup _=>false
 | _=>true
theorem xZm2 {x y:BV T} (h:rn1 rb rt H x=some y):le1 rb rt (H.av B) (x.av B) (y.av B)∧(x.av B).ntup=true:=by
 unfold rn1 at h
 split at h
 ·split at h
  ·rename_i l hl
   cases h
   simp only [BV.av,le1]
   exact ⟨xZjR (fun x y h=>(xZqr h).1) hl,rfl⟩
  ·cases h
 ·obtain ⟨h1,h2⟩:=xZqr (B:=B) h
  refine ⟨?_,by cases hx:x.av B<;>first | rfl | (rw [hx] at h2;cases h2)⟩
  unfold le1
  split
  ·rename_i e _;rw [e] at h2;cases h2
  ·exact h1
theorem le2_1 {x y:AV} {A:AH} (h:le1 rb rt A x y) (hx:x.ntup=true):le2 rb rt A x y:=by
 unfold le2
 split
 ·cases hx
 ·exact h
theorem xZvf {x y:BV T} (h:rn2 rb rt H x=some y):le2 rb rt (H.av B) (x.av B) (y.av B):=by
 unfold rn2 at h
 split at h
 ·split at h
  ·rename_i l hl
   cases h
   simp only [BV.av,le2]
   exact xZjR (fun x y h=>(xZm2 h).1) hl
  ·cases h
 ·exact le2_1 (xZm2 h).1 (xZm2 (B:=B) h).2
theorem xZ79 {Q Q':AV→AV→Prop} (h:∀ x y,Q x y→Q' x y):∀ {a b:List AV},listP Q a b→listP Q' a b
 | [],[],_=>trivial
 | _::_,_::_,hp=>⟨h _ _ hp.1,xZ79 h hp.2⟩
 | [],_::_,hp=>hp.elim
 | _::_,[],hp=>hp.elim
section
variable {A A':AH} (hA:∀ u k xs,A.buf.getD u .dead=.froz k xs→A'.buf.getD u .dead=.froz k xs)
include hA
theorem xZew {x y:AV} (h:leA [] [] A x y):leA rb rt A' x y:=by
 unfold leA at h ⊢
 split at h
 ·trivial
 ·simp at h
 ·exact hA _ _ _ h
 ·exact h
 ·simp at h
 ·simp at h
 ·simp at h
 ·exact h
theorem xZqs {x y:AV} (h:le0 [] [] A x y):le0 rb rt A' x y:=by
 unfold le0 at h ⊢
 split at h
 ·exact xZ79 (fun _ _=>xZew hA) h
 ·exact xZew hA h
theorem xZn2 {x y:AV} (h:leC [] [] A x y):leC rb rt A' x y:=by
 unfold leC at h ⊢
 split at h
 ·exact ⟨h.1,xZ79 (fun _ _=>xZew hA) h.2.1,xZ79 (fun _ _=>xZew hA) h.2.2⟩
 ·exact ⟨h.1,xZqs hA h.2⟩
 ·exact xZew hA h
theorem xZn5 {x y:AV} (h:le1 [] [] A x y):le1 rb rt A' x y:=by
 unfold le1 at h ⊢
 split at h
 ·exact xZ79 (fun _ _=>xZn2 hA) h
 ·exact xZn2 hA h
end
theorem xZem:∀ {md:List Bool} {l r:List (BV T)},rnArgs rb rt H md l=some r→listP (fun x y=>le1 rb rt (H.av B) x y∧x.ntup=true) (BV.avs B l) (BV.avs B r)
 | _,[],r,h=>by
   have:r=[]:=by
    unfold rnArgs at h
    cases h;rfl
   subst this;trivial
 | md,x::l,r,h=>by
   have key:∃ y r' md',((rn1 [] [] H x=some y)∨rn1 rb rt H x=some y)∧rnArgs rb rt H md' l=some r'∧r=y::r':=by
    unfold rnArgs at h
    split at h
    ·rename_i e;cases e
    ·rename_i m x' l' e
     cases e
     split at h
     ·rename_i y r' h1 h2;cases h;exact ⟨y,r',_,.inl h1,h2,rfl⟩
     ·cases h
    ·rename_i x' l' _ e
     cases e
     split at h
     ·rename_i y r' h1 h2;cases h;exact ⟨y,r',_,.inr h1,h2,rfl⟩
     ·cases h
   obtain ⟨y,r',md',h1,h2,rfl⟩:=key
   refine ⟨?_,xZem h2⟩
   rcases h1 with h1 | h1
   ·exact ⟨xZn5 (fun _ _ _ h=>h) (xZm2 h1).1,(xZm2 h1).2⟩
   ·exact xZm2 h1
theorem rnArgs2 {md:List Bool} {l r:List (BV T)} (h:rnArgs rb rt H md l=some r):listP (le2 rb rt (H.av B)) (BV.avs B l) (BV.avs B r):=
 xZ79 (fun _ _ h=>le2_1 h.1 h.2) (xZem h)
theorem xZir:∀ {l:List Nat} {r:List (List (BV T))},rnBoxes rb rt H l=some r→leBoxes rb rt (H.av B) l (r.map (BV.avs B))
 | [],r,h=>by cases h;trivial
 | b::l,r,h=>by
   simp only [rnBoxes] at h
   split at h
   ·rename_i cs r' h1 h2 h3
    split at h
    ·rename_i ho
     cases h
     refine ⟨by rw [xZev];simpa using h1,by rw [xZdJ];exact ho,?_,xZir h3⟩
     rw [xZln]
     rw [xZoY] at h2
     exact xZjR (fun x y h=>(xZqr h).1) h2
    ·cases h
   ·cases h
theorem xZmQ (b:Buf):leBuf b b:=by cases b<;>simp [leBuf]
theorem xZkC:∀ {l:List Nat} {r:List (BB T)},rnBufs H l=some r→leBufs (H.av B) l (r.map (BB.av B))
 | [],r,h=>by cases h;trivial
 | t::l,r,h=>by
   simp only [rnBufs] at h
   split at h
   ·rename_i r' h1 h2
    cases h
    refine ⟨by rw [buf_len'];simpa using h1,?_,xZkC h2⟩
    rw [xZ9C];exact xZmQ _
   ·cases h
theorem xZp3:∀ (l:List Nat) (n:Nat),memN l n=l.contains n
 | [],n=>rfl
 | m::l,n=>by
   simp only [memN,List.contains_cons]
   split
   ·rename_i h;rw [beq_eq h];simp
   ·rename_i h
    have hne:¬ n=m:=fun e=>by subst e;simp at h
    rw [xZp3 l n,beq_eq_false_iff_ne.2 hne,Bool.false_or]
theorem xZcu:∀ l:List Nat,nodupN l=nodup l
 | []=>rfl
 | x::l=>by
   simp only [nodupN,nodup,xZp3]
   split
   ·rename_i h;rw [h];rfl
   ·rename_i h;rw [h,xZcu l];rfl
theorem xZc1:∀ {l:List Nat} {r:List Buf} {x:Nat},x∈liveIx l r→x∈l
 | [],_,_,h=>by simp [liveIx] at h
 | t::l,[],x,h=>by simp [liveIx] at h
 | t::l,B::r,x,h=>by
   cases B with
   | live k xs=>
     simp only [liveIx,List.mem_cons] at h
     rcases h with rfl | h
     ·simp
     ·exact List.mem_cons_of_mem _ (xZc1 h)
   | dead=>exact List.mem_cons_of_mem _ (xZc1 h)
   | froz k xs=>exact List.mem_cons_of_mem _ (xZc1 h)
theorem xZbI:∀ {l:List Nat} (r:List Buf),nodup l=true→nodup (liveIx l r)=true
 | [],r,_=>by cases r<;>rfl
 | t::l,[],_=>rfl
 | t::l,B::r,h=>by
   simp only [nodup,Bool.and_eq_true,Bool.not_eq_true',List.contains_eq_mem,decide_eq_false_iff_not] at h
   cases B with
   | live k xs=>
     simp only [liveIx,nodup,Bool.and_eq_true,Bool.not_eq_true',List.contains_eq_mem,decide_eq_false_iff_not]
     exact ⟨fun hm=>h.1 (xZc1 hm),xZbI r h.2⟩
   | dead=>exact xZbI r h.2
   | froz k xs=>exact xZbI r h.2
theorem xZnX {K:BH T→Option R} {r:R} (h:rnH rb rt H K=some r):∃ H',LeH rb rt (H.av B) (H'.av B)∧nodup rt=true∧K H'=some r:=by
 unfold rnH at h
 split at h
 ·rename_i bx bu h1 h2 h3
  rw [Bool.and_eq_true,xZcu,xZcu] at h1
  exact ⟨_,⟨xZir h2,xZkC h3,h1.1,xZbI _ h1.2⟩,h1.2,h⟩
 ·cases h
theorem xZnx:∀ (l:List Nat) (n i:Nat),upN l n i=upB l n i
 | [],n,i=>rfl
 | b::l,n,0=>rfl
 | b::l,n,i+1=>xZnx l n i
theorem xZns {α β:Type} (f:α→β):∀ (l:List Nat) (new old:List α),(setL l new old).map f=upL l (new.map f) (old.map f)
 | [],new,old=>by simp [setL,upL]
 | b::l,[],old=>by simp [setL,upL]
 | b::l,x::r,old=>by simp only [setL,upL,List.map_cons];rw [xZns f l r,List.map_set]
mutual
theorem up_av (f g:Nat→Nat):∀ x:BV T,(x.up f g).av B=(x.av B).up f g
 | .raw x=>by simp only [BV.up,BV.av]
 | .emp=>by simp only [BV.up,BV.av,AV.up]
 | .int k n=>by simp only [BV.up,BV.av,AV.up]
 | .bool b=>by simp only [BV.up,BV.av,AV.up]
 | .str s=>by simp only [BV.up,BV.av,AV.up]
 | .flt k n=>by simp only [BV.up,BV.av,AV.up]
 | .agg cs=>by simp only [BV.up,BV.av,AV.up];rw [xZm3 f g cs]
 | .tup cs=>by simp only [BV.up,BV.av,AV.up];rw [xZm3 f g cs]
 | .sl i l=>by simp only [BV.up,BV.av,AV.up]
 | .own t=>by simp only [BV.up,BV.av,AV.up]
 | .ptr b o=>by simp only [BV.up,BV.av,AV.up]
 | .aptr b o p=>by simp only [BV.up,BV.av,AV.up]
 | .eptr t i n o=>by simp only [BV.up,BV.av,AV.up]
 | .dptr cs=>by simp only [BV.up,BV.av,AV.up]
 | .fn h a b=>by simp only [BV.up,BV.av,AV.up];rw [xZm3 f g a,xZm3 f g b]
 | .ifc t x=>by simp only [BV.up,BV.av,AV.up];rw [up_av f g x]
 | .tr i x=>by simp only [BV.up,BV.av,AV.up]
theorem xZm3 (f g:Nat→Nat):∀ l:List (BV T),BV.avs B (BV.upL f g l)=ups f g (BV.avs B l)
 | []=>by simp only [BV.upL,BV.avs,ups]
 | x::l=>by simp only [BV.upL,BV.avs,ups];rw [up_av f g x,xZm3 f g l]
end
theorem xZuD (Hc:BH T):(upHB rb rt H Hc).av B=upH rb rt (H.av B) (Hc.av B):=by
 have e1:(fun i=>upN rb H.box.length i)=upB rb (H.av B).box.length:=funext fun i=>by rw [xZnx,xZev]
 have e2:(fun i=>upN rt H.buf.length i)=upB rt (H.av B).buf.length:=funext fun i=>by rw [xZnx,buf_len']
 simp only [upHB,upH,BH.av,xZns,List.map_map]
 congr 2
 refine List.map_congr_left fun cs _=>?_
 simp only [Function.comp]
 rw [xZpq,xZm3]
 show ups (fun i=>upN rb H.box.length i) (fun i=>upN rt H.buf.length i) _=_
 rw [e1,e2];rfl
end
end Go.Proofs.YtbioikdfpfafaaaGreatDoor.T
namespace Go.Proofs.YtbioikdfpfafaaaGreatDoor.T
open Go
section
variable {T:Nat→Type} {B:Tb T} {R:Type}
structure Con.Ok (c:Con B) (P:Program) (N:Nat):Prop where
 ent:Enters P c.f
 res:∀ a r,c.sh N a=some r→CRes P c.f (BV.avs B (c.inn a).1) ((c.inn a).2.av B) (aeA ((c.o.enc r).1.av B)) ((c.o.enc r).2.av B)
def CallOk (B:Tb T) (P:Program) (dr:Bool) (f:FuncId) (args:List (BV T)) (H:BH T) (K:BV T→BH T→Option R) (r:R):Prop:=Enters P f∧∃ v H',(CRes P f (BV.avs B args) (H.av B) (aeA (v.av B)) (H'.av B)∧(dr=true→H'.av B=H.av B∧∀ H0,CRes P f (BV.avs B args) H0 (aeA (v.av B)) H0))∧K v H'=some r
theorem xZvo:(⟨[],[]⟩:BH T).av B=.nil:=rfl
variable {P:Program} {N:Nat} {dr:Bool} {args:List (BV T)} {H:BH T} {K:BV T→BH T→Option R} {r:R} {f:FuncId}
theorem xZi5 {c:Con B} {a:c.A} {S:Type} {K:BV T→BH T→Option S} {s:S} (h:((c.sh N a).bind fun r=>c.o.elim r K)=some s):∃ rv,c.sh N a=some rv∧K (c.o.enc rv).1 (c.o.enc rv).2=some s:=by
 obtain ⟨rv,h1,h2⟩:=Option.bind_eq_some_iff.1 h
 rw [c.o.eE] at h2
 exact ⟨rv,h1,h2⟩
theorem xZqU {x:AV} (h:x.scal=true):aeA x=.ret x:=by
 cases x<;>first | rfl | cases h
theorem xZuA {f g:Nat→Nat} {v:BV T}:aeA ((v.up f g).av B)=(match aeA (v.av B) with
 | .ret r=>.ret (r.up f g)
 | .pan r=>.pan (r.up f g)):=by
 rw [up_av]
 generalize v.av B=a
 cases a with
 | ifc t x=>
   simp only [AV.up,aeA]
   cases Nat.ble PM t<;>simp only [AV.up]
 | _=>simp only [AV.up,aeA]
theorem xZrE {x y:AV} (h:LW x y):LWe (aeA x) (aeA y):=by
 cases h with
 | refl=>cases aeA x<;>exact LW.refl _
 | ifc t h=>simp only [aeA];cases Nat.ble PM t<;>exact .ifc _ h
 | emp k=>exact .emp k
 | sl k h=>exact .sl k h
 | agg h=>exact .agg h
 | tup h=>exact .tup h
 | dptr h=>exact .dptr h
 | fn f h h'=>exact .fn f h h'
theorem xZuZ {v:BV T} (h:noPM v=true):aeA (v.av B)=.ret (v.av B):=by
 cases v with
 | ifc t x=>simp only [noPM,Bool.not_eq_true'] at h;simp only [BV.av,aeA,h]
 | raw x=>cases x<;>first | rfl | cases h
 | _=>simp only [BV.av,aeA]
theorem xZg9:∀ {Γ:List (Con B)},(∀ c∈Γ,c.Ok P N)→callS dr args H N K f Γ=some r→CallOk B P dr f args H K r
 | [],_,h=>by cases h
 | c::Γ,hΓ,h=>by
   have ih:callS dr args H N K f Γ=some r→CallOk B P dr f args H K r:=fun h=>xZg9 (fun c hc=>hΓ c (List.mem_cons_of_mem _ hc)) h
   have hc:=hΓ c (List.mem_cons_self ..)
   simp only [callS,callHit] at h
   split at h
   ·exact ih h
   ·rename_i hf
    have hf:=beq_eq hf
    subst hf
    generalize (rch H 1000 (rawArgs c.md args) [] []).1=rb at h
    generalize (rch H 1000 (rawArgs c.md args) [] []).2=rt at h
    split at h
    ·rename_i hpl
     obtain ⟨p1,p2⟩:=c.okp hpl
     split at h
     ·split at h
      ·split at h
       ·rename_i xs hxs
        split at h
        ·rename_i a ha
         obtain ⟨rv,h1,h2⟩:=xZi5 h
         obtain ⟨q1,q2⟩:=c.ok _ _ _ ha
         have hcr:=hc.res a rv h1
         rw [p1 a,p2 rv] at hcr
         have hcr:CRes P c.f (BV.avs B xs) .nil (aeA ((c.o.enc rv).1.av B)) .nil:=CRes.lw hcr q1 (.refl _)
         have hle:=xZem (B:=B) hxs
         have hall:∀ H0:AH,listP (le2 [] [] H0) (BV.avs B args) (BV.avs B xs):=fun H0=>
          xZ79 (fun x y h=>le2_1 (xZn5 (fun u k xs hu=>by simp [xZvo,AH.nil,List.getD] at hu) h.1) h.2) hle
         exact ⟨hc.ent,_,H,⟨hcr.pure (hall _),fun _=>⟨rfl,fun H0=>hcr.pure (hall H0)⟩⟩,h2⟩
        ·exact ih h
       ·exact ih h
      ·split at h
       ·rename_i xs hxs
        split at h
        ·rename_i a ha
         obtain ⟨q1,q2⟩:=c.ok _ _ _ ha
         have base:∀ rv,c.sh N a=some rv→CRes P c.f (BV.avs B xs) .nil (aeA ((c.o.enc rv).1.av B)) .nil:=fun rv h1=>by
          have hcr:=hc.res a rv h1
          rw [p1 a,p2 rv] at hcr
          exact CRes.lw hcr q1 (.refl _)
         have hle:=rnArgs2 (B:=B) hxs
         rw [xZa4] at hle
         split at h
         ·rename_i hts
          obtain ⟨rv,h1,h2⟩:=xZi5 h
          rw [hts] at hle
          exact ⟨hc.ent,_,H,⟨(base rv h1).pure hle,fun h=>by cases h⟩,h2⟩
         ·rename_i hsc _
          obtain ⟨rv,h1,h2⟩:=xZi5 h
          have hs:=c.oks hsc rv
          have hb:=base rv h1
          refine ⟨hc.ent,_,H,⟨?_,fun h=>by cases h⟩,h2⟩
          rw [xZqU hs] at hb ⊢
          exact hb.lend _ hle hs
         ·obtain ⟨rv,h1,h2⟩:=xZi5 h
          refine ⟨hc.ent,_,_,⟨?_,fun h=>by cases h⟩,h2⟩
          rw [xZa4]
          exact (base rv h1).give _ hle
        ·exact ih h
       ·exact ih h
     ·exact ih h
    ·split at h
     ·exact ih h
     ·split at h
      ·rename_i xs hxs
       obtain ⟨Hc,hl,hnt,h⟩:=xZnX (B:=B) h
       split at h
       ·rename_i a ha
        obtain ⟨rv,h1,h2⟩:=xZi5 h
        obtain ⟨q1,q2⟩:=c.ok _ _ _ ha
        have hcr:=(hc.res a rv h1).lw q1 q2
        have hle:=rnArgs2 (B:=B) hxs
        rw [xZa4] at hle hl
        have:=hcr.lift _ rb rt hl hnt hle
        refine ⟨hc.ent,_,_,⟨?_,fun h=>by cases h⟩,h2⟩
        rw [xZuA,xZuD,xZa4]
        have e1:upN rb (frzHB H ((datArgs c.md args).flatMap ownsB)).box.length=upB rb (frzH (H.av B) ((datArgs c.md args).flatMap ownsB)).box.length:=funext fun i=>by rw [xZnx,← xZa4,xZev]
        have e2:upN rt (frzHB H ((datArgs c.md args).flatMap ownsB)).buf.length=upB rt (frzH (H.av B) ((datArgs c.md args).flatMap ownsB)).buf.length:=funext fun i=>by rw [xZnx,← xZa4,buf_len']
        rw [e1,e2]
        exact this
       ·exact ih h
      ·exact ih h
def extFn:EK'→Array Value→Sem Value
 | .ib=>Extern.BytealgIndexByte.indexByte
 | .cs=>Extern.BytealgCount.count
 | .fb=>Extern.MathFloatBits.float64frombits
 | .ne=>Extern.AbiNoEscape.same
def exOk (P:Program):List (FuncId×EK')→Prop
 | []=>True
 | (f,k)::r=>ExtIs P f (extFn k)∧exOk P r
theorem xZpy:∀ {l:List (FuncId×EK')} {f:FuncId} {k:EK'},exOk P l→exOf l f=some k→ExtIs P f (extFn k)
 | [],_,_,_,h=>by cases h
 | (m,z)::l,f,k,hx,h=>by
   simp only [exOf] at h
   split at h
   ·rename_i hm;cases h;rw [← beq_eq hm];exact hx.1
   ·exact xZpy hx.2 h
variable {e:SE T} {t:List AV} {ns:Nat}
theorem xZu8 (hr:RelE B e t ns) {q:EK'} {as:List Od} {K:BV T→Option R} (hx:ExtIs P f (extFn q)) (h:extS q (as.map (bod e)) K=some r):∃ v,(∀ H0,OS P (.call f as) t H0 (.ret (v.av B)) H0)∧K v=some r:=by
 unfold extS at h
 split at h
 ·rename_i s c hm
  obtain ⟨x,as1,rfl,hx1,hm⟩:=List.map_eq_cons_iff.1 hm
  obtain ⟨y,as2,rfl,hx2,hm⟩:=List.map_eq_cons_iff.1 hm
  cases List.map_eq_nil_iff.1 hm
  exact ⟨_,fun H0=>xZcJ hx (by rw [hr.od,hx1];rfl) (by rw [hr.od,hx2];rfl),h⟩
 ·rename_i s c hm
  obtain ⟨x,as1,rfl,hx1,hm⟩:=List.map_eq_cons_iff.1 hm
  obtain ⟨y,as2,rfl,hx2,hm⟩:=List.map_eq_cons_iff.1 hm
  cases List.map_eq_nil_iff.1 hm
  exact ⟨_,fun H0=>xZgY hx (by rw [hr.od,hx1];rfl) (by rw [hr.od,hx2];rfl),h⟩
 ·rename_i n hm
  obtain ⟨x,as1,rfl,hx1,hm⟩:=List.map_eq_cons_iff.1 hm
  cases List.map_eq_nil_iff.1 hm
  exact ⟨_,fun H0=>xZm6 hx (by rw [hr.od,hx1];rfl),h⟩
 ·rename_i y hm
  obtain ⟨x,as1,rfl,hx1,hm⟩:=List.map_eq_cons_iff.1 hm
  cases List.map_eq_nil_iff.1 hm
  exact ⟨_,fun H0=>xZlS hx (by rw [hr.od,hx1]),h⟩
 ·cases h
theorem xZqk {x:Operand} {ty tt:TypeId} {v:AV} {A:AH} {t:List AV} (h1:od t (cOd x)=.ifc tt v):OS P (.raw (.panic x) ty) t A (.pan (.ifc tt v)) A:=by
 intro wr oc hc
 obtain ⟨hop,_⟩:=xZdl hc
 intro M S w a hx hh _ K Q hK
 have e1:=hx x (by rw [hop];simp [Op.operands])
 rw [h1] at e1
 obtain ⟨u,hu,hr⟩:=xZlf e1
 have hk:=hK M S (.iface tt u) w hh (Frm.refl hh) (.ifc _ _ _ hr)
 unfold Oper.wp
 have e2:(execOp a.eval oc).run P w=.halt (.panic (.iface tt u)) w:=by
  simp only [execOp,hop,hu];rfl
 rw [e2]
 exact hk
def mkOk (P:Program) (B:Tb T):List (TypeId×((i:Nat)×T i×Nat))→Prop
 | []=>True
 | (te,⟨i,z,by_⟩)::r=>(∃ ks,cMk P te ks=some (B.eA i z,B.k i,by_))∧mkOk P B r
theorem xZpi:∀ {l:List (TypeId×((i:Nat)×T i×Nat))} {te:TypeId} {i:Nat} {z:T i} {by_:Nat},mkOk P B l→mkOf l te=some ⟨i,z,by_⟩→∃ ks,cMk P te ks=some (B.eA i z,B.k i,by_)
 | [],_,_,_,_,_,h=>by cases h
 | (m,⟨j,z',b'⟩)::l,te,i,z,by_,hx,h=>by
   simp only [mkOf] at h
   split at h
   ·rename_i hm;cases h;rw [← beq_eq hm];exact hx.1
   ·exact xZpi hx.2 h
variable {d:Option Nat} {K:SE T→BH T→Option R}
theorem xZo4 {P:Program} {t:List AV} {H:AH} {r1:AE} {H':AH} {ty ty':TypeId} {n k:Nat} {pp:Array (Nat×Operand)} {ps:List Od} (hc:cOp0 P (true,[]) (oprOf (.buildSlice ty n pp))=some (.bsl k ps)) (h:OS P (.bsl k ps) t H r1 H'):OS P (.raw (.buildSlice ty n pp) ty') t H r1 H':=by
 intro wr oc hc'
 obtain ⟨hop,_⟩:=xZdl hc'
 refine h (true,[]) oc ?_
 have e1:asIs (true,[]) oc=false:=by
  unfold asIs
  split<;>rfl
 unfold cOp
 rw [e1,xZuo (o':=oprOf (.buildSlice ty n pp)) hop,hc]
theorem xZus (hB:B.Ok) {h0:Hint T} (hh:h0.Ok B) (hm:mkOk P B h0.mks) (hbo:∀ i l s,h0.bo i l=some s→B.k i=1∧∃ m:List Int,l.map (B.eA i)=m.map u8V∧s=byS m) (hr:RelE B e t ns) (hd:okD ns d=true) {o:Op} {ty:TypeId} (h:rawS B P h0 e H d o K=some r):StepOk B P dr t H d (.raw o ty) ns K r:=by
 have pure:∀ {v:BV T},(∀ H0,OS P (.raw o ty) t H0 (.ret (v.av B)) H0)→(SO.raw o ty).acts=false→(SO.raw o ty).frames=false→K (putE e d v) H=some r→StepOk B P dr t H d (.raw o ty) ns K r:=fun {v} hos _ hf h=>
  ⟨v.av B,H.av B,putE e d v,H,xZ2l hos rfl hf,hr.put hd v,rfl,h⟩
 have hb:∀ {x:Operand} {v:BV T},bodP e x=v→od t (cOd x)=v.av B:=fun {x v} hx=>by rw [hr.od];exact congrArg (BV.av B) hx
 cases o with
 | call c=>
   obtain ⟨cal,args,ts⟩:=c
   cases cal with
   | builtin b=>
     cases b with
     | max=>
       simp only [rawS] at h
       split at h
       ·rename_i x y ha
        split at h
        ·rename_i k a k' b hx hy
         have:args=#[x,y]:=by rw [← Array.toList_inj,ha]
         subst this
         exact pure (v:=.int k (max a b)) (fun H0=>xZvj (hb hx) (hb hy)) rfl rfl h
        ·cases h
       ·cases h
     | min=>
       simp only [rawS] at h
       split at h
       ·rename_i x y ha
        split at h
        ·rename_i k a k' b hx hy
         have:args=#[x,y]:=by rw [← Array.toList_inj,ha]
         subst this
         exact pure (v:=.int k (min a b)) (fun H0=>xZva (hb hx) (hb hy)) rfl rfl h
        ·cases h
       ·cases h
     | _=>cases h
   | _=>cases h
 | index te x i=>
   simp only [rawS] at h
   split at h
   ·rename_i m k ag cs ik n hc hx hi
    obtain ⟨e',hu,hl⟩:=xZoj hc
    split at h
    ·rename_i j hj
     split at h
     ·rename_i l hk hdm
      have hk:=beq_eq hk
      obtain ⟨el,hel,h⟩:=Option.bind_eq_some_iff.1 h
      obtain ⟨i1,i2,i3⟩:=xZfD hel
      obtain ⟨pre,mid,suf,e1,e2,e3,e4⟩:=xZl5 hB hdm i3
      have hlen:=congrArg List.length e1
      simp only [List.length_append,xZ1E,e2,e3] at hlen
      have hlm:=(xZkk hB hdm).1
      refine pure (v:=mkB ag (B.enc j el)) (fun H0=>?_) rfl rfl h
      rw [mk_av,hB.enc]
      have hos:=xZrT (P:=P) (t:=t) (H:=H0) (te:=te) (ty:=ty) (x:=x) (i:=i) (cs:=BV.avs B cs) (ik:=ik) (n:=n) hu hl ((hb hx).trans (by simp only [BV.av])) ((hb hi).trans (by simp only [BV.av])) i1 (by omega) (by rw [xZ1E,← hk];omega)
      refine hos.lw (mk_lw ag ?_) (LWH.refl _)
      rw [e1,← hk,← e2,List.append_assoc,List.drop_left,List.take_append_of_le_length (by omega),List.take_of_length_le (by omega)]
      exact e4
     ·cases h
    split at h
    ·rename_i hb'
     simp only [Bool.and_eq_true,xZ4g,xZ50,decide_eq_true_eq,Nat.ble_eq] at hb'
     obtain ⟨⟨b1,b2⟩,b3⟩:=hb'
     refine pure (v:=mkB ag ((cs.drop (n.toNat * k)).take k)) (fun H0=>?_) rfl rfl h
     rw [mk_av]
     have e1:BV.avs B ((cs.drop (n.toNat * k)).take k)=((BV.avs B cs).drop (n.toNat * k)).take k:=by simp only [xZ2I,List.map_take,List.map_drop]
     rw [e1]
     exact xZrT (cs:=BV.avs B cs) (ik:=ik) (n:=n) hu hl ((hb hx).trans (by simp only [BV.av])) ((hb hi).trans (by simp only [BV.av])) b1 b2 (by rw [xZ1E];exact b3)
    ·cases h
   ·cases h
 | nilCheck x=>
   simp only [rawS] at h
   split at h
   ·rename_i b o' hx
    exact pure (v:=.ptr b o') (fun H0=>xZuV (hb hx)) rfl rfl h
   ·rename_i u i n o' hx
    exact pure (v:=.eptr u i n o') (fun H0=>xZs6 (hb hx)) rfl rfl h
   ·rename_i cs hx
    exact pure (v:=.dptr cs) (fun H0=>by simp only [BV.av];exact xZu1 ((hb hx).trans (by simp only [BV.av]))) rfl rfl h
   ·cases h
 | binOp op te x y ty'=>
   simp only [rawS] at h
   split at h
   ·rename_i k m k' n ho hx hy
    split at h
    ·rename_i hk
     subst hk
     exact pure (v:=.bool (fcmpB op k' m n)) (fun H0=>xZur ho (hb hx) (hb hy)) rfl rfl h
    ·cases h
   ·cases h
 | typeAssert x xt ad ok=>
   simp only [rawS] at h
   split at h
   ·rename_i z hz
    have hz':(cbv z:BV T).av B=z:=xZtW z
    split at h
    ·rename_i t' v hx
     split at h
     ·rename_i hte
      have hte:=beq_eq hte
      subst hte
      refine pure (v:=.tup [v,.bool true]) (fun H0=>?_) rfl rfl h
      have:=xZo0 (P:=P) (t:=t) (H:=H0) (x:=x) (xt:=xt) (ty:=ty) hz (v:=v.av B) ((hb hx).trans (by simp only [BV.av]))
      simpa only [BV.av,BV.avs] using this
     ·rename_i hte
      refine pure (v:=.tup [cbv z,.bool false]) (fun H0=>?_) rfl rfl h
      have:=xZmw (P:=P) (t:=t) (H:=H0) (x:=x) (xt:=xt) (ty:=ty) hz (v:=v.av B) (T:=t') ((hb hx).trans (by simp only [BV.av])) (by
       cases hbb:(t'==ad) with
       | false=>rfl
       | true=>rw [eq_of_beq hbb] at hte;simp at hte)
      simpa only [BV.av,BV.avs,hz'] using this
    ·rename_i hx
     refine pure (v:=.tup [cbv z,.bool false]) (fun H0=>?_) rfl rfl h
     have:=xZnP (P:=P) (t:=t) (H:=H0) (x:=x) (xt:=xt) (ty:=ty) hz ((hb hx).trans (by simp only [BV.av]))
     simpa only [BV.av,BV.avs,hz'] using this
    ·cases h
   ·cases h
 | convert src dst x=>
   simp only [rawS] at h
   have see:∀ {m:List Int},cCv P src dst=true→isRow (od t (cOd x))=true→(∀ bx,srcV ⟨bx,(H.av B).buf⟩ 1 (od t (cOd x))=some (m.map u8V))→K (putE e d (.str (byS m))) H=some r→StepOk B P dr t H d (.raw (.convert src dst x) ty) ns K r:=fun {m} hc hi hs h=>by
    obtain ⟨el,h1,h2,h3⟩:=xZre hc
    exact ⟨(BV.str (byS m)).av B,H.av B,putE e d (.str (byS m)),H,xZbm rfl (fun bx=>xZvB h1 h3 h2 hi (hs _)),hr.put hd _,rfl,h⟩
   have buf1:∀ {u:Nat} {i:Nat} {l:List (T i)} {s:List UInt8},bodP e x=.own u→(bufA H u=.live i l∨bufA H u=.froz i l)→cCv P src dst=true→h0.bo i l=some s→K (putE e d (.str s)) H=some r→StepOk B P dr t H d (.raw (.convert src dst x) ty) ns K r:=fun {u i l s} hx hu hc hs h=>by
    obtain ⟨hk,m,hm,rfl⟩:=hbo _ _ _ hs
    refine see hc (by rw [hb hx];rfl) (fun bx=>?_) h
    rw [hb hx]
    show srcB 1 ((H.av B).buf.getD u .dead)=_
    have e1:(H.av B).buf.getD u .dead=(bufA H u).av B:=by
     simp only [BH.av,bufA,List.getD,List.getElem?_map]
     cases H.buf[u]?<;>rfl
    rw [e1]
    rcases hu with hu | hu<;>rw [hu]<;>simp only [BB.av,srcB,hk,hm,if_true]
   split at h
   ·rename_i i l hc hx
    split at h
    ·rename_i s hs
     obtain ⟨hk,m,hm,rfl⟩:=hbo _ _ _ hs
     refine see hc (by rw [hb hx];rfl) (fun bx=>?_) h
     rw [hb hx]
     simp only [BV.av,srcV,hk,hm,if_true]
    ·cases h
   ·rename_i u hc hx
    split at h
    ·rename_i i l hu
     split at h
     ·rename_i s hs
      exact buf1 hx (.inl hu) hc hs h
     ·cases h
    ·rename_i i l hu
     split at h
     ·rename_i s hs
      exact buf1 hx (.inr hu) hc hs h
     ·cases h
    ·cases h
   ·rename_i hc hx
    exact see (m:=[]) hc (by rw [hb hx];rfl) (fun bx=>by rw [hb hx];rfl) h
   ·cases h
 | makeSlice te x y=>
   simp only [rawS] at h
   split at h
   ·rename_i i z by_ kl l kc c hmk hx hy
    obtain ⟨ks,hmk⟩:=xZpi hm hmk
    split at h
    ·rename_i hby
     obtain ⟨h1,h⟩:=xZ1q h
     have h1:=xZI.1 h1
     have hx':od t (cOd x)=.v (.int kl l):=hb hx
     have hy':od t (cOd y)=.v (.int kc c):=hb hy
     have hlc:l≤c∧gd (leB ((by_:Int) * c) 281474976710656) (K (putE e d (.own H.buf.length)) ⟨H.box,H.buf++[.live i (List.replicate l.toNat z)]⟩)=some r:=by
      unfold gdN at h
      split at h
      ·rename_i hso
       refine ⟨?_,h⟩
       have hxy:x=y:=by
        unfold sameO at hso
        split at hso
        ·rw [beq_eq hso]
        ·cases hso
       subst hxy
       rw [hx'] at hy'
       simp at hy'
       omega
      ·obtain ⟨h2,h⟩:=xZ1q h
       exact ⟨xZI.1 h2,h⟩
     obtain ⟨h3,h⟩:=xZ1q hlc.2
     have h3:=xZI.1 h3
     have hby:0 < by_:=by simpa using hby
     have h63:c≤9223372036854775807:=by
      have:(1:Int) * c≤(by_:Int) * c:=Int.mul_le_mul_of_nonneg_right (by omega) (by omega)
      omega
     refine ⟨.own (H.av B).buf.length,⟨(H.av B).box,(H.av B).buf++[.live (B.k i) (List.replicate l.toNat (B.eA i z))]⟩,putE e d (.own H.buf.length),_,?_,?_,?_,h⟩
     ·exact ⟨xZry hmk hx' hy' h1 hlc.1 h3 h63,fun _=>⟨fun e=>absurd e (by simp [SO.acts,rawPure]),fun e=>absurd e (by simp [SO.acts,rawPure]),fun e=>absurd e (by simp [SO.acts,rawPure]),fun e=>absurd e (by simp [SO.news]),fun _=>⟨rfl,fun box=>xZry (H:=⟨box,(H.av B).buf⟩) hmk hx' hy' h1 hlc.1 h3 h63⟩⟩⟩
     ·have:=hr.put (B:=B) hd (.own H.buf.length)
      simp only [BV.av] at this
      rw [buf_len'];exact this
     ·simp only [BH.av,List.map_append,List.map_cons,List.map_nil,BB.av,List.map_replicate]
    ·cases h
   ·cases h
 | buildSlice bt n pp=>
   simp only [rawS] at h
   split at h
   ·rename_i k ps hc
    obtain ⟨v,H1,e',H',es,h2,h3,h4⟩:=xZuq hB hh (P:=P) (dr:=false) hr hd h
    exact ⟨v,H1,e',H',⟨xZo4 hc es.1,fun _=>⟨fun e=>absurd e (by simp [SO.acts,rawPure]),fun e=>absurd e (by simp [SO.acts,rawPure]),fun e=>absurd e (by simp [SO.acts,rawPure]),fun e=>absurd e (by simp [SO.news]),fun e=>absurd e (by simp [SO.frames])⟩⟩,h2,h3,h4⟩
   ·cases h
 | _=>cases h
end
end Go.Proofs.YtbioikdfpfafaaaGreatDoor.T
namespace Go.Proofs.YtbioikdfpfafaaaGreatDoor.T
open Go
theorem xZmM {Q:AV→AV→Prop}:∀ {a b:List AV},a.length=b.length→(∀ i,i < b.length→Q (a.getD i .any) (b.getD i .any))→listP Q a b
 | [],[],_,_=>trivial
 | x::a,y::b,hl,h=>⟨by simpa using h 0 (by simp),xZmM (by simpa using hl) fun i hi=>by simpa using h (i+1) (by simpa using hi)⟩
 | [],_::_,hl,_=>by simp at hl
 | _::_,[],hl,_=>by simp at hl
section
variable {T:Nat→Type} {B:Tb T} {R:Type} {r:R}
theorem SE.len (ns:Nat) (e:SE T):(SE.av B ns e).length=ns:=by simp [SE.av]
theorem SE.get {ns:Nat} {e:SE T} {i:Nat} (h:i < ns):(SE.av B ns e).getD i .any=(lk e i).av B:=by
 simp [SE.av,List.getD,h]
theorem xZud {e:SE T} {ks:List Nat} (h:e.map (·.1)=ks) {i:Nat} (hi:i ∉ ks):lk e i=.raw .any:=by
 subst h
 induction e with
 | nil=>rfl
 | cons x e ih=>
   obtain ⟨m,v⟩:=x
   simp only [List.map_cons,List.mem_cons,not_or] at hi
   rw [xZfa,if_neg (fun q=>hi.1 q.symm)]
   exact ih hi.2
theorem RelE.of {e:SE T} {ks:List Nat} {ns:Nat} (h:e.map (·.1)=ks) (hk:ks.all (fun i=>Nat.blt i ns)=true):RelE B e (SE.av B ns e) ns:=by
 refine ⟨SE.len ns e,fun i=>?_⟩
 rcases Nat.lt_or_ge i ns with hi | hi
 ·exact SE.get hi
 ·have:i ∉ ks:=fun hm=>by
   have:=List.all_eq_true.1 hk i hm
   simp at this;omega
  rw [xZud h this]
  simp [List.getD,List.getElem?_eq_none (show (SE.av B ns e).length≤i by rw [SE.len];exact hi),BV.av]
variable {X:Ctx} {k:List SI} {e:SE T} {t:List AV} {ns:Nat} {H:BH T}
theorem xZhW {nt:Nat} (hk:notOps k):∀ {l:List (Nat×Option Nat×Nat)} {e:SE T} {t:List AV} {H:BH T} {K:SE T→BH T→Option R},RelE B e t ns→emS nt l e H K=some r→
 (∀ e' H' t',RelE B e' t' ns→K e' H'=some r→go X k t' (H'.av B))→go X k t (H.av B)
 | [],e,t,H,K,hr,h,hK=>hK e H t hr h
 | (n,none,i)::l,e,t,H,K,hr,h,hK=>by
   simp only [emS] at h
   split at h
   ·rename_i hn
    have hg:=hr.get n
    rw [hn] at hg
    have hlt:n < t.length:=by
     rcases Nat.lt_or_ge n t.length with h' | h'
     ·exact h'
     ·rw [show t.getD n .any=.any by simp [List.getD,List.getElem?_eq_none h']] at hg
      cases hg
    refine xZuY n (B.k i) hk hlt (hg.trans (by simp only [BV.av])) ?_
    have hput:=hr.put (B:=B) (d:=some n) (by simp only [okD];simpa using (by rw [← hr.len];exact hlt:n < ns)) (.own H.buf.length)
    simp only [putE,putT,BV.av] at hput
    have:=xZhW hk (H:=⟨H.box,H.buf++[.live i []]⟩) hput h hK
    rw [buf_len']
    simpa only [BH.av,List.map_append,List.map_cons,List.map_nil,BB.av] using this
   ·exact xZhW hk hr h hK
 | (n,some j,i)::l,e,t,H,K,hr,h,hK=>by
   simp only [emS] at h
   split at h
   ·rename_i b hn
    split at h
    ·rename_i hj
     have hcell:((H.av B).box.getD b []).getD j .any=.emp:=by
      rw [xZln,xZeB,hj];simp only [BV.av]
     have hj':j < ((H.av B).box.getD b []).length:=by
      rcases Nat.lt_or_ge j ((H.av B).box.getD b []).length with h' | h'
      ·exact h'
      ·rw [show ((H.av B).box.getD b []).getD j .any=.any by rw [List.getD,List.getElem?_eq_none h'];rfl] at hcell
       cases hcell
     have hb':b < (H.av B).box.length:=by
      rcases Nat.lt_or_ge b (H.av B).box.length with h' | h'
      ·exact h'
      ·rw [show (H.av B).box.getD b []=[] by rw [List.getD,List.getElem?_eq_none h'];rfl] at hj'
       simp at hj'
     refine xZuj b j (B.k i) hk hb' hj' hcell ?_
     have:=xZhW hk (H:=⟨H.box.set b ((H.box.getD b []).set j (.own H.buf.length)),H.buf++[.live i []]⟩) hr h hK
     have e1:(⟨H.box.set b ((H.box.getD b []).set j (.own H.buf.length)),H.buf++[.live i []]⟩:BH T).av B=⟨(H.av B).box.set b (((H.av B).box.getD b []).set j (.own (H.av B).buf.length)),(H.av B).buf++[.live (B.k i) []]⟩:=by
      rw [xZln,buf_len']
      simp only [BH.av,List.map_append,List.map_cons,List.map_nil,BB.av,List.map_set,xZmn,BV.av]
     rw [e1] at this
     exact this
    ·rename_i u hj
     split at h
     ·rename_i i' xs _ hu
      have hcell:((H.av B).box.getD b []).getD j .any=.own u:=by
       rw [xZln,xZeB,hj];simp only [BV.av]
      have hj':j < ((H.av B).box.getD b []).length:=by
       rcases Nat.lt_or_ge j ((H.av B).box.getD b []).length with h' | h'
       ·exact h'
       ·rw [show ((H.av B).box.getD b []).getD j .any=.any by rw [List.getD,List.getElem?_eq_none h'];rfl] at hcell
        cases hcell
      have hb':b < (H.av B).box.length:=by
       rcases Nat.lt_or_ge b (H.av B).box.length with h' | h'
       ·exact h'
       ·rw [show (H.av B).box.getD b []=[] by rw [List.getD,List.getElem?_eq_none h'];rfl] at hj'
        simp at hj'
      refine xZvt b j u (B.k i') (xs:=xs.map (B.eA i')) hk hb' hj' hcell (by rw [xZ9C,hu];rfl) ?_
      have:=xZhW hk (H:=⟨H.box.set b ((H.box.getD b []).set j (.own H.buf.length)),H.buf.set u .dead++[.live i' xs]⟩) hr h hK
      have e1:(⟨H.box.set b ((H.box.getD b []).set j (.own H.buf.length)),H.buf.set u .dead++[.live i' xs]⟩:BH T).av B=⟨(H.av B).box.set b (((H.av B).box.getD b []).set j (.own (H.av B).buf.length)),(H.av B).buf.set u .dead++[.live (B.k i') (xs.map (B.eA i'))]⟩:=by
       rw [xZln,buf_len']
       simp only [BH.av,List.map_append,List.map_cons,List.map_nil,BB.av,List.map_set,xZmn,BV.av]
      rw [e1] at this
      exact this
     ·exact xZhW hk hr h hK
    ·exact xZhW hk hr h hK
   ·exact xZhW hk hr h hK
theorem xZtf {rb rt:List Nat}:∀ {l:List Nat} {e':SE T},rnE rb rt H e l=some e'→∀ i,le2 rb rt (H.av B) ((lk e i).av B) ((lk e' i).av B)
 | [],e',h,i=>by cases h;simp only [lk,BV.av];exact of_eq_true (xZsy _ _ _ _)
 | n::l,e',h,i=>by
   simp only [rnE] at h
   split at h
   ·rename_i y r' h1 h2
    cases h
    rw [xZfa]
    by_cases hi:n=i
    ·subst hi;rw [if_pos rfl];exact xZvf h1
    ·rw [if_neg hi];exact xZtf h2 i
   ·cases h
theorem xZnA (A:AH):frzH A []=A:=rfl
theorem xZqg {nb nt:Nat} (hnb:X.Hin.box.length=nb) (hnt:X.Hin.buf.length=nt) (hr:RelE B e t ns) (hno:notOps k) {L:Lp B R} {next:Option R}
 (hg:∀ a,L.run a=some r→go X k (SE.av B ns (L.enc a).1) ((L.enc a).2.av B)) (hnx:next=some r→go X k t (H.av B)) (h:loopN nb nt L e H next=some r):go X k t (H.av B):=by
 by_cases hq:next=some r
 ·exact hnx hq
 refine xZhW (k:=k) hno hr h fun e1 H1 t1 hr1 h1=>?_
 generalize (rch H1 2000 (flatP (H1.box.take nb)++L.live.map (lk e1)) (List.range nb) (List.range nt))=p at h1
 obtain ⟨rb,rt⟩:=p
 dsimp only at h1
 split at h1
 ·rename_i e' hk he
  rw [Bool.and_eq_true] at hk
  obtain ⟨H',hl,_,h1⟩:=xZnX (B:=B) h1
  split at h1
  rotate_left
  ·exact absurd h1 hq
  rename_i a ha
  have hrun:=h1
  obtain ⟨q1,q2⟩:=L.ok _ _ _ ha
  refine xZuc [] rb rt (SE.av B ns e') (H'.av B) hno ⟨by rw [hnb];exact hk.1,by rw [hnt];exact hk.2,by rw [xZnA];exact hl,?_⟩ ?_
  ·rw [xZnA]
   refine xZmM (by rw [hr1.len,SE.len]) fun i hi=>?_
   rw [SE.len] at hi
   rw [SE.get hi,hr1.get]
   exact xZtf he i
  ·refine go_lw hno ⟨by rw [SE.len,SE.len],fun i hi=>?_⟩ q2 (hg a hrun)
   rw [SE.len] at hi
   rw [SE.get hi,SE.get hi]
   rcases q1 i with q | q
   ·exact .inl q
   ·rw [q];exact .inr (by simp only [BV.av])
 ·exact absurd h1 hq
theorem xZmT {nb nt:Nat} (hnb:X.Hin.box.length=nb) (hnt:X.Hin.buf.length=nt) (hr:RelE B e t ns) (hno:notOps k):∀ {l:List (Lp B R)},(∀ L∈l,∀ a,L.run a=some r→go X k (SE.av B ns (L.enc a).1) ((L.enc a).2.av B))→loopS nb nt e H l=some r→go X k t (H.av B)
 | [],_,h=>by cases h
 | L::l,hg,h=>xZqg hnb hnt hr hno (hg L (List.mem_cons_self ..)) (fun h'=>xZmT hnb hnt hr hno (fun L' hL=>hg L' (List.mem_cons_of_mem _ hL)) h') h
theorem xZnh (hr:RelE B e t ns):∀ {rs:List Rs} {l:List (BV T)},resS e H rs=some l→∃ p,resV t (H.av B) rs=some (p,BV.avs B l)∧p
 | [],l,h=>by cases h;exact ⟨True,rfl,trivial⟩
 | .t n::rs,l,h=>by
   simp only [resS] at h
   split at h
   ·rename_i l' hl
    cases h
    obtain ⟨p,h1,h2⟩:=xZnh hr hl
    refine ⟨p,?_,h2⟩
    simp only [resV,h1,Option.map_some,BV.avs,hr.get]
   ·cases h
 | .cell n sz ag::rs,l,h=>by
   simp only [resS] at h
   split at h
   ·rename_i b o hn
    split at h
    ·rename_i cs l' hcs hl
     split at h
     ·rename_i hle
      cases h
      obtain ⟨p,h1,h2⟩:=xZnh hr hl
      refine ⟨o+sz≤(BV.avs B cs).length∧p,?_,by rw [xZ1E];simpa using hle,h2⟩
      have hg:=hr.get n
      rw [hn] at hg
      simp only [BV.av] at hg
      simp only [resV,hg,h1,Option.map_some,xZdb hcs,BV.avs,mk_av,xZbE,xZ9l]
     ·cases h
    ·cases h
   ·cases h
theorem xZvs (l:List (BV T)):(tupS l).av B=tupV (BV.avs B l):=by
 match l with
 | []=>simp only [tupS,BV.av,BV.avs,tupV]
 | [x]=>simp only [tupS,BV.avs,tupV]
 | x::y::l=>simp only [tupS,BV.av,BV.avs,tupV]
def PostW (Hin:AH) (e:AE) (H':AH) (r:AE) (H:AH):Prop:=∃ e1 H1,PostQ Hin e1 H1 r H∧LWe e1 e∧LWH H1 H'
theorem xZpD {Hin:AH} {nb nt:Nat} (hnb:Hin.box.length=nb) (hnt:Hin.buf.length=nt) {q:Rt B R} {l:List (BV T)} (h:retS nb nt q l H=some r):
 ∃ e1 H1,PostQ0 Hin e1 H1 (.ret (tupV (BV.avs B l))) (H.av B)∧LWe e1 (aeA ((q.o.enc r).1.av B))∧LWH H1 ((q.o.enc r).2.av B):=by
 simp only [retS] at h
 generalize (rch (frzHB H ((datArgs q.md l).flatMap ownsB)) 2000 (flatP ((frzHB H ((datArgs q.md l).flatMap ownsB)).box.take nb)++rawArgs q.md l) (List.range nb) (List.range nt))=p at h
 obtain ⟨rb,rt⟩:=p
 dsimp only at h
 split at h
 ·rename_i xs hk hxs
  rw [Bool.and_eq_true] at hk
  split at h
  rotate_left
  ·cases h
  rename_i hno
  obtain ⟨H',hl,_,h⟩:=xZnX (B:=B) h
  obtain ⟨q1,q2⟩:=q.o.ok _ _ _ h
  have hle:=xZem (B:=B) hxs
  rw [xZa4] at hle hl
  have q3:=xZrE q1
  rw [xZuZ hno] at q3
  refine ⟨.ret ((tupS xs).av B),H'.av B,⟨_,rb,rt,by rw [hnb];exact hk.1,by rw [hnt];exact hk.2,hl,?_⟩,q3,q2⟩
  simp only [leE]
  rw [xZvs]
  generalize BV.avs B l=a at hle
  generalize BV.avs B xs=b at hle
  match a,b,hle with
  | [],[],_=>trivial
  | [x],[y],hle=>exact le2_1 hle.1.1 hle.1.2
  | x::x'::a,y::y'::b,hle=>exact xZ79 (fun _ _ h=>h.1) hle
 ·cases h
theorem xZrz {Hin:AH} {nb nt:Nat} (hnb:Hin.box.length=nb) (hnt:Hin.buf.length=nt) {q:Rt B R} {l:List (BV T)} (h:retE nb nt q l H=some r):
 PostW Hin (aeA ((q.o.enc r).1.av B)) ((q.o.enc r).2.av B) (.ret (tupV (BV.avs B l))) (H.av B):=by
 unfold retE at h
 split at h
 ·rename_i i hi
  obtain ⟨e1,H1,h1,h2,h3⟩:=xZpD hnb hnt h
  refine ⟨e1,H1,.inr ⟨by simp only [BV.avs,tupV,BV.av],B.k i,?_⟩,h2,h3⟩
  simp only [BV.avs,tupV,BV.av] at h1
  rw [buf_len']
  simpa only [BH.av,List.map_append,List.map_cons,List.map_nil,BB.av] using h1
 ·obtain ⟨e1,H1,h1,h2,h3⟩:=xZpD hnb hnt h
  exact ⟨e1,H1,.inl h1,h2,h3⟩
theorem xZrq {Hin:AH} {nb nt:Nat} (hnb:Hin.box.length=nb) (hnt:Hin.buf.length=nt) {q:Rt B R} {t:Nat} {x:BV T} (h:retP nb nt q t x H=some r):
 PostW Hin (aeA ((q.o.enc r).1.av B)) ((q.o.enc r).2.av B) (.pan (.ifc t (x.av B))) (H.av B):=by
 simp only [retP] at h
 generalize (rch H 2000 (flatP (H.box.take nb)++[x]) (List.range nb) (List.range nt))=p at h
 obtain ⟨rb,rt⟩:=p
 dsimp only at h
 split at h
 ·rename_i y hk hy
  rw [Bool.and_eq_true] at hk
  obtain ⟨H',hl,_,h⟩:=xZnX (B:=B) h
  obtain ⟨q1,q2⟩:=q.o.ok _ _ _ h
  have q3:=xZrE q1
  have e1:aeA ((BV.ifc (PM+t) y).av B)=.pan (.ifc t (y.av B)):=by
   simp only [BV.av,aeA]
   rw [show Nat.ble PM (PM+t)=true from Nat.ble_eq_true_of_le (Nat.le_add_right _ _),Nat.add_sub_cancel_left]
  rw [e1] at q3
  have hle:leE rb rt (frzH (H.av B) []) (.pan (.ifc t (x.av B))) (.pan (.ifc t (y.av B))):=⟨rfl,xZtt hy⟩
  exact ⟨.pan (.ifc t (y.av B)),H'.av B,.inl ⟨[],rb,rt,by rw [hnb];exact hk.1,by rw [hnt];exact hk.2,hl,hle⟩,q3,q2⟩
 ·cases h
theorem xZq6 {P:Program} {f:FuncId} {fn:Func} {c:Code} {wr:Bool} {sc:SC} {res:List Rs} {args:List AV} {Hin:AH} {e:AE} {H':AH} (nt:Nat) (hf:P.funcs[f]?=some fn) (hb:fn.body=some c) (hc:comp P wr c=some sc)
 (hr:cRes P fn.results.toList=some res) (hm:P.follows .mixedOrders=true) (hnt:fn.ntmps=nt) (h:go ⟨P,f,fn,res,Hin,fun _=>PostW Hin e H',[]⟩ [.c sc] (args++List.replicate (nt - args.length) .any) Hin):CRes P f args Hin e H':=by
 intro M S w vs hh hp hs hall
 intro cs
 let b:Frame:={ (default:Frame) with fn:=f,kind:=.normal }
 have henter:Frame.enter P f vs .normal=b.at { tmps:=vs++Array.replicate (fn.ntmps - vs.size) undef,defers:=[] } [.code c]:=by
  simp [Frame.enter,Frame.at,hf,hb,b]
 rw [henter]
 have ht:RelT M S w (args++List.replicate (nt - args.length) .any) (vs++Array.replicate (fn.ntmps - vs.size) undef):=by
  refine ⟨by simp [hs,hnt],fun i hi=>?_⟩
  rw [xZ1X,agetD,Array.getElem?_append]
  by_cases hlt:i < args.length
  ·rw [if_pos hlt,if_pos (by rw [hs];exact hlt),← agetD];exact hall i hlt
  ·rw [if_neg hlt]
   have:(List.replicate (nt - args.length) AV.any).getD (i - args.length) .any=.any:=by simp [List.getD,List.getElem?_replicate];split<;>rfl
   rw [this];exact .data (.any _)
 obtain ⟨en,w',fr,⟨_,r,H1,M1,S1,hq,_,hend,hh1,hf1⟩,hcm,hfn,hlv⟩:=xZcW h ⟨hf,hr,hm⟩ M S w hp M S ⟨vs++Array.replicate (fn.ntmps - vs.size) undef,[]⟩ w [.code c] (.code wr hc .nil) (Frm.refl hh) ht hh rfl b rfl rfl cs
 refine ⟨en,w',fr,?_,hcm,hfn,xZfR hlv⟩
 obtain ⟨e2,H2,hq,hl1,hl2⟩:=hq
 have key:(∃ M' S',EndRep M' S' w' en e2∧RelH M' S' H2 w'∧Frm M S Hin w M' S' H2 w'):=by
  rcases hq with hq | ⟨rfl,m,hq⟩
  ·exact xZgb hq hend hh1 hf1
  ·cases en with
   | returned v=>
     obtain ⟨h1,h2,h3⟩:=xZcd hh1 (xZl6 hend) m
     exact xZgb hq (en:=.returned v) h3 h1 (hf1.trans h2)
   | panicked ch=>exact hend.elim
   | outgrown=>exact hend.elim
 obtain ⟨M',S',k1,k2,k3⟩:=key
 exact ⟨M',S',xZop k1 hl1,k2.lw hl2,k3.lwR hl2⟩
end
end Go.Proofs.YtbioikdfpfafaaaGreatDoor.T
namespace Go.Proofs.YtbioikdfpfafaaaGreatDoor.T
open Go
structure Idle (P:Program) (fc:FuncId) (n:Nat):Prop where
 ent:Enters P fc
 run:∀ caps:Array Value,caps.size=n→(∀ i,i < n→∃ p,caps.getD i undef=.pointer (some p))→∀ w,CallsD P fc caps .returning w fun e u' w'=>(∃ v,e=.returned v)∧u'=.returning∧Grew w w'
theorem xZjB {l:List SL} {d:Nat} {f:FuncId} {cs:List Od} (h:deferOf l=some (d,f,cs)):∃ ty,l=[.op (some d) (.fnv (.func f) [] cs),.op none (.raw (.defer ⟨.value (.tmp d),#[],#[]⟩) ty)]:=by
 unfold deferOf at h
 split at h
 ·rename_i d e f cs args ts ty
  split at h
  ·rename_i h1 h2 h3
   cases h
   have h1:=Nat.eq_of_beq_eq_true h1
   subst h1
   obtain ⟨args⟩:=args
   obtain ⟨ts⟩:=ts
   cases h2
   cases h3
   exact ⟨ty,rfl⟩
  ·cases h
 ·cases h
theorem xZrZ {P:Program} {ds:List Deferred} {b:Frame} {k:List Item} {a:Act} {w:World} {R:Array Value→Ending→World→Prop} {ops:Array Oper} {id:Nat} {a':Act} {w':World}
 (h:wpOps P ops (fun e a2 w2=>e=.normal∧a2=a'∧w2=w') (List.range ops.size) a w) (hf:Fin' P ds b k a' w' R):Fin' P ds b (.code (.region id ops false)::k) a w R:=
 Fin'.step (fun cs=>step_region) (fun cs=>by
  obtain ⟨e,a2,w2,⟨rfl,rfl,rfl⟩,har⟩:=wp_ops _ a w h b k cs
  obtain ⟨e,w',fr,r,c,x⟩:=hf cs
  exact ⟨e,w',fr,r,c.of_steps har,x⟩)
theorem xZqa {P:Program} {b:Frame} {items:List Item} {a:Act} {w:World} {R R':Array Value→Ending→World→Prop} {fc:FuncId} {n:Nat} {caps:Array Value} {fn:Func} (hbf:P.funcs[b.fn]?=some fn) (hi:Idle P fc n) (hn:caps.size=n)
 (hp:∀ i,i < n→∃ p,caps.getD i undef=.pointer (some p)) (h:Fin' P [⟨.fn (.func fc) caps,#[]⟩] b items a w R)
 (hR:∀ tm e w1 w2,R tm e w1→Grew w1 w2→∃ v,e=.returned v∧∃ v',(results fn tm).run P w2=.ok v' w2∧R' tm (.returned v') w2):Fin' P [] b items a w R':=by
 intro cs
 obtain ⟨e,w1,fr,hr,hc,hf,hl⟩:=h cs
 obtain ⟨v,rfl,_⟩:=hR _ _ _ _ hr (.refl w1)
 obtain ⟨hm,hd,hk,fn',hf',_⟩:=hl
 rw [hf,hbf] at hf'
 cases hf'
 have h1:=step_defer (P:=P) (cs:=cs) (w:=w1) (f:=fc) (args:=caps) (by rw [hm];simp) hd rfl (by simp only [invoke,Array.empty_append];exact xZ8V hi.ent _ w1)
 obtain ⟨e2,u',w2,frX,⟨⟨v2,rfl⟩,rfl,hg⟩,hsteps,hkX,hgo⟩:=hi.run caps hn hp w1 { fr with defers:=[] } cs hm
 have h2:=step_going_returned (c:={ { fr with defers:=[] } with mode:=.returning }) (cs:=cs) hkX hgo
 obtain ⟨_,_,v',hr1,hr2⟩:=hR _ _ _ _ hr hg
 exact ⟨.returned v',w2,{ fr with defers:=[],mode:=settle .returning },hr2,Comes.of_steps hc (.head h1 (Steps.trans hsteps (.one (by rw [h2])))),hf,⟨rfl,rfl,hk,fn,by rw [← hbf,← hf],hr1⟩⟩
theorem xZoP {X:Ctx} {k:List SI} {t:List AV} {H:AH} {l:List SL} {d:Nat} {fc:FuncId} {cs:List Od} (hl:deferOf l=some (d,fc,cs)) (hX:X.dfs=[]) (hd:d < t.length)
 (hcs:∀ c∈cs,∃ b,od t c=.ptr b 0) (hi:Idle X.P fc cs.length) {Q':List AV→AE→AH→Prop}
 (h:∀ D:Deferred,AGo { X with Q:=Q',dfs:=[D] } k (putT t (some d) .any) H)
 (hQ:∀ t a H,Q' t a H→X.Q t a H∧∃ p l,resV t H X.res=some (p,l)∧p∧a=.ret (tupV l)):AGo X (.c (.ops false l)::k) t H:=by
 intro hok M0 S0 w0 hp0 M S a w items hr hf ht hh hdf b hb hbk
 obtain ⟨ty,rfl⟩:=xZjB hl
 cases hr with
 | code wr hc r=>
   obtain ⟨id,ops,rfl⟩:=xZmK hc
   obtain ⟨fl,hfl,_,_,hg⟩:=xZcQ hc
   have hfl':fl=[⟨none,some d,.fnv (.func fc) [] cs⟩,⟨none,none,.raw (.defer ⟨.value (.tmp d),#[],#[]⟩) ty⟩]:=by
    rw [← xZbV fl,← hg];rfl
   subst hfl'
   obtain ⟨hlen,hget⟩:=xZ8F hfl
   obtain ⟨o1,o2,hops⟩:∃ o1 o2,ops.toList=[o1,o2]:=by
    have hlen:ops.toList.length=2:=hlen.symm
    rcases hq:ops.toList with _ | ⟨o1,_ | ⟨o2,_ | ⟨o3,l⟩⟩⟩<;>rw [hq] at hlen
    ·cases hlen
    ·cases hlen
    ·exact ⟨o1,o2,rfl⟩
    ·simp at hlen
   rw [hops] at hget
   obtain ⟨y1,e1,c1⟩:=hget 0 o1 rfl
   obtain ⟨y2,e2,c2⟩:=hget 1 o2 rfl
   cases e1
   cases e2
   obtain ⟨g1,p1,d1,_⟩:=xZ8X c1
   obtain ⟨g2,p2,d2,_⟩:=xZ8X c2
   have ng:∀ {g:Option (Nat×Bool)},cGuard ops g=some none→g=none:=fun {g} h=>by
    cases g with
    | none=>rfl
    | some p=>
      unfold cGuard at h
      split at h
      ·rename_i e;cases e
      ·split at h<;>simp at h
   have g1:=ng g1
   have g2:=ng g2
   obtain ⟨x,y,hx,hy,q1⟩:=xZp7 p1
   obtain ⟨q2,_⟩:=xZdl p2
   obtain rfl:x=#[]:=by
    obtain ⟨l⟩:=x
    cases l with
    | nil=>rfl
    | cons _ _=>cases hx
   have hs:ops.size=2:=by rw [← Array.length_toList,hops];rfl
   have e0:ops[0]?=some o1:=by rw [← Array.getElem?_toList,hops];rfl
   have e1:ops[1]?=some o2:=by rw [← Array.getElem?_toList,hops];rfl
   have hd':d < a.tmps.size:=by rw [ht.1];exact hd
   have hn:(y.map a.eval).size=cs.length:=by rw [hy];simp
   have hpt:∀ i,i < cs.length→∃ p,(y.map a.eval).getD i undef=.pointer (some p):=fun i hi=>by
    have hi':i < y.size:=by rw [hy] at hi;simpa using hi
    obtain ⟨bb,hbb⟩:=hcs (cOd y[i]) (by rw [hy];exact List.mem_map.2 ⟨y[i],by simp,rfl⟩)
    have hr:=xZ9Z ht rfl y[i]
    rw [hbb] at hr
    generalize hv:a.eval y[i]=v at hr
    have e:(y.map a.eval).getD i undef=a.eval y[i]:=by simp [Array.getD,hi']
    rw [e,hv]
    cases hr with
    | data h=>cases h
    | ptr _ _ _=>exact ⟨_,rfl⟩
   refine xZrZ (a':=⟨a.tmps.setIfInBounds d (.func (.func fc) #[] (y.map a.eval)),[⟨.fn (.func fc) (y.map a.eval),#[]⟩]⟩) (w':=w) ?_ ?_
   ·rw [hs]
    show wpOps X.P ops _ [0,1] a w
    have d1':o1.dst=some d:=d1.symm
    have d2':o2.dst=none:=d2.symm
    simp only [wpOps,e0,e1,Region.wanted,g1,g2,if_true]
    refine .inl ?_
    unfold Oper.wp
    rw [show (execOp a.eval o1).run X.P w=.ok (.value (.func (.func fc) #[] (y.map a.eval))) w by simp [execOp,q1,Instr.makeFunc]]
    rw [Oper.upon_value,d1']
    refine .inl ?_
    have e2:(execOp (a.put (some d) (.func (.func fc) #[] (y.map a.eval))).eval o2).run X.P w=.ok (.defer ⟨.fn (.func fc) (y.map a.eval),#[]⟩) w:=by
     have:(a.put (some d) (.func (.func fc) #[] (y.map a.eval))).eval (.tmp d)=.func (.func fc) #[] (y.map a.eval):=by simp [Act.put,Act.eval,Array.getD,hd']
     simp [execOp,q2,resolve,this,Deferred.ofValue]
    rw [e2,Oper.upon_defer,d2']
    simp [wpOps,Act.put,hdf,hX]
   ·have ht':=RelT.put (a:=a) ht (some d) (v:=.func (.func fc) #[] (y.map a.eval)) (.data (.any _))
    rw [hX]
    refine xZqa (fn:=X.fn) (by rw [hb];exact hok.fn) hi hn hpt (h ⟨.fn (.func fc) (y.map a.eval),#[]⟩ ⟨hok.fn,hok.res,hok.mix⟩ M0 S0 w0 hp0 M S ⟨a.tmps.setIfInBounds d (.func (.func fc) #[] (y.map a.eval)),[⟨.fn (.func fc) (y.map a.eval),#[]⟩]⟩ w _ r hf ht' hh rfl b hb hbk) ?_
    rintro tm e w1 w2 ⟨t1,r1,H1,M1,S1,hq,hrel,hend,hh1,hf1⟩ hg
    obtain ⟨hq,p,l,hres,hp,rfl⟩:=hQ _ _ _ hq
    have hfg:=Frm.grew hh1 hg
    cases e with
    | returned v=>
      obtain ⟨v',hrun,hv⟩:=xZpd hok.res (hrel.mono hfg) (hh1.grew hg) hres hp
      exact ⟨v,rfl,v',hrun,t1,_,H1,M1,S1,hq,hrel.mono hfg,hv,hh1.grew hg,hf1.trans hfg⟩
    | panicked ch=>exact hend.elim
    | outgrown=>exact hend.elim
end Go.Proofs.YtbioikdfpfafaaaGreatDoor.T
namespace Go.Proofs.YtbioikdfpfafaaaGreatDoor.T
open Go
def Stk (ms:List Nat) (S:Nat→List SI):SC→List SI→Prop
 | .seq a b,k=>Stk ms S a (.c b::k)∧Stk ms S b k
 | .cond x a b,k=>(∀ i,isJn ms (.cond x a b)=some i→S i=.c (.cond x a b)::k)∧Stk ms S a k∧Stk ms S b k
 | .block i a,k=>Stk ms S a (.blk i::k)
 | .loop b,k=>(∀ id k',k=.blk id::k'→S id=.lp b::k)∧Stk ms S b (.lp b::k)
 | .scope a,k=>Stk ms S a (.scp::k)
 | .ops d l,k=>∀ i,isJn ms (.ops d l)=some i→S i=.c (.ops d l)::k
 | _,_=>True
def StkT (ms:List Nat) (S:Nat→List SI):List SI→Prop
 | []=>True
 | x::k=>(match x with
   | .c c=>Stk ms S c k
   | .lp b=>(∀ id k',k=.blk id::k'→S id=.lp b::k)∧Stk ms S b (.lp b::k)
   | _=>True)∧StkT ms S k
theorem xZld {ms:List Nat} {c:SC} {k:List SI} {r:List (Nat×List SI)} {p:Nat×List SI} (h:p∈r):p∈jn1 ms c k r:=by
 unfold jn1;split
 ·exact h
 ·exact List.mem_cons_of_mem _ h
theorem xZmD {ms:List Nat} {c:SC} {k:List SI} {r:List (Nat×List SI)} {i:Nat} (h:isJn ms c=some i):(i,.c c::k)∈jn1 ms c k r:=by
 unfold jn1;rw [h];exact List.mem_cons_self ..
theorem xZlj {ms:List Nat} {c:SC} {k:List SI} {r:List (Nat×List SI)} {p:Nat×List SI} (h:p∈jn1 ms c k r):(∃ i,isJn ms c=some i∧p=(i,.c c::k))∨p∈r:=by
 unfold jn1 at h;split at h
 ·exact .inr h
 ·rename_i i hi
  rcases List.mem_cons.1 h with rfl | h
  ·exact .inl ⟨i,hi,rfl⟩
  ·exact .inr h
theorem xZdM {ms:List Nat} {S:Nat→List SI}:∀ (c:SC) (k:List SI),(∀ p∈lpL c k,S p.1=p.2)→(∀ p∈jpL ms c k,S p.1=p.2)→Stk ms S c k
 | .seq a b,k,h,j=>⟨xZdM a _ (fun p hp=>h p (List.mem_append_left _ hp)) fun p hp=>j p (List.mem_append_left _ hp),xZdM b _ (fun p hp=>h p (List.mem_append_right _ hp)) fun p hp=>j p (List.mem_append_right _ hp)⟩
 | .cond x a b,k,h,j=>⟨fun i hi=>j (i,_) (xZmD hi),xZdM a _ (fun p hp=>h p (List.mem_append_left _ hp)) fun p hp=>j p (xZld (List.mem_append_left _ hp)),xZdM b _ (fun p hp=>h p (List.mem_append_right _ hp)) fun p hp=>j p (xZld (List.mem_append_right _ hp))⟩
 | .block i a,k,h,j=>xZdM a _ h j
 | .scope a,k,h,j=>xZdM a _ h j
 | .loop b,k,h,j=>by
   refine ⟨fun id k' hk=>?_,xZdM b _ (fun p hp=>?_) j⟩
   ·subst hk;exact h (id,_) (List.mem_cons_self ..)
   ·refine h p ?_
    simp only [lpL]
    split
    ·exact List.mem_cons_of_mem _ hp
    ·exact hp
 | .skip,_,_,_=>trivial
 | .ops _ _,_,_,j=>fun i hi=>j (i,_) (xZmD hi)
 | .priv _ _,_,_,_=>trivial
 | .alts _ _,_,_,_=>trivial
 | .exit _,_,_,_=>trivial
 | .ret,_,_,_=>trivial
 | .bad,_,_,_=>trivial
theorem xZds {ms:List Nat} {S:Nat→List SI}:∀ (c:SC) (k:List SI),(∀ p∈lpL c k,S p.1=p.2)→(∀ p∈jpL ms c k,S p.1=p.2)→StkT ms S k→∀ p,p∈lpL c k∨p∈jpL ms c k→StkT ms S p.2
 | .seq a b,k,h,j,hk,p,hp=>by
   have ha:∀ p∈lpL a (.c b::k),S p.1=p.2:=fun p hp=>h p (List.mem_append_left _ hp)
   have hb:∀ p∈lpL b k,S p.1=p.2:=fun p hp=>h p (List.mem_append_right _ hp)
   have ja:∀ p∈jpL ms a (.c b::k),S p.1=p.2:=fun p hp=>j p (List.mem_append_left _ hp)
   have jb:∀ p∈jpL ms b k,S p.1=p.2:=fun p hp=>j p (List.mem_append_right _ hp)
   have h1:=xZds a (.c b::k) ha ja ⟨xZdM b k hb jb,hk⟩ p
   have h2:=xZds b k hb jb hk p
   rcases hp with hp | hp
   ·rcases List.mem_append.1 hp with hp | hp
    ·exact h1 (.inl hp)
    ·exact h2 (.inl hp)
   ·rcases List.mem_append.1 hp with hp | hp
    ·exact h1 (.inr hp)
    ·exact h2 (.inr hp)
 | .cond x a b,k,h,j,hk,p,hp=>by
   have h1:=xZds a k (fun p hp=>h p (List.mem_append_left _ hp)) (fun p hp=>j p (xZld (List.mem_append_left _ hp))) hk p
   have h2:=xZds b k (fun p hp=>h p (List.mem_append_right _ hp)) (fun p hp=>j p (xZld (List.mem_append_right _ hp))) hk p
   rcases hp with hp | hp
   ·rcases List.mem_append.1 hp with hp' | hp'
    ·exact h1 (.inl hp')
    ·exact h2 (.inl hp')
   ·rcases xZlj hp with ⟨i,hi,rfl⟩ | hp
    ·exact ⟨xZdM (.cond x a b) k h j,hk⟩
    ·rcases List.mem_append.1 hp with hp' | hp'
     ·exact h1 (.inr hp')
     ·exact h2 (.inr hp')
 | .block i a,k,h,j,hk,p,hp=>xZds a _ h j ⟨trivial,hk⟩ p hp
 | .scope a,k,h,j,hk,p,hp=>xZds a _ h j ⟨trivial,hk⟩ p hp
 | .loop b,k,h,j,hk,p,hp=>by
   have hs:=xZdM (.loop b) k h j
   have hT:StkT ms S (.lp b::k):=⟨⟨hs.1,hs.2⟩,hk⟩
   have hsub:∀ p∈lpL b (.lp b::k),p∈lpL (.loop b) k:=fun p hp=>by
    simp only [lpL]
    split
    ·exact List.mem_cons_of_mem _ hp
    ·exact hp
   have h1:=xZds b (.lp b::k) (fun p hp=>h p (hsub p hp)) j hT p
   rcases hp with hp | hp
   ·simp only [lpL] at hp
    split at hp
    ·rcases List.mem_cons.1 hp with rfl | hp
     ·exact hT
     ·exact h1 (.inl hp)
    ·exact h1 (.inl hp)
   ·exact h1 (.inr hp)
 | .skip,_,_,_,_,_,hp=>by rcases hp with hp | hp<;>cases hp
 | .ops d l,k,h,j,hk,p,hp=>by
   rcases hp with hp | hp
   ·cases hp
   ·rcases xZlj hp with ⟨i,hi,rfl⟩ | hp
    ·exact ⟨xZdM (.ops d l) k h j,hk⟩
    ·cases hp
 | .priv _ _,_,_,_,_,_,hp=>by rcases hp with hp | hp<;>cases hp
 | .alts _ _,_,_,_,_,_,hp=>by rcases hp with hp | hp<;>cases hp
 | .exit _,_,_,_,_,_,hp=>by rcases hp with hp | hp<;>cases hp
 | .ret,_,_,_,_,_,hp=>by rcases hp with hp | hp<;>cases hp
 | .bad,_,_,_,_,_,hp=>by rcases hp with hp | hp<;>cases hp
theorem xZnJ:∀ {l:List (Nat×List SI)},nodup (l.map (·.1))=true→∀ p∈l,lkp l p.1=p.2
 | [],_,p,hp=>by cases hp
 | (m,s)::l,h,p,hp=>by
   simp only [List.map_cons,nodup,Bool.and_eq_true,Bool.not_eq_true',List.contains_eq_mem,decide_eq_false_iff_not] at h
   simp only [lkp]
   rcases List.mem_cons.1 hp with rfl | hp
   ·simp
   ·have hne:Nat.beq m p.1=false:=by
     cases hb:Nat.beq m p.1 with
     | false=>rfl
     | true=>exact absurd (List.mem_map.2 ⟨p,hp,(beq_eq hb).symm⟩) h.1
    rw [hne]
    exact xZnJ h.2 p hp
theorem xZpJ:∀ {l:List (Nat×List SI)} {n:Nat},lkp l n=[]∨(n,lkp l n)∈l
 | [],_=>.inl rfl
 | (m,s)::l,n=>by
   simp only [lkp]
   split
   ·rename_i h;rw [beq_eq h];exact .inr (List.mem_cons_self ..)
   ·rcases xZpJ (l:=l) (n:=n) with h | h
    ·exact .inl h
    ·exact .inr (List.mem_cons_of_mem _ h)
theorem xZr3 (c:SC):isJn [] c=none:=rfl
theorem xZdj:∀ (c:SC) (k:List SI),jpL [] c k=[]
 | .seq a b,k=>by simp only [jpL,xZdj a,xZdj b,List.append_nil]
 | .cond x a b,k=>by simp only [jpL,jn1,xZr3,xZdj a,xZdj b,List.append_nil]
 | .block i a,k=>xZdj a _
 | .scope a,k=>xZdj a _
 | .loop b,k=>xZdj b _
 | .skip,_=>rfl
 | .ops _ _,_=>rfl
 | .priv _ _,_=>rfl
 | .alts _ _,_=>rfl
 | .exit _,_=>rfl
 | .ret,_=>rfl
 | .bad,_=>rfl
theorem xZeH {ms:List Nat} {c:SC} {p:Nat×List SI}:p∈allL ms c ↔ p∈lpL c []∨p∈jpL ms c []:=by
 cases ms with
 | nil=>rw [xZdj];simp [allL]
 | cons m ms=>simp only [allL,List.mem_append]
def idsOk (ms:List Nat) (c:SC):Bool:=nodupN ((allL ms c).map (·.1))
theorem xZqq {ms:List Nat} {c:SC} (h:idsOk ms c=true):StkT ms (stkO ms c) [.c c]:=by
 unfold idsOk at h
 rw [xZcu] at h
 exact ⟨xZdM c [] (fun p hp=>xZnJ h p (xZeH.2 (.inl hp))) (fun p hp=>xZnJ h p (xZeH.2 (.inr hp))),trivial⟩
theorem stk_O {ms:List Nat} {c:SC} (h:idsOk ms c=true) (id:Nat):StkT ms (stkO ms c) (stkO ms c id):=by
 unfold idsOk at h
 rw [xZcu] at h
 rcases xZpJ (l:=allL ms c) (n:=id) with h' | h'
 ·rw [stkO,h'];trivial
 ·exact xZds c [] (fun p hp=>xZnJ h p (xZeH.2 (.inl hp))) (fun p hp=>xZnJ h p (xZeH.2 (.inr hp))) trivial _ (xZeH.1 h')
theorem xZmL {ms:List Nat} {c:SC} (h:idsOk ms c=true) (id:Nat):StkT ms (stkO ms c) (stk ms c id):=by
 have hT:=stk_O h id
 unfold stk
 split
 ·rename_i b k hk
  rw [hk] at hT
  exact ⟨hT.1.2,hT⟩
 ·exact hT
theorem xZuh {X:Ctx} {ms:List Nat} {c:SC} {id:Nat} {t:List AV} {H:AH} (h:go X (stk ms c id) t H):go X (stkO ms c id) t H:=by
 unfold stk at h
 split at h
 ·rename_i b k hk;rw [hk];exact go_lp h
 ·exact h
theorem xZh3 {ms:List Nat} {S:Nat→List SI} {id:Nat}:∀ {k k':List SI},exitS id k=some k'→StkT ms S k→StkT ms S k'
 | [],k',h,_=>by cases h
 | x::k,k',h,hk=>by
   cases x with
   | blk i=>
     simp only [exitS] at h
     split at h
     ·cases h;exact hk.2
     ·exact xZh3 h hk.2
   | _=>exact xZh3 (by simpa only [exitS] using h) hk.2
section
variable {T:Nat→Type} {B:Tb T} {R:Type} {r:R}
theorem xZei {ns:Nat}:∀ {l:List SP} {e:SE T} {t:List AV},RelE B e t ns→l.all (fun s=>okD ns s.d)=true→RelE B (killE e l) (killT t l) ns
 | [],_,_,h,_=>h
 | s::l,e,t,h,hl=>by
   simp only [List.all_cons,Bool.and_eq_true] at hl
   have:=h.put (B:=B) hl.1 (.raw (.v undef))
   simp only [BV.av] at this
   exact xZei (e:=putE e s.d (.raw (.v undef))) (t:=putT t s.d (.v undef)) this hl.2
structure SxOk (X:Ctx) (S:Nat→List SI) (G:Set B R) (r:R):Prop where
 hB:B.Ok
 P:X.P=G.P
 res:X.res=G.res
 nbt:G.lps=[]∨X.Hin.box.length=G.nb∧X.Hin.buf.length=G.nt
 hin:∃ Hin:AH,Hin.box.length=G.nb∧Hin.buf.length=G.nt∧∀ t a H,((∃ p,a=.pan p)→∃ e Hb,RelE B e t G.ns∧H=Hb.av B∧G.kt e Hb=true)→(∀ x,a=.ret x→∃ p l,resV t H G.res=some (p,l)∧p∧a=.ret (tupV l))→PostW Hin (aeA ((G.ret.o.enc r).1.av B)) ((G.ret.o.enc r).2.av B) a H→X.Q t a H
 con:∀ f,∀ c∈G.con f,c.Ok G.P G.N
 h:G.h.Ok B
 mks:mkOk G.P B G.h.mks
 ex:exOk G.P G.ex
 lps:∀ id,∀ L∈lpOf G.lps id,∀ a,L.run a=some r→go X (S id) (SE.av B G.ns (L.enc a).1) ((L.enc a).2.av B)
 df:G.df=[]∨X.dfs=[]∧∀ p∈G.df,Idle X.P p.1 p.2
variable {X:Ctx} {S:Nat→List SI} {G:Set B R}
theorem go_op {X:Ctx} {dr:Bool} {d:Option Nat} {o:SO} {l:List SL} {k:List SI} {t:List AV} {H H':AH} {v:AV} (hes:ES X.P dr o t H v H') (h:go X (.ops dr l::k) (putT t d v) H'):go X (.ops dr (.op d o::l)::k) t H:=by
 intro hgood
 have hfl:flat (.op d o::l)=⟨none,d,o⟩::flat l:=by simp [flat,SL.flat]
 rw [hfl] at hgood ⊢
 exact .inl ⟨rfl,v,H',hes,h (xZkH hgood)⟩
theorem xZqC {X:Ctx} {dr:Bool} {d:Option Nat} {o:SO} {l:List SL} {k:List SI} {t:List AV} {H H':AH} {v:AV} (hd:dr=false) (hos:OS X.P o t H (.pan v) H') (hq:X.Q t (.pan v) H'):go X (.ops dr (.op d o::l)::k) t H:=by
 intro hgood
 have hfl:flat (.op d o::l)=⟨none,d,o⟩::flat l:=by simp [flat,SL.flat]
 rw [hfl] at hgood ⊢
 exact .inr (.inr (.inl ⟨hd,rfl,v,H',hos,hq⟩))
theorem RelE.same {e:SE T} {t:List AV} {ns j:Nat} (h:RelE B e t ns) {v:BV T} (hv:t.getD j .any=v.av B):RelE B ((j,v)::e) t ns:=
 ⟨h.len,fun i=>by
   rw [xZfa]
   by_cases hi:j=i
   ·subst hi;rw [if_pos rfl];exact hv
   ·rw [if_neg hi];exact h.get i⟩
theorem xZs7 {k:List SI} (hG:SxOk X S G r) {e:SE T} {t:List AV} {H:BH T} (hr:RelE B e t G.ns) (h:(match resS e H G.res with
 | some l=>retE G.nb G.nt G.ret l H
 | none=>none)=some r):kRet X t (H.av B) (resV t (H.av B) X.res):=by
 split at h
 ·rename_i l hl
  obtain ⟨p,h1,h2⟩:=xZnh hr hl
  rw [hG.res,h1]
  refine ⟨h2,?_⟩
  obtain ⟨Hin,hnb,hnt,hQ⟩:=hG.hin
  exact hQ _ _ _ (fun ⟨p,hp⟩=>by cases hp) (fun r hr=>⟨p,_,h1,h2,rfl⟩) (xZrz hnb hnt h)
 ·cases h
theorem xZta {T:Nat→Type} {B:Tb T} {R:Type} {r:R} {e0:SE T} {t0:List AV} {ns:Nat} (h0:RelE B e0 t0 ns):∀ {bs:List (Nat×Nat×Od)} {e:SE T} {t:List AV} {H:BH T} {K:SE T→BH T→Option R},RelE B e t ns→pvS e0 ns bs e H K=some r→
 pvB t0 bs∧∃ e' H',RelE B e' (pvT t H.box.length bs) ns∧H'.av B=pvH t0 (H.av B) bs∧K e' H'=some r
 | [],e,t,H,K,he,h=>⟨trivial,e,H,he,rfl,h⟩
 | (d,n,y)::bs,e,t,H,K,he,h=>by
   simp only [pvS] at h
   split at h
   ·rename_i hc
    simp only [Bool.and_eq_true] at hc
    have he':RelE B ((d,.ptr H.box.length 0)::e) (t.set d (.ptr H.box.length 0)) ns:=he.put (d:=some d) hc.1.1 (.ptr H.box.length 0)
    obtain ⟨h1,e',H',h2,h3,h4⟩:=xZta h0 he' h
    refine ⟨⟨?_,?_,?_,h1⟩,e',H',by simpa [pvT] using h2,?_,h4⟩
    ·rw [h0.len];exact Nat.lt_of_succ_le (Nat.le_of_ble_eq_true hc.1.1)
    ·rw [h0.od,xZcp];exact beq_eq hc.1.2
    ·rw [h0.od,← xZ8p,xZdJ];exact hc.2
    ·rw [h3];simp only [pvH,h0.od,← xZ8p,BH.av,List.map_append,List.map_cons,List.map_nil]
   ·cases h
theorem xZkQ:∀ {l:List (FuncId×Nat)} {f n:Nat},memDf l f n=true→(f,n)∈l
 | [],_,_,h=>by cases h
 | (g,m)::l,f,n,h=>by
   simp only [memDf] at h
   split at h
   ·rename_i hb
    simp only [Bool.and_eq_true] at hb
    rw [beq_eq hb.1,beq_eq hb.2]
    exact List.mem_cons_self ..
   ·exact List.mem_cons_of_mem _ (xZkQ h)
def Ctx.off (X:Ctx) (D:Deferred):Ctx:={ X with Q:=fun t a H=>X.Q t a H∧∃ p l,resV t H X.res=some (p,l)∧p∧a=.ret (tupV l),dfs:=[D] }
theorem SxOk.off (hG:SxOk X S G r) (D:Deferred):SxOk (X.off D) S G.off r:=
 ⟨hG.hB,hG.P,hG.res,.inl rfl,by
   obtain ⟨Hin,h1,h2,hQ⟩:=hG.hin
   refine ⟨Hin,h1,h2,fun t a H hp hret hw=>?_⟩
   have hx:∃ x,a=.ret x:=by
    cases a with
    | ret x=>exact ⟨x,rfl⟩
    | pan x=>obtain ⟨_,_,_,_,h⟩:=hp ⟨x,rfl⟩;cases h
   obtain ⟨x,rfl⟩:=hx
   refine ⟨hQ _ _ _ (fun ⟨p,hp⟩=>by cases hp) hret hw,?_⟩
   show ∃ p l,resV t H X.res=some (p,l)∧_
   rw [hG.res]
   exact hret x rfl,hG.con,hG.h,hG.mks,hG.ex,fun id L hL=>(by cases hL),.inl rfl⟩
theorem sx_ok':∀ (n:Nat) {X:Ctx} {G:Set B R} (hG:SxOk X S G r) (todo:List SI) (e:SE T) (t:List AV) (H:BH T),RelE B e t G.ns→StkT G.jm S todo→sx G n todo e H=some r→go X todo t (H.av B)
 | 0,_,_,_,_,_,_,_,_,_,h=>by cases h
 | n+1,X,G,hG,todo,e,t,H,hr,hs,h=>by
   have ih:=sx_ok' n hG
   have hB:=hG.hB
   have hpan:∀ {dr:Bool} {H:BH T} {ty:Nat} {x:BV T},panS G e dr H ty x=some r→dr=false∧X.Q t (.pan (.ifc ty (x.av B))) (H.av B):=by
    intro dr H ty x h
    unfold panS at h
    split at h
    ·rename_i hk
     obtain ⟨Hin,hnb,hnt,hQ⟩:=hG.hin
     exact ⟨rfl,hQ _ _ _ (fun _=>⟨e,H,hr,rfl,hk⟩) (fun x hx=>by cases hx) (xZrq hnb hnt h)⟩
    ·cases h
   have hend:∀ {dr:Bool} {v:BV T} {H':BH T} {K:Option R},onP v (panS G e dr H') K=some r→
    (aeA (v.av B)=.ret (v.av B)∧K=some r)∨∃ t x,aeA (v.av B)=.pan (.ifc t (x.av B))∧panS G e dr H' t x=some r:=by
    intro dr v H' K h
    cases v with
    | ifc t x=>
      simp only [onP] at h
      split at h
      ·rename_i hb
       exact .inr ⟨t - PM,x,by simp only [BV.av,aeA,hb],h⟩
      ·rename_i hb
       exact .inl ⟨by simp only [BV.av,aeA,hb],h⟩
    | raw x=>cases x<;>first | exact .inl ⟨rfl,h⟩ | cases h
    | _=>exact .inl ⟨by simp only [BV.av,aeA],h⟩
   have hcall:∀ {dr:Bool} {d:Option Nat} {l:List SL} {k:List SI} {args:List (BV T)} {f:FuncId},okD G.ns d=true→StkT G.jm S k→callS dr args H G.N (fun v H=>onP v (panS G e dr H) (sx G n (.ops dr l::k) (putE e d v) H)) f (G.con f)=some r→vcall X dr d f (BV.avs B args) l k t (H.av B):=by
    intro dr d l k args f hd hk h
    obtain ⟨hen,v,H',⟨hc,hc2⟩,hK⟩:=xZg9 (hG.con _) h
    rw [← hG.P] at hen hc
    rcases hend hK with ⟨he,hK⟩ | ⟨t',x,he,hK⟩
    ·rw [he] at hc hc2
     refine ⟨hen,.inl ⟨v.av B,H'.av B,hc,fun q=>⟨(hc2 q).1,fun H0=>by rw [hG.P];exact (hc2 q).2 H0⟩,?_⟩⟩
     exact ih _ _ _ _ (hr.put hd v) ⟨trivial,hk⟩ hK
    ·rw [he] at hc
     obtain ⟨h1,h2⟩:=hpan hK
     exact ⟨hen,.inr ⟨h1,_,_,hc,h2⟩⟩
   have hlps:∀ {id:Nat} {k:List SI},notOps k→S id=k→loopS G.nb G.nt e H (lpOf G.lps id)=some r→go X k t (H.av B):=by
    intro id k hno hk h
    have hn:X.Hin.box.length=G.nb∧X.Hin.buf.length=G.nt:=hG.nbt.resolve_left fun e=>by rw [e] at h;cases h
    exact xZmT hn.1 hn.2 hr hno (fun L hL a ha=>by
     have:=hG.lps id L hL a ha
     rwa [hk] at this) h
   have hloop:∀ {b:SC} {k:List SI},StkT G.jm S (.lp b::k)→(match k with
    | .blk id::_=>loopS G.nb G.nt e H (lpOf G.lps id)
    | _=>none)=some r→go X (.lp b::k) t (H.av B):=by
    intro b k hk h
    split at h
    ·rename_i id k'
     exact hlps trivial (hk.1.1 id k' rfl) h
    ·cases h
   cases todo with
   | nil=>exact xZ2j 1 X [] t (H.av B) (xZs7 (k:=[]) hG hr h)
   | cons x k=>
     cases x with
     | blk i=>exact xZ2j 1 X (.blk i::k) t (H.av B) (ih _ _ _ _ hr hs.2 h)
     | scp=>exact xZ2j 1 X (.scp::k) t (H.av B) (ih _ _ _ _ hr hs.2 h)
     | pv bs=>
       obtain ⟨h1,e',H',h2,h3,h4⟩:=xZta hr hr h
       refine xZ2j 1 X (.pv bs::k) t (H.av B) ⟨h1,?_⟩
       rw [← h3]
       have e1:(H.av B).box.length=H.box.length:=by simp [BH.av]
       rw [e1]
       exact ih _ _ _ _ h2 hs.2 h4
     | lp b=>exact hloop hs h
     | ops dr l=>
       cases l with
       | nil=>exact xZ2j 1 X (.ops dr []::k) t (H.av B) (ih _ _ _ _ hr hs.2 h)
       | cons y l=>
         cases y with
         | grp j w l1=>
           simp only [xZij,sxT,sxOps,sxOp,sxGrp,sxCall0,sxCallv,sxRaw,sxInv,sxC,sxAlts,sxCall] at h
           split at h
           ·rename_i c hl1 hc
            have hg:=hr.get j
            rw [hc] at hg
            simp only [BV.av] at hg
            refine xZ2j 1 X (.ops dr (.grp j w l1::l)::k) t (H.av B) ?_
            show kGrp _ _ w (t.getD j .any)
            rw [hg]
            cases c with
            | true=>
              have hr':=hr.same (v:=.bool true) hg
              simp only [cond_true] at h
              cases w with
              | true=>exact ⟨fun _=>ih _ _ _ _ hr' (show StkT G.jm S (.ops dr (l1.map SP.sl++l)::k) from ⟨trivial,hs.2⟩) h,fun q=>absurd rfl q⟩
              | false=>exact ⟨fun q=>(by cases q),fun _=>ih (.ops dr l::k) _ _ _ (xZei hr' hl1) (show StkT G.jm S (.ops dr l::k) from ⟨trivial,hs.2⟩) h⟩
            | false=>
              have hr':=hr.same (v:=.bool false) hg
              simp only [cond_false] at h
              cases w with
              | true=>exact ⟨fun q=>(by cases q),fun _=>ih (.ops dr l::k) _ _ _ (xZei hr' hl1) (show StkT G.jm S (.ops dr l::k) from ⟨trivial,hs.2⟩) h⟩
              | false=>exact ⟨fun _=>ih _ _ _ _ hr' (show StkT G.jm S (.ops dr (l1.map SP.sl++l)::k) from ⟨trivial,hs.2⟩) h,fun q=>absurd rfl q⟩
           ·rename_i vs hl1 hc
            have hg:=hr.get j
            rw [hc] at hg
            simp only [BV.av] at hg
            refine xZ2j 1 X (.ops dr (.grp j w l1::l)::k) t (H.av B) ?_
            show kGrp _ _ w (t.getD j .any)
            rw [hg]
            exact ih (.ops dr l::k) _ _ _ (xZei hr hl1) (show StkT G.jm S (.ops dr l::k) from ⟨trivial,hs.2⟩) h
           ·cases h
         | op d o=>
           simp only [xZij,sxT,sxOps,sxOp,sxGrp,sxCall0,sxCallv,sxRaw,sxInv,sxC,sxAlts,sxCall] at h
           split at h
           ·cases h
           ·rename_i hd
            have step:∀ {o:SO},StepOk B G.P dr t H d o G.ns (fun e H=>sx G n (.ops dr l::k) e H) r→go X (.ops dr (.op d o::l)::k) t (H.av B):=by
             rintro o ⟨v,H1,e',H',hes,hre,rfl,hK⟩
             rw [← hG.P] at hes
             exact go_op hes (ih _ _ _ _ hre ⟨trivial,hs.2⟩ hK)
            split at h
            ·rename_i f as
             split at h
             ·rename_i q hq
              obtain ⟨v,hos,hK⟩:=xZu8 hr (xZpy hG.ex hq) h
              rw [← hG.P] at hos
              exact go_op (xZ2l hos) (ih _ _ _ _ (hr.put hd v) ⟨trivial,hs.2⟩ hK)
             ·have:=hcall hd hs.2 h
              rw [← hr.ods] at this
              exact xZ2j 1 X (.ops dr (.op d (.call f as)::l)::k) t (H.av B) (.inl this)
            ·rename_i x as
             split at h
             ·rename_i f a b hx
              have:=hcall hd hs.2 h
              rw [xZ3z,xZ3z,← hr.ods] at this
              refine xZ2j 1 X (.ops dr (.op d (.callv x as)::l)::k) t (H.av B) ?_
              show kCallv X dr d _ l k t _ (od t x)
              rw [hr.od,hx]
              simp only [BV.av]
              exact this
             ·cases h
            ·rename_i o' ty
             split at h
             ·rename_i x m args ts
              have inv:∀ (t':TypeId) (v:BV T),(∀ M S w u,VRep M S w u (od t (cOd x))→∃ z,u=.iface t' z∧VRep M S w z (v.av B))→(match cMeth G.P t' m with
               | some f=>callS (dr&&!hardI (.call ⟨.invoke x m,args,ts⟩) ty) (v::args.toList.map (bodP e)) H G.N (fun v H=>onP v (panS G e dr H) (sx G n (.ops dr l::k) (putE e d v) H)) f (G.con f)
               | none=>none)=some r→go X (.ops dr (.op d (.raw (.call ⟨.invoke x m,args,ts⟩) ty)::l)::k) t (H.av B):=by
               intro t' v h1 h
               split at h
               ·rename_i f hm
                obtain ⟨hen,v',H',⟨hc,hc2⟩,hK⟩:=xZg9 (hG.con _) h
                have e1:BV.avs B (v::args.toList.map (bodP e))=v.av B::(args.toList.map cOd).map (od t):=by
                 simp only [BV.avs]
                 rw [hr.ods,List.map_map];rfl
                rw [e1] at hc hc2
                rw [← hG.P] at hm hen hc hc2
                rcases hend hK with ⟨he,hK⟩ | ⟨t2,x2,he,hK⟩
                rotate_left
                ·rw [he] at hc
                 obtain ⟨p1,p2⟩:=hpan hK
                 exact xZqC p1 (xZo9 h1 hm hen hc) p2
                rw [he] at hc hc2
                have hq:dr=true→∀ z:Bool,(!true || hardI (.call ⟨.invoke x m,args,ts⟩) ty)=false→(dr&&!hardI (.call ⟨.invoke x m,args,ts⟩) ty)=true:=fun q _ z=>by
                 cases hh:hardI (.call ⟨.invoke x m,args,ts⟩) ty
                 ·rw [q];rfl
                 ·rw [hh] at z;cases z
                exact go_op ⟨xZo9 h1 hm hen hc,fun q=>⟨fun z=>(hc2 (hq q true z)).1,fun z _ H0=>xZo9 h1 hm hen ((hc2 (hq q true z)).2 H0),fun z bx=>xZo9 h1 hm hen ((hc2 (hq q true z)).2 _),fun hn=>(by cases hn),fun hn=>(by cases hn)⟩⟩ (ih _ _ _ _ (hr.put hd v') ⟨trivial,hs.2⟩ hK)
               ·cases h
              split at h
              ·rename_i t' v hx
               refine inv t' v (fun M S w u hu=>?_) h
               have h1:od t (cOd x)=.ifc t' (v.av B):=by
                rw [hr.od];exact (congrArg (BV.av B) hx).trans (by simp only [BV.av])
               rw [h1] at hu
               exact xZlf hu
              ·rename_i i y hx
               obtain ⟨z,hz,h⟩:=hB.el _ _ _ _ _ h
               split at h
               ·rename_i t' v
                refine inv t' v (fun M S w u hu=>?_) h
                have h1:od t (cOd x)=.opq (.ifc t' (v.av B)):=by
                 rw [hr.od];exact (congrArg (BV.av B) hx).trans (by simp only [BV.av] at hz ⊢;rw [hz])
                rw [h1] at hu
                exact xZtE hu
               ·cases h
              ·cases h
             ·rename_i x args ts
              split at h
              ·rename_i f a b hx
               obtain ⟨hen,v',H',⟨hc,_⟩,hK⟩:=xZg9 (hG.con _) h
               have e1:BV.avs B (args.toList.map (bodP e))=(args.toList.map cOd).map (od t):=by
                rw [hr.ods,List.map_map];rfl
               rw [xZ3z,xZ3z,e1] at hc
               have h1:od t (cOd x)=.fn (.func f) (BV.avs B a) (BV.avs B b):=by
                rw [hr.od];exact (congrArg (BV.av B) hx).trans (by simp only [BV.av])
               rw [← hG.P] at hen hc
               rcases hend hK with ⟨he,hK⟩ | ⟨t2,x2,he,hK⟩
               rotate_left
               ·rw [he] at hc
                obtain ⟨p1,p2⟩:=hpan hK
                exact xZqC p1 (xZiC h1 hen hc) p2
               rw [he] at hc
               exact go_op ⟨xZiC h1 hen hc,fun _=>⟨fun q=>(by cases q),fun q=>(by cases q),fun q=>(by cases q),fun q=>(by cases q),fun q=>(by cases q)⟩⟩ (ih _ _ _ _ (hr.put hd v') ⟨trivial,hs.2⟩ hK)
              ·cases h
             ·rename_i x
              split at h
              ·rename_i t' v hx
               have h1:od t (cOd x)=.ifc t' (v.av B):=by
                rw [hr.od];exact (congrArg (BV.av B) hx).trans (by simp only [BV.av])
               obtain ⟨p1,p2⟩:=hpan h
               exact xZqC p1 (xZqk h1) p2
              ·cases h
             ·exact step (xZus hB hG.h hG.mks hG.h.bo hr hd h)
            ·rename_i h1 h2 h3
             exact step (xZv9 hB hG.h hr hd h)
     | c c=>
       have hj:(∃ i,isJn G.jm c=some i∧loopS G.nb G.nt e H (lpOf G.lps i)=some r)∨sxC G (sx G n) (sx G.off n) c k e H=some r:=by
        simp only [xZij,sxT,sxJ] at h
        split at h
        ·exact .inr h
        ·rename_i i hi
         split at h
         ·exact .inr h
         ·rename_i L l hl
          exact .inl ⟨i,hi,by rw [hl];exact h⟩
       clear h
       rcases hj with ⟨i,hi,h⟩ | h
       ·refine hlps (id:=i) trivial ?_ h
        cases c<;>first | exact hs.1 i hi | exact hs.1.1 i hi | (unfold isJn at hi;split at hi<;>cases hi)
       cases c with
       | skip=>exact xZ2j 1 X (.c .skip::k) t (H.av B) (ih _ _ _ _ hr hs.2 h)
       | ops d l=>
         have plain:sx G n (.ops d l::k) e H=some r→go X (.c (.ops d l)::k) t (H.av B):=fun h=>xZ2j 1 X (.c (.ops d l)::k) t (H.av B) (ih (.ops d l::k) _ _ _ hr (show StkT G.jm S (.ops d l::k) from ⟨trivial,hs.2⟩) h)
         simp only [sxC,sxReg] at h
         split at h
         ·exact plain h
         ·rename_i g0 gl hdf
          split at h
          ·rename_i s f cs hde
           unfold sxDefer at h
           split at h
           ·rename_i hc
            simp only [Bool.and_eq_true,List.all_eq_true] at hc
            have hlt:s < G.ns:=by simpa using hc.1.2
            rcases hG.df with hd0 | ⟨hX,hI⟩
            ·rw [hd0] at hdf;cases hdf
            have hidle:=hI _ (xZkQ hc.1.1)
            refine xZoP (X:=X) (Q':=(X.off default).Q) hde hX (by rw [hr.len];exact hlt) (fun c hcm=>?_) hidle (fun D=>?_) (fun t a H hq=>hq)
            ·have hp:=hc.2 c hcm
             rw [hr.od]
             generalize bod e c=v at hp
             unfold ptr0 at hp
             split at hp
             ·exact ⟨_,by simp only [BV.av];rfl⟩
             ·cases hp
            ·have:=sx_ok' n (hG.off D) k _ _ H (hr.put (d:=some s) hc.1.2 (.raw .any)) hs.2 h
             exact xZcW this
           ·cases h
          ·exact plain h
       | priv l bs=>exact xZ2j 1 X (.c (.priv l bs)::k) t (H.av B) (ih (.ops true l::.pv bs::k) _ _ _ hr (show StkT G.jm S (.ops true l::.pv bs::k) from ⟨trivial,trivial,hs.2⟩) h)
       | alts o ls=>
         have hst:∀ l,StkT G.jm S (.ops true l::k):=fun l=>⟨trivial,hs.2⟩
         simp only [sxC,sxAlts] at h
         split at h
         ·exact xZut (fun q=>by cases q) fun l hl=>ih (.ops true l::k) _ _ _ hr (hst _) (xZkU h _ (List.mem_map.2 ⟨l,hl,rfl⟩))
         ·split at h
          ·exact xZmd (ih (.ops true _::k) _ _ _ hr (hst _) h)
          ·cases h
       | seq a b=>exact xZ2j 1 X (.c (.seq a b)::k) t (H.av B) (ih (.c a::.c b::k) _ _ _ hr (show StkT G.jm S (.c a::.c b::k) from ⟨hs.1.1,hs.1.2,hs.2⟩) h)
       | cond x a b=>
         simp only [sxC,sxAlts] at h
         split at h
         ·rename_i c hc
          refine xZ2j 1 X (.c (.cond x a b)::k) t (H.av B) ?_
          show kCond _ _ (od t x)
          rw [hr.od,hc]
          simp only [BV.av]
          cases c with
          | true=>exact ⟨fun _=>ih (.c a::k) _ _ _ hr (show StkT G.jm S (.c a::k) from ⟨hs.1.2.1,hs.2⟩) h,fun q=>(by cases q)⟩
          | false=>exact ⟨fun q=>(by cases q),fun _=>ih (.c b::k) _ _ _ hr (show StkT G.jm S (.c b::k) from ⟨hs.1.2.2,hs.2⟩) h⟩
         ·cases h
       | block i a=>exact xZ2j 1 X (.c (.block i a)::k) t (H.av B) (ih (.c a::.blk i::k) _ _ _ hr (show StkT G.jm S (.c a::.blk i::k) from ⟨hs.1,trivial,hs.2⟩) h)
       | loop b=>exact xZ2j 1 X (.c (.loop b)::k) t (H.av B) (hloop ⟨⟨hs.1.1,hs.1.2⟩,hs.2⟩ h)
       | scope a=>exact xZ2j 1 X (.c (.scope a)::k) t (H.av B) (ih (.c a::.scp::k) _ _ _ hr (show StkT G.jm S (.c a::.scp::k) from ⟨hs.1,trivial,hs.2⟩) h)
       | exit i=>
         simp only [sxC,sxAlts] at h
         split at h
         ·rename_i k' hk'
          refine xZ2j 1 X (.c (.exit i)::k) t (H.av B) ?_
          show kExit _ _ _ (exitS i k)
          rw [hk']
          exact ih _ _ _ _ hr (xZh3 hk' hs.2) h
         ·cases h
       | ret=>exact xZ2j 1 X (.c .ret::k) t (H.av B) (xZs7 (k:=k) hG hr h)
       | bad=>cases h
theorem sx_ok (hG:SxOk X S G r) (n:Nat) (todo:List SI) (e:SE T) (t:List AV) (H:BH T) (hr:RelE B e t G.ns) (hs:StkT G.jm S todo) (h:sx G n todo e H=some r):go X todo t (H.av B):=sx_ok' n hG todo e t H hr hs h
end
end Go.Proofs.YtbioikdfpfafaaaGreatDoor.T
namespace Go.Proofs.YtbioikdfpfafaaaGreatDoor.T
open Go
section
variable {T:Nat→Type} {B:Tb T}
structure Fn (c:Con B) where
 fn:Func
 ex:List (FuncId×EK')
 h:Hint T
 con:FuncId→List (Con B)
 md:List Bool
 em:Option Nat
 nb:Nat
 nt:Nat
 kt:SE T→BH T→Bool:=fun _ _=>true
 alt:Option (EqR c.R):=none
 df:List (FuncId×Nat):=[]
 jm:List Nat:=[]
def Fn.set {c:Con B} (F:Fn c) (P:Program) (N:Nat) (l:List (Nat×Lp B c.R)):Set B c.R:=⟨P,F.ex,F.h,N,F.con,l,resOf P F.fn,⟨F.md,F.em,c.o⟩,F.nb,F.nt,F.fn.ntmps,F.kt,F.alt,F.df,F.jm⟩
structure Fn.Ok {c:Con B} (F:Fn c) (P:Program):Prop where
 is:Is P c.f F.fn.ntmps (resOf P F.fn) (bd P F.fn)
 ids:idsOk F.jm (bd P F.fn)=true
 hint:F.h.Ok B
 mks:mkOk P B F.h.mks
 ex:exOk P F.ex
 inn:∀ a,(Nat.ble (c.inn a).1.length F.fn.ntmps&&Nat.beq (c.inn a).2.box.length F.nb&&Nat.beq (c.inn a).2.buf.length F.nt)=true
structure Fn.Ok0 {c:Con B} (F:Fn c) (P:Program):Prop where
 ids:idsOk F.jm (bd P F.fn)=true
 hint:F.h.Ok B
 mks:mkOk P B F.h.mks
 ex:exOk P F.ex
 inn:∀ a,(Nat.ble (c.inn a).1.length F.fn.ntmps&&Nat.beq (c.inn a).2.box.length F.nb&&Nat.beq (c.inn a).2.buf.length F.nt)=true
theorem Fn.Ok.ok0 {c:Con B} {F:Fn c} {P:Program} (h:F.Ok P):F.Ok0 P:=⟨h.ids,h.hint,h.mks,h.ex,h.inn⟩
def conOk (P:Program) (N:Nat):List (Con B)→Prop
 | []=>True
 | c::l=>c.Ok P N∧conOk P N l
theorem xZkV {P:Program} {N:Nat}:∀ {l:List (Con B)},conOk P N l→∀ c∈l,c.Ok P N
 | [],_,c,hc=>by cases hc
 | x::l,h,c,hc=>by
   rcases List.mem_cons.1 hc with rfl | hc
   ·exact h.1
   ·exact xZkV h.2 c hc
structure Stg {c:Con B} (F:Fn c) (P:Program) (N:Nat) (a:c.A) (r:c.R) where
 X:Ctx
 hB:B.Ok
 ok:F.Ok0 P
 P':X.P=P
 res:X.res=resOf P F.fn
 Hin:X.Hin=(c.inn a).2.av B
 Q:∀ t a H,((∃ p,a=.pan p)→∃ e Hb,RelE B e t F.fn.ntmps∧H=Hb.av B∧F.kt e Hb=true)→PostW X.Hin (aeA ((c.o.enc r).1.av B)) ((c.o.enc r).2.av B) a H→X.Q t a H
 con:∀ f,conOk P N (F.con f)
 df:F.df=[]∨X.dfs=[]∧∀ p∈F.df,Idle X.P p.1 p.2
variable {c:Con B} {F:Fn c} {P:Program} {N:Nat} {a:c.A} {r:c.R}
def Stg.Gd (s:Stg F P N a r) (id:Nat) {A:Type} (q:LQ B A) (run:A→Option c.R):Prop:=∀ x,run x=some r→go s.X (stkO F.jm (bd P F.fn) id) (SE.av B F.fn.ntmps (q.enc x).1) ((q.enc x).2.av B)
def Stg.lpsOk (s:Stg F P N a r):List (Nat×Lp B c.R)→Prop
 | []=>True
 | (id,L)::l=>(∀ x,L.run x=some r→go s.X (stkO F.jm (bd P F.fn) id) (SE.av B F.fn.ntmps (L.enc x).1) ((L.enc x).2.av B))∧s.lpsOk l
theorem Stg.lps_of (s:Stg F P N a r):∀ {l:List (Nat×Lp B c.R)},s.lpsOk l→∀ id,∀ L∈lpOf l id,∀ x,L.run x=some r→go s.X (stkO F.jm (bd P F.fn) id) (SE.av B F.fn.ntmps (L.enc x).1) ((L.enc x).2.av B)
 | [],_,id,L,h=>by cases h
 | (m,L')::l,hl,id,L,h=>by
   simp only [lpOf] at h
   split at h
   ·rename_i hm
    rcases List.mem_cons.1 h with rfl | h
    ·rw [← beq_eq hm];exact hl.1
    ·exact s.lps_of hl.2 id L h
   ·exact s.lps_of hl.2 id L h
theorem Stg.sx (s:Stg F P N a r) {l:List (Nat×Lp B c.R)} (hl:s.lpsOk l):SxOk s.X (stkO F.jm (bd P F.fn)) (F.set P N l) r:=by
 have hi:=s.ok.inn a
 simp only [Bool.and_eq_true] at hi
 have h1:s.X.Hin.box.length=F.nb∧s.X.Hin.buf.length=F.nt:=⟨by rw [s.Hin,xZev];exact beq_eq hi.1.2,by rw [s.Hin,buf_len'];exact beq_eq hi.2⟩
 exact ⟨s.hB,s.P',s.res,.inr h1,⟨s.X.Hin,h1.1,h1.2,fun t a H h _ hp=>s.Q t a H h hp⟩,fun f=>xZkV (s.con f),s.ok.hint,s.ok.mks,s.ok.ex,s.lps_of hl,s.df⟩
theorem xZkJ:∀ (l:List (BV T)) (n:Nat),(argN n l).map (·.1)=List.range' n l.length
 | [],n=>rfl
 | x::l,n=>by simp only [argN,List.map_cons,List.length_cons,List.range'_succ,xZkJ l (n+1)]
theorem xZmV:∀ (l:List (BV T)) (n i:Nat),lk (argN n l) (n+i)=l.getD i (.raw .any)
 | [],n,i=>by simp [argN,lk]
 | x::l,n,0=>by simp [argN,xZfa]
 | x::l,n,i+1=>by
   rw [argN,xZfa,if_neg (by omega)]
   have:=xZmV l (n+1) i
   rw [show n+(i+1)=n+1+i by omega,this];simp
theorem Stg.main0 (s:Stg F P N a r) (n:Nat) (l:List (Nat×Lp B c.R)) (hl:s.lpsOk l) (h:Go.Proofs.YtbioikdfpfafaaaGreatDoor.T.sx (F.set P N l) n [.c (bd P F.fn)] (argE (c.inn a).1) (c.inn a).2=some r):
 go s.X [.c (bd P F.fn)] (SE.av B F.fn.ntmps (argE (c.inn a).1)) ((c.inn a).2.av B):=by
 have hi:=s.ok.inn a
 simp only [Bool.and_eq_true] at hi
 refine sx_ok (s.sx hl) n _ _ _ _ (RelE.of (xZkJ _ _) ?_) (xZqq s.ok.ids) h
 rw [List.all_eq_true]
 intro i hm
 have:=List.mem_range'_1.1 hm
 have:=Nat.le_of_ble_eq_true hi.1.1
 show Nat.blt i F.fn.ntmps=true
 simp;omega
theorem Stg.main (s:Stg F P N a r) (l:List (Nat×Lp B c.R)) (hl:s.lpsOk l) (h:Go.Proofs.YtbioikdfpfafaaaGreatDoor.T.sx (F.set P N l) 1000 [.c (bd P F.fn)] (argE (c.inn a).1) (c.inn a).2=some r):
 go s.X [.c (bd P F.fn)] (SE.av B F.fn.ntmps (argE (c.inn a).1)) ((c.inn a).2.av B):=s.main0 1000 l hl h
theorem Stg.seg (s:Stg F P N a r) (id:Nat) {C V:Type} (q:LQ B (C×V)) (l:List (Nat×Lp B c.R)) (hl:s.lpsOk l) (hk:q.ks.all (fun i=>Nat.blt i F.fn.ntmps)=true) {x:Option c.R} {k:C} {v:V}
 (h:Go.Proofs.YtbioikdfpfafaaaGreatDoor.T.sx (F.set P N l) 1000 (stk F.jm (bd P F.fn) id) (q.enc (k,v)).1 (q.enc (k,v)).2=x) (hx:x=some r):go s.X (stk F.jm (bd P F.fn) id) (SE.av B F.fn.ntmps (q.enc (k,v)).1) ((q.enc (k,v)).2.av B):=
 sx_ok (s.sx hl) 1000 _ _ _ _ (RelE.of (q.key _) hk) (xZmL s.ok.ids id) (h.trans hx)
theorem Stg.jn (s:Stg F P N a r) (id:Nat) {A:Type} (q:LQ B A) (run:A→Option c.R) (l:List (Nat×Lp B c.R)) (hl:s.lpsOk l) (hk:q.ks.all (fun i=>Nat.blt i F.fn.ntmps)=true)
 (h:∀ x,Go.Proofs.YtbioikdfpfafaaaGreatDoor.T.sx (F.set P N l) 1000 (stkO F.jm (bd P F.fn) id) (q.enc x).1 (q.enc x).2=run x):s.Gd id q run:=
 fun x hx=>sx_ok (s.sx hl) 1000 _ _ _ _ (RelE.of (q.key _) hk) (stk_O s.ok.ids id) ((h x).trans hx)
theorem Stg.loop (s:Stg F P N a r) (id:Nat) {C V:Type} (q:LQ B (C×V)) (f:C→(V→Option c.R)→V→Option c.R) (M:Nat)
 (h:∀ next:C×V→Option c.R,s.Gd id q next→∀ k v,f k (fun v=>next (k,v)) v=some r→go s.X (stk F.jm (bd P F.fn) id) (SE.av B F.fn.ntmps (q.enc (k,v)).1) ((q.enc (k,v)).2.av B)):
 s.Gd id q (fun x=>loopV (f x.1) M x.2):=by
 have key:∀ (k:C) (n:Nat) (v:V),loopV (f k) n v=some r→go s.X (stkO F.jm (bd P F.fn) id) (SE.av B F.fn.ntmps (q.enc (k,v)).1) ((q.enc (k,v)).2.av B):=by
  intro k n
  induction n with
  | zero=>intro v hv;cases hv
  | succ n ih=>
    intro v hv
    classical
    refine xZuh (h (fun x=>if x.1=k then loopV (f k) n x.2 else none) (fun x hx=>?_) k v ?_)
    ·dsimp only at hx
     split at hx
     ·rename_i hk
      obtain ⟨k',v'⟩:=x
      dsimp only at hk hx
      subst hk
      exact ih v' hx
     ·cases hx
    ·simp only [if_true];exact hv
 exact fun x hx=>key x.1 M x.2 hx
theorem Fn.Ok.give (ok:F.Ok P) (hB:B.Ok) (hm:P.follows .mixedOrders=true) (N M:Nat) (hc:∀ f,conOk P N (F.con f))
 (h:∀ (a:c.A) (r:c.R) (s:Stg F P N a r),c.sh M a=some r→go s.X [.c (bd P F.fn)] (SE.av B F.fn.ntmps (argE (c.inn a).1)) ((c.inn a).2.av B)) (hdf:∀ p∈F.df,Idle P p.1 p.2:=by intro p h;cases h):c.Ok P M:=by
 refine ⟨ok.is.enters,fun a r hr=>?_⟩
 obtain ⟨fn,cd,wr,h1,h2,h3,h4,h5,h6⟩:=ok.is.prf
 have hi:=ok.inn a
 simp only [Bool.and_eq_true] at hi
 have hle:=Nat.le_of_ble_eq_true hi.1.1
 refine xZq6 F.fn.ntmps h1 h2 h3 h4 hm h5 ?_
 have:=h a r ⟨⟨P,c.f,fn,resOf P F.fn,(c.inn a).2.av B,fun _=>PostW ((c.inn a).2.av B) (aeA ((c.o.enc r).1.av B)) ((c.o.enc r).2.av B),[]⟩,hB,ok.ok0,rfl,rfl,rfl,fun _ _ _ _ h=>h,hc,.inr ⟨rfl,hdf⟩⟩ hr
 have e1:SE.av B F.fn.ntmps (argE (c.inn a).1)=BV.avs B (c.inn a).1++List.replicate (F.fn.ntmps - (BV.avs B (c.inn a).1).length) .any:=by
  refine List.ext_getElem? fun i=>?_
  rcases Nat.lt_or_ge i F.fn.ntmps with hlt | hge
  ·have g1:(SE.av B F.fn.ntmps (argE (c.inn a).1))[i]?=some ((lk (argE (c.inn a).1) i).av B):=by simp [SE.av,hlt]
   have g2:=xZmV (c.inn a).1 0 i
   rw [Nat.zero_add] at g2
   rw [g1,show argE (c.inn a).1=argN 0 (c.inn a).1 from rfl,g2,← xZeB]
   rw [List.getElem?_append]
   split
   ·rename_i hl;simp [List.getD,hl]
   ·rename_i hl
    rw [List.getElem?_replicate,if_pos (by rw [xZ1E] at hl ⊢;omega)]
    simp [List.getD,List.getElem?_eq_none (Nat.le_of_not_lt hl)]
  ·rw [List.getElem?_eq_none (by rw [SE.len];exact hge),List.getElem?_eq_none (by simp [xZ1E];omega)]
 rw [e1] at this
 exact this
theorem xZ4 {sb:Nat→Option (List UInt8→(i:Nat)×List (T i))} (h:∀ k f s,sb k=some f→k=1∧B.k (f s).1=1∧(f s).2.map (B.eA (f s).1)=s.map byteV) {bo:(i:Nat)→List (T i)→Option (List UInt8)} (h2:∀ i l s,bo i l=some s→B.k i=1∧∃ m:List Int,l.map (B.eA i)=m.map u8V∧s=byS m) {l:List (Nat×Nat)} {m:List (TypeId×((i:Nat)×T i×Nat))}:(⟨l,m,sb,bo⟩:Hint T).Ok B:=⟨h,h2⟩
end
end Go.Proofs.YtbioikdfpfafaaaGreatDoor.T
namespace Go.Proofs.YtbioikdfpfafaaaGreatDoor.T
open Go
def cloneSC (te tb k by_:Nat):SC:=.seq (.ops false [.op (some 2) (.mov (.c .emp))]) (.seq (.seq (.ops false [.op (some 3) (.mov (.t 0)),.op (some 4) (.raw (.binOp .eql te (.tmp 3) (.const (.slice none 0 0)) te) tb)]) (.cond (.t 4) (.seq (.ops false [.op (some 2) (.mov (.c .emp))]) .ret) .skip)) (.seq (.ops false [.op (some 5) (.bsl k []),.op (some 6) (.mov (.t 0)),.op (some 7) (.app k by_ (.t 5) (.t 6)),.op (some 2) (.mov (.t 7))]) .ret))
theorem xZmu {X:Ctx} {te tb k by_ e:Nat} {xs:List AV} (hres:X.res=[.t 2]) (hu:X.P.underlying te=some (.slice e)) (hl:xs.length * by_≤140737488355328) (hl2:xs.length≤9223372036854775807)
 (h1:xs=[]→∀ t,X.Q t (.ret .emp) ⟨[],[]⟩) (h2:∀ t,X.Q t (.ret (.own 1)) ⟨[],[.dead,.live k xs]⟩):
 go X [.c (cloneSC te tb k by_)] [.sl k xs,.any,.any,.any,.any,.any,.any,.any] ⟨[],[]⟩:=by
 refine xZ2j 9 _ _ _ _ ?_
 show vraw X false (some 4) (.raw (.binOp .eql te (.tmp 3) (.const (.slice none 0 0)) te) tb) [] _ [.sl k xs,.any,.emp,.sl k xs,.any,.any,.any,.any] ⟨[],[]⟩
 refine xZqP (xZrG (ne:=false) (e:=e) (k:=k) (xs:=xs) rfl hu rfl) (fun hx=>?_) (fun _=>?_)
 ·refine xZ2j 8 _ _ _ _ ?_
  refine ⟨fun _=>?_,fun h=>by cases h⟩
  show kRet X _ _ (resV _ _ X.res)
  rw [hres]
  exact ⟨trivial,h1 hx _⟩
 ·refine xZ2j 14 _ _ _ _ ?_
  refine ⟨fun h=>(by cases h),fun _=>?_⟩
  have hs:∀ A:AH,srcV A k (.sl k xs)=some xs:=fun A=>by simp [srcV]
  refine ⟨trivial,rfl,?_⟩
  show kAppS _ _ _ _ k by_ [] _ (srcV _ k (.sl k xs))
  rw [hs]
  refine ⟨by simpa using hl,by simpa using hl2,?_⟩
  show kRet X _ _ (resV _ _ X.res)
  rw [hres]
  exact ⟨trivial,h2 _⟩
section
variable {T:Nat→Type} {B:Tb T}
structure CloneIs (P:Program) (f:FuncId) (te tb k by_ e:Nat):Prop where
 is:Is P f 8 [.t 2] (cloneSC te tb k by_)
 un:P.underlying te=some (.slice e)
 by0:0 < by_
theorem CloneIs.of {P:Program} {f:FuncId} {te tb k by_ e:Nat} {fn:Func} (hf:P.funcs[f]?=some fn) (h:isOk P fn=true) (h1:fn.ntmps=8) (h2:resOf P fn=[.t 2]) (h3:bd P fn=cloneSC te tb k by_) (hu:P.underlying te=some (.slice e)) (h0:0 < by_):CloneIs P f te tb k by_ e:=
 ⟨by have:=Is.of hf h;rw [h1,h2,h3] at this;exact this,hu,h0⟩
theorem xZn7 {P:Program} {f:FuncId} {te tb k by_ e:Nat} (hi:CloneIs P f te tb k by_ e) (hm:P.follows .mixedOrders=true) {xs:List AV} (hl:xs.length * by_≤140737488355328):
 CRes P f [.sl k xs] ⟨[],[]⟩ (.ret (.own 0)) ⟨[],[.live k xs]⟩:=by
 obtain ⟨fn,cd,wr,h1,h2,h3,h4,h5,h6⟩:=hi.is.prf
 have hl2:xs.length≤9223372036854775807:=by
  have:=Nat.le_mul_of_pos_right xs.length hi.by0;omega
 refine xZmg 8 h1 h2 h3 h4 hm h5 ?_
 refine xZmu rfl hi.un hl hl2 (fun hx _=>?_) fun _=>?_
 ·subst hx
  exact .inr ⟨rfl,k,[],[],[0],rfl,rfl,⟨trivial,⟨by simp [frzH],by simp [leBuf,frzH,List.getD],trivial⟩,rfl,rfl⟩,by simp [leE,le2,le1,leC,leA]⟩
 ·exact .inl ⟨[],[],[1],rfl,rfl,⟨trivial,⟨by simp [frzH],by simp [leBuf,frzH,List.getD],trivial⟩,rfl,rfl⟩,by simp [leE,le2,le1,leC,leA]⟩
theorem xZlT {P:Program} {f:FuncId} {te tb k by_ e:Nat} (hi:CloneIs P f te tb k by_ e) (hm:P.follows .mixedOrders=true) {xs:List AV} (hl:xs.length * by_≤140737488355328):
 CRes P f [.sl k xs] .nil (.ret (.sl k xs)) .nil:=by
 obtain ⟨fn,cd,wr,h1,h2,h3,h4,h5,h6⟩:=hi.is.prf
 have hl2:xs.length≤9223372036854775807:=by
  have:=Nat.le_mul_of_pos_right xs.length hi.by0;omega
 refine xZmg 8 h1 h2 h3 h4 hm h5 ?_
 refine xZmu rfl hi.un hl hl2 (fun hx _=>?_) fun _=>?_
 ·subst hx
  exact .inl ⟨[],[],[],rfl,rfl,⟨trivial,trivial,rfl,rfl⟩,by simp [leE,le2,le1,leC,leA]⟩
 ·exact .inl ⟨[1],[],[],rfl,rfl,⟨trivial,trivial,rfl,rfl⟩,by simp [leE,le2,le1,leC,leA,frzH,frzT,frzB,List.getD]⟩
def shClone {α:Type} (by_:Nat) (s:List α):Option (List α):=gd (Nat.ble ((0+s.length) * by_) 140737488355328) (some s)
theorem xZf4 {α:Type} {by_:Nat} {s r:List α} (h:shClone by_ s=some r):s.length * by_≤140737488355328∧r=s:=by
 obtain ⟨h1,h2⟩:=xZ1q h
 cases h2
 have:=Nat.le_of_ble_eq_true h1
 exact ⟨by simpa using this,rfl⟩
theorem xZr8 {P:Program} {f:FuncId} {te tb by_ e i:Nat} (hi:CloneIs P f te tb (B.k i) by_ e) (hm:P.follows .mixedOrders=true) (N:Nat):(Con.clone (B:=B) f i (fun _ s=>shClone by_ s)).Ok P N:=by
 refine ⟨hi.is.enters,fun a r h=>?_⟩
 obtain ⟨h1,rfl⟩:=xZf4 h
 have:=xZn7 hi hm (xs:=a.1.map (B.eA i)) (by simpa using h1)
 simpa only [Con.clone,Con.m,PL.o,Pat.r,PX.n,PU.n,PU.l,Out.m,Pat.own,BV.avs,BV.av,BH.av,List.map_nil,List.map_cons,BB.av,aeA] using this
theorem xZnU {P:Program} {f:FuncId} {te tb by_ e i:Nat} (hi:CloneIs P f te tb (B.k i) by_ e) (hm:P.follows .mixedOrders=true) (N:Nat):(Con.cloneD (B:=B) f i (fun _ s=>shClone by_ s)).Ok P N:=by
 refine ⟨hi.is.enters,fun a r h=>?_⟩
 obtain ⟨h1,rfl⟩:=xZf4 h
 have:=xZlT hi hm (xs:=List.map (B.eA i) (show List (T i) from r)) (by rw [List.length_map];exact h1)
 simpa only [Con.cloneD,Con.p,PL.o,Pat.r,Out.p,BV.avs,BV.av,BH.av,List.map_nil,AH.nil,aeA] using this
end
end Go.Proofs.YtbioikdfpfafaaaGreatDoor.T
