/- The code, and what each function of it is walked to. No premise beyond what each theorem says. -/
import Derived.Test.YtbanfalnbhcknaaGreatDoorHA4
import Derived.Test.YtbanfalnbhcknaaGreatDoorProg
set_option linter.all false
set_option linter.unusedSimpArgs false
set_option linter.unusedVariables false
namespace Go.Proofs.YtbanfalnbhcknaaGreatDoor.H
open Go
section
open Go.Proofs.Tryz
set_option maxRecDepth 1000000
noncomputable section
structure xZ0 where
 Kind:Int
 N:Int
 Bits:Int
 Text:List UInt8
structure xZ1 where
 Kind:Int
 Op:Int
 Var:List UInt8
 Name:List UInt8
 Val:xZ0
structure xZb where
 Name:List UInt8
 Kind:Int
structure xZ2 where
 Name:List UInt8
 Fields:List xZb
structure xZ6 where
 Time:Int
 Source:Int
 Seq:Int
 Type_:List UInt8
 Vals:List xZ0
structure xZ4 where
 Var:List UInt8
 E:xZ6
structure xZc where
 Types:List xZ2
 Bound:List xZ4
 E:xZ6
structure xZ3 where
 Kind:Int
 At:Int
 Text:List UInt8
 Val:xZ0
inductive xZd where
 | lit_ (v:xZ0)
 | of_ (name:List UInt8) (field:List UInt8)
 | own_ (name:List UInt8)
 | sum_ (minus:Bool) (a:xZd) (b:xZd)
structure xZ1Z where
 v:xZ0
structure xZ2M where
 name:List UInt8
 field:List UInt8
structure xZ20 where
 name:List UInt8
structure xZ1j where
 minus:Bool
 a:xZd
 b:xZd
inductive xZ9 where
 | and_ (a:xZ9) (b:xZ9)
 | not_ (a:xZ9)
 | or_ (a:xZ9) (b:xZ9)
 | test_ (op:Int) (a:xZd) (b:xZd)
structure xZi where
 a:xZ9
 b:xZ9
structure xZP where
 a:xZ9
structure xZx where
 op:Int
 a:xZd
 b:xZd
structure xZ1r where
 Neg:Bool
 Var:List UInt8
 Type_:List UInt8
 Test:List xZ1
def xZ5u (N:Nat) (v:xZ0):Option Int:=gd (i64b ((List.length v.Text:Int) - 100)) ( some (max 0 ((List.length v.Text:Int) - 100)))
def xZ6e (N:Nat) (l:List xZ1) (next0:Int→Option Int) (i:Int):Option Int:=bif (ltB i (List.length l:Int)) then (ix l i).bind fun e=>bif (ltB 40 (List.length e.Var:Int)) then some 1 else (ix l i).bind fun e2=>bif (ltB 40 (List.length e2.Name:Int)) then some 1 else (ix l i).bind fun e3=>(xZ5u N e3.Val).bind fun smal=>bif (ltB 0 smal) then some 1 else gd (i64b (i+1)) ( next0 (i+1)) else some 0
def xZ8J (N:Nat) (l:List xZ1):Option Int:=bif (ltB 40 (List.length l:Int)) then some 1 else lp1 (xZ6e N l) N 0
def xZr (N:Nat) (y:List xZ3) (y2:Int) (y3:Int):Option (xZ3×List xZ3×Int×Int):=bif (ltB y2 (List.length y:Int)) then (ix y y2).bind fun e=>some (e,y,y2,y3) else some ((xZ3.mk 0 0 [] (xZ0.mk 0 0 0 [])),y,y2,y3)
def xZn (N:Nat) (y:List xZ3) (y2:Int) (y3:Int):Option (Int×List xZ3×Int×Int):=bif (ltB y2 (List.length y:Int)) then (ix y y2).bind fun e=>some (e.At,y,y2,y3) else some (y3,y,y2,y3)
def xZk (N:Nat) (e:Int) (y:List xZ3) (y2:Int) (y3:Int):Option (Int×Int×List xZ3×Int×Int):=(xZn N y y2 y3).bind fun plac=>some (e,plac.1,plac.2.1,plac.2.2.1,plac.2.2.2)
def xZ2Q (N:Nat) (deep:Int) (y:List xZ3) (y2:Int) (y3:Int):Option ((Int×Int×List xZ3×Int×Int)⊕(List xZ3×Int×Int)):=(xZr N y y2 y3).bind fun vnext=>bif (vnext.1.Kind==2) then bif (vnext.1.Text==[110,111,116]) then bif (leB 16 deep) then (xZk N 15 vnext.2.1 vnext.2.2.1 vnext.2.2.2).bind fun fail=>some (Sum.inl (fail.1,fail.2.1,fail.2.2.1,fail.2.2.2.1,fail.2.2.2.2)) else some (Sum.inr (vnext.2.1,vnext.2.2.1,vnext.2.2.2)) else bif (vnext.1.Kind==4) then bif (vnext.1.Text==[40]) then bif (leB 16 deep) then (xZk N 15 vnext.2.1 vnext.2.2.1 vnext.2.2.2).bind fun fail2=>some (Sum.inl (fail2.1,fail2.2.1,fail2.2.2.1,fail2.2.2.2.1,fail2.2.2.2.2)) else some (Sum.inr (vnext.2.1,vnext.2.2.1,vnext.2.2.2)) else some (Sum.inr (vnext.2.1,vnext.2.2.1,vnext.2.2.2)) else some (Sum.inr (vnext.2.1,vnext.2.2.1,vnext.2.2.2)) else bif (vnext.1.Kind==4) then bif (vnext.1.Text==[40]) then bif (leB 16 deep) then (xZk N 15 vnext.2.1 vnext.2.2.1 vnext.2.2.2).bind fun fail3=>some (Sum.inl (fail3.1,fail3.2.1,fail3.2.2.1,fail3.2.2.2.1,fail3.2.2.2.2)) else some (Sum.inr (vnext.2.1,vnext.2.2.1,vnext.2.2.2)) else some (Sum.inr (vnext.2.1,vnext.2.2.1,vnext.2.2.2)) else some (Sum.inr (vnext.2.1,vnext.2.2.1,vnext.2.2.2))
def xZg (N:Nat) (kind:Int) (text:List UInt8) (y:List xZ3) (y2:Int) (y3:Int):Option (Bool×List xZ3×Int×Int):=(xZr N y y2 y3).bind fun vnext=>bif (vnext.1.Kind != kind) then some (false,vnext.2.1,vnext.2.2.1,vnext.2.2.2) else bif (!(vnext.1.Text==text)) then some (false,vnext.2.1,vnext.2.2.1,vnext.2.2.2) else gd (i64b (vnext.2.2.1+1)) ( some (true,vnext.2.1,(vnext.2.2.1+1),vnext.2.2.2))
def xZ1o (N:Nat) (n:Int):Option (List xZ1):=gd (leB 0 n) (gd (leB (80 * n) 140737488355328) (some []))
def xZ3z (N:Nat) (x4:List (List xZ1)) (x5:Int) (next2:Int→(List xZ1)→Option ((List UInt8)⊕(List xZ1))) (x6:Int) (ys:List xZ1):Option ((List UInt8)⊕(List xZ1)):=bif (ltB x6 x5) then (ix x4 x6).bind fun e2=>gd (Nat.ble ((List.length ys+List.length e2) * 80) 140737488355328) ( gd (i64b (x6+1)) ( next2 (x6+1) (ys++e2))) else some (Sum.inr ys)
def xZ3y (N:Nat) (slices:List (List xZ1)) (x:List (List xZ1)) (x2:Int) (next0:Int→Int→Option ((List UInt8)⊕(List xZ1))) (size:Int) (x3:Int):Option ((List UInt8)⊕(List xZ1)):=bif (ltB x3 x2) then (ix x x3).bind fun e=>gd (i64b (size+(List.length e:Int))) ( bif (ltB (size+(List.length e:Int)) 0) then some (Sum.inl [108,101,110,32,111,117,116,32,111,102,32,114,97,110,103,101]) else gd (i64b (x3+1)) ( next0 (size+(List.length e:Int)) (x3+1))) else (xZ1o N size).bind fun node=>lp2 (xZ3z N slices (List.length slices:Int)) N 0 node
def xZ4l (N:Nat) (slices:List (List xZ1)):Option ((List UInt8)⊕(List xZ1)):=lp2 (xZ3y N slices slices (List.length slices:Int)) N 0 0
def xZ1V (N:Nat) (n:xZ1) (kids:List (List xZ1)):Option (List xZ1):=(xZ4l N kids).bind fun x=>Sum.elim (fun node=>none) (fun node2=>gd (Nat.ble ((1+List.length node2) * 80) 140737488355328) ( some (n::node2))) x
def xZS (N:Nat) (kind:Int) (y:List xZ3) (y2:Int) (y3:Int):Option ((Int×Int×List xZ3×Int×Int)⊕(xZ3×List xZ3×Int×Int)):=(xZr N y y2 y3).bind fun vnext=>bif (vnext.1.Kind != kind) then (xZk N 4 vnext.2.1 vnext.2.2.1 vnext.2.2.2).bind fun fail=>some (Sum.inl (fail.1,fail.2.1,fail.2.2.1,fail.2.2.2.1,fail.2.2.2.2)) else gd (i64b (vnext.2.2.1+1)) ( some (Sum.inr (vnext.1,vnext.2.1,(vnext.2.2.1+1),vnext.2.2.2)))
def xZ1n (N:Nat) (y:List xZ3) (y2:Int) (y3:Int):Option ((Int×Int×List xZ3×Int×Int)⊕(List xZ1×List xZ3×Int×Int)):=(xZg N 4 [45] y y2 y3).bind fun eat=>bif eat.1 then (xZr N eat.2.1 eat.2.2.1 eat.2.2.2).bind fun vnext=>bif (vnext.1.Val.Kind != 1) then (xZk N 4 vnext.2.1 vnext.2.2.1 vnext.2.2.2).bind fun fail=>some (Sum.inl (fail.1,fail.2.1,fail.2.2.1,fail.2.2.2.1,fail.2.2.2.2)) else (xZS N 3 vnext.2.1 vnext.2.2.1 vnext.2.2.2).bind fun x=>Sum.elim (fun take=>some (Sum.inl (take.1,take.2.1,take.2.2.1,take.2.2.2.1,take.2.2.2.2))) (fun take2=>some (Sum.inr ([(xZ1.mk 9 0 [] [] (xZ0.mk take2.1.Val.Kind (IntKind.i64.wrap (0 - take2.1.Val.N)) take2.1.Val.Bits take2.1.Val.Text))],take2.2.1,take2.2.2.1,take2.2.2.2))) x else (xZr N eat.2.1 eat.2.2.1 eat.2.2.2).bind fun vnext2=>bif (vnext2.1.Kind==3) then gd (i64b (vnext2.2.2.1+1)) ( some (Sum.inr ([(xZ1.mk 9 0 [] [] vnext2.1.Val)],vnext2.2.1,(vnext2.2.2.1+1),vnext2.2.2.2))) else (xZS N 1 vnext2.2.1 vnext2.2.2.1 vnext2.2.2.2).bind fun x=>Sum.elim (fun take3=>some (Sum.inl (take3.1,take3.2.1,take3.2.2.1,take3.2.2.2.1,take3.2.2.2.2))) (fun take4=>(xZg N 4 [46] take4.2.1 take4.2.2.1 take4.2.2.2).bind fun eat2=>bif eat2.1 then (xZS N 1 eat2.2.1 eat2.2.2.1 eat2.2.2.2).bind fun x=>Sum.elim (fun take5=>some (Sum.inl (take5.1,take5.2.1,take5.2.2.1,take5.2.2.2.1,take5.2.2.2.2))) (fun take6=>some (Sum.inr ([(xZ1.mk 8 0 take4.1.Text take6.1.Text (xZ0.mk 0 0 0 []))],take6.2.1,take6.2.2.1,take6.2.2.2))) x else some (Sum.inr ([(xZ1.mk 7 0 [] take4.1.Text (xZ0.mk 0 0 0 []))],eat2.2.1,eat2.2.2.1,eat2.2.2.2))) x
def xZ39 (N:Nat) (next0:(List xZ1)→(List xZ3)→Int→Int→Option ((Int×Int×List xZ3×Int×Int)⊕(List xZ1×List xZ3×Int×Int))) (l:List xZ1) (y4:List xZ3) (y5:Int) (y6:Int):Option ((Int×Int×List xZ3×Int×Int)⊕(List xZ1×List xZ3×Int×Int)):=(xZg N 4 [43] y4 y5 y6).bind fun eat=>bif eat.1 then (xZ1n N eat.2.1 eat.2.2.1 eat.2.2.2).bind fun x=>Sum.elim (fun unit3=>some (Sum.inl (unit3.1,unit3.2.1,unit3.2.2.1,unit3.2.2.2.1,unit3.2.2.2.2))) (fun unit4=>(xZ1V N (xZ1.mk 5 0 [] [] (xZ0.mk 0 0 0 [])) [l,unit4.1]).bind fun abov=>next0 abov unit4.2.1 unit4.2.2.1 unit4.2.2.2) x else (xZg N 4 [45] eat.2.1 eat.2.2.1 eat.2.2.2).bind fun eat2=>bif eat2.1 then (xZ1n N eat2.2.1 eat2.2.2.1 eat2.2.2.2).bind fun x=>Sum.elim (fun unit5=>some (Sum.inl (unit5.1,unit5.2.1,unit5.2.2.1,unit5.2.2.2.1,unit5.2.2.2.2))) (fun unit6=>(xZ1V N (xZ1.mk 6 0 [] [] (xZ0.mk 0 0 0 [])) [l,unit6.1]).bind fun abov2=>next0 abov2 unit6.2.1 unit6.2.2.1 unit6.2.2.2) x else some (Sum.inr (l,eat2.2.1,eat2.2.2.1,eat2.2.2.2))
def xZ2i (N:Nat) (y:List xZ3) (y2:Int) (y3:Int):Option ((Int×Int×List xZ3×Int×Int)⊕(List xZ1×List xZ3×Int×Int)):=(xZ1n N y y2 y3).bind fun x=>Sum.elim (fun unit=>some (Sum.inl (unit.1,unit.2.1,unit.2.2.1,unit.2.2.2.1,unit.2.2.2.2))) (fun unit2=>lp4 (xZ39 N) N unit2.1 unit2.2.1 unit2.2.2.1 unit2.2.2.2) x
def xZ3i (N:Nat) (op:Int):Option (List UInt8):=bif (op==1) then some [61] else bif (op==2) then some [33,61] else bif (op==3) then some [60] else bif (op==4) then some [60,61] else bif (op==5) then some [62] else bif (op==6) then some [62,61] else some []
def xZbU (N:Nat) (sign:List UInt8) (next0:Int→Option Int) (op:Int):Option Int:=bif (leB op 6) then (xZ3i N op).bind fun sign2=>bif (sign2==sign) then some op else next0 (IntKind.u8.wrap (op+1)) else some 0
def xZeq (N:Nat) (sign:List UInt8):Option Int:=lp1 (xZbU N sign) N 1
abbrev xZu:Type:=(Int→(List xZ3)→Int→Int→Option ((Int×Int×List xZ3×Int×Int)⊕(List xZ1×List xZ3×Int×Int)))×(Int→(List xZ3)→Int→Int→Option ((Int×Int×List xZ3×Int×Int)⊕(List xZ1×List xZ3×Int×Int)))×(Int→(List xZ3)→Int→Int→Option ((Int×Int×List xZ3×Int×Int)⊕(List xZ1×List xZ3×Int×Int)))
def xZ3w (N:Nat) (p:xZu) (deep:Int) (next0:(List xZ1)→(List xZ3)→Int→Int→Option ((Int×Int×List xZ3×Int×Int)⊕(List xZ1×List xZ3×Int×Int))) (l:List xZ1) (y4:List xZ3) (y5:Int) (y6:Int):Option ((Int×Int×List xZ3×Int×Int)⊕(List xZ1×List xZ3×Int×Int)):=(xZg N 2 [111,114] y4 y5 y6).bind fun eat=>bif eat.1 then (p.2.1 deep eat.2.1 eat.2.2.1 eat.2.2.2).bind fun x=>Sum.elim (fun and3=>some (Sum.inl (and3.1,and3.2.1,and3.2.2.1,and3.2.2.2.1,and3.2.2.2.2))) (fun and4=>(xZ1V N (xZ1.mk 2 0 [] [] (xZ0.mk 0 0 0 [])) [l,and4.1]).bind fun abov=>next0 abov and4.2.1 and4.2.2.1 and4.2.2.2) x else some (Sum.inr (l,eat.2.1,eat.2.2.1,eat.2.2.2))
def xZ80 (N:Nat) (p:xZu) (deep:Int) (y:List xZ3) (y2:Int) (y3:Int):Option ((Int×Int×List xZ3×Int×Int)⊕(List xZ1×List xZ3×Int×Int)):=(p.2.1 deep y y2 y3).bind fun x=>Sum.elim (fun and=>some (Sum.inl (and.1,and.2.1,and.2.2.1,and.2.2.2.1,and.2.2.2.2))) (fun and2=>lp4 (xZ3w N p deep) N and2.1 and2.2.1 and2.2.2.1 and2.2.2.2) x
def xZ38 (N:Nat) (p:xZu) (deep:Int) (next0:(List xZ1)→(List xZ3)→Int→Int→Option ((Int×Int×List xZ3×Int×Int)⊕(List xZ1×List xZ3×Int×Int))) (l:List xZ1) (y4:List xZ3) (y5:Int) (y6:Int):Option ((Int×Int×List xZ3×Int×Int)⊕(List xZ1×List xZ3×Int×Int)):=(xZg N 2 [97,110,100] y4 y5 y6).bind fun eat=>bif eat.1 then (p.2.2 deep eat.2.1 eat.2.2.1 eat.2.2.2).bind fun x=>Sum.elim (fun part3=>some (Sum.inl (part3.1,part3.2.1,part3.2.2.1,part3.2.2.2.1,part3.2.2.2.2))) (fun part4=>(xZ1V N (xZ1.mk 1 0 [] [] (xZ0.mk 0 0 0 [])) [l,part4.1]).bind fun abov=>next0 abov part4.2.1 part4.2.2.1 part4.2.2.2) x else some (Sum.inr (l,eat.2.1,eat.2.2.1,eat.2.2.2))
def xZ7y (N:Nat) (p:xZu) (deep:Int) (y:List xZ3) (y2:Int) (y3:Int):Option ((Int×Int×List xZ3×Int×Int)⊕(List xZ1×List xZ3×Int×Int)):=(p.2.2 deep y y2 y3).bind fun x=>Sum.elim (fun part=>some (Sum.inl (part.1,part.2.1,part.2.2.1,part.2.2.2.1,part.2.2.2.2))) (fun part2=>lp4 (xZ38 N p deep) N part2.1 part2.2.1 part2.2.2.1 part2.2.2.2) x
def xZ6N (N:Nat) (p:xZu) (deep:Int) (y:List xZ3) (y2:Int) (y3:Int):Option ((Int×Int×List xZ3×Int×Int)⊕(List xZ1×List xZ3×Int×Int)):=(xZ2Q N deep y y2 y3).bind fun x=>Sum.elim (fun deep2=>some (Sum.inl (deep2.1,deep2.2.1,deep2.2.2.1,deep2.2.2.2.1,deep2.2.2.2.2))) (fun deep3=>(xZg N 2 [110,111,116] deep3.1 deep3.2.1 deep3.2.2).bind fun eat=>bif eat.1 then gd (i64b (deep+1)) ( (p.2.2 (deep+1) eat.2.1 eat.2.2.1 eat.2.2.2).bind fun x=>Sum.elim (fun part=>some (Sum.inl (part.1,part.2.1,part.2.2.1,part.2.2.2.1,part.2.2.2.2))) (fun part2=>(xZ1V N (xZ1.mk 3 0 [] [] (xZ0.mk 0 0 0 [])) [part2.1]).bind fun abov=>some (Sum.inr (abov,part2.2.1,part2.2.2.1,part2.2.2.2))) x) else (xZg N 4 [40] eat.2.1 eat.2.2.1 eat.2.2.2).bind fun eat2=>bif eat2.1 then gd (i64b (deep+1)) ( (p.1 (deep+1) eat2.2.1 eat2.2.2.1 eat2.2.2.2).bind fun x=>Sum.elim (fun or=>some (Sum.inl (or.1,or.2.1,or.2.2.1,or.2.2.2.1,or.2.2.2.2))) (fun or2=>(xZg N 4 [41] or2.2.1 or2.2.2.1 or2.2.2.2).bind fun eat3=>bif (!eat3.1) then (xZk N 4 eat3.2.1 eat3.2.2.1 eat3.2.2.2).bind fun fail=>some (Sum.inl (fail.1,fail.2.1,fail.2.2.1,fail.2.2.2.1,fail.2.2.2.2)) else some (Sum.inr (or2.1,eat3.2.1,eat3.2.2.1,eat3.2.2.2))) x) else (xZ2i N eat2.2.1 eat2.2.2.1 eat2.2.2.2).bind fun x=>Sum.elim (fun sum=>some (Sum.inl (sum.1,sum.2.1,sum.2.2.1,sum.2.2.2.1,sum.2.2.2.2))) (fun sum2=>(xZr N sum2.2.1 sum2.2.2.1 sum2.2.2.2).bind fun vnext=>(xZeq N vnext.1.Text).bind fun op=>bif (op==0) then (xZk N 4 vnext.2.1 vnext.2.2.1 vnext.2.2.2).bind fun fail2=>some (Sum.inl (fail2.1,fail2.2.1,fail2.2.2.1,fail2.2.2.2.1,fail2.2.2.2.2)) else (xZS N 4 vnext.2.1 vnext.2.2.1 vnext.2.2.2).bind fun x=>Sum.elim (fun take=>some (Sum.inl (take.1,take.2.1,take.2.2.1,take.2.2.2.1,take.2.2.2.2))) (fun take2=>(xZ2i N take2.2.1 take2.2.2.1 take2.2.2.2).bind fun x=>Sum.elim (fun sum3=>some (Sum.inl (sum3.1,sum3.2.1,sum3.2.2.1,sum3.2.2.2.1,sum3.2.2.2.2))) (fun sum4=>(xZ1V N (xZ1.mk 4 op [] [] (xZ0.mk 0 0 0 [])) [sum2.1,sum4.1]).bind fun abov2=>some (Sum.inr (abov2,sum4.2.1,sum4.2.2.1,sum4.2.2.2))) x) x) x) x
def xZW (N:Nat):xZu:=Nat.rec (motive:=fun _=>xZu) ((fun _ _ _ _=>none),(fun _ _ _ _=>none),(fun _ _ _ _=>none)) (fun N p=>((xZ80 N p),(xZ7y N p),(xZ6N N p))) N
def xZI (N:Nat) (deep:Int) (y:List xZ3) (y2:Int) (y3:Int):Option ((Int×Int×List xZ3×Int×Int)⊕(List xZ1×List xZ3×Int×Int)):=(xZW N).1 deep y y2 y3
def xZ7T (N:Nat) (deep:Int) (y:List xZ3) (y2:Int) (y3:Int):Option ((Int×Int×List xZ3×Int×Int)⊕(List xZ1×List xZ3×Int×Int)):=(xZW N).2.1 deep y y2 y3
def xZ6Y (N:Nat) (deep:Int) (y:List xZ3) (y2:Int) (y3:Int):Option ((Int×Int×List xZ3×Int×Int)⊕(List xZ1×List xZ3×Int×Int)):=(xZW N).2.2 deep y y2 y3
def xZ3m (N:Nat) (n:xZ1) (vwhere:Int):Option Bool:=bif (vwhere==0) then bif (leB 1 n.Kind) then some (leB n.Kind 4) else some false else bif (vwhere==1) then bif (leB 5 n.Kind) then some (leB n.Kind 9) else some false else bif (leB 7 n.Kind) then some (leB n.Kind 9) else some false
def xZ3R (N:Nat) (c:Int):Option Bool:=bif (leB 97 c) then some (leB c 122) else some false
def xZ3Y (N:Nat) (s:List UInt8):Option Bool:=bif (s==[119,105,116,104,105,110]) then bif (s==[119,105,116,104,105,110]) then some true else some false else bif (s==[98,121]) then bif (s==[98,121]) then some true else some false else bif (s==[97,110,100]) then bif (s==[97,110,100]) then some true else some false else bif (s==[111,114]) then bif (s==[111,114]) then some true else some false else bif (s==[110,111,116]) then bif (s==[110,111,116]) then some true else some false else bif (s==[97,110,121]) then bif (s==[97,110,121]) then some true else some false else bif (s==[110,101,120,116]) then bif (s==[110,101,120,116]) then some true else some false else bif (s==[115,116,114,105,99,116]) then bif (s==[115,116,114,105,99,116]) then some true else some false else bif (s==[116,114,117,101]) then bif (s==[116,114,117,101]) then some true else some false else bif (s==[102,97,108,115,101]) then some true else some false
def xZ7n (N:Nat) (c:Int):Option Bool:=(xZ3R N c).bind fun lett=>bif lett then some true else bif (leB 48 c) then bif (leB c 57) then some true else some (c==95) else some (c==95)
def xZ5d (N:Nat) (s:List UInt8) (next0:Int→Option Bool) (i:Int):Option Bool:=bif (ltB i (List.length s:Int)) then (ix s i).bind fun c2=>(xZ7n N (UInt8.toNat c2:Int)).bind fun tail=>bif (!tail) then some false else gd (i64b (i+1)) ( next0 (i+1)) else some true
def xZ4k (N:Nat) (s:List UInt8):Option Bool:=bif (s==[]) then some false else bif (ltB 12 (List.length s:Int)) then some false else (ix s 0).bind fun c=>(xZ3R N (UInt8.toNat c:Int)).bind fun lett=>bif (!lett) then some false else (xZ3Y N s).bind fun rese=>bif rese then some false else lp1 (xZ5d N s) N 1
def xZbc (N:Nat) (v:xZ0):Option (Int⊕Int⊕Int⊕(List UInt8)⊕Unit):=bif (v.Kind==1) then some (Sum.inl v.N) else bif (v.Kind==2) then some (Sum.inr (Sum.inl v.N)) else bif (v.Kind==3) then some (Sum.inr (Sum.inr (Sum.inl v.Bits))) else bif (v.Kind==4) then some (Sum.inr (Sum.inr (Sum.inr (Sum.inl v.Text)))) else some (Sum.inr (Sum.inr (Sum.inr (Sum.inr ()))))
def xZ4a (N:Nat) (n:Int):Option xZ0:=some (xZ0.mk 1 n 0 [])
def xZ3o (N:Nat) (n:Int):Option xZ0:=some (xZ0.mk 2 n 0 [])
def xZ7j (N:Nat) (u:Int):Option Nat:=some (Int.toNat u)
def xZ46 (N:Nat) (u:Int):Option Int:=(xZ7j N u).bind fun of=>bif (fcmpB .neq .f64 of of) then some 9221120237041090560 else some u
def xZ49 (N:Nat) (u:Int):Option xZ0:=some (xZ0.mk 3 0 u [])
def xZ4H (N:Nat) (s:List UInt8):Option xZ0:=some (xZ0.mk 4 0 0 s)
def xZ2x (N:Nat) (v:xZ0):Option Int:=(xZbc N v).bind fun x=>Sum.elim (fun core=>bif (ltB core (-4611686018427387904)) then some 8 else bif (ltB 4611686018427387904 core) then some 8 else (xZ4a N core).bind fun whol=>bif (!((whol.Kind==v.Kind)&&((whol.N==v.N)&&((whol.Bits==v.Bits)&&(whol.Text==v.Text))))) then some 2 else some 0) (Sum.elim (fun core2=>bif (core2 != 0) then bif (core2 != 1) then some 8 else (xZ3o N core2).bind fun whol2=>bif (!((whol2.Kind==v.Kind)&&((whol2.N==v.N)&&((whol2.Bits==v.Bits)&&(whol2.Text==v.Text))))) then some 2 else some 0 else (xZ3o N core2).bind fun whol3=>bif (!((whol3.Kind==v.Kind)&&((whol3.N==v.N)&&((whol3.Bits==v.Bits)&&(whol3.Text==v.Text))))) then some 2 else some 0) (Sum.elim (fun core3=>(xZ46 N core3).bind fun clea=>bif (clea != core3) then some 4 else (xZ49 N core3).bind fun whol4=>bif (!((whol4.Kind==v.Kind)&&((whol4.N==v.N)&&((whol4.Bits==v.Bits)&&(whol4.Text==v.Text))))) then some 2 else some 0) (Sum.elim (fun core4=>bif (ltB 24 (List.length core4:Int)) then some 5 else (xZ4H N core4).bind fun whol5=>bif (!((whol5.Kind==v.Kind)&&((whol5.N==v.N)&&((whol5.Bits==v.Bits)&&(whol5.Text==v.Text))))) then some 2 else some 0) (fun core5=>some 11)))) x
def xZ3X (N:Nat) (n:xZ1):Option Bool:=bif (n.Kind==4) then (xZ3i N n.Op).bind fun sign=>some (sign==[]) else bif (n.Kind==7) then (xZ4k N n.Name).bind fun name=>some (!name) else bif (n.Kind==8) then (xZ4k N n.Name).bind fun name2=>bif (!name2) then some true else (xZ4k N n.Var).bind fun name3=>some (!name3) else bif (n.Kind==9) then (xZ2x N n.Val).bind fun chec=>some (chec != 0) else some false
def xZ8N (N:Nat) (n:xZ1) (e:Int):Option Int:=(xZ3X N n).bind fun lack=>bif lack then some e else some 0
def moreZ (v:xZ0):Bool:=(v.Kind==0)&&((v.N==0)&&((v.Bits==0)&&(v.Text==[])))
def moreB (n:xZ1):Bool:=bif n.Kind==4 then !((n.Var==[])&&((n.Name==[])&&moreZ n.Val)) else bif n.Kind==7 then !((n.Op==0)&&((n.Var==[])&&moreZ n.Val)) else bif n.Kind==8 then !((n.Op==0)&&moreZ n.Val) else bif n.Kind==9 then !((n.Op==0)&&((n.Var==[])&&(n.Name==[]))) else !((n.Op==0)&&((n.Var==[])&&((n.Name==[])&&moreZ n.Val)))
def xZ6y (N:Nat) (n:xZ1):Option Bool:=some (moreB n)
def xZ8M (N:Nat) (n:xZ1) (e:Int):Option Int:=(xZ6y N n).bind fun more=>bif more then some e else some 0
def xZa8 (N:Nat) (kind:Int):Option Int:=bif (kind==1) then bif (kind==1) then some 2 else bif (kind==3) then some 1 else some 0 else bif (kind==2) then bif (kind==2) then some 2 else bif (kind==3) then some 1 else some 0 else bif (kind==4) then bif (kind==4) then some 2 else bif (kind==3) then some 1 else some 0 else bif (kind==5) then bif (kind==5) then some 2 else bif (kind==3) then some 1 else some 0 else bif (kind==6) then some 2 else bif (kind==3) then some 1 else some 0
def xZ5b (N:Nat) (n:xZ1) (which:Int):Option Int:=bif (leB n.Kind 3) then some 0 else bif (n.Kind==4) then bif (n.Kind==4) then some 1 else some 2 else bif (which==0) then some 1 else some 2
abbrev xZ1C:Type:=(Int→Int→(List xZ1)→Int→Option (Int×List xZ1×Int))
def xZ1w (N:Nat) (p:xZ1C) (deep:Int) (kids:Int) (y5:Int) (y6:Int) (y7:List UInt8) (y8:List UInt8) (y9:Int) (y10:Int) (y11:Int) (y12:List UInt8) (next0:Int→(List xZ1)→Int→Option (Int×List xZ1×Int)) (x:Int) (y3:List xZ1) (y4:Int):Option (Int×List xZ1×Int):=bif (ltB x kids) then (xZ5b N (xZ1.mk y5 y6 y7 y8 (xZ0.mk y9 y10 y11 y12)) x).bind fun kid=>gd (i64b (deep+1)) ( (p kid (deep+1) y3 y4).bind fun tree=>bif (tree.1 != 0) then some (tree.1,tree.2.1,tree.2.2) else gd (i64b (x+1)) ( next0 (x+1) tree.2.1 tree.2.2)) else some (0,y3,y4)
def xZ2y (N:Nat) (p:xZ1C) (vwhere:Int) (deep:Int) (y:List xZ1) (y2:Int):Option (Int×List xZ1×Int):=bif (leB (List.length y:Int) y2) then some (3,y,y2) else (ix y y2).bind fun e=>bif (leB 16 deep) then some (15,y,y2) else (xZ3m N e vwhere).bind fun stan=>bif (!stan) then some (11,y,y2) else (xZ8N N e 4).bind fun is=>bif (is != 0) then some (is,y,y2) else (xZ8M N e 2).bind fun is2=>bif (is2 != 0) then some (is2,y,y2) else gd (i64b (y2+1)) ( (xZa8 N e.Kind).bind fun kids=>lp3 (xZ1w N p deep kids e.Kind e.Op e.Var e.Name e.Val.Kind e.Val.N e.Val.Bits e.Val.Text) N 0 y (y2+1))
def xZG (N:Nat):xZ1C:=Nat.rec (motive:=fun _=>xZ1C) (fun _ _ _ _=>none) (fun N p=>(xZ2y N p)) N
def xZ4C (N:Nat) (vwhere:Int) (deep:Int) (y:List xZ1) (y2:Int):Option (Int×List xZ1×Int):=(xZG N) vwhere deep y y2
def xZ2C (N:Nat) (l:List xZ1):Option Int:=bif (ltB 30 (List.length l:Int)) then some 5 else bif ((List.length l:Int)==0) then some 0 else (xZ4C N 0 0 l 0).bind fun tree=>bif (tree.1 != 0) then some tree.1 else bif (ltB tree.2.2 (List.length l:Int)) then some 5 else some 0
def xZ6z (N:Nat) (l:List xZ3) (at_ e:Int):Option ((List xZ1×Int)⊕(List xZ1×Int×Int×Int)):=bif ltB at_ 0 then some (.inr ([],0,2,0)) else bif ltB (l.length:Int) at_ then some (.inr ([],0,2,0)) else (xZn N l at_ e).bind fun x=>(xZI N 0 x.2.1 x.2.2.1 x.2.2.2).bind fun y=>Sum.elim (fun p=>gd (p.1 != 0) (some (.inr ([],0,p.1,p.2.1)))) (fun r=>(xZ2C N r.1).bind fun c=>bif c != 0 then some (.inr ([],0,c,x.1)) else some (.inl (r.1,r.2.2.1))) y
abbrev xZ3x (N:Nat) (s:List xZb):Option (List xZb):=shClone 24 s
def lastB:List xZ4→List UInt8→xZ6×Bool
 | [],_=>(⟨0,0,0,[],[]⟩,false)
 | p::l,s=>match lastB l s with
   | (e,true)=>(e,true)
   | (_,false)=>bif p.Var==s then (p.E,true) else (⟨0,0,0,[],[]⟩,false)
def xZ6k (N:Nat) (b:List xZ4) (name:List UInt8):Option (xZ6×Bool):=gd (Nat.ble b.length 1000000) (some (lastB b name))
def xZ37 (N:Nat):Option Bool:=some true
def xZ3k (N:Nat) (l:List xZ2) (i:Int) (next0:Int→Option Int) (next2:Int→Option Int) (k:Int):Option Int:=(ix l i).bind fun e3=>bif (ltB k (List.length e3.Fields:Int)) then (ix l i).bind fun e4=>(ix e4.Fields k).bind fun e5=>bif (ltB 40 (List.length e5.Name:Int)) then some 1 else gd (i64b (k+1)) ( next2 (k+1)) else gd (i64b (i+1)) ( next0 (i+1))
def xZ3j (N:Nat) (l:List xZ2) (next0:Int→Option Int) (i:Int):Option Int:=bif (ltB i (List.length l:Int)) then (ix l i).bind fun e=>bif (ltB 40 (List.length e.Name:Int)) then some 1 else (ix l i).bind fun e2=>bif (ltB 12 (List.length e2.Fields:Int)) then some 1 else lp1 (xZ3k N l i next0) N 0 else some 0
def xZ4W (N:Nat) (l:List xZ2):Option Int:=bif (ltB 12 (List.length l:Int)) then some 1 else lp1 (xZ3j N l) N 0
def xZ6d (N:Nat) (l:List xZ6) (i:Int) (next0:Int→Option Int) (next2:Int→Option Int) (k:Int):Option Int:=(ix l i).bind fun e3=>bif (ltB k (List.length e3.Vals:Int)) then (ix l i).bind fun e4=>(ix e4.Vals k).bind fun e5=>(xZ5u N e5).bind fun smal=>bif (ltB 0 smal) then some 1 else gd (i64b (k+1)) ( next2 (k+1)) else gd (i64b (i+1)) ( next0 (i+1))
def xZ6c (N:Nat) (l:List xZ6) (next0:Int→Option Int) (i:Int):Option Int:=bif (ltB i (List.length l:Int)) then (ix l i).bind fun e=>bif (ltB 40 (List.length e.Type_:Int)) then some 1 else (ix l i).bind fun e2=>bif (ltB 12 (List.length e2.Vals:Int)) then some 1 else lp1 (xZ6d N l i next0) N 0 else some 0
def xZ6x (N:Nat) (l:List xZ6) (most:Int):Option Int:=bif (ltB most (List.length l:Int)) then some 1 else lp1 (xZ6c N l) N 0
def xZ6f (N:Nat) (l:List xZ4) (next0:Int→Option Int) (i:Int):Option Int:=bif (ltB i (List.length l:Int)) then (ix l i).bind fun e=>bif (ltB 40 (List.length e.Var:Int)) then some 1 else (ix l i).bind fun e2=>(xZ6x N [e2.E] 1).bind fun over=>bif (ltB 0 over) then some 1 else gd (i64b (i+1)) ( next0 (i+1)) else some 0
def xZ8K (N:Nat) (l:List xZ4):Option Int:=bif (ltB 20 (List.length l:Int)) then some 1 else lp1 (xZ6f N l) N 0
def xZ8L (N:Nat) (s:xZc):Option Int:=(xZ4W N s.Types).bind fun over=>(xZ8K N s.Bound).bind fun long=>gd (i64b (over+long)) ( (xZ6x N [s.E] 1).bind fun over2=>gd (i64b ((over+long)+over2)) ( some ((over+long)+over2)))
def xZ7h (N:Nat) (l:List xZ1) (next0:Int→(List xZ1)→Option (List xZ1)) (i:Int) (ys:List xZ1):Option (List xZ1):=bif (ltB i (List.length l:Int)) then (ix l i).bind fun e=>gd (Nat.ble ((List.length ys+1) * 80) 140737488355328) ( gd (i64b (i+1)) ( next0 (i+1) (ys++[e]))) else some ys
def xZa7 (N:Nat) (l:List xZ1):Option (List xZ1):=lp2 (xZ7h N l) N 0 []
def xZ7g (N:Nat) (l:List xZ2) (i:Int) (y:List UInt8) (next0:Int→(List xZ2)→Option (List xZ2)) (next2:Int→(List xZ2)→(List xZb)→Option (List xZ2)) (k:Int) (ys2:List xZ2) (ys3:List xZb):Option (List xZ2):=(ix l i).bind fun e2=>bif (ltB k (List.length e2.Fields:Int)) then (ix l i).bind fun e3=>(ix e3.Fields k).bind fun e4=>gd (Nat.ble ((List.length ys3+1) * 24) 140737488355328) ( gd (i64b (k+1)) ( next2 (k+1) ys2 (ys3++[e4]))) else gd (Nat.ble ((List.length ys2+1) * 40) 140737488355328) ( gd (i64b (i+1)) ( next0 (i+1) (ys2++[(xZ2.mk y ys3)])))
def xZ7f (N:Nat) (l:List xZ2) (next0:Int→(List xZ2)→Option (List xZ2)) (i:Int) (ys:List xZ2):Option (List xZ2):=bif (ltB i (List.length l:Int)) then (ix l i).bind fun e=>lp3 (xZ7g N l i e.Name next0) N 0 ys [] else some ys
def xZcG (N:Nat) (l:List xZ2):Option (List xZ2):=lp2 (xZ7f N l) N 0 []
def xZ6b (N:Nat) (l:List xZ0) (next0:Int→(List xZ0)→Option (List xZ0)) (i:Int) (ys:List xZ0):Option (List xZ0):=bif (ltB i (List.length l:Int)) then (ix l i).bind fun e=>gd (Nat.ble ((List.length ys+1) * 40) 140737488355328) ( gd (i64b (i+1)) ( next0 (i+1) (ys++[e]))) else some ys
def xZ8I (N:Nat) (l:List xZ0):Option (List xZ0):=lp2 (xZ6b N l) N 0 []
def xZ89 (N:Nat) (e:xZ6):Option xZ6:=(xZ8I N e.Vals).bind fun vals=>some (xZ6.mk e.Time e.Source e.Seq e.Type_ vals)
def xZ5a (N:Nat) (l:List xZ4) (next0:Int→(List xZ4)→Option (List xZ4)) (i:Int) (ys:List xZ4):Option (List xZ4):=bif (ltB i (List.length l:Int)) then (ix l i).bind fun e=>(ix l i).bind fun e2=>(xZ89 N e2.E).bind fun own=>gd (Nat.ble ((List.length ys+1) * 80) 140737488355328) ( gd (i64b (i+1)) ( next0 (i+1) (ys++[(xZ4.mk e.Var own)]))) else some ys
def xZ7i (N:Nat) (l:List xZ4):Option (List xZ4):=lp2 (xZ5a N l) N 0 []
abbrev xZ2p:Type:=((List xZ1)→Int→Option (xZd×List xZ1×Int))
def xZ19 (N:Nat) (p:xZ2p) (y:List xZ1) (y2:Int):Option (xZd×List xZ1×Int):=(ix y y2).bind fun e=>gd (i64b (y2+1)) ( bif (e.Kind==9) then some ((xZd.lit_ e.Val),y,(y2+1)) else bif (e.Kind==7) then some ((xZd.own_ e.Name),y,(y2+1)) else bif (e.Kind==8) then some ((xZd.of_ e.Var e.Name),y,(y2+1)) else (p y (y2+1)).bind fun side=>bothN EqR.cls 1 ( (p side.2.1 side.2.2).bind fun side2=>some ((xZd.sum_ (e.Kind==6) side.1 side2.1),side2.2.1,side2.2.2)))
def xZ14 (N:Nat):xZ2p:=Nat.rec (motive:=fun _=>xZ2p) (fun _ _=>none) (fun N p=>(xZ19 N p)) N
def xZA (N:Nat) (y:List xZ1) (y2:Int):Option (xZd×List xZ1×Int):=(xZ14 N) y y2
def xZM (N:Nat) (t:xZ1Z) (y:List xZ2) (y2:List xZ4) (y3:Int) (y4:Int) (y5:Int) (y6:List UInt8) (y7:List xZ0):Option (xZ0×Bool×List xZ2×List xZ4×Int×Int×Int×List UInt8×List xZ0):=some (t.v,true,y,y2,y3,y4,y5,y6,y7)
def xZ5c (N:Nat) (name:List UInt8) (l:List xZ2) (x:Int) (next0:Int→Option (xZ2×Bool)) (x2:Int):Option (xZ2×Bool):=bif (ltB x2 x) then (ix l x2).bind fun e=>bif (e.Name==name) then (xZ3x N e.Fields).bind fun clon=>some ((xZ2.mk name clon),true) else gd (i64b (x2+1)) ( next0 (x2+1)) else some ((xZ2.mk [] []),false)
def xZ7m (N:Nat) (l:List xZ2) (name:List UInt8):Option (xZ2×Bool):=lp1 (xZ5c N name l (List.length l:Int)) N 0
def xZ2m (N:Nat) (name:List UInt8) (x:List xZb) (x2:Int) (next0:Int→Option (Int×Int)) (x3:Int):Option (Int×Int):=bif (ltB x3 x2) then (ix x x3).bind fun e=>bif (e.Name==name) then some (x3,e.Kind) else gd (i64b (x3+1)) ( next0 (x3+1)) else some ((-1),0)
def xZ2R (N:Nat) (t:xZ2) (name:List UInt8):Option (Int×Int):=lp1 (xZ2m N name t.Fields (List.length t.Fields:Int)) N 0
def xZ2a (N:Nat) (e:xZ6) (types:List xZ2) (field:List UInt8):Option (xZ0×Bool):=(xZ7m N types e.Type_).bind fun find=>(xZ2R N find.1 field).bind fun fiel=>bif (ltB fiel.1 0) then some ((xZ0.mk 0 0 0 []),false) else bif (leB (List.length e.Vals:Int) fiel.1) then some ((xZ0.mk 0 0 0 []),false) else (ix e.Vals fiel.1).bind fun e2=>some (e2,true)
def xZl (N:Nat) (t:xZ2M) (y:List xZ2) (y2:List xZ4) (y3:Int) (y4:Int) (y5:Int) (y6:List UInt8) (y7:List xZ0):Option (xZ0×Bool×List xZ2×List xZ4×Int×Int×Int×List UInt8×List xZ0):=(xZ6k N y2 t.name).bind fun last=>bif (!last.2) then some ((xZ0.mk 0 0 0 []),false,y,y2,y3,y4,y5,y6,y7) else (xZ2a N last.1 y t.field).bind fun valu=>some (valu.1,valu.2,y,y2,y3,y4,y5,y6,y7)
def xZs (N:Nat) (t:xZ20) (y:List xZ2) (y2:List xZ4) (y3:Int) (y4:Int) (y5:Int) (y6:List UInt8) (y7:List xZ0):Option (xZ0×Bool×List xZ2×List xZ4×Int×Int×Int×List UInt8×List xZ0):=(xZ2a N (xZ6.mk y3 y4 y5 y6 y7) y t.name).bind fun valu=>some (valu.1,valu.2,y,y2,y3,y4,y5,y6,y7)
def xZ1E (N:Nat) (kind:Int):Option Bool:=bif (kind==1) then some true else some (kind==3)
def xZ34 (N:Nat) (va:xZ0) (b:xZ0):Option Bool:=(xZ2x N va).bind fun chec=>bif (chec==0) then (xZ2x N b).bind fun chec2=>bif (chec2==0) then (xZ1E N va.Kind).bind fun nume=>bif nume then (xZ1E N b.Kind).bind fun nume2=>some nume2 else some false else some false else some false
def xZ3f (N:Nat) (n:Int):Option xZ0:=some (xZ0.mk 1 (max (-4611686018427387904) (min n 4611686018427387904)) 0 [])
def xZN (N:Nat) (va:Int) (b:Int):Option (xZ0×Bool):=bif (leB 0 b) then gd (i64b (4611686018427387904 - b)) ( bif (ltB (4611686018427387904 - b) va) then some ((xZ0.mk 0 0 0 []),false) else bif (ltB b 0) then gd (i64b ((-4611686018427387904) - b)) ( bif (ltB va ((-4611686018427387904) - b)) then some ((xZ0.mk 0 0 0 []),false) else gd (i64b (va+b)) ( (xZ3f N (va+b)).bind fun ofin=>some (ofin,true))) else gd (i64b (va+b)) ( (xZ3f N (va+b)).bind fun ofin2=>some (ofin2,true))) else bif (ltB b 0) then gd (i64b ((-4611686018427387904) - b)) ( bif (ltB va ((-4611686018427387904) - b)) then some ((xZ0.mk 0 0 0 []),false) else gd (i64b (va+b)) ( (xZ3f N (va+b)).bind fun ofin3=>some (ofin3,true))) else gd (i64b (va+b)) ( (xZ3f N (va+b)).bind fun ofin4=>some (ofin4,true))
def xZbb (N:Nat) (n:Int):Option Int:=some ((FloatKind.f64.nearest n:Nat):Int)
def xZL (N:Nat) (v:xZ0):Option Int:=bif (v.Kind==1) then (xZbb N v.N).bind fun ofin=>some ofin else some v.Bits
def xZ9Z (N:Nat) (u:Int):Option Int:=(xZ46 N (bwX .u64 u 9223372036854775808)).bind fun clea=>some clea
def xZ6A (N:Nat) (a b:Int):Option Int:=some (rAdd a b)
def xZ2I (N:Nat) (bits:Int):Option xZ0:=(xZ46 N bits).bind fun clea=>some (xZ0.mk 3 0 clea [])
def xZ1v (N:Nat) (va:xZ0) (b:xZ0):Option (xZ0×Bool):=(xZ34 N va b).bind fun summ=>bif (!summ) then some ((xZ0.mk 0 0 0 []),false) else bif (va.Kind==1) then bif (b.Kind==1) then (xZN N va.N (IntKind.i64.wrap (0 - b.N))).bind fun whol=>some (whol.1,whol.2) else (xZL N va).bind fun doub=>(xZL N b).bind fun doub2=>(xZ9Z N doub2).bind fun neg=>(xZ6A N doub neg).bind fun add=>(xZ2I N add).bind fun ofre=>some (ofre,true) else (xZL N va).bind fun doub3=>(xZL N b).bind fun doub4=>(xZ9Z N doub4).bind fun neg2=>(xZ6A N doub3 neg2).bind fun add2=>(xZ2I N add2).bind fun ofre2=>some (ofre2,true)
def xZ1M (N:Nat) (va:xZ0) (b:xZ0):Option (xZ0×Bool):=(xZ34 N va b).bind fun summ=>bif (!summ) then some ((xZ0.mk 0 0 0 []),false) else bif (va.Kind==1) then bif (b.Kind==1) then (xZN N va.N b.N).bind fun whol=>some (whol.1,whol.2) else (xZL N va).bind fun doub=>(xZL N b).bind fun doub2=>(xZ6A N doub doub2).bind fun add=>(xZ2I N add).bind fun ofre=>some (ofre,true) else (xZL N va).bind fun doub3=>(xZL N b).bind fun doub4=>(xZ6A N doub3 doub4).bind fun add2=>(xZ2I N add2).bind fun ofre2=>some (ofre2,true)
abbrev xZ1q:Type:=(xZ1j→(List xZ2)→(List xZ4)→Int→Int→Int→(List UInt8)→(List xZ0)→Option (xZ0×Bool×List xZ2×List xZ4×Int×Int×Int×List UInt8×List xZ0))
def xZy (N:Nat) (p:xZ1q) (t:xZ1j) (x:Int) (x2:Int) (x3:Int) (x4:List UInt8) (x5:Bool) (x6:Int) (x7:Int) (x8:Int) (x9:List UInt8) (x10:Bool) (y15:List xZ2) (y16:List xZ4) (y17:Int) (y18:Int) (y19:Int) (y20:List UInt8) (y21:List xZ0):Option (xZ0×Bool×List xZ2×List xZ4×Int×Int×Int×List UInt8×List xZ0):=bif (!x5) then some ((xZ0.mk 0 0 0 []),false,y15,y16,y17,y18,y19,y20,y21) else bif (!x10) then some ((xZ0.mk 0 0 0 []),false,y15,y16,y17,y18,y19,y20,y21) else bif t.minus then (xZ1v N (xZ0.mk x x2 x3 x4) (xZ0.mk x6 x7 x8 x9)).bind fun minu=>some (minu.1,minu.2,y15,y16,y17,y18,y19,y20,y21) else (xZ1M N (xZ0.mk x x2 x3 x4) (xZ0.mk x6 x7 x8 x9)).bind fun plus=>some (plus.1,plus.2,y15,y16,y17,y18,y19,y20,y21)
def xZH (N:Nat) (p:xZ1q) (t:xZ1j) (x:Int) (x2:Int) (x3:Int) (x4:List UInt8) (x5:Bool) (y8:List xZ2) (y9:List xZ4) (y10:Int) (y11:Int) (y12:Int) (y13:List UInt8) (y14:List xZ0):Option (xZ0×Bool×List xZ2×List xZ4×Int×Int×Int×List UInt8×List xZ0):=
 (match t.b with
 | .lit_ v2=>
  (xZM N (xZ1Z.mk v2) y8 y9 y10 y11 y12 y13 y14).bind fun valu5=>
  xZy N p t x x2 x3 x4 x5 valu5.1.Kind valu5.1.N valu5.1.Bits valu5.1.Text valu5.2.1 valu5.2.2.1 valu5.2.2.2.1 valu5.2.2.2.2.1 valu5.2.2.2.2.2.1 valu5.2.2.2.2.2.2.1 valu5.2.2.2.2.2.2.2.1 valu5.2.2.2.2.2.2.2.2
 | .of_ name3 field2=>
  (xZl N (xZ2M.mk name3 field2) y8 y9 y10 y11 y12 y13 y14).bind fun valu6=>
  xZy N p t x x2 x3 x4 x5 valu6.1.Kind valu6.1.N valu6.1.Bits valu6.1.Text valu6.2.1 valu6.2.2.1 valu6.2.2.2.1 valu6.2.2.2.2.1 valu6.2.2.2.2.2.1 valu6.2.2.2.2.2.2.1 valu6.2.2.2.2.2.2.2.1 valu6.2.2.2.2.2.2.2.2
 | .own_ name4=>
  (xZs N (xZ20.mk name4) y8 y9 y10 y11 y12 y13 y14).bind fun valu7=>
  xZy N p t x x2 x3 x4 x5 valu7.1.Kind valu7.1.N valu7.1.Bits valu7.1.Text valu7.2.1 valu7.2.2.1 valu7.2.2.2.1 valu7.2.2.2.2.1 valu7.2.2.2.2.2.1 valu7.2.2.2.2.2.2.1 valu7.2.2.2.2.2.2.2.1 valu7.2.2.2.2.2.2.2.2
 | .sum_ minus2 va2 b2=>
  (p (xZ1j.mk minus2 va2 b2) y8 y9 y10 y11 y12 y13 y14).bind fun valu8=>
  xZy N p t x x2 x3 x4 x5 valu8.1.Kind valu8.1.N valu8.1.Bits valu8.1.Text valu8.2.1 valu8.2.2.1 valu8.2.2.2.1 valu8.2.2.2.2.1 valu8.2.2.2.2.2.1 valu8.2.2.2.2.2.2.1 valu8.2.2.2.2.2.2.2.1 valu8.2.2.2.2.2.2.2.2)
def xZ5j (N:Nat) (p:xZ1q) (t:xZ1j) (y:List xZ2) (y2:List xZ4) (y3:Int) (y4:Int) (y5:Int) (y6:List UInt8) (y7:List xZ0):Option (xZ0×Bool×List xZ2×List xZ4×Int×Int×Int×List UInt8×List xZ0):=
 (match t.a with
 | .lit_ v=>
  (xZM N (xZ1Z.mk v) y y2 y3 y4 y5 y6 y7).bind fun valu=>
  xZH N p t valu.1.Kind valu.1.N valu.1.Bits valu.1.Text valu.2.1 valu.2.2.1 valu.2.2.2.1 valu.2.2.2.2.1 valu.2.2.2.2.2.1 valu.2.2.2.2.2.2.1 valu.2.2.2.2.2.2.2.1 valu.2.2.2.2.2.2.2.2
 | .of_ name field=>
  (xZl N (xZ2M.mk name field) y y2 y3 y4 y5 y6 y7).bind fun valu2=>
  xZH N p t valu2.1.Kind valu2.1.N valu2.1.Bits valu2.1.Text valu2.2.1 valu2.2.2.1 valu2.2.2.2.1 valu2.2.2.2.2.1 valu2.2.2.2.2.2.1 valu2.2.2.2.2.2.2.1 valu2.2.2.2.2.2.2.2.1 valu2.2.2.2.2.2.2.2.2
 | .own_ name2=>
  (xZs N (xZ20.mk name2) y y2 y3 y4 y5 y6 y7).bind fun valu3=>
  xZH N p t valu3.1.Kind valu3.1.N valu3.1.Bits valu3.1.Text valu3.2.1 valu3.2.2.1 valu3.2.2.2.1 valu3.2.2.2.2.1 valu3.2.2.2.2.2.1 valu3.2.2.2.2.2.2.1 valu3.2.2.2.2.2.2.2.1 valu3.2.2.2.2.2.2.2.2
 | .sum_ minus va b=>
  (p (xZ1j.mk minus va b) y y2 y3 y4 y5 y6 y7).bind fun valu4=>
  xZH N p t valu4.1.Kind valu4.1.N valu4.1.Bits valu4.1.Text valu4.2.1 valu4.2.2.1 valu4.2.2.2.1 valu4.2.2.2.2.1 valu4.2.2.2.2.2.1 valu4.2.2.2.2.2.2.1 valu4.2.2.2.2.2.2.2.1 valu4.2.2.2.2.2.2.2.2)
def xZF (N:Nat):xZ1q:=Nat.rec (motive:=fun _=>xZ1q) (fun _ _ _ _ _ _ _ _=>none) (fun N p=>(xZ5j N p)) N
def xZ1z (N:Nat) (t:xZ1j) (y:List xZ2) (y2:List xZ4) (y3:Int) (y4:Int) (y5:Int) (y6:List UInt8) (y7:List xZ0):Option (xZ0×Bool×List xZ2×List xZ4×Int×Int×Int×List UInt8×List xZ0):=(xZF N) t y y2 y3 y4 y5 y6 y7
def xZ6w (N:Nat) (l:List xZ1) (vat:Int) (types:List xZ2) (bound:List xZ4) (e:xZ6):Option (xZ0×Bool):=
 (xZ2C N l).bind fun chec=>
 bif (chec != 0) then
  some ((xZ0.mk 0 0 0 []),false)
 else
  bif (ltB vat 0) then
   some ((xZ0.mk 0 0 0 []),false)
  else
   bif (leB (List.length l:Int) vat) then
    some ((xZ0.mk 0 0 0 []),false)
   else
    (ix l vat).bind fun e2=>
    bif (ltB e2.Kind 5) then
     some ((xZ0.mk 0 0 0 []),false)
    else
     bothN EqR.cls 2 (
      (xZA N l vat).bind fun side=>
      (match side.1 with
      | .lit_ v=>
       (xZM N (xZ1Z.mk v) types bound e.Time e.Source e.Seq e.Type_ e.Vals).bind fun valu=>
       some (valu.1,valu.2.1)
      | .of_ name field=>
       (xZl N (xZ2M.mk name field) types bound e.Time e.Source e.Seq e.Type_ e.Vals).bind fun valu2=>
       some (valu2.1,valu2.2.1)
      | .own_ name2=>
       (xZs N (xZ20.mk name2) types bound e.Time e.Source e.Seq e.Type_ e.Vals).bind fun valu3=>
       some (valu3.1,valu3.2.1)
      | .sum_ minus va b=>
       (xZ1z N (xZ1j.mk minus va b) types bound e.Time e.Source e.Seq e.Type_ e.Vals).bind fun valu4=>
       some (valu4.1,valu4.2.1)))
def xZab (N:Nat) (kind:Int) (vwhere:Int):Option Bool:=bif (vwhere==1) then bif (leB 1 kind) then some (leB kind 4) else some false else bif (vwhere==2) then bif (leB 5 kind) then some (leB kind 9) else some false else bif (leB 7 kind) then some (leB kind 9) else some false
def xZ3n (N:Nat) (s:List UInt8) (ys:List (List UInt8)) (next0:Int→Option Bool) (i:Int):Option Bool:=bif (ltB i (List.length ys:Int)) then (ix ys i).bind fun e=>(ix ys i).bind fun e2=>bif (e2==s) then some true else gd (i64b (i+1)) ( next0 (i+1)) else some false
def xZ6C (N:Nat) (s:List UInt8):Option Bool:=lp1 (xZ3n N s [[119,105,116,104,105,110],[98,121],[97,110,100],[111,114],[110,111,116],[97,110,121],[110,101,120,116],[115,116,114,105,99,116],[116,114,117,101],[102,97,108,115,101]]) N 0
def xZ6h (N:Nat) (s:List UInt8) (next0:Int→Option Bool) (i:Int):Option Bool:=bif (ltB i (List.length s:Int)) then (ix s i).bind fun c=>bif (leB 97 (UInt8.toNat c:Int)) then (ix s i).bind fun c2=>(ix s i).bind fun c3=>bif (leB 48 (UInt8.toNat c3:Int)) then (ix s i).bind fun c4=>bif (leB (UInt8.toNat c4:Int) 57) then bif (!(leB (UInt8.toNat c2:Int) 122)) then bif (i==0) then some false else gd (i64b (i+1)) ( next0 (i+1)) else gd (i64b (i+1)) ( next0 (i+1)) else (ix s i).bind fun c5=>bif (!(leB (UInt8.toNat c2:Int) 122)) then bif (i==0) then some false else bif (!((UInt8.toNat c5:Int)==95)) then some false else gd (i64b (i+1)) ( next0 (i+1)) else gd (i64b (i+1)) ( next0 (i+1)) else (ix s i).bind fun c6=>bif (!(leB (UInt8.toNat c2:Int) 122)) then bif (i==0) then some false else bif (!((UInt8.toNat c6:Int)==95)) then some false else gd (i64b (i+1)) ( next0 (i+1)) else gd (i64b (i+1)) ( next0 (i+1)) else (ix s i).bind fun c7=>bif (leB 48 (UInt8.toNat c7:Int)) then (ix s i).bind fun c8=>bif (leB (UInt8.toNat c8:Int) 57) then bif (i==0) then some false else gd (i64b (i+1)) ( next0 (i+1)) else (ix s i).bind fun c9=>bif (i==0) then some false else bif (!((UInt8.toNat c9:Int)==95)) then some false else gd (i64b (i+1)) ( next0 (i+1)) else (ix s i).bind fun c10=>bif (i==0) then some false else bif (!((UInt8.toNat c10:Int)==95)) then some false else gd (i64b (i+1)) ( next0 (i+1)) else some true
def xZ4Z (N:Nat) (s:List UInt8):Option Bool:=bif (ltB (List.length s:Int) 1) then some false else bif (ltB 12 (List.length s:Int)) then some false else (xZ6C N s).bind fun rese=>bif rese then some false else lp1 (xZ6h N s) N 0
def xZ26 (N:Nat) (u:Int):Option Int:=some (IntKind.i64.wrap (Int.tmod (IntKind.u64.wrap (Int.tdiv u 4503599627370496)) 2048))
def xZ2D (N:Nat) (u:Int):Option Int:=some (Int.tmod u 4503599627370496)
def xZh (N:Nat) (u:Int):Option Int:=(xZ26 N u).bind fun exp=>bif (exp==2047) then (xZ2D N u).bind fun frac=>bif (frac != 0) then some 5 else (xZ26 N u).bind fun exp2=>bif (exp2==2047) then some 4 else (xZ26 N u).bind fun exp3=>bif (exp3 != 0) then some 3 else (xZ2D N u).bind fun frac2=>bif (frac2 != 0) then some 2 else some 1 else (xZ26 N u).bind fun exp4=>bif (exp4==2047) then some 4 else (xZ26 N u).bind fun exp5=>bif (exp5 != 0) then some 3 else (xZ2D N u).bind fun frac3=>bif (frac3 != 0) then some 2 else some 1
def xZ15 (N:Nat) (u:Int):Option Int:=(xZh N u).bind fun kind=>bif (kind==5) then some 9221120237041090560 else some u
def xZ1P (N:Nat) (v:xZ0):Option Int:=bif (ltB v.Kind 1) then some 11 else bif (ltB 4 v.Kind) then some 11 else bif (v.Kind==1) then bif (ltB v.N (-4611686018427387904)) then some 8 else bif (ltB 4611686018427387904 v.N) then some 8 else bif (v.Kind==2) then bif (ltB v.N 0) then some 8 else bif (ltB 1 v.N) then some 8 else bif (v.Kind==3) then (xZ15 N v.Bits).bind fun clea=>bif (clea != v.Bits) then some 4 else bif (v.Kind==4) then bif (ltB 24 (List.length v.Text:Int)) then some 5 else bif (ltB 2 v.Kind) then bif (v.N != 0) then some 2 else bif (v.Kind != 3) then bif (v.Bits != 0) then some 2 else bif (v.Kind != 4) then bif (!(v.Text==[])) then some 2 else some 0 else some 0 else bif (v.Kind != 4) then bif (!(v.Text==[])) then some 2 else some 0 else some 0 else bif (v.Kind != 3) then bif (v.Bits != 0) then some 2 else bif (v.Kind != 4) then bif (!(v.Text==[])) then some 2 else some 0 else some 0 else bif (v.Kind != 4) then bif (!(v.Text==[])) then some 2 else some 0 else some 0 else bif (ltB 2 v.Kind) then bif (v.N != 0) then some 2 else bif (v.Kind != 3) then bif (v.Bits != 0) then some 2 else bif (v.Kind != 4) then bif (!(v.Text==[])) then some 2 else some 0 else some 0 else bif (v.Kind != 4) then bif (!(v.Text==[])) then some 2 else some 0 else some 0 else bif (v.Kind != 3) then bif (v.Bits != 0) then some 2 else bif (v.Kind != 4) then bif (!(v.Text==[])) then some 2 else some 0 else some 0 else bif (v.Kind != 4) then bif (!(v.Text==[])) then some 2 else some 0 else some 0 else bif (v.Kind==4) then bif (ltB 24 (List.length v.Text:Int)) then some 5 else bif (ltB 2 v.Kind) then bif (v.N != 0) then some 2 else bif (v.Kind != 3) then bif (v.Bits != 0) then some 2 else bif (v.Kind != 4) then bif (!(v.Text==[])) then some 2 else some 0 else some 0 else bif (v.Kind != 4) then bif (!(v.Text==[])) then some 2 else some 0 else some 0 else bif (v.Kind != 3) then bif (v.Bits != 0) then some 2 else bif (v.Kind != 4) then bif (!(v.Text==[])) then some 2 else some 0 else some 0 else bif (v.Kind != 4) then bif (!(v.Text==[])) then some 2 else some 0 else some 0 else bif (ltB 2 v.Kind) then bif (v.N != 0) then some 2 else bif (v.Kind != 3) then bif (v.Bits != 0) then some 2 else bif (v.Kind != 4) then bif (!(v.Text==[])) then some 2 else some 0 else some 0 else bif (v.Kind != 4) then bif (!(v.Text==[])) then some 2 else some 0 else some 0 else bif (v.Kind != 3) then bif (v.Bits != 0) then some 2 else bif (v.Kind != 4) then bif (!(v.Text==[])) then some 2 else some 0 else some 0 else bif (v.Kind != 4) then bif (!(v.Text==[])) then some 2 else some 0 else some 0 else bif (v.Kind==3) then (xZ15 N v.Bits).bind fun clea2=>bif (clea2 != v.Bits) then some 4 else bif (v.Kind==4) then bif (ltB 24 (List.length v.Text:Int)) then some 5 else bif (ltB 2 v.Kind) then bif (v.N != 0) then some 2 else bif (v.Kind != 3) then bif (v.Bits != 0) then some 2 else bif (v.Kind != 4) then bif (!(v.Text==[])) then some 2 else some 0 else some 0 else bif (v.Kind != 4) then bif (!(v.Text==[])) then some 2 else some 0 else some 0 else bif (v.Kind != 3) then bif (v.Bits != 0) then some 2 else bif (v.Kind != 4) then bif (!(v.Text==[])) then some 2 else some 0 else some 0 else bif (v.Kind != 4) then bif (!(v.Text==[])) then some 2 else some 0 else some 0 else bif (ltB 2 v.Kind) then bif (v.N != 0) then some 2 else bif (v.Kind != 3) then bif (v.Bits != 0) then some 2 else bif (v.Kind != 4) then bif (!(v.Text==[])) then some 2 else some 0 else some 0 else bif (v.Kind != 4) then bif (!(v.Text==[])) then some 2 else some 0 else some 0 else bif (v.Kind != 3) then bif (v.Bits != 0) then some 2 else bif (v.Kind != 4) then bif (!(v.Text==[])) then some 2 else some 0 else some 0 else bif (v.Kind != 4) then bif (!(v.Text==[])) then some 2 else some 0 else some 0 else bif (v.Kind==4) then bif (ltB 24 (List.length v.Text:Int)) then some 5 else bif (ltB 2 v.Kind) then bif (v.N != 0) then some 2 else bif (v.Kind != 3) then bif (v.Bits != 0) then some 2 else bif (v.Kind != 4) then bif (!(v.Text==[])) then some 2 else some 0 else some 0 else bif (v.Kind != 4) then bif (!(v.Text==[])) then some 2 else some 0 else some 0 else bif (v.Kind != 3) then bif (v.Bits != 0) then some 2 else bif (v.Kind != 4) then bif (!(v.Text==[])) then some 2 else some 0 else some 0 else bif (v.Kind != 4) then bif (!(v.Text==[])) then some 2 else some 0 else some 0 else bif (ltB 2 v.Kind) then bif (v.N != 0) then some 2 else bif (v.Kind != 3) then bif (v.Bits != 0) then some 2 else bif (v.Kind != 4) then bif (!(v.Text==[])) then some 2 else some 0 else some 0 else bif (v.Kind != 4) then bif (!(v.Text==[])) then some 2 else some 0 else some 0 else bif (v.Kind != 3) then bif (v.Bits != 0) then some 2 else bif (v.Kind != 4) then bif (!(v.Text==[])) then some 2 else some 0 else some 0 else bif (v.Kind != 4) then bif (!(v.Text==[])) then some 2 else some 0 else some 0 else bif (v.Kind==2) then bif (ltB v.N 0) then some 8 else bif (ltB 1 v.N) then some 8 else bif (v.Kind==3) then (xZ15 N v.Bits).bind fun clea3=>bif (clea3 != v.Bits) then some 4 else bif (v.Kind==4) then bif (ltB 24 (List.length v.Text:Int)) then some 5 else bif (ltB 2 v.Kind) then bif (v.N != 0) then some 2 else bif (v.Kind != 3) then bif (v.Bits != 0) then some 2 else bif (v.Kind != 4) then bif (!(v.Text==[])) then some 2 else some 0 else some 0 else bif (v.Kind != 4) then bif (!(v.Text==[])) then some 2 else some 0 else some 0 else bif (v.Kind != 3) then bif (v.Bits != 0) then some 2 else bif (v.Kind != 4) then bif (!(v.Text==[])) then some 2 else some 0 else some 0 else bif (v.Kind != 4) then bif (!(v.Text==[])) then some 2 else some 0 else some 0 else bif (ltB 2 v.Kind) then bif (v.N != 0) then some 2 else bif (v.Kind != 3) then bif (v.Bits != 0) then some 2 else bif (v.Kind != 4) then bif (!(v.Text==[])) then some 2 else some 0 else some 0 else bif (v.Kind != 4) then bif (!(v.Text==[])) then some 2 else some 0 else some 0 else bif (v.Kind != 3) then bif (v.Bits != 0) then some 2 else bif (v.Kind != 4) then bif (!(v.Text==[])) then some 2 else some 0 else some 0 else bif (v.Kind != 4) then bif (!(v.Text==[])) then some 2 else some 0 else some 0 else bif (v.Kind==4) then bif (ltB 24 (List.length v.Text:Int)) then some 5 else bif (ltB 2 v.Kind) then bif (v.N != 0) then some 2 else bif (v.Kind != 3) then bif (v.Bits != 0) then some 2 else bif (v.Kind != 4) then bif (!(v.Text==[])) then some 2 else some 0 else some 0 else bif (v.Kind != 4) then bif (!(v.Text==[])) then some 2 else some 0 else some 0 else bif (v.Kind != 3) then bif (v.Bits != 0) then some 2 else bif (v.Kind != 4) then bif (!(v.Text==[])) then some 2 else some 0 else some 0 else bif (v.Kind != 4) then bif (!(v.Text==[])) then some 2 else some 0 else some 0 else bif (ltB 2 v.Kind) then bif (v.N != 0) then some 2 else bif (v.Kind != 3) then bif (v.Bits != 0) then some 2 else bif (v.Kind != 4) then bif (!(v.Text==[])) then some 2 else some 0 else some 0 else bif (v.Kind != 4) then bif (!(v.Text==[])) then some 2 else some 0 else some 0 else bif (v.Kind != 3) then bif (v.Bits != 0) then some 2 else bif (v.Kind != 4) then bif (!(v.Text==[])) then some 2 else some 0 else some 0 else bif (v.Kind != 4) then bif (!(v.Text==[])) then some 2 else some 0 else some 0 else bif (v.Kind==3) then (xZ15 N v.Bits).bind fun clea4=>bif (clea4 != v.Bits) then some 4 else bif (v.Kind==4) then bif (ltB 24 (List.length v.Text:Int)) then some 5 else bif (ltB 2 v.Kind) then bif (v.N != 0) then some 2 else bif (v.Kind != 3) then bif (v.Bits != 0) then some 2 else bif (v.Kind != 4) then bif (!(v.Text==[])) then some 2 else some 0 else some 0 else bif (v.Kind != 4) then bif (!(v.Text==[])) then some 2 else some 0 else some 0 else bif (v.Kind != 3) then bif (v.Bits != 0) then some 2 else bif (v.Kind != 4) then bif (!(v.Text==[])) then some 2 else some 0 else some 0 else bif (v.Kind != 4) then bif (!(v.Text==[])) then some 2 else some 0 else some 0 else bif (ltB 2 v.Kind) then bif (v.N != 0) then some 2 else bif (v.Kind != 3) then bif (v.Bits != 0) then some 2 else bif (v.Kind != 4) then bif (!(v.Text==[])) then some 2 else some 0 else some 0 else bif (v.Kind != 4) then bif (!(v.Text==[])) then some 2 else some 0 else some 0 else bif (v.Kind != 3) then bif (v.Bits != 0) then some 2 else bif (v.Kind != 4) then bif (!(v.Text==[])) then some 2 else some 0 else some 0 else bif (v.Kind != 4) then bif (!(v.Text==[])) then some 2 else some 0 else some 0 else bif (v.Kind==4) then bif (ltB 24 (List.length v.Text:Int)) then some 5 else bif (ltB 2 v.Kind) then bif (v.N != 0) then some 2 else bif (v.Kind != 3) then bif (v.Bits != 0) then some 2 else bif (v.Kind != 4) then bif (!(v.Text==[])) then some 2 else some 0 else some 0 else bif (v.Kind != 4) then bif (!(v.Text==[])) then some 2 else some 0 else some 0 else bif (v.Kind != 3) then bif (v.Bits != 0) then some 2 else bif (v.Kind != 4) then bif (!(v.Text==[])) then some 2 else some 0 else some 0 else bif (v.Kind != 4) then bif (!(v.Text==[])) then some 2 else some 0 else some 0 else bif (ltB 2 v.Kind) then bif (v.N != 0) then some 2 else bif (v.Kind != 3) then bif (v.Bits != 0) then some 2 else bif (v.Kind != 4) then bif (!(v.Text==[])) then some 2 else some 0 else some 0 else bif (v.Kind != 4) then bif (!(v.Text==[])) then some 2 else some 0 else some 0 else bif (v.Kind != 3) then bif (v.Bits != 0) then some 2 else bif (v.Kind != 4) then bif (!(v.Text==[])) then some 2 else some 0 else some 0 else bif (v.Kind != 4) then bif (!(v.Text==[])) then some 2 else some 0 else some 0
def xZ3e (N:Nat) (y:Int) (y3:List UInt8) (y5:Int) (y6:Int) (y7:Int) (y8:List UInt8) (x4:Bool):Option Int:=bif x4 then some 2 else bif (y != 8) then bif (!(y3==[])) then some 2 else bif (y != 9) then bif (!((y5==0)&&((y6==0)&&((y7==0)&&(y8==[]))))) then some 2 else some 0 else some 0 else bif (y != 9) then bif (!((y5==0)&&((y6==0)&&((y7==0)&&(y8==[]))))) then some 2 else some 0 else some 0
def xZ6E (N:Nat) (y:Int) (y3:List UInt8) (y4:List UInt8) (y5:Int) (y6:Int) (y7:Int) (y8:List UInt8) (x3:Bool):Option Int:=bif x3 then xZ3e N y y3 y5 y6 y7 y8 true else bif (y != 7) then bif (y != 8) then xZ3e N y y3 y5 y6 y7 y8 (!(y4==[])) else xZ3e N y y3 y5 y6 y7 y8 false else xZ3e N y y3 y5 y6 y7 y8 false
def xZ1A (N:Nat) (bad:Bool) (y:Int) (y2:Int) (y3:List UInt8) (y4:List UInt8) (y5:Int) (y6:Int) (y7:Int) (y8:List UInt8):Option Int:=bif bad then some 4 else bif (y != 4) then xZ6E N y y3 y4 y5 y6 y7 y8 (y2 != 0) else xZ6E N y y3 y4 y5 y6 y7 y8 false
def xZ3d (N:Nat) (n:xZ1) (x2:Bool):Option Int:=bif x2 then xZ1A N true n.Kind n.Op n.Var n.Name n.Val.Kind n.Val.N n.Val.Bits n.Val.Text else bif (n.Kind==8) then (xZ4Z N n.Var).bind fun name3=>bif (!name3) then xZ1A N true n.Kind n.Op n.Var n.Name n.Val.Kind n.Val.N n.Val.Bits n.Val.Text else bif (n.Kind==9) then (xZ1P N n.Val).bind fun chec=>xZ1A N (chec != 0) n.Kind n.Op n.Var n.Name n.Val.Kind n.Val.N n.Val.Bits n.Val.Text else xZ1A N false n.Kind n.Op n.Var n.Name n.Val.Kind n.Val.N n.Val.Bits n.Val.Text else bif (n.Kind==9) then (xZ1P N n.Val).bind fun chec2=>xZ1A N (chec2 != 0) n.Kind n.Op n.Var n.Name n.Val.Kind n.Val.N n.Val.Bits n.Val.Text else xZ1A N false n.Kind n.Op n.Var n.Name n.Val.Kind n.Val.N n.Val.Bits n.Val.Text
def xZ4G (N:Nat) (n:xZ1) (x:Bool):Option Int:=bif x then xZ3d N n true else bif (n.Kind==7) then (xZ4Z N n.Name).bind fun name=>xZ3d N n (!name) else bif (n.Kind==8) then (xZ4Z N n.Name).bind fun name2=>xZ3d N n (!name2) else xZ3d N n false
def xZ7l (N:Nat) (n:xZ1):Option Int:=bif (n.Kind==4) then bif (ltB n.Op 1) then xZ4G N n true else xZ4G N n (ltB 6 n.Op) else xZ4G N n false
def xZ6D (N:Nat) (kind:Int):Option Int:=bif (kind==1) then some 2 else bif (kind==2) then some 2 else bif (kind==4) then some 2 else bif (kind==5) then some 2 else bif (kind==6) then some 2 else bif (kind==3) then some 1 else some 0
def xZaa (N:Nat) (kind:Int) (which:Int):Option Int:=bif (leB kind 3) then some 1 else bif (kind==4) then some 2 else bif (which==0) then some 2 else some 3
abbrev xZ76:Type:=((List xZ1)→Int→Int→Int→Option (Int×Int))
def xZ6i (N:Nat) (p:xZ76) (l:List xZ1) (deep:Int) (y:Int) (next0:Int→Int→Option (Int×Int)) (vat2:Int) (i:Int):Option (Int×Int):=(xZ6D N y).bind fun kids=>bif (ltB i kids) then (xZaa N y i).bind fun kid=>gd (i64b (deep+1)) ( (p l vat2 kid (deep+1)).bind fun tree=>bif (tree.2 != 0) then some (tree.1,tree.2) else gd (i64b (i+1)) ( next0 tree.1 (i+1))) else some (vat2,0)
def xZaR (N:Nat) (p:xZ76) (l:List xZ1) (vat:Int) (vwhere:Int) (deep:Int):Option (Int×Int):=bif (leB (List.length l:Int) vat) then some (vat,3) else bif (leB 16 deep) then some (vat,15) else (ix l vat).bind fun e=>(xZab N e.Kind vwhere).bind fun may=>bif (!may) then some (vat,11) else (xZ7l N e).bind fun need=>bif (need != 0) then some (vat,need) else gd (i64b (vat+1)) ( lp2 (xZ6i N p l deep e.Kind) N (vat+1) 0)
def xZ4c (N:Nat):xZ76:=Nat.rec (motive:=fun _=>xZ76) (fun _ _ _ _=>none) (fun N p=>(xZaR N p)) N
def xZer (N:Nat) (l:List xZ1) (vat:Int) (vwhere:Int) (deep:Int):Option (Int×Int):=(xZ4c N) l vat vwhere deep
def xZ5x (N:Nat) (l:List xZ1):Option Int:=bif (ltB 30 (List.length l:Int)) then some 5 else bif ((List.length l:Int)==0) then some 0 else (xZer N l 0 1 0).bind fun tree=>bif (tree.2 != 0) then some tree.2 else bif (ltB tree.1 (List.length l:Int)) then some 5 else some 0
def xZ6g (N:Nat) (l:List xZ2) (name:List UInt8) (next0:Int→Option (xZ2×Bool)) (i:Int):Option (xZ2×Bool):=bif (ltB i (List.length l:Int)) then (ix l i).bind fun e=>bif (e.Name==name) then (ix l i).bind fun e2=>some (e2,true) else gd (i64b (i+1)) ( next0 (i+1)) else some ((xZ2.mk [] []),false)
def xZ8Q (N:Nat) (l:List xZ2) (name:List UInt8):Option (xZ2×Bool):=lp1 (xZ6g N l name) N 0
def xZ8P (N:Nat) (name:List UInt8) (y2:List xZb) (next0:Int→Option (Int×Int)) (i:Int):Option (Int×Int):=bif (ltB i (List.length y2:Int)) then (ix y2 i).bind fun e=>bif (e.Name==name) then (ix y2 i).bind fun e2=>some (i,e2.Kind) else gd (i64b (i+1)) ( next0 (i+1)) else some ((-1),0)
def xZbV (N:Nat) (t:xZ2) (name:List UInt8):Option (Int×Int):=lp1 (xZ8P N name t.Fields) N 0
def xZ5w (N:Nat) (types:List xZ2) (e:xZ6) (field:List UInt8):Option (xZ0×Bool):=(xZ8Q N types e.Type_).bind fun find=>(xZbV N find.1 field).bind fun vat=>bif (ltB vat.1 0) then some ((xZ0.mk 0 0 0 []),false) else bif (leB (List.length e.Vals:Int) vat.1) then some ((xZ0.mk 0 0 0 []),false) else (ix e.Vals vat.1).bind fun e2=>some (e2,true)
def xZ8T (N:Nat) (b:List xZ4) (name:List UInt8) (next0:Int→Option (xZ6×Bool)) (i:Int):Option (xZ6×Bool):=bif (leB 0 i) then (ix b i).bind fun e=>bif (e.Var==name) then (ix b i).bind fun e2=>some (e2.E,true) else gd (i64b (i - 1)) ( next0 (i - 1)) else some ((xZ6.mk 0 0 0 [] []),false)
def xZ8S (N:Nat) (b:List xZ4) (name:List UInt8):Option (xZ6×Bool):=gd (i64b ((List.length b:Int) - 1)) ( lp1 (xZ8T N b name) N ((List.length b:Int) - 1))
def xZ8R (N:Nat) (l:List xZ1) (vat:Int) (next0:Int→Int→Option Int) (vopen:Int) (i:Int):Option Int:=bif (ltB 0 vopen) then bif (leB (List.length l:Int) i) then some 0 else gd (i64b (vopen - 1)) ( (ix l i).bind fun e=>(xZ6D N e.Kind).bind fun kids=>gd (i64b ((vopen - 1)+kids)) ( gd (i64b (i+1)) ( next0 ((vopen - 1)+kids) (i+1)))) else gd (i64b (i - vat)) ( some (i - vat))
def xZ48 (N:Nat) (l:List xZ1) (vat:Int):Option Int:=bif (ltB vat 0) then some 0 else bif (leB (List.length l:Int) vat) then some 0 else lp2 (xZ8R N l vat) N 1 vat
def xZ1O (N:Nat) (kind:Int):Option Bool:=bif (kind==1) then some true else some (kind==3)
def xZ8O (N:Nat) (vby:Int) (next0:Int→Int→Option Int) (m2:Int) (i:Int):Option Int:=bif (ltB i vby) then bif (ltB 1 m2) then gd (i64b (i+1)) ( next0 (IntKind.u64.wrap ((IntKind.u64.wrap ((IntKind.u64.wrap (Int.tdiv m2 2))+(Int.tmod m2 2))) - (IntKind.u64.wrap ((Int.tmod (IntKind.u64.wrap (Int.tdiv m2 2)) 2) * (Int.tmod m2 2))))) (i+1)) else some m2 else some m2
def xZ1F (N:Nat) (m:Int) (vby:Int):Option Int:=lp2 (xZ8O N vby) N m 0
def xZ3M (N:Nat) (sign:Bool) (next2:Int→Int→Option Int) (m3:Int) (e3:Int):Option Int:=bif (ltB m3 36028797018963968) then bif (ltB 1 e3) then gd (i64b (e3 - 1)) ( next2 (IntKind.u64.wrap (2 * m3)) (e3 - 1)) else bif (ltB 4 (Int.tmod m3 8)) then bif ((IntKind.u64.wrap ((IntKind.u64.wrap (Int.tdiv m3 8))+1))==9007199254740992) then gd (i64b (e3+1)) ( bif (leB 2047 (e3+1)) then bif sign then some 18442240474082181120 else some 9218868437227405312 else bif sign then some (IntKind.u64.wrap ((IntKind.u64.wrap (0+(IntKind.u64.wrap ((IntKind.u64.wrap (e3+1)) * 4503599627370496))))+9223372036854775808)) else some (IntKind.u64.wrap (0+(IntKind.u64.wrap ((IntKind.u64.wrap (e3+1)) * 4503599627370496))))) else bif (leB 4503599627370496 (IntKind.u64.wrap ((IntKind.u64.wrap (Int.tdiv m3 8))+1))) then bif (leB 2047 e3) then bif sign then some 18442240474082181120 else some 9218868437227405312 else bif sign then some (IntKind.u64.wrap ((IntKind.u64.wrap ((IntKind.u64.wrap ((IntKind.u64.wrap ((IntKind.u64.wrap (Int.tdiv m3 8))+1)) - 4503599627370496))+(IntKind.u64.wrap ((IntKind.u64.wrap e3) * 4503599627370496))))+9223372036854775808)) else some (IntKind.u64.wrap ((IntKind.u64.wrap ((IntKind.u64.wrap ((IntKind.u64.wrap (Int.tdiv m3 8))+1)) - 4503599627370496))+(IntKind.u64.wrap ((IntKind.u64.wrap e3) * 4503599627370496)))) else bif (leB 2047 e3) then bif sign then some 18442240474082181120 else some 9218868437227405312 else bif sign then some (IntKind.u64.wrap ((IntKind.u64.wrap ((IntKind.u64.wrap (Int.tdiv m3 8))+1))+9223372036854775808)) else some (IntKind.u64.wrap ((IntKind.u64.wrap (Int.tdiv m3 8))+1)) else bif ((Int.tmod m3 8)==4) then bif ((Int.tmod (IntKind.u64.wrap (Int.tdiv m3 8)) 2)==1) then bif ((IntKind.u64.wrap ((IntKind.u64.wrap (Int.tdiv m3 8))+1))==9007199254740992) then gd (i64b (e3+1)) ( bif (leB 2047 (e3+1)) then bif sign then some 18442240474082181120 else some 9218868437227405312 else bif sign then some (IntKind.u64.wrap ((IntKind.u64.wrap (0+(IntKind.u64.wrap ((IntKind.u64.wrap (e3+1)) * 4503599627370496))))+9223372036854775808)) else some (IntKind.u64.wrap (0+(IntKind.u64.wrap ((IntKind.u64.wrap (e3+1)) * 4503599627370496))))) else bif (leB 4503599627370496 (IntKind.u64.wrap ((IntKind.u64.wrap (Int.tdiv m3 8))+1))) then bif (leB 2047 e3) then bif sign then some 18442240474082181120 else some 9218868437227405312 else bif sign then some (IntKind.u64.wrap ((IntKind.u64.wrap ((IntKind.u64.wrap ((IntKind.u64.wrap ((IntKind.u64.wrap (Int.tdiv m3 8))+1)) - 4503599627370496))+(IntKind.u64.wrap ((IntKind.u64.wrap e3) * 4503599627370496))))+9223372036854775808)) else some (IntKind.u64.wrap ((IntKind.u64.wrap ((IntKind.u64.wrap ((IntKind.u64.wrap (Int.tdiv m3 8))+1)) - 4503599627370496))+(IntKind.u64.wrap ((IntKind.u64.wrap e3) * 4503599627370496)))) else bif (leB 2047 e3) then bif sign then some 18442240474082181120 else some 9218868437227405312 else bif sign then some (IntKind.u64.wrap ((IntKind.u64.wrap ((IntKind.u64.wrap (Int.tdiv m3 8))+1))+9223372036854775808)) else some (IntKind.u64.wrap ((IntKind.u64.wrap (Int.tdiv m3 8))+1)) else bif ((IntKind.u64.wrap (Int.tdiv m3 8))==9007199254740992) then gd (i64b (e3+1)) ( bif (leB 2047 (e3+1)) then bif sign then some 18442240474082181120 else some 9218868437227405312 else bif sign then some (IntKind.u64.wrap ((IntKind.u64.wrap (0+(IntKind.u64.wrap ((IntKind.u64.wrap (e3+1)) * 4503599627370496))))+9223372036854775808)) else some (IntKind.u64.wrap (0+(IntKind.u64.wrap ((IntKind.u64.wrap (e3+1)) * 4503599627370496))))) else bif (leB 4503599627370496 (IntKind.u64.wrap (Int.tdiv m3 8))) then bif (leB 2047 e3) then bif sign then some 18442240474082181120 else some 9218868437227405312 else bif sign then some (IntKind.u64.wrap ((IntKind.u64.wrap ((IntKind.u64.wrap ((IntKind.u64.wrap (Int.tdiv m3 8)) - 4503599627370496))+(IntKind.u64.wrap ((IntKind.u64.wrap e3) * 4503599627370496))))+9223372036854775808)) else some (IntKind.u64.wrap ((IntKind.u64.wrap ((IntKind.u64.wrap (Int.tdiv m3 8)) - 4503599627370496))+(IntKind.u64.wrap ((IntKind.u64.wrap e3) * 4503599627370496)))) else bif (leB 2047 e3) then bif sign then some 18442240474082181120 else some 9218868437227405312 else bif sign then some (IntKind.u64.wrap ((IntKind.u64.wrap (Int.tdiv m3 8))+9223372036854775808)) else some (IntKind.u64.wrap (Int.tdiv m3 8)) else bif ((IntKind.u64.wrap (Int.tdiv m3 8))==9007199254740992) then gd (i64b (e3+1)) ( bif (leB 2047 (e3+1)) then bif sign then some 18442240474082181120 else some 9218868437227405312 else bif sign then some (IntKind.u64.wrap ((IntKind.u64.wrap (0+(IntKind.u64.wrap ((IntKind.u64.wrap (e3+1)) * 4503599627370496))))+9223372036854775808)) else some (IntKind.u64.wrap (0+(IntKind.u64.wrap ((IntKind.u64.wrap (e3+1)) * 4503599627370496))))) else bif (leB 4503599627370496 (IntKind.u64.wrap (Int.tdiv m3 8))) then bif (leB 2047 e3) then bif sign then some 18442240474082181120 else some 9218868437227405312 else bif sign then some (IntKind.u64.wrap ((IntKind.u64.wrap ((IntKind.u64.wrap ((IntKind.u64.wrap (Int.tdiv m3 8)) - 4503599627370496))+(IntKind.u64.wrap ((IntKind.u64.wrap e3) * 4503599627370496))))+9223372036854775808)) else some (IntKind.u64.wrap ((IntKind.u64.wrap ((IntKind.u64.wrap (Int.tdiv m3 8)) - 4503599627370496))+(IntKind.u64.wrap ((IntKind.u64.wrap e3) * 4503599627370496)))) else bif (leB 2047 e3) then bif sign then some 18442240474082181120 else some 9218868437227405312 else bif sign then some (IntKind.u64.wrap ((IntKind.u64.wrap (Int.tdiv m3 8))+9223372036854775808)) else some (IntKind.u64.wrap (Int.tdiv m3 8)) else bif (ltB 4 (Int.tmod m3 8)) then bif ((IntKind.u64.wrap ((IntKind.u64.wrap (Int.tdiv m3 8))+1))==9007199254740992) then gd (i64b (e3+1)) ( bif (leB 2047 (e3+1)) then bif sign then some 18442240474082181120 else some 9218868437227405312 else bif sign then some (IntKind.u64.wrap ((IntKind.u64.wrap (0+(IntKind.u64.wrap ((IntKind.u64.wrap (e3+1)) * 4503599627370496))))+9223372036854775808)) else some (IntKind.u64.wrap (0+(IntKind.u64.wrap ((IntKind.u64.wrap (e3+1)) * 4503599627370496))))) else bif (leB 4503599627370496 (IntKind.u64.wrap ((IntKind.u64.wrap (Int.tdiv m3 8))+1))) then bif (leB 2047 e3) then bif sign then some 18442240474082181120 else some 9218868437227405312 else bif sign then some (IntKind.u64.wrap ((IntKind.u64.wrap ((IntKind.u64.wrap ((IntKind.u64.wrap ((IntKind.u64.wrap (Int.tdiv m3 8))+1)) - 4503599627370496))+(IntKind.u64.wrap ((IntKind.u64.wrap e3) * 4503599627370496))))+9223372036854775808)) else some (IntKind.u64.wrap ((IntKind.u64.wrap ((IntKind.u64.wrap ((IntKind.u64.wrap (Int.tdiv m3 8))+1)) - 4503599627370496))+(IntKind.u64.wrap ((IntKind.u64.wrap e3) * 4503599627370496)))) else bif (leB 2047 e3) then bif sign then some 18442240474082181120 else some 9218868437227405312 else bif sign then some (IntKind.u64.wrap ((IntKind.u64.wrap ((IntKind.u64.wrap (Int.tdiv m3 8))+1))+9223372036854775808)) else some (IntKind.u64.wrap ((IntKind.u64.wrap (Int.tdiv m3 8))+1)) else bif ((Int.tmod m3 8)==4) then bif ((Int.tmod (IntKind.u64.wrap (Int.tdiv m3 8)) 2)==1) then bif ((IntKind.u64.wrap ((IntKind.u64.wrap (Int.tdiv m3 8))+1))==9007199254740992) then gd (i64b (e3+1)) ( bif (leB 2047 (e3+1)) then bif sign then some 18442240474082181120 else some 9218868437227405312 else bif sign then some (IntKind.u64.wrap ((IntKind.u64.wrap (0+(IntKind.u64.wrap ((IntKind.u64.wrap (e3+1)) * 4503599627370496))))+9223372036854775808)) else some (IntKind.u64.wrap (0+(IntKind.u64.wrap ((IntKind.u64.wrap (e3+1)) * 4503599627370496))))) else bif (leB 4503599627370496 (IntKind.u64.wrap ((IntKind.u64.wrap (Int.tdiv m3 8))+1))) then bif (leB 2047 e3) then bif sign then some 18442240474082181120 else some 9218868437227405312 else bif sign then some (IntKind.u64.wrap ((IntKind.u64.wrap ((IntKind.u64.wrap ((IntKind.u64.wrap ((IntKind.u64.wrap (Int.tdiv m3 8))+1)) - 4503599627370496))+(IntKind.u64.wrap ((IntKind.u64.wrap e3) * 4503599627370496))))+9223372036854775808)) else some (IntKind.u64.wrap ((IntKind.u64.wrap ((IntKind.u64.wrap ((IntKind.u64.wrap (Int.tdiv m3 8))+1)) - 4503599627370496))+(IntKind.u64.wrap ((IntKind.u64.wrap e3) * 4503599627370496)))) else bif (leB 2047 e3) then bif sign then some 18442240474082181120 else some 9218868437227405312 else bif sign then some (IntKind.u64.wrap ((IntKind.u64.wrap ((IntKind.u64.wrap (Int.tdiv m3 8))+1))+9223372036854775808)) else some (IntKind.u64.wrap ((IntKind.u64.wrap (Int.tdiv m3 8))+1)) else bif ((IntKind.u64.wrap (Int.tdiv m3 8))==9007199254740992) then gd (i64b (e3+1)) ( bif (leB 2047 (e3+1)) then bif sign then some 18442240474082181120 else some 9218868437227405312 else bif sign then some (IntKind.u64.wrap ((IntKind.u64.wrap (0+(IntKind.u64.wrap ((IntKind.u64.wrap (e3+1)) * 4503599627370496))))+9223372036854775808)) else some (IntKind.u64.wrap (0+(IntKind.u64.wrap ((IntKind.u64.wrap (e3+1)) * 4503599627370496))))) else bif (leB 4503599627370496 (IntKind.u64.wrap (Int.tdiv m3 8))) then bif (leB 2047 e3) then bif sign then some 18442240474082181120 else some 9218868437227405312 else bif sign then some (IntKind.u64.wrap ((IntKind.u64.wrap ((IntKind.u64.wrap ((IntKind.u64.wrap (Int.tdiv m3 8)) - 4503599627370496))+(IntKind.u64.wrap ((IntKind.u64.wrap e3) * 4503599627370496))))+9223372036854775808)) else some (IntKind.u64.wrap ((IntKind.u64.wrap ((IntKind.u64.wrap (Int.tdiv m3 8)) - 4503599627370496))+(IntKind.u64.wrap ((IntKind.u64.wrap e3) * 4503599627370496)))) else bif (leB 2047 e3) then bif sign then some 18442240474082181120 else some 9218868437227405312 else bif sign then some (IntKind.u64.wrap ((IntKind.u64.wrap (Int.tdiv m3 8))+9223372036854775808)) else some (IntKind.u64.wrap (Int.tdiv m3 8)) else bif ((IntKind.u64.wrap (Int.tdiv m3 8))==9007199254740992) then gd (i64b (e3+1)) ( bif (leB 2047 (e3+1)) then bif sign then some 18442240474082181120 else some 9218868437227405312 else bif sign then some (IntKind.u64.wrap ((IntKind.u64.wrap (0+(IntKind.u64.wrap ((IntKind.u64.wrap (e3+1)) * 4503599627370496))))+9223372036854775808)) else some (IntKind.u64.wrap (0+(IntKind.u64.wrap ((IntKind.u64.wrap (e3+1)) * 4503599627370496))))) else bif (leB 4503599627370496 (IntKind.u64.wrap (Int.tdiv m3 8))) then bif (leB 2047 e3) then bif sign then some 18442240474082181120 else some 9218868437227405312 else bif sign then some (IntKind.u64.wrap ((IntKind.u64.wrap ((IntKind.u64.wrap ((IntKind.u64.wrap (Int.tdiv m3 8)) - 4503599627370496))+(IntKind.u64.wrap ((IntKind.u64.wrap e3) * 4503599627370496))))+9223372036854775808)) else some (IntKind.u64.wrap ((IntKind.u64.wrap ((IntKind.u64.wrap (Int.tdiv m3 8)) - 4503599627370496))+(IntKind.u64.wrap ((IntKind.u64.wrap e3) * 4503599627370496)))) else bif (leB 2047 e3) then bif sign then some 18442240474082181120 else some 9218868437227405312 else bif sign then some (IntKind.u64.wrap ((IntKind.u64.wrap (Int.tdiv m3 8))+9223372036854775808)) else some (IntKind.u64.wrap (Int.tdiv m3 8))
def xZ7U (N:Nat) (sign:Bool) (next0:Int→Int→Option Int) (m2:Int) (e2:Int):Option Int:=bif (leB 72057594037927936 m2) then (xZ1F N m2 1).bind fun down=>gd (i64b (e2+1)) ( next0 down (e2+1)) else lp2 (xZ3M N sign) N m2 e2
def xZe (N:Nat) (sign:Bool) (m:Int) (e:Int):Option Int:=lp2 (xZ7U N sign) N m e
def xZ3K (N:Nat) (sign:Bool) (next0:Int→Int→Option Int) (m:Int) (e:Int):Option Int:=bif (leB 2305843009213693952 m) then (xZ1F N m 1).bind fun down=>gd (i64b (e+1)) ( next0 down (e+1)) else (xZe N sign m e).bind fun roun=>some roun
def xZ7k (N:Nat) (n:Int):Option Int:=bif (ltB n 0) then bif ((IntKind.u64.wrap (0 - (IntKind.u64.wrap n)))==0) then some 0 else lp2 (xZ3K N (ltB n 0)) N (IntKind.u64.wrap (0 - (IntKind.u64.wrap n))) 1078 else bif ((IntKind.u64.wrap n)==0) then some 0 else lp2 (xZ3K N (ltB n 0)) N (IntKind.u64.wrap n) 1078
def xZ1G (N:Nat) (v:xZ0):Option Int:=bif (v.Kind==1) then (xZ7k N v.N).bind fun ofin=>some ofin else some v.Bits
def xZ7 (N:Nat) (u:Int):Option Int:=(xZ26 N u).bind fun exp=>some (max 1 exp)
def xZm (N:Nat) (u:Int):Option Int:=(xZ26 N u).bind fun exp=>bif (exp==0) then (xZ2D N u).bind fun frac=>some frac else (xZ2D N u).bind fun frac2=>some (IntKind.u64.wrap (4503599627370496+frac2))
def xZa (N:Nat) (u:Int):Option Bool:=some (leB 9223372036854775808 u)
def xZ4X (N:Nat) (va:Int) (b:Int):Option Int:=(xZh N va).bind fun kind=>bif (kind==5) then some 9221120237041090560 else (xZh N b).bind fun kind2=>bif (kind2==5) then some 9221120237041090560 else (xZh N va).bind fun kind3=>bif (kind3==4) then (xZh N b).bind fun kind4=>bif (kind4==4) then bif (va != b) then some 9221120237041090560 else (xZh N va).bind fun kind5=>bif (kind5==4) then some va else (xZh N b).bind fun kind6=>bif (kind6==4) then some b else (xZ7 N va).bind fun scal=>(xZ7 N b).bind fun scal2=>bif (ltB scal scal2) then (xZm N b).bind fun mant=>(xZm N va).bind fun mant2=>(xZ7 N b).bind fun scal3=>(xZ7 N va).bind fun scal4=>gd (i64b (scal3 - scal4)) ( (xZ1F N (IntKind.u64.wrap (8 * mant2)) (scal3 - scal4)).bind fun down=>(xZa N b).bind fun sign=>(xZa N va).bind fun sign2=>bif (sign==sign2) then (xZa N b).bind fun sign3=>(xZ7 N b).bind fun scal5=>(xZe N sign3 (IntKind.u64.wrap ((IntKind.u64.wrap (8 * mant))+down)) scal5).bind fun roun=>some roun else bif ((IntKind.u64.wrap (8 * mant))==down) then some 0 else bif (ltB down (IntKind.u64.wrap (8 * mant))) then (xZa N b).bind fun sign4=>(xZ7 N b).bind fun scal6=>(xZe N sign4 (IntKind.u64.wrap ((IntKind.u64.wrap (8 * mant)) - down)) scal6).bind fun roun2=>some roun2 else (xZa N va).bind fun sign5=>(xZ7 N b).bind fun scal7=>(xZe N sign5 (IntKind.u64.wrap (down - (IntKind.u64.wrap (8 * mant)))) scal7).bind fun roun3=>some roun3) else (xZm N va).bind fun mant3=>(xZm N b).bind fun mant4=>(xZ7 N va).bind fun scal8=>(xZ7 N b).bind fun scal9=>gd (i64b (scal8 - scal9)) ( (xZ1F N (IntKind.u64.wrap (8 * mant4)) (scal8 - scal9)).bind fun down2=>(xZa N va).bind fun sign6=>(xZa N b).bind fun sign7=>bif (sign6==sign7) then (xZa N va).bind fun sign8=>(xZ7 N va).bind fun scal10=>(xZe N sign8 (IntKind.u64.wrap ((IntKind.u64.wrap (8 * mant3))+down2)) scal10).bind fun roun4=>some roun4 else bif ((IntKind.u64.wrap (8 * mant3))==down2) then some 0 else bif (ltB down2 (IntKind.u64.wrap (8 * mant3))) then (xZa N va).bind fun sign9=>(xZ7 N va).bind fun scal11=>(xZe N sign9 (IntKind.u64.wrap ((IntKind.u64.wrap (8 * mant3)) - down2)) scal11).bind fun roun5=>some roun5 else (xZa N b).bind fun sign10=>(xZ7 N va).bind fun scal12=>(xZe N sign10 (IntKind.u64.wrap (down2 - (IntKind.u64.wrap (8 * mant3)))) scal12).bind fun roun6=>some roun6) else (xZh N va).bind fun kind7=>bif (kind7==4) then some va else (xZh N b).bind fun kind8=>bif (kind8==4) then some b else (xZ7 N va).bind fun scal13=>(xZ7 N b).bind fun scal14=>bif (ltB scal13 scal14) then (xZm N b).bind fun mant5=>(xZm N va).bind fun mant6=>(xZ7 N b).bind fun scal15=>(xZ7 N va).bind fun scal16=>gd (i64b (scal15 - scal16)) ( (xZ1F N (IntKind.u64.wrap (8 * mant6)) (scal15 - scal16)).bind fun down3=>(xZa N b).bind fun sign11=>(xZa N va).bind fun sign12=>bif (sign11==sign12) then (xZa N b).bind fun sign13=>(xZ7 N b).bind fun scal17=>(xZe N sign13 (IntKind.u64.wrap ((IntKind.u64.wrap (8 * mant5))+down3)) scal17).bind fun roun7=>some roun7 else bif ((IntKind.u64.wrap (8 * mant5))==down3) then some 0 else bif (ltB down3 (IntKind.u64.wrap (8 * mant5))) then (xZa N b).bind fun sign14=>(xZ7 N b).bind fun scal18=>(xZe N sign14 (IntKind.u64.wrap ((IntKind.u64.wrap (8 * mant5)) - down3)) scal18).bind fun roun8=>some roun8 else (xZa N va).bind fun sign15=>(xZ7 N b).bind fun scal19=>(xZe N sign15 (IntKind.u64.wrap (down3 - (IntKind.u64.wrap (8 * mant5)))) scal19).bind fun roun9=>some roun9) else (xZm N va).bind fun mant7=>(xZm N b).bind fun mant8=>(xZ7 N va).bind fun scal20=>(xZ7 N b).bind fun scal21=>gd (i64b (scal20 - scal21)) ( (xZ1F N (IntKind.u64.wrap (8 * mant8)) (scal20 - scal21)).bind fun down4=>(xZa N va).bind fun sign16=>(xZa N b).bind fun sign17=>bif (sign16==sign17) then (xZa N va).bind fun sign18=>(xZ7 N va).bind fun scal22=>(xZe N sign18 (IntKind.u64.wrap ((IntKind.u64.wrap (8 * mant7))+down4)) scal22).bind fun roun10=>some roun10 else bif ((IntKind.u64.wrap (8 * mant7))==down4) then some 0 else bif (ltB down4 (IntKind.u64.wrap (8 * mant7))) then (xZa N va).bind fun sign19=>(xZ7 N va).bind fun scal23=>(xZe N sign19 (IntKind.u64.wrap ((IntKind.u64.wrap (8 * mant7)) - down4)) scal23).bind fun roun11=>some roun11 else (xZa N b).bind fun sign20=>(xZ7 N va).bind fun scal24=>(xZe N sign20 (IntKind.u64.wrap (down4 - (IntKind.u64.wrap (8 * mant7)))) scal24).bind fun roun12=>some roun12) else (xZh N va).bind fun kind9=>bif (kind9==4) then some va else (xZh N b).bind fun kind10=>bif (kind10==4) then some b else (xZ7 N va).bind fun scal25=>(xZ7 N b).bind fun scal26=>bif (ltB scal25 scal26) then (xZm N b).bind fun mant9=>(xZm N va).bind fun mant10=>(xZ7 N b).bind fun scal27=>(xZ7 N va).bind fun scal28=>gd (i64b (scal27 - scal28)) ( (xZ1F N (IntKind.u64.wrap (8 * mant10)) (scal27 - scal28)).bind fun down5=>(xZa N b).bind fun sign21=>(xZa N va).bind fun sign22=>bif (sign21==sign22) then (xZa N b).bind fun sign23=>(xZ7 N b).bind fun scal29=>(xZe N sign23 (IntKind.u64.wrap ((IntKind.u64.wrap (8 * mant9))+down5)) scal29).bind fun roun13=>some roun13 else bif ((IntKind.u64.wrap (8 * mant9))==down5) then some 0 else bif (ltB down5 (IntKind.u64.wrap (8 * mant9))) then (xZa N b).bind fun sign24=>(xZ7 N b).bind fun scal30=>(xZe N sign24 (IntKind.u64.wrap ((IntKind.u64.wrap (8 * mant9)) - down5)) scal30).bind fun roun14=>some roun14 else (xZa N va).bind fun sign25=>(xZ7 N b).bind fun scal31=>(xZe N sign25 (IntKind.u64.wrap (down5 - (IntKind.u64.wrap (8 * mant9)))) scal31).bind fun roun15=>some roun15) else (xZm N va).bind fun mant11=>(xZm N b).bind fun mant12=>(xZ7 N va).bind fun scal32=>(xZ7 N b).bind fun scal33=>gd (i64b (scal32 - scal33)) ( (xZ1F N (IntKind.u64.wrap (8 * mant12)) (scal32 - scal33)).bind fun down6=>(xZa N va).bind fun sign26=>(xZa N b).bind fun sign27=>bif (sign26==sign27) then (xZa N va).bind fun sign28=>(xZ7 N va).bind fun scal34=>(xZe N sign28 (IntKind.u64.wrap ((IntKind.u64.wrap (8 * mant11))+down6)) scal34).bind fun roun16=>some roun16 else bif ((IntKind.u64.wrap (8 * mant11))==down6) then some 0 else bif (ltB down6 (IntKind.u64.wrap (8 * mant11))) then (xZa N va).bind fun sign29=>(xZ7 N va).bind fun scal35=>(xZe N sign29 (IntKind.u64.wrap ((IntKind.u64.wrap (8 * mant11)) - down6)) scal35).bind fun roun17=>some roun17 else (xZa N b).bind fun sign30=>(xZ7 N va).bind fun scal36=>(xZe N sign30 (IntKind.u64.wrap (down6 - (IntKind.u64.wrap (8 * mant11)))) scal36).bind fun roun18=>some roun18)
def xZ1N (N:Nat) (bits:Int):Option xZ0:=(xZ15 N bits).bind fun clea=>some (xZ0.mk 3 0 clea [])
def xZ4i (N:Nat) (n:Int):Option xZ0:=some (xZ0.mk 1 (max (-4611686018427387904) (min 4611686018427387904 n)) 0 [])
def xZ2G (N:Nat) (va:xZ0) (b:xZ0):Option (xZ0×Bool):=(xZ1P N va).bind fun chec=>bif (chec != 0) then some ((xZ0.mk 0 0 0 []),false) else (xZ1P N b).bind fun chec2=>bif (chec2 != 0) then some ((xZ0.mk 0 0 0 []),false) else (xZ1O N va.Kind).bind fun numb=>bif (!numb) then some ((xZ0.mk 0 0 0 []),false) else (xZ1O N b.Kind).bind fun numb2=>bif (!numb2) then some ((xZ0.mk 0 0 0 []),false) else bif (va.Kind==3) then (xZ1G N va).bind fun bits=>(xZ1G N b).bind fun bits2=>(xZ4X N bits bits2).bind fun add=>(xZ1N N add).bind fun ofre=>some (ofre,true) else bif (b.Kind==3) then (xZ1G N va).bind fun bits3=>(xZ1G N b).bind fun bits4=>(xZ4X N bits3 bits4).bind fun add2=>(xZ1N N add2).bind fun ofre2=>some (ofre2,true) else bif (ltB 0 b.N) then gd (i64b (4611686018427387904 - b.N)) ( bif (ltB (4611686018427387904 - b.N) va.N) then some ((xZ0.mk 0 0 0 []),false) else bif (ltB b.N 0) then gd (i64b ((-4611686018427387904) - b.N)) ( bif (ltB va.N ((-4611686018427387904) - b.N)) then some ((xZ0.mk 0 0 0 []),false) else gd (i64b (va.N+b.N)) ( (xZ4i N (va.N+b.N)).bind fun ofin=>some (ofin,true))) else gd (i64b (va.N+b.N)) ( (xZ4i N (va.N+b.N)).bind fun ofin2=>some (ofin2,true))) else bif (ltB b.N 0) then gd (i64b ((-4611686018427387904) - b.N)) ( bif (ltB va.N ((-4611686018427387904) - b.N)) then some ((xZ0.mk 0 0 0 []),false) else gd (i64b (va.N+b.N)) ( (xZ4i N (va.N+b.N)).bind fun ofin3=>some (ofin3,true))) else gd (i64b (va.N+b.N)) ( (xZ4i N (va.N+b.N)).bind fun ofin4=>some (ofin4,true))
def xZ4Y (N:Nat) (u:Int):Option Int:=(xZh N u).bind fun kind=>bif (kind==5) then some 9221120237041090560 else some (IntKind.u64.wrap (u+9223372036854775808))
def xZ5v (N:Nat) (va:xZ0) (b:xZ0):Option (xZ0×Bool):=(xZ1P N b).bind fun chec=>bif (chec != 0) then some ((xZ0.mk 0 0 0 []),false) else bif (b.Kind==1) then bif (va.Kind==1) then (xZ2G N va (xZ0.mk b.Kind (IntKind.i64.wrap (0 - b.N)) b.Bits b.Text)).bind fun plus=>some (plus.1,plus.2) else (xZ1O N b.Kind).bind fun numb=>bif (!numb) then some ((xZ0.mk 0 0 0 []),false) else (xZ1G N b).bind fun bits=>(xZ4Y N bits).bind fun neg=>(xZ1N N neg).bind fun ofre=>(xZ2G N va ofre).bind fun plus2=>some (plus2.1,plus2.2) else (xZ1O N b.Kind).bind fun numb2=>bif (!numb2) then some ((xZ0.mk 0 0 0 []),false) else (xZ1G N b).bind fun bits2=>(xZ4Y N bits2).bind fun neg2=>(xZ1N N neg2).bind fun ofre2=>(xZ2G N va ofre2).bind fun plus3=>some (plus3.1,plus3.2)
abbrev xZ9l:Type:=((List xZ1)→Int→xZc→Option (xZ0×Bool))
def xZ1S (N:Nat) (p:xZ9l) (l:List xZ1) (vat:Int) (s:xZc):Option (xZ0×Bool):=(ix l vat).bind fun e=>bif (e.Kind==9) then some (e.Val,true) else bif (e.Kind==7) then (xZ5w N s.Types s.E e.Name).bind fun valu=>some (valu.1,valu.2) else bif (e.Kind==8) then (xZ8S N s.Bound e.Var).bind fun last=>bif (!last.2) then some ((xZ0.mk 0 0 0 []),false) else (xZ5w N s.Types last.1 e.Name).bind fun valu2=>some (valu2.1,valu2.2) else gd (i64b (vat+1)) ( (p l (vat+1) s).bind fun side=>gd (i64b (vat+1)) ( gd (i64b (vat+1)) ( (xZ48 N l (vat+1)).bind fun size=>gd (i64b ((vat+1)+size)) ( (p l ((vat+1)+size) s).bind fun side2=>bif (!side.2) then some ((xZ0.mk 0 0 0 []),false) else bif (!side2.2) then some ((xZ0.mk 0 0 0 []),false) else bif (e.Kind==5) then (xZ2G N side.1 side2.1).bind fun plus=>some (plus.1,plus.2) else (xZ5v N side.1 side2.1).bind fun minu=>some (minu.1,minu.2)))))
def xZ27 (N:Nat):xZ9l:=Nat.rec (motive:=fun _=>xZ9l) (fun _ _ _=>none) (fun N p=>(xZ1S N p)) N
def xZ2H (N:Nat) (l:List xZ1) (vat:Int) (s:xZc):Option (xZ0×Bool):=(xZ27 N) l vat s
def xZ6F (N:Nat) (l:List xZ1) (vat:Int) (s:xZc):Option (xZ0×Bool):=(xZ5x N l).bind fun chec=>bif (chec != 0) then some ((xZ0.mk 0 0 0 []),false) else bif (ltB vat 0) then some ((xZ0.mk 0 0 0 []),false) else bif (leB (List.length l:Int) vat) then some ((xZ0.mk 0 0 0 []),false) else (ix l vat).bind fun e=>bif (ltB e.Kind 5) then some ((xZ0.mk 0 0 0 []),false) else (xZ2H N l vat s).bind fun side=>some (side.1,side.2)
abbrev xZ2d:Type:=((List xZ1)→Int→Option (xZ9×List xZ1×Int))
def xZj (N:Nat) (p:xZ2d) (y:List xZ1) (y2:Int):Option (xZ9×List xZ1×Int):=(ix y y2).bind fun e=>gd (i64b (y2+1)) ( bif (e.Kind==1) then (p y (y2+1)).bind fun trut=>(p trut.2.1 trut.2.2).bind fun trut2=>some ((xZ9.and_ trut.1 trut2.1),trut2.2.1,trut2.2.2) else bif (e.Kind==2) then (p y (y2+1)).bind fun trut3=>(p trut3.2.1 trut3.2.2).bind fun trut4=>some ((xZ9.or_ trut3.1 trut4.1),trut4.2.1,trut4.2.2) else bif (e.Kind==3) then (p y (y2+1)).bind fun trut5=>some ((xZ9.not_ trut5.1),trut5.2.1,trut5.2.2) else (xZA N y (y2+1)).bind fun side=>bothN EqR.cls 1 ( (xZA N side.2.1 side.2.2).bind fun side2=>some ((xZ9.test_ e.Op side.1 side2.1),side2.2.1,side2.2.2)))
def xZC (N:Nat):xZ2d:=Nat.rec (motive:=fun _=>xZ2d) (fun _ _=>none) (fun N p=>(xZj N p)) N
def xZ2r (N:Nat) (y:List xZ1) (y2:Int):Option (xZ9×List xZ1×Int):=(xZC N) y y2
def xZba (N:Nat) (va:Int) (b:Int):Option Bool:=(xZ7j N va).bind fun of=>(xZ7j N b).bind fun of2=>some (fcmpB .eql .f64 of of2)
def xZa9 (N:Nat) (va:Int) (b:Int):Option Bool:=(xZ7j N va).bind fun of=>(xZ7j N b).bind fun of2=>some (fcmpB .lss .f64 of of2)
def xZ5E (N:Nat) (va:Int) (b:Int):Option (Int×Bool):=(xZba N va b).bind fun equa=>bif equa then some (0,true) else (xZa9 N va b).bind fun less=>bif less then some ((-1),true) else (xZa9 N b va).bind fun less2=>bif less2 then some (1,true) else some (0,false)
def xZ3a (N:Nat) (n u:Int):Option (Int×Bool):=some (rVersus n u)
def xZ3W (N:Nat) (x:Int):Option Bool:=some (x != x)
def xZ2P (N:Nat) (x:Int) (y:Int):Option Int:=(xZ3W N x).bind fun uint=>(xZ3W N y).bind fun uint2=>bif uint then bif uint2 then some 0 else some (-1) else bif uint2 then some 1 else bif (ltB x y) then some (-1) else bif (ltB y x) then some 1 else some 0
def xZ59 (N:Nat) (x:Int):Option Bool:=some (x != x)
def xZ2K (N:Nat) (x:Int) (y:Int):Option Int:=(xZ59 N x).bind fun int=>(xZ59 N y).bind fun int2=>bif int then bif int2 then some 0 else some (-1) else bif int2 then some 1 else bif (ltB x y) then some (-1) else bif (ltB y x) then some 1 else some 0
def xZ8a (N:Nat) (u:Int):Option Int:=(xZ46 N u).bind fun clea=>bif ((bwA .u64 clea 9223372036854775808) != 0) then some (unX .u64 clea) else some (bwO .u64 clea 9223372036854775808)
def xZ4V (N:Nat) (x:Int):Option Bool:=some (x != x)
def xZ44 (N:Nat) (x:Int) (y:Int):Option Int:=(xZ4V N x).bind fun uint=>(xZ4V N y).bind fun uint2=>bif uint then bif uint2 then some 0 else some (-1) else bif uint2 then some 1 else bif (ltB x y) then some (-1) else bif (ltB y x) then some 1 else some 0
def xZ3h (N:Nat) (x:List UInt8):Option Bool:=some (!(x==x))
def xZ1U (N:Nat) (x:List UInt8) (y:List UInt8):Option Int:=(xZ3h N x).bind fun stri=>(xZ3h N y).bind fun stri2=>bif stri then bif stri2 then some 0 else some (-1) else bif stri2 then some 1 else bif (Op.bytesLess x y) then some (-1) else bif (!((Op.bytesLess x y) || (x==y))) then some 1 else some 0
def xZ6G (N:Nat) (va:xZ0) (b:xZ0):Option Int:=(xZ2P N va.Kind b.Kind).bind fun uint=>bif (uint != 0) then some uint else bif (va.Kind==1) then bif (va.Kind==1) then (xZ2K N va.N b.N).bind fun int=>some int else bif (va.Kind==3) then (xZ8a N va.Bits).bind fun rank=>(xZ8a N b.Bits).bind fun rank2=>(xZ44 N rank rank2).bind fun uint2=>some uint2 else bif (va.Kind==4) then (xZ1U N va.Text b.Text).bind fun stri=>some stri else some 0 else bif (va.Kind==2) then (xZ2K N va.N b.N).bind fun int2=>some int2 else bif (va.Kind==3) then (xZ8a N va.Bits).bind fun rank3=>(xZ8a N b.Bits).bind fun rank4=>(xZ44 N rank3 rank4).bind fun uint3=>some uint3 else bif (va.Kind==4) then (xZ1U N va.Text b.Text).bind fun stri2=>some stri2 else some 0
def xZp (N:Nat) (va:xZ0) (b:xZ0):Option (Int×Bool):=bif (va.Kind==3) then bif (b.Kind==3) then (xZ5E N va.Bits b.Bits).bind fun doub=>some (doub.1,doub.2) else bif (va.Kind==3) then (xZ3a N b.N va.Bits).bind fun vers=>some ((IntKind.i64.wrap (0 - vers.1)),vers.2) else bif (b.Kind==3) then (xZ3a N va.N b.Bits).bind fun vers2=>some (vers2.1,vers2.2) else (xZ6G N va b).bind fun rank=>some (rank,true) else bif (va.Kind==3) then (xZ3a N b.N va.Bits).bind fun vers3=>some ((IntKind.i64.wrap (0 - vers3.1)),vers3.2) else bif (b.Kind==3) then (xZ3a N va.N b.Bits).bind fun vers4=>some (vers4.1,vers4.2) else (xZ6G N va b).bind fun rank2=>some (rank2,true)
def xZ10 (N:Nat) (op:Int) (n:Int):Option Bool:=bif (op==2) then some (n != 0) else bif (op==4) then bif (ltB n 0) then some true else some (n==0) else bif (op==1) then some (n==0) else bif (op==3) then some (ltB n 0) else bif (op==6) then bif (n==0) then some true else some (ltB 0 n) else bif (op==5) then some (ltB 0 n) else some false
def xZ2h (N:Nat) (op:Int) (va:xZ0) (b:xZ0):Option Bool:=(xZ2x N va).bind fun chec=>bif (chec != 0) then some false else (xZ2x N b).bind fun chec2=>bif (chec2 != 0) then some false else bif (va.Kind != b.Kind) then (xZ1E N va.Kind).bind fun nume=>bif nume then (xZ1E N b.Kind).bind fun nume2=>bif (!nume2) then some (op==2) else bif (va.Kind==2) then bif (op != 1) then bif (op != 2) then some false else (xZp N va b).bind fun orde=>bif (!orde.2) then some (op==2) else (xZ10 N op orde.1).bind fun says=>some says else (xZp N va b).bind fun orde2=>bif (!orde2.2) then some (op==2) else (xZ10 N op orde2.1).bind fun says2=>some says2 else (xZp N va b).bind fun orde3=>bif (!orde3.2) then some (op==2) else (xZ10 N op orde3.1).bind fun says3=>some says3 else some (op==2) else bif (va.Kind==2) then bif (op != 1) then bif (op != 2) then some false else (xZp N va b).bind fun orde4=>bif (!orde4.2) then some (op==2) else (xZ10 N op orde4.1).bind fun says4=>some says4 else (xZp N va b).bind fun orde5=>bif (!orde5.2) then some (op==2) else (xZ10 N op orde5.1).bind fun says5=>some says5 else (xZp N va b).bind fun orde6=>bif (!orde6.2) then some (op==2) else (xZ10 N op orde6.1).bind fun says6=>some says6
def xZv (N:Nat) (t:xZx) (x:Int) (x2:Int) (x3:Int) (x4:List UInt8) (x5:Bool) (x6:Int) (x7:Int) (x8:Int) (x9:List UInt8) (x10:Bool) (y15:List xZ2) (y16:List xZ4) (y17:Int) (y18:Int) (y19:Int) (y20:List UInt8) (y21:List xZ0):Option (Bool×List xZ2×List xZ4×Int×Int×Int×List UInt8×List xZ0):=bif x5 then bif x10 then (xZ2h N t.op (xZ0.mk x x2 x3 x4) (xZ0.mk x6 x7 x8 x9)).bind fun hold=>some (hold,y15,y16,y17,y18,y19,y20,y21) else some (false,y15,y16,y17,y18,y19,y20,y21) else some (false,y15,y16,y17,y18,y19,y20,y21)
def xZD (N:Nat) (t:xZx) (x:Int) (x2:Int) (x3:Int) (x4:List UInt8) (x5:Bool) (y8:List xZ2) (y9:List xZ4) (y10:Int) (y11:Int) (y12:Int) (y13:List UInt8) (y14:List xZ0):Option (Bool×List xZ2×List xZ4×Int×Int×Int×List UInt8×List xZ0):=
 (match t.b with
 | .lit_ v2=>
  (xZM N (xZ1Z.mk v2) y8 y9 y10 y11 y12 y13 y14).bind fun valu5=>
  xZv N t x x2 x3 x4 x5 valu5.1.Kind valu5.1.N valu5.1.Bits valu5.1.Text valu5.2.1 valu5.2.2.1 valu5.2.2.2.1 valu5.2.2.2.2.1 valu5.2.2.2.2.2.1 valu5.2.2.2.2.2.2.1 valu5.2.2.2.2.2.2.2.1 valu5.2.2.2.2.2.2.2.2
 | .of_ name3 field2=>
  (xZl N (xZ2M.mk name3 field2) y8 y9 y10 y11 y12 y13 y14).bind fun valu6=>
  xZv N t x x2 x3 x4 x5 valu6.1.Kind valu6.1.N valu6.1.Bits valu6.1.Text valu6.2.1 valu6.2.2.1 valu6.2.2.2.1 valu6.2.2.2.2.1 valu6.2.2.2.2.2.1 valu6.2.2.2.2.2.2.1 valu6.2.2.2.2.2.2.2.1 valu6.2.2.2.2.2.2.2.2
 | .own_ name4=>
  (xZs N (xZ20.mk name4) y8 y9 y10 y11 y12 y13 y14).bind fun valu7=>
  xZv N t x x2 x3 x4 x5 valu7.1.Kind valu7.1.N valu7.1.Bits valu7.1.Text valu7.2.1 valu7.2.2.1 valu7.2.2.2.1 valu7.2.2.2.2.1 valu7.2.2.2.2.2.1 valu7.2.2.2.2.2.2.1 valu7.2.2.2.2.2.2.2.1 valu7.2.2.2.2.2.2.2.2
 | .sum_ minus2 va2 b2=>
  (xZ1z N (xZ1j.mk minus2 va2 b2) y8 y9 y10 y11 y12 y13 y14).bind fun valu8=>
  xZv N t x x2 x3 x4 x5 valu8.1.Kind valu8.1.N valu8.1.Bits valu8.1.Text valu8.2.1 valu8.2.2.1 valu8.2.2.2.1 valu8.2.2.2.2.1 valu8.2.2.2.2.2.1 valu8.2.2.2.2.2.2.1 valu8.2.2.2.2.2.2.2.1 valu8.2.2.2.2.2.2.2.2)
def xZ8 (N:Nat) (t:xZx) (y:List xZ2) (y2:List xZ4) (y3:Int) (y4:Int) (y5:Int) (y6:List UInt8) (y7:List xZ0):Option (Bool×List xZ2×List xZ4×Int×Int×Int×List UInt8×List xZ0):=
 (match t.a with
 | .lit_ v=>
  (xZM N (xZ1Z.mk v) y y2 y3 y4 y5 y6 y7).bind fun valu=>
  xZD N t valu.1.Kind valu.1.N valu.1.Bits valu.1.Text valu.2.1 valu.2.2.1 valu.2.2.2.1 valu.2.2.2.2.1 valu.2.2.2.2.2.1 valu.2.2.2.2.2.2.1 valu.2.2.2.2.2.2.2.1 valu.2.2.2.2.2.2.2.2
 | .of_ name field=>
  (xZl N (xZ2M.mk name field) y y2 y3 y4 y5 y6 y7).bind fun valu2=>
  xZD N t valu2.1.Kind valu2.1.N valu2.1.Bits valu2.1.Text valu2.2.1 valu2.2.2.1 valu2.2.2.2.1 valu2.2.2.2.2.1 valu2.2.2.2.2.2.1 valu2.2.2.2.2.2.2.1 valu2.2.2.2.2.2.2.2.1 valu2.2.2.2.2.2.2.2.2
 | .own_ name2=>
  (xZs N (xZ20.mk name2) y y2 y3 y4 y5 y6 y7).bind fun valu3=>
  xZD N t valu3.1.Kind valu3.1.N valu3.1.Bits valu3.1.Text valu3.2.1 valu3.2.2.1 valu3.2.2.2.1 valu3.2.2.2.2.1 valu3.2.2.2.2.2.1 valu3.2.2.2.2.2.2.1 valu3.2.2.2.2.2.2.2.1 valu3.2.2.2.2.2.2.2.2
 | .sum_ minus va b=>
  (xZ1z N (xZ1j.mk minus va b) y y2 y3 y4 y5 y6 y7).bind fun valu4=>
  xZD N t valu4.1.Kind valu4.1.N valu4.1.Bits valu4.1.Text valu4.2.1 valu4.2.2.1 valu4.2.2.2.1 valu4.2.2.2.2.1 valu4.2.2.2.2.2.1 valu4.2.2.2.2.2.2.1 valu4.2.2.2.2.2.2.2.1 valu4.2.2.2.2.2.2.2.2)
abbrev xZ1p:Type:=(xZi→(List xZ2)→(List xZ4)→Int→Int→Int→(List UInt8)→(List xZ0)→Option (Bool×List xZ2×List xZ4×Int×Int×Int×List UInt8×List xZ0))×(xZP→(List xZ2)→(List xZ4)→Int→Int→Int→(List UInt8)→(List xZ0)→Option (Bool×List xZ2×List xZ4×Int×Int×Int×List UInt8×List xZ0))×(xZi→(List xZ2)→(List xZ4)→Int→Int→Int→(List UInt8)→(List xZ0)→Option (Bool×List xZ2×List xZ4×Int×Int×Int×List UInt8×List xZ0))
def xZ5h (N:Nat) (p:xZ1p) (t:xZi) (y:List xZ2) (y2:List xZ4) (y3:Int) (y4:Int) (y5:Int) (y6:List UInt8) (y7:List xZ0):Option (Bool×List xZ2×List xZ4×Int×Int×Int×List UInt8×List xZ0):=
 (match t.a with
 | .and_ va b=>
  (p.1 (xZi.mk va b) y y2 y3 y4 y5 y6 y7).bind fun hold=>
  bif hold.1 then
   (match t.b with
   | .and_ va2 b2=>
    (p.1 (xZi.mk va2 b2) hold.2.1 hold.2.2.1 hold.2.2.2.1 hold.2.2.2.2.1 hold.2.2.2.2.2.1 hold.2.2.2.2.2.2.1 hold.2.2.2.2.2.2.2).bind fun hold2=>
    some (hold2.1,hold2.2.1,hold2.2.2.1,hold2.2.2.2.1,hold2.2.2.2.2.1,hold2.2.2.2.2.2.1,hold2.2.2.2.2.2.2.1,hold2.2.2.2.2.2.2.2)
   | .not_ va3=>
    (p.2.1 (xZP.mk va3) hold.2.1 hold.2.2.1 hold.2.2.2.1 hold.2.2.2.2.1 hold.2.2.2.2.2.1 hold.2.2.2.2.2.2.1 hold.2.2.2.2.2.2.2).bind fun hold3=>
    some (hold3.1,hold3.2.1,hold3.2.2.1,hold3.2.2.2.1,hold3.2.2.2.2.1,hold3.2.2.2.2.2.1,hold3.2.2.2.2.2.2.1,hold3.2.2.2.2.2.2.2)
   | .or_ va4 b3=>
    (p.2.2 (xZi.mk va4 b3) hold.2.1 hold.2.2.1 hold.2.2.2.1 hold.2.2.2.2.1 hold.2.2.2.2.2.1 hold.2.2.2.2.2.2.1 hold.2.2.2.2.2.2.2).bind fun hold4=>
    some (hold4.1,hold4.2.1,hold4.2.2.1,hold4.2.2.2.1,hold4.2.2.2.2.1,hold4.2.2.2.2.2.1,hold4.2.2.2.2.2.2.1,hold4.2.2.2.2.2.2.2)
   | .test_ op va5 b4=>
    (xZ8 N (xZx.mk op va5 b4) hold.2.1 hold.2.2.1 hold.2.2.2.1 hold.2.2.2.2.1 hold.2.2.2.2.2.1 hold.2.2.2.2.2.2.1 hold.2.2.2.2.2.2.2).bind fun hold5=>
    some (hold5.1,hold5.2.1,hold5.2.2.1,hold5.2.2.2.1,hold5.2.2.2.2.1,hold5.2.2.2.2.2.1,hold5.2.2.2.2.2.2.1,hold5.2.2.2.2.2.2.2))
  else
   some (false,hold.2.1,hold.2.2.1,hold.2.2.2.1,hold.2.2.2.2.1,hold.2.2.2.2.2.1,hold.2.2.2.2.2.2.1,hold.2.2.2.2.2.2.2)
 | .not_ va6=>
  (p.2.1 (xZP.mk va6) y y2 y3 y4 y5 y6 y7).bind fun hold6=>
  bif hold6.1 then
   (match t.b with
   | .and_ va7 b5=>
    (p.1 (xZi.mk va7 b5) hold6.2.1 hold6.2.2.1 hold6.2.2.2.1 hold6.2.2.2.2.1 hold6.2.2.2.2.2.1 hold6.2.2.2.2.2.2.1 hold6.2.2.2.2.2.2.2).bind fun hold7=>
    some (hold7.1,hold7.2.1,hold7.2.2.1,hold7.2.2.2.1,hold7.2.2.2.2.1,hold7.2.2.2.2.2.1,hold7.2.2.2.2.2.2.1,hold7.2.2.2.2.2.2.2)
   | .not_ va8=>
    (p.2.1 (xZP.mk va8) hold6.2.1 hold6.2.2.1 hold6.2.2.2.1 hold6.2.2.2.2.1 hold6.2.2.2.2.2.1 hold6.2.2.2.2.2.2.1 hold6.2.2.2.2.2.2.2).bind fun hold8=>
    some (hold8.1,hold8.2.1,hold8.2.2.1,hold8.2.2.2.1,hold8.2.2.2.2.1,hold8.2.2.2.2.2.1,hold8.2.2.2.2.2.2.1,hold8.2.2.2.2.2.2.2)
   | .or_ va9 b6=>
    (p.2.2 (xZi.mk va9 b6) hold6.2.1 hold6.2.2.1 hold6.2.2.2.1 hold6.2.2.2.2.1 hold6.2.2.2.2.2.1 hold6.2.2.2.2.2.2.1 hold6.2.2.2.2.2.2.2).bind fun hold9=>
    some (hold9.1,hold9.2.1,hold9.2.2.1,hold9.2.2.2.1,hold9.2.2.2.2.1,hold9.2.2.2.2.2.1,hold9.2.2.2.2.2.2.1,hold9.2.2.2.2.2.2.2)
   | .test_ op2 va10 b7=>
    (xZ8 N (xZx.mk op2 va10 b7) hold6.2.1 hold6.2.2.1 hold6.2.2.2.1 hold6.2.2.2.2.1 hold6.2.2.2.2.2.1 hold6.2.2.2.2.2.2.1 hold6.2.2.2.2.2.2.2).bind fun hold10=>
    some (hold10.1,hold10.2.1,hold10.2.2.1,hold10.2.2.2.1,hold10.2.2.2.2.1,hold10.2.2.2.2.2.1,hold10.2.2.2.2.2.2.1,hold10.2.2.2.2.2.2.2))
  else
   some (false,hold6.2.1,hold6.2.2.1,hold6.2.2.2.1,hold6.2.2.2.2.1,hold6.2.2.2.2.2.1,hold6.2.2.2.2.2.2.1,hold6.2.2.2.2.2.2.2)
 | .or_ va11 b8=>
  (p.2.2 (xZi.mk va11 b8) y y2 y3 y4 y5 y6 y7).bind fun hold11=>
  bif hold11.1 then
   (match t.b with
   | .and_ va12 b9=>
    (p.1 (xZi.mk va12 b9) hold11.2.1 hold11.2.2.1 hold11.2.2.2.1 hold11.2.2.2.2.1 hold11.2.2.2.2.2.1 hold11.2.2.2.2.2.2.1 hold11.2.2.2.2.2.2.2).bind fun hold12=>
    some (hold12.1,hold12.2.1,hold12.2.2.1,hold12.2.2.2.1,hold12.2.2.2.2.1,hold12.2.2.2.2.2.1,hold12.2.2.2.2.2.2.1,hold12.2.2.2.2.2.2.2)
   | .not_ va13=>
    (p.2.1 (xZP.mk va13) hold11.2.1 hold11.2.2.1 hold11.2.2.2.1 hold11.2.2.2.2.1 hold11.2.2.2.2.2.1 hold11.2.2.2.2.2.2.1 hold11.2.2.2.2.2.2.2).bind fun hold13=>
    some (hold13.1,hold13.2.1,hold13.2.2.1,hold13.2.2.2.1,hold13.2.2.2.2.1,hold13.2.2.2.2.2.1,hold13.2.2.2.2.2.2.1,hold13.2.2.2.2.2.2.2)
   | .or_ va14 b10=>
    (p.2.2 (xZi.mk va14 b10) hold11.2.1 hold11.2.2.1 hold11.2.2.2.1 hold11.2.2.2.2.1 hold11.2.2.2.2.2.1 hold11.2.2.2.2.2.2.1 hold11.2.2.2.2.2.2.2).bind fun hold14=>
    some (hold14.1,hold14.2.1,hold14.2.2.1,hold14.2.2.2.1,hold14.2.2.2.2.1,hold14.2.2.2.2.2.1,hold14.2.2.2.2.2.2.1,hold14.2.2.2.2.2.2.2)
   | .test_ op3 va15 b11=>
    (xZ8 N (xZx.mk op3 va15 b11) hold11.2.1 hold11.2.2.1 hold11.2.2.2.1 hold11.2.2.2.2.1 hold11.2.2.2.2.2.1 hold11.2.2.2.2.2.2.1 hold11.2.2.2.2.2.2.2).bind fun hold15=>
    some (hold15.1,hold15.2.1,hold15.2.2.1,hold15.2.2.2.1,hold15.2.2.2.2.1,hold15.2.2.2.2.2.1,hold15.2.2.2.2.2.2.1,hold15.2.2.2.2.2.2.2))
  else
   some (false,hold11.2.1,hold11.2.2.1,hold11.2.2.2.1,hold11.2.2.2.2.1,hold11.2.2.2.2.2.1,hold11.2.2.2.2.2.2.1,hold11.2.2.2.2.2.2.2)
 | .test_ op4 va16 b12=>
  (xZ8 N (xZx.mk op4 va16 b12) y y2 y3 y4 y5 y6 y7).bind fun hold16=>
  bif hold16.1 then
   (match t.b with
   | .and_ va17 b13=>
    (p.1 (xZi.mk va17 b13) hold16.2.1 hold16.2.2.1 hold16.2.2.2.1 hold16.2.2.2.2.1 hold16.2.2.2.2.2.1 hold16.2.2.2.2.2.2.1 hold16.2.2.2.2.2.2.2).bind fun hold17=>
    some (hold17.1,hold17.2.1,hold17.2.2.1,hold17.2.2.2.1,hold17.2.2.2.2.1,hold17.2.2.2.2.2.1,hold17.2.2.2.2.2.2.1,hold17.2.2.2.2.2.2.2)
   | .not_ va18=>
    (p.2.1 (xZP.mk va18) hold16.2.1 hold16.2.2.1 hold16.2.2.2.1 hold16.2.2.2.2.1 hold16.2.2.2.2.2.1 hold16.2.2.2.2.2.2.1 hold16.2.2.2.2.2.2.2).bind fun hold18=>
    some (hold18.1,hold18.2.1,hold18.2.2.1,hold18.2.2.2.1,hold18.2.2.2.2.1,hold18.2.2.2.2.2.1,hold18.2.2.2.2.2.2.1,hold18.2.2.2.2.2.2.2)
   | .or_ va19 b14=>
    (p.2.2 (xZi.mk va19 b14) hold16.2.1 hold16.2.2.1 hold16.2.2.2.1 hold16.2.2.2.2.1 hold16.2.2.2.2.2.1 hold16.2.2.2.2.2.2.1 hold16.2.2.2.2.2.2.2).bind fun hold19=>
    some (hold19.1,hold19.2.1,hold19.2.2.1,hold19.2.2.2.1,hold19.2.2.2.2.1,hold19.2.2.2.2.2.1,hold19.2.2.2.2.2.2.1,hold19.2.2.2.2.2.2.2)
   | .test_ op5 va20 b15=>
    (xZ8 N (xZx.mk op5 va20 b15) hold16.2.1 hold16.2.2.1 hold16.2.2.2.1 hold16.2.2.2.2.1 hold16.2.2.2.2.2.1 hold16.2.2.2.2.2.2.1 hold16.2.2.2.2.2.2.2).bind fun hold20=>
    some (hold20.1,hold20.2.1,hold20.2.2.1,hold20.2.2.2.1,hold20.2.2.2.2.1,hold20.2.2.2.2.2.1,hold20.2.2.2.2.2.2.1,hold20.2.2.2.2.2.2.2))
  else
   some (false,hold16.2.1,hold16.2.2.1,hold16.2.2.2.1,hold16.2.2.2.2.1,hold16.2.2.2.2.2.1,hold16.2.2.2.2.2.2.1,hold16.2.2.2.2.2.2.2))
def xZ5i (N:Nat) (p:xZ1p) (t:xZP) (y:List xZ2) (y2:List xZ4) (y3:Int) (y4:Int) (y5:Int) (y6:List UInt8) (y7:List xZ0):Option (Bool×List xZ2×List xZ4×Int×Int×Int×List UInt8×List xZ0):=
 (match t.a with
 | .and_ va b=>
  (p.1 (xZi.mk va b) y y2 y3 y4 y5 y6 y7).bind fun hold=>
  some ((!hold.1),hold.2.1,hold.2.2.1,hold.2.2.2.1,hold.2.2.2.2.1,hold.2.2.2.2.2.1,hold.2.2.2.2.2.2.1,hold.2.2.2.2.2.2.2)
 | .not_ va2=>
  (p.2.1 (xZP.mk va2) y y2 y3 y4 y5 y6 y7).bind fun hold2=>
  some ((!hold2.1),hold2.2.1,hold2.2.2.1,hold2.2.2.2.1,hold2.2.2.2.2.1,hold2.2.2.2.2.2.1,hold2.2.2.2.2.2.2.1,hold2.2.2.2.2.2.2.2)
 | .or_ va3 b2=>
  (p.2.2 (xZi.mk va3 b2) y y2 y3 y4 y5 y6 y7).bind fun hold3=>
  some ((!hold3.1),hold3.2.1,hold3.2.2.1,hold3.2.2.2.1,hold3.2.2.2.2.1,hold3.2.2.2.2.2.1,hold3.2.2.2.2.2.2.1,hold3.2.2.2.2.2.2.2)
 | .test_ op va4 b3=>
  (xZ8 N (xZx.mk op va4 b3) y y2 y3 y4 y5 y6 y7).bind fun hold4=>
  some ((!hold4.1),hold4.2.1,hold4.2.2.1,hold4.2.2.2.1,hold4.2.2.2.2.1,hold4.2.2.2.2.2.1,hold4.2.2.2.2.2.2.1,hold4.2.2.2.2.2.2.2))
def xZ5I (N:Nat) (p:xZ1p) (t:xZi) (y:List xZ2) (y2:List xZ4) (y3:Int) (y4:Int) (y5:Int) (y6:List UInt8) (y7:List xZ0):Option (Bool×List xZ2×List xZ4×Int×Int×Int×List UInt8×List xZ0):=
 (match t.a with
 | .and_ va b=>
  (p.1 (xZi.mk va b) y y2 y3 y4 y5 y6 y7).bind fun hold=>
  bif hold.1 then
   some (true,hold.2.1,hold.2.2.1,hold.2.2.2.1,hold.2.2.2.2.1,hold.2.2.2.2.2.1,hold.2.2.2.2.2.2.1,hold.2.2.2.2.2.2.2)
  else
   (match t.b with
   | .and_ va2 b2=>
    (p.1 (xZi.mk va2 b2) hold.2.1 hold.2.2.1 hold.2.2.2.1 hold.2.2.2.2.1 hold.2.2.2.2.2.1 hold.2.2.2.2.2.2.1 hold.2.2.2.2.2.2.2).bind fun hold2=>
    some (hold2.1,hold2.2.1,hold2.2.2.1,hold2.2.2.2.1,hold2.2.2.2.2.1,hold2.2.2.2.2.2.1,hold2.2.2.2.2.2.2.1,hold2.2.2.2.2.2.2.2)
   | .not_ va3=>
    (p.2.1 (xZP.mk va3) hold.2.1 hold.2.2.1 hold.2.2.2.1 hold.2.2.2.2.1 hold.2.2.2.2.2.1 hold.2.2.2.2.2.2.1 hold.2.2.2.2.2.2.2).bind fun hold3=>
    some (hold3.1,hold3.2.1,hold3.2.2.1,hold3.2.2.2.1,hold3.2.2.2.2.1,hold3.2.2.2.2.2.1,hold3.2.2.2.2.2.2.1,hold3.2.2.2.2.2.2.2)
   | .or_ va4 b3=>
    (p.2.2 (xZi.mk va4 b3) hold.2.1 hold.2.2.1 hold.2.2.2.1 hold.2.2.2.2.1 hold.2.2.2.2.2.1 hold.2.2.2.2.2.2.1 hold.2.2.2.2.2.2.2).bind fun hold4=>
    some (hold4.1,hold4.2.1,hold4.2.2.1,hold4.2.2.2.1,hold4.2.2.2.2.1,hold4.2.2.2.2.2.1,hold4.2.2.2.2.2.2.1,hold4.2.2.2.2.2.2.2)
   | .test_ op va5 b4=>
    (xZ8 N (xZx.mk op va5 b4) hold.2.1 hold.2.2.1 hold.2.2.2.1 hold.2.2.2.2.1 hold.2.2.2.2.2.1 hold.2.2.2.2.2.2.1 hold.2.2.2.2.2.2.2).bind fun hold5=>
    some (hold5.1,hold5.2.1,hold5.2.2.1,hold5.2.2.2.1,hold5.2.2.2.2.1,hold5.2.2.2.2.2.1,hold5.2.2.2.2.2.2.1,hold5.2.2.2.2.2.2.2))
 | .not_ va6=>
  (p.2.1 (xZP.mk va6) y y2 y3 y4 y5 y6 y7).bind fun hold6=>
  bif hold6.1 then
   some (true,hold6.2.1,hold6.2.2.1,hold6.2.2.2.1,hold6.2.2.2.2.1,hold6.2.2.2.2.2.1,hold6.2.2.2.2.2.2.1,hold6.2.2.2.2.2.2.2)
  else
   (match t.b with
   | .and_ va7 b5=>
    (p.1 (xZi.mk va7 b5) hold6.2.1 hold6.2.2.1 hold6.2.2.2.1 hold6.2.2.2.2.1 hold6.2.2.2.2.2.1 hold6.2.2.2.2.2.2.1 hold6.2.2.2.2.2.2.2).bind fun hold7=>
    some (hold7.1,hold7.2.1,hold7.2.2.1,hold7.2.2.2.1,hold7.2.2.2.2.1,hold7.2.2.2.2.2.1,hold7.2.2.2.2.2.2.1,hold7.2.2.2.2.2.2.2)
   | .not_ va8=>
    (p.2.1 (xZP.mk va8) hold6.2.1 hold6.2.2.1 hold6.2.2.2.1 hold6.2.2.2.2.1 hold6.2.2.2.2.2.1 hold6.2.2.2.2.2.2.1 hold6.2.2.2.2.2.2.2).bind fun hold8=>
    some (hold8.1,hold8.2.1,hold8.2.2.1,hold8.2.2.2.1,hold8.2.2.2.2.1,hold8.2.2.2.2.2.1,hold8.2.2.2.2.2.2.1,hold8.2.2.2.2.2.2.2)
   | .or_ va9 b6=>
    (p.2.2 (xZi.mk va9 b6) hold6.2.1 hold6.2.2.1 hold6.2.2.2.1 hold6.2.2.2.2.1 hold6.2.2.2.2.2.1 hold6.2.2.2.2.2.2.1 hold6.2.2.2.2.2.2.2).bind fun hold9=>
    some (hold9.1,hold9.2.1,hold9.2.2.1,hold9.2.2.2.1,hold9.2.2.2.2.1,hold9.2.2.2.2.2.1,hold9.2.2.2.2.2.2.1,hold9.2.2.2.2.2.2.2)
   | .test_ op2 va10 b7=>
    (xZ8 N (xZx.mk op2 va10 b7) hold6.2.1 hold6.2.2.1 hold6.2.2.2.1 hold6.2.2.2.2.1 hold6.2.2.2.2.2.1 hold6.2.2.2.2.2.2.1 hold6.2.2.2.2.2.2.2).bind fun hold10=>
    some (hold10.1,hold10.2.1,hold10.2.2.1,hold10.2.2.2.1,hold10.2.2.2.2.1,hold10.2.2.2.2.2.1,hold10.2.2.2.2.2.2.1,hold10.2.2.2.2.2.2.2))
 | .or_ va11 b8=>
  (p.2.2 (xZi.mk va11 b8) y y2 y3 y4 y5 y6 y7).bind fun hold11=>
  bif hold11.1 then
   some (true,hold11.2.1,hold11.2.2.1,hold11.2.2.2.1,hold11.2.2.2.2.1,hold11.2.2.2.2.2.1,hold11.2.2.2.2.2.2.1,hold11.2.2.2.2.2.2.2)
  else
   (match t.b with
   | .and_ va12 b9=>
    (p.1 (xZi.mk va12 b9) hold11.2.1 hold11.2.2.1 hold11.2.2.2.1 hold11.2.2.2.2.1 hold11.2.2.2.2.2.1 hold11.2.2.2.2.2.2.1 hold11.2.2.2.2.2.2.2).bind fun hold12=>
    some (hold12.1,hold12.2.1,hold12.2.2.1,hold12.2.2.2.1,hold12.2.2.2.2.1,hold12.2.2.2.2.2.1,hold12.2.2.2.2.2.2.1,hold12.2.2.2.2.2.2.2)
   | .not_ va13=>
    (p.2.1 (xZP.mk va13) hold11.2.1 hold11.2.2.1 hold11.2.2.2.1 hold11.2.2.2.2.1 hold11.2.2.2.2.2.1 hold11.2.2.2.2.2.2.1 hold11.2.2.2.2.2.2.2).bind fun hold13=>
    some (hold13.1,hold13.2.1,hold13.2.2.1,hold13.2.2.2.1,hold13.2.2.2.2.1,hold13.2.2.2.2.2.1,hold13.2.2.2.2.2.2.1,hold13.2.2.2.2.2.2.2)
   | .or_ va14 b10=>
    (p.2.2 (xZi.mk va14 b10) hold11.2.1 hold11.2.2.1 hold11.2.2.2.1 hold11.2.2.2.2.1 hold11.2.2.2.2.2.1 hold11.2.2.2.2.2.2.1 hold11.2.2.2.2.2.2.2).bind fun hold14=>
    some (hold14.1,hold14.2.1,hold14.2.2.1,hold14.2.2.2.1,hold14.2.2.2.2.1,hold14.2.2.2.2.2.1,hold14.2.2.2.2.2.2.1,hold14.2.2.2.2.2.2.2)
   | .test_ op3 va15 b11=>
    (xZ8 N (xZx.mk op3 va15 b11) hold11.2.1 hold11.2.2.1 hold11.2.2.2.1 hold11.2.2.2.2.1 hold11.2.2.2.2.2.1 hold11.2.2.2.2.2.2.1 hold11.2.2.2.2.2.2.2).bind fun hold15=>
    some (hold15.1,hold15.2.1,hold15.2.2.1,hold15.2.2.2.1,hold15.2.2.2.2.1,hold15.2.2.2.2.2.1,hold15.2.2.2.2.2.2.1,hold15.2.2.2.2.2.2.2))
 | .test_ op4 va16 b12=>
  (xZ8 N (xZx.mk op4 va16 b12) y y2 y3 y4 y5 y6 y7).bind fun hold16=>
  bif hold16.1 then
   some (true,hold16.2.1,hold16.2.2.1,hold16.2.2.2.1,hold16.2.2.2.2.1,hold16.2.2.2.2.2.1,hold16.2.2.2.2.2.2.1,hold16.2.2.2.2.2.2.2)
  else
   (match t.b with
   | .and_ va17 b13=>
    (p.1 (xZi.mk va17 b13) hold16.2.1 hold16.2.2.1 hold16.2.2.2.1 hold16.2.2.2.2.1 hold16.2.2.2.2.2.1 hold16.2.2.2.2.2.2.1 hold16.2.2.2.2.2.2.2).bind fun hold17=>
    some (hold17.1,hold17.2.1,hold17.2.2.1,hold17.2.2.2.1,hold17.2.2.2.2.1,hold17.2.2.2.2.2.1,hold17.2.2.2.2.2.2.1,hold17.2.2.2.2.2.2.2)
   | .not_ va18=>
    (p.2.1 (xZP.mk va18) hold16.2.1 hold16.2.2.1 hold16.2.2.2.1 hold16.2.2.2.2.1 hold16.2.2.2.2.2.1 hold16.2.2.2.2.2.2.1 hold16.2.2.2.2.2.2.2).bind fun hold18=>
    some (hold18.1,hold18.2.1,hold18.2.2.1,hold18.2.2.2.1,hold18.2.2.2.2.1,hold18.2.2.2.2.2.1,hold18.2.2.2.2.2.2.1,hold18.2.2.2.2.2.2.2)
   | .or_ va19 b14=>
    (p.2.2 (xZi.mk va19 b14) hold16.2.1 hold16.2.2.1 hold16.2.2.2.1 hold16.2.2.2.2.1 hold16.2.2.2.2.2.1 hold16.2.2.2.2.2.2.1 hold16.2.2.2.2.2.2.2).bind fun hold19=>
    some (hold19.1,hold19.2.1,hold19.2.2.1,hold19.2.2.2.1,hold19.2.2.2.2.1,hold19.2.2.2.2.2.1,hold19.2.2.2.2.2.2.1,hold19.2.2.2.2.2.2.2)
   | .test_ op5 va20 b15=>
    (xZ8 N (xZx.mk op5 va20 b15) hold16.2.1 hold16.2.2.1 hold16.2.2.2.1 hold16.2.2.2.2.1 hold16.2.2.2.2.2.1 hold16.2.2.2.2.2.2.1 hold16.2.2.2.2.2.2.2).bind fun hold20=>
    some (hold20.1,hold20.2.1,hold20.2.2.1,hold20.2.2.2.1,hold20.2.2.2.2.1,hold20.2.2.2.2.2.1,hold20.2.2.2.2.2.2.1,hold20.2.2.2.2.2.2.2)))
def xZo (N:Nat):xZ1p:=Nat.rec (motive:=fun _=>xZ1p) ((fun _ _ _ _ _ _ _ _=>none),(fun _ _ _ _ _ _ _ _=>none),(fun _ _ _ _ _ _ _ _=>none)) (fun N p=>((xZ5h N p),(xZ5i N p),(xZ5I N p))) N
def xZ35 (N:Nat) (t:xZi) (y:List xZ2) (y2:List xZ4) (y3:Int) (y4:Int) (y5:Int) (y6:List UInt8) (y7:List xZ0):Option (Bool×List xZ2×List xZ4×Int×Int×Int×List UInt8×List xZ0):=(xZo N).1 t y y2 y3 y4 y5 y6 y7
def xZ36 (N:Nat) (t:xZP) (y:List xZ2) (y2:List xZ4) (y3:Int) (y4:Int) (y5:Int) (y6:List UInt8) (y7:List xZ0):Option (Bool×List xZ2×List xZ4×Int×Int×Int×List UInt8×List xZ0):=(xZo N).2.1 t y y2 y3 y4 y5 y6 y7
def xZ3C (N:Nat) (t:xZi) (y:List xZ2) (y2:List xZ4) (y3:Int) (y4:Int) (y5:Int) (y6:List UInt8) (y7:List xZ0):Option (Bool×List xZ2×List xZ4×Int×Int×Int×List UInt8×List xZ0):=(xZo N).2.2 t y y2 y3 y4 y5 y6 y7
def xZ1d (N:Nat) (l:List xZ1) (types:List xZ2) (bound:List xZ4) (e:xZ6):Option Bool:=
 (xZ2C N l).bind fun chec=>
 bif (chec != 0) then
  some false
 else
  bif ((List.length l:Int)==0) then
   some true
  else
   bothN EqR.cls 2 (
    (xZ2r N l 0).bind fun trut=>
    (match trut.1 with
    | .and_ va b=>
     (xZ35 N (xZi.mk va b) types bound e.Time e.Source e.Seq e.Type_ e.Vals).bind fun hold=>
     some hold.1
    | .not_ va2=>
     (xZ36 N (xZP.mk va2) types bound e.Time e.Source e.Seq e.Type_ e.Vals).bind fun hold2=>
     some hold2.1
    | .or_ va3 b2=>
     (xZ3C N (xZi.mk va3 b2) types bound e.Time e.Source e.Seq e.Type_ e.Vals).bind fun hold3=>
     some hold3.1
    | .test_ op va4 b3=>
     (xZ8 N (xZx.mk op va4 b3) types bound e.Time e.Source e.Seq e.Type_ e.Vals).bind fun hold4=>
     some hold4.1))
def xZ1e (N:Nat) (n:Int) (next2:Int→Int→Bool→Option Int) (m2:Int) (e2:Int) (more:Bool):Option Int:=bif (ltB e2 1075) then bif (ltB 0 m2) then bif (ltB 0 e2) then bif more then gd (i64b (e2+1)) ( next2 (IntKind.u64.wrap (Int.tdiv m2 2)) (e2+1) true) else gd (i64b (e2+1)) ( next2 (IntKind.u64.wrap (Int.tdiv m2 2)) (e2+1) ((Int.tmod m2 2)==1)) else bif (ltB (IntKind.u64.wrap n) m2) then some (-1) else bif ((IntKind.u64.wrap n)==m2) then bif more then some (-1) else bif ((IntKind.u64.wrap n)==m2) then some 0 else some 1 else bif ((IntKind.u64.wrap n)==m2) then some 0 else some 1 else bif more then bif (ltB 0 e2) then bif more then gd (i64b (e2+1)) ( next2 (IntKind.u64.wrap (Int.tdiv m2 2)) (e2+1) true) else gd (i64b (e2+1)) ( next2 (IntKind.u64.wrap (Int.tdiv m2 2)) (e2+1) ((Int.tmod m2 2)==1)) else bif (ltB (IntKind.u64.wrap n) m2) then some (-1) else bif ((IntKind.u64.wrap n)==m2) then bif more then some (-1) else bif ((IntKind.u64.wrap n)==m2) then some 0 else some 1 else bif ((IntKind.u64.wrap n)==m2) then some 0 else some 1 else bif (ltB (IntKind.u64.wrap n) m2) then some (-1) else bif ((IntKind.u64.wrap n)==m2) then bif more then some (-1) else bif ((IntKind.u64.wrap n)==m2) then some 0 else some 1 else bif ((IntKind.u64.wrap n)==m2) then some 0 else some 1 else bif (ltB (IntKind.u64.wrap n) m2) then some (-1) else bif ((IntKind.u64.wrap n)==m2) then bif more then some (-1) else bif ((IntKind.u64.wrap n)==m2) then some 0 else some 1 else bif ((IntKind.u64.wrap n)==m2) then some 0 else some 1
def xZ5F (N:Nat) (n:Int) (next0:Int→Int→Option Int) (m:Int) (e:Int):Option Int:=bif (ltB 1075 e) then bif (leB m 4611686018427387904) then bif (ltB 0 m) then gd (i64b (e - 1)) ( next0 (IntKind.u64.wrap (m * 2)) (e - 1)) else lp3 (xZ1e N n) N m e false else lp3 (xZ1e N n) N m e false else lp3 (xZ1e N n) N m e false
def xZ3L (N:Nat) (n:Int) (u:Int):Option Int:=(xZm N u).bind fun mant=>(xZ7 N u).bind fun scal=>lp2 (xZ5F N n) N mant scal
def xZ2F (N:Nat) (n:Int) (u:Int):Option (Int×Bool):=(xZh N u).bind fun kind=>bif (kind==5) then some (0,false) else bif (ltB n (-4611686018427387904)) then some (0,false) else bif (ltB 4611686018427387904 n) then some (0,false) else (xZh N u).bind fun kind2=>bif (kind2==1) then bif (ltB n 0) then some ((-1),true) else some ((min n 1),true) else (xZa N u).bind fun sign=>bif sign then bif (leB 0 n) then some (1,true) else (xZh N u).bind fun kind3=>bif (kind3==4) then some (1,true) else (xZ3L N (IntKind.i64.wrap (0 - n)) u).bind fun agai=>some ((IntKind.i64.wrap (0 - agai)),true) else bif (leB n 0) then some ((-1),true) else (xZh N u).bind fun kind4=>bif (kind4==4) then some ((-1),true) else (xZ3L N n u).bind fun agai2=>some (agai2,true)
def xZ2w (N:Nat) (va:Int) (b:Int):Option Bool:=(xZh N va).bind fun kind=>bif (kind==5) then some false else (xZh N b).bind fun kind2=>bif (kind2==5) then some false else bif (va==b) then some true else (xZh N va).bind fun kind3=>bif (kind3==1) then (xZh N b).bind fun kind4=>some (kind4==1) else some false
def xZ2E (N:Nat) (u:Int):Option Int:=(xZ15 N u).bind fun clea=>(xZa N clea).bind fun sign=>bif sign then some (unX .u64 clea) else some (IntKind.u64.wrap (clea+9223372036854775808))
def xZ1W (N:Nat) (va:Int) (b:Int):Option Bool:=(xZh N va).bind fun kind=>bif (kind==5) then some false else (xZh N b).bind fun kind2=>bif (kind2==5) then some false else (xZ2w N va b).bind fun equa=>bif equa then some false else (xZ2E N va).bind fun rank=>(xZ2E N b).bind fun rank2=>some (ltB rank rank2)
def xZ2L (N:Nat) (first:Bool) (y:Int) (y4:List UInt8) (y8:List UInt8) (x5:Bool):Option Int:=bif x5 then bif first then some (-1) else some 1 else bif (y==4) then bif first then some (-1) else bif (!((Op.bytesLess y4 y8) || (y4==y8))) then some 1 else some 0 else bif first then some (-1) else some 0
def xZ3Q (N:Nat) (rank:Int) (rank2:Int) (first:Bool) (y:Int) (y4:List UInt8) (y8:List UInt8) (x4:Bool):Option Int:=bif x4 then xZ2L N first y y4 y8 true else bif (y==3) then xZ2L N first y y4 y8 (ltB rank2 rank) else xZ2L N first y y4 y8 false
def xZ3P (N:Nat) (rank:Int) (rank2:Int) (first:Bool) (y:Int) (y2:Int) (y4:List UInt8) (y6:Int) (y8:List UInt8) (x3:Bool):Option Int:=bif x3 then xZ3Q N rank rank2 first y y4 y8 (ltB y6 y2) else xZ3Q N rank rank2 first y y4 y8 false
def xZ16 (N:Nat) (rank:Int) (rank2:Int) (first:Bool) (y:Int) (y2:Int) (y4:List UInt8) (y6:Int) (y8:List UInt8):Option Int:=bif (y==1) then xZ3P N rank rank2 first y y2 y4 y6 y8 true else xZ3P N rank rank2 first y y2 y4 y6 y8 (y==2)
def xZ3O (N:Nat) (va:xZ0) (b:xZ0) (rank:Int) (rank2:Int) (x2:Bool):Option Int:=bif x2 then xZ16 N rank rank2 true va.Kind va.N va.Text b.N b.Text else bif (va.Kind==3) then bif (ltB rank rank2) then xZ16 N rank rank2 true va.Kind va.N va.Text b.N b.Text else bif (va.Kind==4) then xZ16 N rank rank2 (Op.bytesLess va.Text b.Text) va.Kind va.N va.Text b.N b.Text else xZ16 N rank rank2 false va.Kind va.N va.Text b.N b.Text else bif (va.Kind==4) then xZ16 N rank rank2 (Op.bytesLess va.Text b.Text) va.Kind va.N va.Text b.N b.Text else xZ16 N rank rank2 false va.Kind va.N va.Text b.N b.Text
def xZ3N (N:Nat) (va:xZ0) (b:xZ0) (rank:Int) (rank2:Int) (x:Bool):Option Int:=bif x then xZ3O N va b rank rank2 (ltB va.N b.N) else xZ3O N va b rank rank2 false
def xZ47 (N:Nat) (va:xZ0) (b:xZ0):Option Int:=bif (va.Kind != b.Kind) then bif (ltB va.Kind b.Kind) then some (-1) else some 1 else (xZ2E N va.Bits).bind fun rank=>(xZ2E N b.Bits).bind fun rank2=>bif (va.Kind==1) then xZ3N N va b rank rank2 true else xZ3N N va b rank rank2 (va.Kind==2)
def xZ3c (N:Nat) (va:xZ0) (b:xZ0):Option (Int×Bool):=bif (va.Kind==1) then bif (b.Kind==3) then (xZ2F N va.N b.Bits).bind fun vers=>some (vers.1,vers.2) else bif (va.Kind==3) then bif (b.Kind==1) then (xZ2F N b.N va.Bits).bind fun vers2=>some ((IntKind.i64.wrap (0 - vers2.1)),vers2.2) else bif (va.Kind==3) then (xZ1W N va.Bits b.Bits).bind fun less=>bif less then some ((-1),true) else (xZ1W N b.Bits va.Bits).bind fun less2=>bif less2 then some (1,true) else (xZ2w N va.Bits b.Bits).bind fun equa=>some (0,equa) else (xZ47 N va b).bind fun rank=>some (rank,true) else bif (va.Kind==3) then (xZ1W N va.Bits b.Bits).bind fun less3=>bif less3 then some ((-1),true) else (xZ1W N b.Bits va.Bits).bind fun less4=>bif less4 then some (1,true) else (xZ2w N va.Bits b.Bits).bind fun equa2=>some (0,equa2) else (xZ47 N va b).bind fun rank2=>some (rank2,true) else bif (va.Kind==3) then bif (b.Kind==1) then (xZ2F N b.N va.Bits).bind fun vers3=>some ((IntKind.i64.wrap (0 - vers3.1)),vers3.2) else bif (va.Kind==3) then (xZ1W N va.Bits b.Bits).bind fun less5=>bif less5 then some ((-1),true) else (xZ1W N b.Bits va.Bits).bind fun less6=>bif less6 then some (1,true) else (xZ2w N va.Bits b.Bits).bind fun equa3=>some (0,equa3) else (xZ47 N va b).bind fun rank3=>some (rank3,true) else bif (va.Kind==3) then (xZ1W N va.Bits b.Bits).bind fun less7=>bif less7 then some ((-1),true) else (xZ1W N b.Bits va.Bits).bind fun less8=>bif less8 then some (1,true) else (xZ2w N va.Bits b.Bits).bind fun equa4=>some (0,equa4) else (xZ47 N va b).bind fun rank4=>some (rank4,true)
def xZ4F (N:Nat) (op:Int) (n:Int) (x7:Bool):Option Bool:=bif x7 then some true else bif (op==5) then bif (ltB 0 n) then some true else bif (op==6) then some (leB 0 n) else some false else bif (op==6) then some (leB 0 n) else some false
def xZ4E (N:Nat) (op:Int) (n:Int) (x6:Bool):Option Bool:=bif x6 then xZ4F N op n true else bif (op==4) then xZ4F N op n (leB n 0) else xZ4F N op n false
def xZ4D (N:Nat) (op:Int) (n:Int) (x5:Bool):Option Bool:=bif x5 then xZ4E N op n true else bif (op==3) then xZ4E N op n (ltB n 0) else xZ4E N op n false
def xZ6B (N:Nat) (op:Int) (n:Int) (x4:Bool):Option Bool:=bif x4 then xZ4D N op n true else bif (op==2) then xZ4D N op n (n != 0) else xZ4D N op n false
def xZ3b (N:Nat) (op:Int) (n:Int) (x3:Bool):Option Bool:=bif x3 then some false else bif (op==1) then xZ6B N op n (n==0) else xZ6B N op n false
def xZ2t (N:Nat) (op:Int) (x2:Bool) (y:Int) (y2:Int) (y3:Int) (y4:List UInt8) (y5:Int) (y6:Int) (y7:Int) (y8:List UInt8):Option Bool:=bif x2 then some (op==2) else (xZ3c N (xZ0.mk y y2 y3 y4) (xZ0.mk y5 y6 y7 y8)).bind fun stan=>bif (!stan.2) then some (op==2) else bif (y==2) then xZ3b N op stan.1 (ltB 2 op) else xZ3b N op stan.1 false
def xZ2s (N:Nat) (op:Int) (x:Bool) (y:Int) (y2:Int) (y3:Int) (y4:List UInt8) (y5:Int) (y6:Int) (y7:Int) (y8:List UInt8):Option Bool:=bif x then some false else bif (y != y5) then (xZ1O N y).bind fun numb=>bif numb then (xZ1O N y5).bind fun numb2=>xZ2t N op (!numb2) y y2 y3 y4 y5 y6 y7 y8 else xZ2t N op true y y2 y3 y4 y5 y6 y7 y8 else xZ2t N op false y y2 y3 y4 y5 y6 y7 y8
def xZ4j (N:Nat) (op:Int) (va:xZ0) (b:xZ0):Option Bool:=bif (ltB op 1) then xZ2s N op true va.Kind va.N va.Bits va.Text b.Kind b.N b.Bits b.Text else bif (ltB 6 op) then xZ2s N op true va.Kind va.N va.Bits va.Text b.Kind b.N b.Bits b.Text else (xZ1P N va).bind fun chec=>bif (chec != 0) then xZ2s N op true va.Kind va.N va.Bits va.Text b.Kind b.N b.Bits b.Text else (xZ1P N b).bind fun chec2=>xZ2s N op (chec2 != 0) va.Kind va.N va.Bits va.Text b.Kind b.N b.Bits b.Text
abbrev xZ8r:Type:=((List xZ1)→Int→xZc→Option Bool)
def xZ9n (N:Nat) (p:xZ8r) (l:List xZ1) (vat:Int) (s:xZc):Option Bool:=(ix l vat).bind fun e=>gd (i64b (vat+1)) ( gd (i64b (vat+1)) ( (xZ48 N l (vat+1)).bind fun size=>gd (i64b ((vat+1)+size)) ( bif (e.Kind==1) then gd (i64b (vat+1)) ( (p l (vat+1) s).bind fun trut=>bif trut then (p l ((vat+1)+size) s).bind fun trut2=>some trut2 else some false) else bif (e.Kind==2) then gd (i64b (vat+1)) ( (p l (vat+1) s).bind fun trut3=>bif trut3 then some true else (p l ((vat+1)+size) s).bind fun trut4=>some trut4) else bif (e.Kind==3) then gd (i64b (vat+1)) ( (p l (vat+1) s).bind fun trut5=>some (!trut5)) else gd (i64b (vat+1)) ( (xZ2H N l (vat+1) s).bind fun side=>(xZ2H N l ((vat+1)+size) s).bind fun side2=>bif side.2 then bif side2.2 then (xZ4j N e.Op side.1 side2.1).bind fun hold=>some hold else some false else some false))))
def xZ18 (N:Nat):xZ8r:=Nat.rec (motive:=fun _=>xZ8r) (fun _ _ _=>none) (fun N p=>(xZ9n N p)) N
def xZa0 (N:Nat) (l:List xZ1) (vat:Int) (s:xZc):Option Bool:=(xZ18 N) l vat s
def xZ1f (N:Nat) (l:List xZ1) (s:xZc):Option Bool:=(xZ5x N l).bind fun chec=>bif (chec != 0) then some false else bif ((List.length l:Int)==0) then some true else (xZa0 N l 0 s).bind fun trut=>some trut
def xZ5t (N:Nat) (vp:xZ1r) (types:List xZ2) (bound:List xZ4) (e:xZ6):Option Bool:=bif (vp.Type_==e.Type_) then (xZ1d N vp.Test types bound e).bind fun hold=>some hold else some false
def xZ5y (N:Nat) (vp:xZ1r) (s:xZc):Option Bool:=bif (vp.Type_==s.E.Type_) then (xZ1f N vp.Test s).bind fun hold=>some hold else some false
def xZ45 (N:Nat) (l:List xZ1) (name:List UInt8) (own:List xZ1) (own2:List xZ2) (pair:List xZ4) (y:List xZ2) (y2:List xZ4) (y3:Int) (y4:Int) (y5:Int) (y6:List UInt8) (y7:List xZ0) (y8:Int) (y9:Int) (y10:Int) (y11:List UInt8) (y12:List xZ0) (next0:Int→Option Bool) (i:Int):Option Bool:=bif (leB i (List.length l:Int)) then (xZ6w N own i own2 pair (xZ6.mk y8 y9 y10 y11 y12)).bind fun side=>(xZ6F N l i (xZc.mk y y2 (xZ6.mk y3 y4 y5 y6 y7))).bind fun side2=>bif (!((side.1.Kind==side2.1.Kind)&&((side.1.N==side2.1.N)&&((side.1.Bits==side2.1.Bits)&&(side.1.Text==side2.1.Text))))) then some false else bif (!(side.2==side2.2)) then some false else gd (i64b (i+1)) ( next0 (i+1)) else (xZ1d N own own2 pair (xZ6.mk y8 y9 y10 y11 y12)).bind fun hold=>(xZ1f N l (xZc.mk y y2 (xZ6.mk y3 y4 y5 y6 y7))).bind fun hold2=>bif (hold==hold2) then (xZ5t N (xZ1r.mk false [] name own) own2 pair (xZ6.mk y8 y9 y10 y11 y12)).bind fun take=>(xZ5y N (xZ1r.mk false [] name l) (xZc.mk y y2 (xZ6.mk y3 y4 y5 y6 y7))).bind fun take2=>bif (take==take2) then (xZ37 N).bind fun awak4=>some awak4 else some false else some false
def xZ3l (N:Nat) (l:List xZ1) (s:xZc) (name:List UInt8):Option Bool:=(xZ8J N l).bind fun over=>bif (ltB 0 over) then (xZ37 N).bind fun awak=>some awak else (xZ8L N s).bind fun over2=>bif (ltB 0 over2) then (xZ37 N).bind fun awak2=>some awak2 else bif (ltB 40 (List.length name:Int)) then (xZ37 N).bind fun awak3=>some awak3 else (xZa7 N l).bind fun own=>(xZcG N s.Types).bind fun own2=>(xZ7i N s.Bound).bind fun pair=>(xZ89 N s.E).bind fun own3=>lp1 (xZ45 N l name own own2 pair s.Types s.Bound s.E.Time s.E.Source s.E.Seq s.E.Type_ s.E.Vals own3.Time own3.Source own3.Seq own3.Type_ own3.Vals) N (-1)
end
end
end Go.Proofs.YtbanfalnbhcknaaGreatDoor.H
