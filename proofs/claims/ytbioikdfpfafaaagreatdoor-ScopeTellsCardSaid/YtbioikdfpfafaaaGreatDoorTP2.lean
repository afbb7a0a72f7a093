/- A leaf's test: both sides, just so. No premise beyond what each theorem says. -/
import Derived.Test.YtbioikdfpfafaaaGreatDoorTP1
set_option linter.all false
set_option linter.unusedSimpArgs false
set_option linter.unusedVariables false
namespace Go.Proofs.YtbioikdfpfafaaaGreatDoor.T
open Go
section
def nuK (a:Int):Bool:=a==1 || a==3
def sumK (a b:Int):Int:=bif !(nuK a) then 0 else bif !(nuK b) then 0 else max a b
def fitK (o a b:Int):Bool:=bif ltB o 1 then false else bif ltB 6 o then false else (nuK a&&nuK b) || (a==4&&b==4) || (a==2&&b==2&&leB o 2)
theorem xZtN (k:Int) (N:Nat):xZ2r N k=some (nuK k):=by
 simp only [xZ2r,nuK];cases k==1<;>rfl
theorem xZjr (a b:Int) (N:Nat):xZA N a b=some (sumK a b):=by
 simp only [xZA,e_num,Option.bind_some,sumK]
 show (bif !(nuK a) then some 0 else bif !(nuK b) then some 0 else some (max a b))=_
 cases nuK a<;>cases nuK b<;>rfl
theorem xZv5 (a b:Int) (N:Nat):xZat N a b=some (sumK a b):=by
 simp only [xZat,xZtN,Option.bind_some,sumK]
 cases nuK a<;>cases nuK b<;>rfl
theorem xZvn (o a b:Int) (N:Nat):xZ3I N o a b=some (fitK o a b):=by
 simp only [xZ3I,xZtN,Option.bind_some,fitK]
 cases ltB o 1<;>cases ltB 6 o<;>cases nuK a<;>cases nuK b<;>cases a==4<;>cases b==4<;>cases a==2<;>cases b==2<;>cases leB o 2<;>rfl
theorem xZpc (a b:Int):(sumK a b != 0)=(nuK a&&nuK b):=by
 unfold sumK
 cases ha:nuK a
 ·rfl
 ·cases hb:nuK b
  ·rfl
  ·simp only [nuK,Bool.or_eq_true,beq_iff_eq] at ha hb
   simp only [Bool.not_true,cond_false,Bool.and_self,bne_iff_ne]
   omega
theorem fitA {o:Int} (h1:1≤o) (h2:o≤2) (a b:Int):fitK o a b=bif sumK a b != 0 then true else bif a==b then bif a==4 then true else a==2 else false:=by
 rw [xZpc,fitK,xZf.2 h1,show ltB 6 o=false from xZf.2 (by omega),show leB o 2=true from xZI.2 h2]
 simp only [cond_false,Bool.and_true]
 cases nuK a&&nuK b
 ·by_cases hab:a=b
  ·subst hab
   rw [beq_self_eq_true]
   cases a==4<;>cases a==2<;>rfl
  ·rw [beq_eq_false_iff_ne.2 hab]
   simp only [Bool.false_or,cond_false]
   by_cases h4:a=4
   ·subst h4
    rw [show (b==4)=false from beq_eq_false_iff_ne.2 fun h=>hab h.symm];rfl
   ·rw [show (a==4)=false from beq_eq_false_iff_ne.2 h4]
    by_cases h2:a=2
    ·subst h2
     rw [show (b==2)=false from beq_eq_false_iff_ne.2 fun h=>hab h.symm];rfl
    ·rw [show (a==2)=false from beq_eq_false_iff_ne.2 h2];rfl
 ·rfl
theorem fitB {o:Int} (h1:3≤o) (h2:o≤6) (a b:Int):fitK o a b=bif sumK a b != 0 then true else bif a==b then a==4 else false:=by
 rw [xZpc,fitK,show ltB o 1=false from xZf.2 (by omega),show ltB 6 o=false from xZf.2 h2,show leB o 2=false from xZdG.2 (by omega)]
 simp only [cond_false,Bool.and_false,Bool.or_false]
 cases nuK a&&nuK b
 ·by_cases hab:a=b
  ·subst hab
   rw [beq_self_eq_true]
   cases a==4<;>rfl
  ·rw [beq_eq_false_iff_ne.2 hab]
   by_cases h4:a=4
   ·subst h4
    rw [show (b==4)=false from beq_eq_false_iff_ne.2 fun h=>hab h.symm];rfl
   ·rw [show (a==4)=false from beq_eq_false_iff_ne.2 h4];rfl
 ·rfl
theorem fitC {o:Int} (h:o < 1∨6 < o) (a b:Int):fitK o a b=false:=by
 unfold fitK
 rcases h with h | h
 ·rw [xZ9.2 h];rfl
 ·rw [show ltB o 1=false from xZf.2 (by omega),xZ9.2 h];rfl
theorem xZv7 (o a b:Int) (N:Nat):xZK N o a b=some (fitK o a b):=by
 have key:(∀ f:Option Bool,(∀ x:Option Bool,x=f→x=f)→True):=fun _ _=>trivial
 by_cases h1:o=1
 ·subst h1
  rw [fitA (by decide) (by decide)]
  simp only [xZK,xZjr,Option.bind_some,show ((1:Int)==1)=true from rfl,cond_true]
  cases sumK a b != 0<;>cases a==b<;>cases a==4<;>rfl
 by_cases h2:o=2
 ·subst h2
  rw [fitA (by decide) (by decide)]
  simp only [xZK,xZjr,Option.bind_some,show ((2:Int)==1)=false from rfl,show ((2:Int)==2)=true from rfl,cond_true,cond_false]
  cases sumK a b != 0<;>cases a==b<;>cases a==4<;>rfl
 by_cases h3:o=3
 ·subst h3
  rw [fitB (by decide) (by decide)]
  simp only [xZK,xZjr,Option.bind_some,show ((3:Int)==1)=false from rfl,show ((3:Int)==2)=false from rfl,show ((3:Int)==3)=true from rfl,cond_true,cond_false]
  cases sumK a b != 0<;>cases a==b<;>rfl
 by_cases h4:o=4
 ·subst h4
  rw [fitB (by decide) (by decide)]
  simp only [xZK,xZjr,Option.bind_some,show ((4:Int)==1)=false from rfl,show ((4:Int)==2)=false from rfl,show ((4:Int)==3)=false from rfl,show ((4:Int)==4)=true from rfl,cond_true,cond_false]
  cases sumK a b != 0<;>cases a==b<;>rfl
 by_cases h5:o=5
 ·subst h5
  rw [fitB (by decide) (by decide)]
  simp only [xZK,xZjr,Option.bind_some,show ((5:Int)==1)=false from rfl,show ((5:Int)==2)=false from rfl,show ((5:Int)==3)=false from rfl,show ((5:Int)==4)=false from rfl,show ((5:Int)==5)=true from rfl,cond_true,cond_false]
  cases sumK a b != 0<;>cases a==b<;>rfl
 by_cases h6:o=6
 ·subst h6
  rw [fitB (by decide) (by decide)]
  simp only [xZK,xZjr,Option.bind_some,show ((6:Int)==1)=false from rfl,show ((6:Int)==2)=false from rfl,show ((6:Int)==3)=false from rfl,show ((6:Int)==4)=false from rfl,show ((6:Int)==5)=false from rfl,show ((6:Int)==6)=true from rfl,cond_true,cond_false]
  cases sumK a b != 0<;>cases a==b<;>rfl
 rw [fitC (by omega)]
 simp only [xZK,beq_eq_false_iff_ne.2 h1,beq_eq_false_iff_ne.2 h2,beq_eq_false_iff_ne.2 h3,beq_eq_false_iff_ne.2 h4,beq_eq_false_iff_ne.2 h5,beq_eq_false_iff_ne.2 h6,cond_false]
section
variable (types:List xZ1) (body:List xZ0) (e:xZ0)
def uvE:TU→Int
 | .lit v=>v.Kind
 | .own n=>kdE types body e (TU.own n).nd
 | .of v n=>kdE types body e (TU.of v n).nd
def svE:TS→Int
 | .u a=>uvE types body e a
 | .op _ s a=>sumK (svE s) (uvE types body e a)
def sdL:Nat→List xZ2→Int×List xZ2
 | 0,l=>(0,l)
 | _,[]=>(0,[])
 | m+1,x::r=>bif x.Kind==9 then (x.Val.Kind,r) else bif x.Kind==7 || x.Kind==8 then (kdE types body e x,r) else (sumK (sdL m r).1 (sdL m (sdL m r).2).1,(sdL m (sdL m r).2).2)
theorem sdL_u (a:TU) (R:List xZ2) (m:Nat):sdL types body e (m+1) (a.nd::R)=(uvE types body e a,R):=by
 cases a<;>rfl
theorem sdL_s:∀ (s:TS) (R:List xZ2) (m:Nat),s.fl.length≤m→sdL types body e m (s.fl++R)=(svE types body e s,R)
 | .u a,R,m,h=>by
   cases m with
   | zero=>simp [TS.fl] at h
   | succ m=>exact sdL_u types body e a R m
 | .op k s a,R,m,h=>by
   have hl:(TS.op k s a).fl.length=s.fl.length+2:=by simp [TS.fl]
   cases m with
   | zero=>omega
   | succ m=>
     have e0:(TS.op k s a).fl++R=bn (if k then 6 else 5)::(s.fl++(a.nd::R)):=by simp [TS.fl]
     have e3:((bn (if k then 6 else 5)).Kind==9)=false:=by cases k<;>rfl
     have e4:((bn (if k then 6 else 5)).Kind==7)=false:=by cases k<;>rfl
     have e5:((bn (if k then 6 else 5)).Kind==8)=false:=by cases k<;>rfl
     rw [e0,sdL,e3,e4,e5,sdL_s s _ m (by omega)]
     cases m with
     | zero=>have:=fl_s_pos s;omega
     | succ m=>dsimp only;rw [sdL_u];rfl
where fl_s_pos:∀ s:TS,0 < s.fl.length
 | .u a=>by simp [TS.fl]
 | .op k s a=>by simp [TS.fl]
def ftE (x:xZ2) (post:List xZ2):Bool:=bif x.Kind==5 || x.Kind==6 then (sdL types body e 100 (x::post)).1 != 0 else bif x.Kind==4 then fitK x.Op (sdL types body e 100 post).1 (sdL types body e 100 (sdL types body e 100 post).2).1 else true
def fz2:List xZ2→Int
 | []=>0
 | x::post=>bif !(ftE types body e x post) then 19 else fz2 post
def nE (S:Nm→Bool) (n:xZ2):Int:=bif n.Kind==8&&!(S n.Var) then 14 else bif (n.Kind==7 || n.Kind==8)&&kdE types body e n==0 then 19 else 0
def fz1 (S:Nm→Bool) (l:List xZ2):List xZ2→Int
 | []=>fz2 types body e l
 | x::post=>bif nE types body e S x != 0 then nE types body e S x else fz1 S l post
theorem nE_S {S:Nm→Bool} {n:xZ2} (h:(nE types body e S n != 0)=false):n.Kind=8→S n.Var=true:=by
 intro hk
 unfold nE at h
 rw [hk] at h
 cases hS:S n.Var
 ·rw [hS] at h;cases h
 ·rfl
end
section
variable {body y6:List xZ0} {y2 y4:Int} {y3:List UInt8} {y5:List xZ1} {y7:A40 (A40 Bool)}
theorem fd_1 {A:Nat→Bool} {e:xZ0} {n:xZ2} (h:n.Kind=8→scE body A n.Var=true):(fdE y5 body A e n).1=kdE y5 body e n:=by
 unfold fdE
 have:(n.Kind==8&&!(scE body A n.Var))=false:=by
  by_cases hk:n.Kind=8
  ·rw [h hk];simp
  ·rw [beq_eq_false_iff_ne.2 hk];rfl
 rw [this,cond_false]
 cases hz:kdE y5 body e n==0
 ·rfl
 ·simp only [cond_true];exact (by simpa using hz:kdE y5 body e n=0).symm
theorem fd_2 {A:Nat→Bool} {e:xZ0} {n:xZ2} (h:n.Kind=7∨n.Kind=8):(fdE y5 body A e n).2=nE y5 body e (scE body A) n:=by
 unfold fdE nE
 have:(n.Kind==7 || n.Kind==8)=true:=by rcases h with h | h<;>rw [h]<;>rfl
 rw [this,Bool.true_and]
 cases n.Kind==8&&!(scE body A n.Var)
 ·cases kdE y5 body e n==0<;>rfl
 ·rfl
theorem xZmv {S:Nm→Bool} {e:xZ0} {n:xZ2} (h7:(n.Kind==7)=false) (h8:(n.Kind==8)=false):nE y5 body e S n=0:=by
 unfold nE;rw [h7,h8];rfl
def PSx (body y6:List xZ0) (y2 y4:Int) (y3:List UInt8) (y5:List xZ1) (y7:A40 (A40 Bool)) (at_:Nat) (e:xZ0) (s:TS):Prop:=∀ pre post,e.Test=pre++(s.fl++post)→W (fun N=>(xZF N) (at_:Int) (pre.length:Int) body y2 y3 y4 y5 y6 y7) (·=(svE y5 body e s,((pre.length+s.fl.length:Nat):Int),body,y2,y3,y4,y5,y6,y7))
theorem xZt8 (hs:small y5) (hlen:body.length≤40) {at_:Nat} {e:xZ0} (he:body[at_]?=some e) (ht:e.Test.length≤40) (hok:∀ n∈e.Test,n.Kind=8→scE body (gm y7 at_) n.Var=true) (a:TU):PSx body y6 y2 y4 y3 y5 y7 at_ e (.u a):=by
 intro pre post h
 refine W.shift ?_
 show W (fun N=>xZQ N (xZF N) _ _ _ _ _ _ _ _ _) _
 have hk:ix e.Test (pre.length:Int)=some a.nd:=by rw [ix_nat',h];simp [TS.fl]
 have hpl:pre.length < e.Test.length:=by rw [h];simp [TS.fl]
 have hmem:a.nd∈e.Test:=by rw [h];simp [TS.fl]
 simp only [xZQ,ix_nat' body,he,Option.bind_some,hk]
 have hl:(TS.u a).fl.length=1:=rfl
 rw [hl]
 have hf:=fd_1 (y5:=y5) (e:=e) (hok a.nd hmem)
 cases a with
 | own n=>
   simp only [TU.nd,show ((7:Int)==9)=false from rfl,show ((7:Int)==7)=true from rfl,cond_false,cond_true]
   refine W.call (N:=fun N=>N) (xZkx hs hlen he _) ?_
   rintro _ rfl
   simp only [W.gd,xZc,W.ret]
   exact ⟨by omega,by rw [show (fdE y5 body (gm y7 at_) e ⟨7,0,[],n,zv⟩).1=_ from hf];rfl⟩
 | of v n=>
   simp only [TU.nd,show ((8:Int)==9)=false from rfl,show ((8:Int)==7)=false from rfl,show ((8:Int)==8)=true from rfl,cond_false,cond_true]
   refine W.call (N:=fun N=>N) (xZkx hs hlen he _) ?_
   rintro _ rfl
   simp only [W.gd,xZc,W.ret]
   exact ⟨by omega,by rw [show (fdE y5 body (gm y7 at_) e ⟨8,0,v,n,zv⟩).1=_ from hf];rfl⟩
 | lit v=>
   simp only [TU.nd,show ((9:Int)==9)=true from rfl,cond_true,W.gd,xZc,W.ret]
   exact ⟨by omega,rfl⟩
theorem xZos (hs:small y5) (hlen:body.length≤40) {at_:Nat} {e:xZ0} (he:body[at_]?=some e) (ht:e.Test.length≤40) (hok:∀ n∈e.Test,n.Kind=8→scE body (gm y7 at_) n.Var=true):∀ s:TS,PSx body y6 y2 y4 y3 y5 y7 at_ e s
 | .u a=>xZt8 hs hlen he ht hok a
 | .op k s a=>by
   intro pre post h
   refine W.shift ?_
   show W (fun N=>xZQ N (xZF N) _ _ _ _ _ _ _ _ _) _
   have hk:ix e.Test (pre.length:Int)=some (bn (if k then 6 else 5)):=by rw [ix_nat',h];simp [TS.fl]
   have hpl:pre.length < e.Test.length:=by rw [h];simp [TS.fl]
   simp only [xZQ,ix_nat' body,he,Option.bind_some,hk]
   have h1:e.Test=(pre++[bn (if k then 6 else 5)])++(s.fl++(a.nd::post)):=by rw [h];simp [TS.fl]
   have h2:e.Test=(pre++[bn (if k then 6 else 5)]++s.fl)++((TS.u a).fl++post):=by rw [h];simp [TS.fl]
   have c1:=xZos hs hlen he ht hok s _ _ h1
   have c2:=xZt8 hs hlen he ht hok a (y6:=y6) (y2:=y2) (y4:=y4) (y3:=y3) _ _ h2
   have e1:((pre++[bn (if k then 6 else 5)]).length:Int)=(pre.length:Int)+1:=by simp
   have e2:((pre++[bn (if k then 6 else 5)]++s.fl).length:Int)=(((pre++[bn (if k then 6 else 5)]).length+s.fl.length:Nat):Int):=by rw [List.length_append]
   rw [e1] at c1
   rw [e2] at c2
   have hl:(TS.op k s a).fl.length=1+s.fl.length+1:=by simp [TS.fl];omega
   have e3:((bn (if k then 6 else 5)).Kind==9)=false:=by cases k<;>rfl
   have e4:((bn (if k then 6 else 5)).Kind==7)=false:=by cases k<;>rfl
   have e5:((bn (if k then 6 else 5)).Kind==8)=false:=by cases k<;>rfl
   simp only [e3,e4,e5,cond_false,W.gd,xZc]
   refine ⟨by omega,W.bind c1 ?_⟩
   rintro _ rfl
   refine W.bind c2 ?_
   rintro _ rfl
   simp only [xZjr,Option.bind_some,W.ret]
   rw [hl]
   have:(pre++[bn (if k then 6 else 5)]).length+s.fl.length+(TS.u a).fl.length=pre.length+(1+s.fl.length+1):=by simp [TS.fl];omega
   rw [List.length_append,this]
   rfl
theorem xZtg (hs:small y5) (hlen:body.length≤40) {at_:Nat} {e:xZ0} (he:body[at_]?=some e) (ht:e.Test.length≤40) (hc:cl e.Test) (hok:∀ n∈e.Test,n.Kind=8→scE body (gm y7 at_) n.Var=true) {pre post:List xZ2} {x:xZ2} (h:e.Test=pre++x::post):W (fun N=>xZ1r N (at_:Int) (pre.length:Int) body y2 y3 y4 y5 y6 y7) (·=(ftE y5 body e x post,body,y2,y3,y4,y5,y6,y7)):=by
 have hk:ix e.Test (pre.length:Int)=some x:=by rw [ix_nat',h];simp
 have hpl:pre.length < e.Test.length:=by rw [h];simp
 obtain ⟨c4,c5⟩:=cl_at (pre:=pre) (by rw [← h];exact hc)
 simp only [xZ1r,ix_nat' body,he,Option.bind_some,hk]
 have four:x.Kind=4→W (fun N=>(xZF N (at_:Int) ((pre.length:Int)+1) body y2 y3 y4 y5 y6 y7).bind fun side=>(xZa N (at_:Int) side.2.1 side.2.2.1 side.2.2.2.1 side.2.2.2.2.1 side.2.2.2.2.2.1 side.2.2.2.2.2.2.1 side.2.2.2.2.2.2.2.1 side.2.2.2.2.2.2.2.2).bind fun side3=>(xZK N x.Op side.1 side3.1).bind fun fits=>some (fits,side3.2.2.1,side3.2.2.2.1,side3.2.2.2.2.1,side3.2.2.2.2.2.1,side3.2.2.2.2.2.2.1,side3.2.2.2.2.2.2.2.1,side3.2.2.2.2.2.2.2.2)) (·=(ftE y5 body e x post,body,y2,y3,y4,y5,y6,y7)):=by
  intro hx
  obtain ⟨a,b,r,hp⟩:=c4 hx
  have h1:e.Test=(pre++[x])++(a.fl++(b.fl++r)):=by rw [h,hp];simp
  have h2:e.Test=(pre++[x]++a.fl)++(b.fl++r):=by rw [h,hp];simp
  have hal:a.fl.length≤100∧b.fl.length≤100:=by
   have:=congrArg List.length h2
   simp at this;omega
  have q1:=xZos hs hlen he ht hok a (y6:=y6) (y2:=y2) (y4:=y4) (y3:=y3) _ _ h1
  have q2:=xZos hs hlen he ht hok b (y6:=y6) (y2:=y2) (y4:=y4) (y3:=y3) _ _ h2
  have e1:((pre++[x]).length:Int)=(pre.length:Int)+1:=by simp
  have e2:((pre++[x]++a.fl).length:Int)=(((pre++[x]).length+a.fl.length:Nat):Int):=by rw [List.length_append]
  rw [e1] at q1
  rw [e2] at q2
  refine W.bind q1 ?_
  rintro _ rfl
  refine W.bind q2 ?_
  rintro _ rfl
  simp only [xZv7,Option.bind_some,W.ret]
  rw [ftE,hx,hp,sdL_s _ _ _ a _ _ hal.1]
  dsimp only
  rw [sdL_s _ _ _ b _ _ hal.2];rfl
 have five:x.Kind=5∨x.Kind=6→W (fun N=>(xZa N (at_:Int) (pre.length:Int) body y2 y3 y4 y5 y6 y7).bind fun side=>some ((side.1 != 0),side.2.2.1,side.2.2.2.1,side.2.2.2.2.1,side.2.2.2.2.2.1,side.2.2.2.2.2.2.1,side.2.2.2.2.2.2.2.1,side.2.2.2.2.2.2.2.2)) (·=(ftE y5 body e x post,body,y2,y3,y4,y5,y6,y7)):=by
  intro hx
  obtain ⟨s,r,hp⟩:=c5 hx
  have hsl:s.fl.length≤100:=by
   have:=congrArg List.length h
   rw [hp] at this
   simp at this;omega
  have q1:=xZos hs hlen he ht hok s (y6:=y6) (y2:=y2) (y4:=y4) (y3:=y3) pre r (by rw [h,hp])
  refine W.bind q1 ?_
  rintro _ rfl
  refine W.ret.2 ?_
  have hx':(x.Kind==5 || x.Kind==6)=true:=by rcases hx with hx | hx<;>rw [hx]<;>rfl
  rw [ftE,hx',hp,sdL_s _ _ _ s _ _ hsl];rfl
 refine W.cond.2 ⟨fun k5=>W.cond.2 ⟨fun k5'=>five (.inl (by simpa using k5)),fun k5'=>by rw [k5] at k5';cases k5'⟩,fun k5=>W.cond.2 ⟨fun k6=>five (.inr (by simpa using k6)),fun k6=>W.cond.2 ⟨fun k4=>?_,fun k4=>W.ret.2 ?_⟩⟩⟩
 ·simp only [W.gd,xZc]
  exact ⟨by omega,four (by simpa using k4)⟩
 ·rw [ftE,k5,k6,k4];rfl
theorem xZrn (hs:small y5) (hlen:body.length≤40) {at_:Nat} {e:xZ0} (he:body[at_]?=some e) (ht:e.Test.length≤40) (hc:cl e.Test):W (fun N=>xZ1s N (at_:Int) body y2 y3 y4 y5 y6 y7) (·=(fz1 y5 body e (scE body (gm y7 at_)) e.Test e.Test,body,y2,y3,y4,y5,y6,y7)):=by
 simp only [xZ1s,ix_nat',he,Option.bind_some]
 generalize hv:fz1 y5 body e (scE body (gm y7 at_)) e.Test e.Test=val
 refine W.lp8 (N:=fun N=>N) (P:=fun x3 a b c d f g h=>body=a∧y2=b∧y3=c∧y4=d∧y5=f∧y6=g∧y7=h∧∃ pre rest,e.Test=pre++rest∧x3=(pre.length:Int)∧fz1 y5 body e (scE body (gm y7 at_)) e.Test rest=val∧∀ n∈pre,n.Kind=8→scE body (gm y7 at_) n.Var=true) (m:=fun x3 _ _ _ _ _ _ _=>e.Test.length - x3.toNat)
  ⟨rfl,rfl,rfl,rfl,rfl,rfl,rfl,[],e.Test,rfl,rfl,hv,by simp⟩ ?_
 clear hv
 rintro F x3 a b c d f g h ⟨rfl,rfl,rfl,rfl,rfl,rfl,rfl,pre,rest,h1,rfl,hv,h2⟩ next
 simp only [xZ1Q]
 cases rest with
 | cons n rest=>
   have hpl:pre.length < e.Test.length:=by rw [h1];simp
   have hix:ix e.Test (pre.length:Int)=some n:=by rw [ix_nat',h1];simp
   simp only [show ltB (pre.length:Int) (e.Test.length:Int)=true from xZ9.2 (by omega),cond_true,hix,Option.bind_some]
   rw [fz1] at hv
   have go:(nE y5 body e (scE body (gm y7 at_)) n != 0)=false→W (fun p=>F p ((pre.length:Int)+1) body y2 y3 y4 y5 y6 y7) (·=(val,body,y2,y3,y4,y5,y6,y7)):=by
    intro hz
    rw [hz,cond_false] at hv
    refine next _ _ _ _ _ _ _ _ ⟨rfl,rfl,rfl,rfl,rfl,rfl,rfl,pre++[n],rest,by rw [h1];simp,by simp,hv,?_⟩ (by omega)
    intro z hz'
    rcases List.mem_append.1 hz' with hz' | hz'
    ·exact h2 z hz'
    ·rw [List.mem_singleton.1 hz'];exact nE_S _ _ _ hz
   have fldw:n.Kind=7∨n.Kind=8→W (fun p:Nat×Nat=>(xZd p.1 (at_:Int) n body y2 y3 y4 y5 y6 y7).bind fun fiel=>bif fiel.2.1 != 0 then some (fiel.2.1,fiel.2.2.1,fiel.2.2.2.1,fiel.2.2.2.2.1,fiel.2.2.2.2.2.1,fiel.2.2.2.2.2.2.1,fiel.2.2.2.2.2.2.2.1,fiel.2.2.2.2.2.2.2.2) else gd (i64b ((pre.length:Int)+1)) (F p ((pre.length:Int)+1) fiel.2.2.1 fiel.2.2.2.1 fiel.2.2.2.2.1 fiel.2.2.2.2.2.1 fiel.2.2.2.2.2.2.1 fiel.2.2.2.2.2.2.2.1 fiel.2.2.2.2.2.2.2.2)) (·=(val,body,y2,y3,y4,y5,y6,y7)):=by
    intro hk
    refine W.call (N:=fun p:Nat×Nat=>p.1) (xZkx hs hlen he n) ?_
    rintro _ rfl
    dsimp only
    rw [fd_2 hk]
    refine W.cond.2 ⟨fun hz=>W.ret.2 ?_,fun hz=>?_⟩
    ·rw [hz,cond_true] at hv;rw [hv]
    ·simp only [W.gd,xZc]
     exact ⟨by omega,go hz⟩
   refine W.cond.2 ⟨fun k7=>W.cond.2 ⟨fun k8=>?_,fun k8=>fldw (.inr (by simpa using k8))⟩,fun k7=>fldw (.inl (by simpa using k7))⟩
   simp only [W.gd,xZc]
   exact ⟨by omega,go (by rw [xZmv (by simpa using k7) (by simpa using k8)];rfl)⟩
 | nil=>
   rw [List.append_nil] at h1
   subst h1
   rw [fz1] at hv
   simp only [show ltB (e.Test.length:Int) (e.Test.length:Int)=false from xZf.2 (by omega),cond_false]
   refine W.lp8 (N:=fun p:Nat×Nat=>p.1) (P:=fun x3 a b c d f g h=>body=a∧y2=b∧y3=c∧y4=d∧y5=f∧y6=g∧y7=h∧∃ pre rest,e.Test=pre++rest∧x3=(pre.length:Int)∧fz2 y5 body e rest=val) (m:=fun x3 _ _ _ _ _ _ _=>e.Test.length - x3.toNat)
    ⟨rfl,rfl,rfl,rfl,rfl,rfl,rfl,[],e.Test,rfl,rfl,hv⟩ ?_
   clear hv
   rintro F2 x3 a b c d f g h ⟨rfl,rfl,rfl,rfl,rfl,rfl,rfl,pre,rest,h1,rfl,hv⟩ next2
   simp only [xZ1O]
   cases rest with
   | nil=>
     rw [List.append_nil] at h1
     simp only [show ltB (pre.length:Int) (e.Test.length:Int)=false from xZf.2 (by rw [h1];omega),cond_false,W.ret]
     rw [← hv];rfl
   | cons n rest=>
     have hpl:pre.length < e.Test.length:=by rw [h1];simp
     rw [fz2] at hv
     simp only [show ltB (pre.length:Int) (e.Test.length:Int)=true from xZ9.2 (by omega),cond_true]
     refine W.call (N:=fun p:(Nat×Nat)×Nat=>p.1.1) (xZtg hs hlen he ht hc h2 h1) ?_
     rintro _ rfl
     refine W.cond.2 ⟨fun hz=>W.ret.2 ?_,fun hz=>?_⟩
     ·rw [show (!(ftE y5 body e n rest))=true from hz,cond_true] at hv;rw [← hv]
     ·rw [show (!(ftE y5 body e n rest))=false from hz,cond_false] at hv
      simp only [W.gd,xZc]
      exact ⟨by omega,next2 _ _ _ _ _ _ _ _ ⟨rfl,rfl,rfl,rfl,rfl,rfl,rfl,pre++[n],rest,by rw [h1];simp,by simp,hv⟩ (by omega)⟩
end
end
section
section
variable {p:xZ5} {y5:List xZ1}
def PRs (p:xZ5) (y5:List xZ1) (at_:Nat) (e:xZ0) (s:TS):Prop:=∀ pre post,e.Test=pre++(s.fl++post)→W (fun N=>(xZ7d N) p y5 (at_:Int) (pre.length:Int)) (·=(svE y5 p.Body e s,((pre.length+s.fl.length:Nat):Int)))
theorem xZrx (hs:small y5) (hlen:p.Body.length≤40) {at_:Nat} {e:xZ0} (he:p.Body[at_]?=some e) (ht:e.Test.length≤40) (a:TU):PRs p y5 at_ e (.u a):=by
 intro pre post h
 refine W.shift ?_
 show W (fun N=>xZ6x N (xZ7d N) _ _ _ _) _
 have hk:ix e.Test (pre.length:Int)=some a.nd:=by rw [ix_nat',h];simp [TS.fl]
 have hpl:pre.length < e.Test.length:=by rw [h];simp [TS.fl]
 simp only [xZ6x,ix_nat' p.Body,he,Option.bind_some,hk]
 have hl:(TS.u a).fl.length=1:=rfl
 rw [hl]
 cases a with
 | own n=>
   simp only [TU.nd,show ((7:Int)==9)=false from rfl,show ((7:Int)==7)=true from rfl,cond_false,cond_true]
   refine W.call (N:=fun N=>N) (xZjc hs hlen he _) ?_
   rintro _ rfl
   simp only [W.gd,xZc,W.ret]
   exact ⟨by omega,rfl⟩
 | of v n=>
   simp only [TU.nd,show ((8:Int)==9)=false from rfl,show ((8:Int)==7)=false from rfl,show ((8:Int)==8)=true from rfl,cond_false,cond_true]
   refine W.call (N:=fun N=>N) (xZjc hs hlen he _) ?_
   rintro _ rfl
   simp only [W.gd,xZc,W.ret]
   exact ⟨by omega,rfl⟩
 | lit v=>
   simp only [TU.nd,show ((9:Int)==9)=true from rfl,cond_true,W.gd,xZc,W.ret]
   exact ⟨by omega,rfl⟩
theorem xZoI (hs:small y5) (hlen:p.Body.length≤40) {at_:Nat} {e:xZ0} (he:p.Body[at_]?=some e) (ht:e.Test.length≤40):∀ s:TS,PRs p y5 at_ e s
 | .u a=>xZrx hs hlen he ht a
 | .op k s a=>by
   intro pre post h
   refine W.shift ?_
   show W (fun N=>xZ6x N (xZ7d N) _ _ _ _) _
   have hk:ix e.Test (pre.length:Int)=some (bn (if k then 6 else 5)):=by rw [ix_nat',h];simp [TS.fl]
   have hpl:pre.length < e.Test.length:=by rw [h];simp [TS.fl]
   simp only [xZ6x,ix_nat' p.Body,he,Option.bind_some,hk]
   have h1:e.Test=(pre++[bn (if k then 6 else 5)])++(s.fl++(a.nd::post)):=by rw [h];simp [TS.fl]
   have h2:e.Test=(pre++[bn (if k then 6 else 5)]++s.fl)++((TS.u a).fl++post):=by rw [h];simp [TS.fl]
   have c1:=xZoI hs hlen he ht s _ _ h1
   have c2:=xZrx hs hlen he ht a _ _ h2
   have e1:((pre++[bn (if k then 6 else 5)]).length:Int)=(pre.length:Int)+1:=by simp
   have e2:((pre++[bn (if k then 6 else 5)]++s.fl).length:Int)=(((pre++[bn (if k then 6 else 5)]).length+s.fl.length:Nat):Int):=by rw [List.length_append]
   rw [e1] at c1
   rw [e2] at c2
   have hl:(TS.op k s a).fl.length=1+s.fl.length+1:=by simp [TS.fl];omega
   have e3:((bn (if k then 6 else 5)).Kind==9)=false:=by cases k<;>rfl
   have e4:((bn (if k then 6 else 5)).Kind==7)=false:=by cases k<;>rfl
   have e5:((bn (if k then 6 else 5)).Kind==8)=false:=by cases k<;>rfl
   simp only [e3,e4,e5,cond_false,W.gd,xZc]
   refine ⟨by omega,W.bind c1 ?_⟩
   rintro _ rfl
   refine W.bind c2 ?_
   rintro _ rfl
   simp only [xZv5,Option.bind_some,W.ret]
   rw [hl]
   have:(pre++[bn (if k then 6 else 5)]).length+s.fl.length+(TS.u a).fl.length=pre.length+(1+s.fl.length+1):=by simp [TS.fl];omega
   rw [List.length_append,this]
   rfl
theorem xZpV (hs:small y5) (hlen:p.Body.length≤40) {at_:Nat} {e:xZ0} (he:p.Body[at_]?=some e) (ht:e.Test.length≤40) (hc:cl e.Test) {ι:Type} [Lim ι] (N:ι→Nat) [Tends N]:W (fun i=>lp1 (xZ6i (N i) y5 (at_:Int) e.Test p.Body p.Within p.By p.Mode) (N i) 0) (·=fz2 y5 p.Body e e.Test):=by
 have hp:xZ5.mk p.Body p.Within p.By p.Mode=p:=rfl
 refine W.lp1 (N:=N) (P:=fun k=>∃ pre rest,e.Test=pre++rest∧k=(pre.length:Int)∧fz2 y5 p.Body e rest=fz2 y5 p.Body e e.Test) (m:=fun k=>e.Test.length - k.toNat) ⟨[],e.Test,rfl,rfl,rfl⟩ ?_
 generalize fz2 y5 p.Body e e.Test=val
 rintro F k ⟨pre,rest,h,rfl,hv⟩ next
 simp only [xZ6i,hp]
 cases rest with
 | nil=>
   rw [List.append_nil] at h
   simp only [show ltB (pre.length:Int) (e.Test.length:Int)=false from xZf.2 (by rw [h];omega),cond_false,W.ret]
   rw [← hv];rfl
 | cons x post=>
   have hk:ix e.Test (pre.length:Int)=some x:=by rw [ix_nat',h];simp
   have hpl:pre.length < e.Test.length:=by rw [h];simp
   obtain ⟨c4,c5⟩:=cl_at (pre:=pre) (by rw [← h];exact hc)
   rw [fz2] at hv
   simp only [show ltB (pre.length:Int) (e.Test.length:Int)=true from xZ9.2 (by omega),cond_true,hk,Option.bind_some]
   have hi:i64b ((pre.length:Int)+1)=true:=xZc.2 (by omega)
   simp only [hi,xZn]
   have go:ftE y5 p.Body e x post=true→W (fun p=>F p ((pre.length:Int)+1)) (·=val):=fun hf=>by
    rw [hf] at hv
    exact next _ ⟨pre++[x],post,by rw [h];simp,by simp,hv⟩ (by omega)
   have no:ftE y5 p.Body e x post=false→(19:Int)=val:=fun hf=>by
    rw [hf] at hv;exact hv
   have four:x.Kind=4→W (fun q:ι×Nat=>(xZL (N q.1) p y5 (at_:Int) ((pre.length:Int)+1)).bind fun side2=>(xZL (N q.1) p y5 (at_:Int) side2.2).bind fun side3=>(xZ3I (N q.1) x.Op side2.1 side3.1).bind fun fits=>bif !fits then some 19 else F q ((pre.length:Int)+1)) (·=val):=by
    intro hx
    obtain ⟨a,b,r,hp⟩:=c4 hx
    have h1:e.Test=(pre++[x])++(a.fl++(b.fl++r)):=by rw [h,hp];simp
    have h2:e.Test=(pre++[x]++a.fl)++(b.fl++r):=by rw [h,hp];simp
    have hal:a.fl.length≤100∧b.fl.length≤100:=by
     have:=congrArg List.length h2
     simp at this;omega
    have q1:=xZoI hs hlen he ht a _ _ h1
    have q2:=xZoI hs hlen he ht b _ _ h2
    have e1:((pre++[x]).length:Int)=(pre.length:Int)+1:=by simp
    have e2:((pre++[x]++a.fl).length:Int)=(((pre++[x]).length+a.fl.length:Nat):Int):=by rw [List.length_append]
    rw [e1] at q1
    rw [e2] at q2
    refine W.call (f:=fun N=>xZL N p y5 (at_:Int) ((pre.length:Int)+1)) (N:=fun q:ι×Nat=>N q.1) q1 ?_
    rintro _ rfl
    refine W.call (f:=fun N=>xZL N p y5 (at_:Int) (((pre++[x]).length+a.fl.length:Nat):Int)) (N:=fun q:ι×Nat=>N q.1) q2 ?_
    rintro _ rfl
    simp only [xZvn,Option.bind_some]
    have:ftE y5 p.Body e x post=fitK x.Op (svE y5 p.Body e a) (svE y5 p.Body e b):=by
     rw [ftE,hx,hp,sdL_s _ _ _ a _ _ hal.1]
     dsimp only
     rw [sdL_s _ _ _ b _ _ hal.2];rfl
    rw [← this]
    exact W.cond.2 ⟨fun hf=>W.ret.2 (no (by simpa using hf)),fun hf=>go (by simpa using hf)⟩
   have five:x.Kind=5∨x.Kind=6→W (fun q:ι×Nat=>(xZL (N q.1) p y5 (at_:Int) (pre.length:Int)).bind fun side=>bif side.1==0 then some 19 else F q ((pre.length:Int)+1)) (·=val):=by
    intro hx
    obtain ⟨s,r,hp⟩:=c5 hx
    have hsl:s.fl.length≤100:=by
     have:=congrArg List.length h
     rw [hp] at this
     simp at this;omega
    have q1:=xZoI hs hlen he ht s pre r (by rw [h,hp])
    refine W.call (f:=fun N=>xZL N p y5 (at_:Int) (pre.length:Int)) (N:=fun q:ι×Nat=>N q.1) q1 ?_
    rintro _ rfl
    have hx':(x.Kind==5 || x.Kind==6)=true:=by rcases hx with hx | hx<;>rw [hx]<;>rfl
    have:ftE y5 p.Body e x post=(svE y5 p.Body e s != 0):=by rw [ftE,hx',hp,sdL_s _ _ _ s _ _ hsl];rfl
    refine W.cond.2 ⟨fun hf=>W.ret.2 (no (by rw [this];simpa using hf)),fun hf=>go (by rw [this];simpa using hf)⟩
   refine W.cond.2 ⟨fun k5=>?_,fun k5=>W.cond.2 ⟨fun k6=>?_,fun k6=>W.cond.2 ⟨fun k4=>four (by simpa using k4),fun k4=>go ?_⟩⟩⟩
   ·have hx:x.Kind=5:=by simpa using k5
    have:=five (.inl hx)
    simpa only [hx,show ((5:Int)==4)=false from rfl,cond_false] using this
   ·have hx:x.Kind=6:=by simpa using k6
    have:=five (.inr hx)
    simpa only [hx,show ((6:Int)==4)=false from rfl,cond_false] using this
   ·rw [ftE,k5,k6,k4];rfl
theorem xZsX (hs:small y5) (hlen:p.Body.length≤40) {at_:Nat} {e:xZ0} (he:p.Body[at_]?=some e) (ht:e.Test.length≤40) (hc:cl e.Test) {A:Nat→Bool} (hB:W (fun N=>xZO N p (at_:Int)) (fun r=>r.length≤1000∧Rel p.Body A r)):W (fun N=>xZ9h N p y5 (at_:Int)) (·=fz1 y5 p.Body e (scE p.Body A) e.Test e.Test):=by
 have hp:xZ5.mk p.Body p.Within p.By p.Mode=p:=rfl
 simp only [xZ9h,ix_nat',he,Option.bind_some]
 refine W.call (N:=fun N=>N) hB ?_
 rintro L ⟨hL,hR⟩
 have hS:∀ v,decide (v∈L)=scE p.Body A v:=by
  intro v
  unfold scE
  by_cases h:∃ n∈p.Body,isA n v=true
  ·have ha:(p.Body.any fun m=>isA m v)=true:=by
    obtain ⟨x,hx,hx'⟩:=h
    rw [List.any_eq_true];exact ⟨x,hx,hx'⟩
   rw [ha,Bool.true_and]
   have:=hR.mem h
   cases hA:A (idn v p.Body)
   ·rw [hA] at this;simp [this]
   ·rw [hA] at this;simp [this]
  ·have ha:(p.Body.any fun m=>isA m v)=false:=by
    rw [List.any_eq_false];intro x hx hx';exact h ⟨x,hx,hx'⟩
   have:v ∉ L:=fun hv=>h (hR.at_ v hv)
   rw [ha];simp [this]
 refine W.lp1 (N:=fun N=>N) (P:=fun k=>∃ pre rest,e.Test=pre++rest∧k=(pre.length:Int)∧fz1 y5 p.Body e (scE p.Body A) e.Test rest=fz1 y5 p.Body e (scE p.Body A) e.Test e.Test) (m:=fun k=>e.Test.length - k.toNat) ⟨[],e.Test,rfl,rfl,rfl⟩ ?_
 generalize fz1 y5 p.Body e (scE p.Body A) e.Test e.Test=val
 rintro F k ⟨pre,rest,h,rfl,hv⟩ next
 simp only [xZ9a,hp]
 cases rest with
 | nil=>
   rw [List.append_nil] at h
   simp only [show ltB (pre.length:Int) (e.Test.length:Int)=false from xZf.2 (by rw [h];omega),cond_false]
   rw [← hv]
   exact xZpV hs hlen he ht hc (fun q:Nat×Nat=>q.1)
 | cons x post=>
   have hk:ix e.Test (pre.length:Int)=some x:=by rw [ix_nat',h];simp
   have hpl:pre.length < e.Test.length:=by rw [h];simp
   rw [fz1] at hv
   simp only [show ltB (pre.length:Int) (e.Test.length:Int)=true from xZ9.2 (by omega),cond_true,hk,Option.bind_some]
   have hi:i64b ((pre.length:Int)+1)=true:=xZc.2 (by omega)
   simp only [hi,xZn]
   have go:nE y5 p.Body e (scE p.Body A) x=0→W (fun p=>F p ((pre.length:Int)+1)) (·=val):=fun hf=>by
    rw [hf] at hv
    exact next _ ⟨pre++[x],post,by rw [h];simp,by simp,hv⟩ (by omega)
   have no:∀ z:Int,z≠0→nE y5 p.Body e (scE p.Body A) x=z→z=val:=fun z hz hf=>by
    rw [hf,show (z != 0)=true by simpa using hz] at hv;exact hv
   have fldw:(x.Kind=7∨x.Kind=8∧scE p.Body A x.Var=true)→W (fun q:Nat×Nat=>(xZ1D q.1 p y5 (at_:Int) x).bind fun fiel=>bif fiel==0 then some 19 else F q ((pre.length:Int)+1)) (·=val):=by
    intro hx
    have hn:nE y5 p.Body e (scE p.Body A) x=bif kdE y5 p.Body e x==0 then 19 else 0:=by
     unfold nE
     rcases hx with hx | ⟨hx,hx'⟩
     ·rw [hx];rfl
     ·rw [hx,hx'];rfl
    refine W.call (N:=fun q:Nat×Nat=>q.1) (xZjc hs hlen he x) ?_
    rintro _ rfl
    refine W.cond.2 ⟨fun hz=>W.ret.2 (no 19 (by decide) (by rw [hn,hz];rfl)),fun hz=>go (by rw [hn,hz];rfl)⟩
   refine W.cond.2 ⟨fun k8=>?_,fun k8=>W.cond.2 ⟨fun k7=>fldw (.inl (by simpa using k7)),fun k7=>?_⟩⟩
   ·have hx:x.Kind=8:=by simpa using k8
    refine W.call (N:=fun q:Nat×Nat=>q.1) (w_has L x.Var hL) ?_
    rintro _ rfl
    rw [hS]
    refine W.cond.2 ⟨fun hz=>W.ret.2 (no 14 (by decide) ?_),fun hz=>?_⟩
    ·unfold nE
     rw [hx,hz];rfl
    ·simp only [hx,show ((8:Int)==7)=false from rfl,show ((8:Int)==8)=true from rfl,cond_false,cond_true]
     exact fldw (.inr ⟨hx,by simpa using hz⟩)
   ·simp only [k8,cond_false]
    exact go (xZmv k7 k8)
end
def scn (f:Nat→Int) (z:Int×Int):Nat→Nat→Int×Int
 | 0,_=>z
 | m+1,i=>bif f i != 0 then (f i,(i:Int)) else scn f z m (i+1)
theorem xZm5 {f:Nat→Int} {z val:Int×Int} {len n:Nat} (h:n < len) (hv:scn f z (len - n) n=val):(f n≠0→(f n,(n:Int))=val)∧(f n=0→scn f z (len - (n+1)) (n+1)=val):=by
 rw [show len - n=(len - (n+1))+1 by omega,scn] at hv
 constructor
 ·intro hf
  rw [show (f n != 0)=true by simpa using hf] at hv;exact hv
 ·intro hf
  rw [hf] at hv;exact hv
theorem xZfZ {f:Nat→Int} {z val:Int×Int} {len:Nat} (hv:scn f z (len - len) len=val):z=val:=by
 rw [Nat.sub_self,scn] at hv;exact hv
def f1E (types:List xZ1) (By:Nm) (body:List xZ0) (n:Nat):Int:=match body[n]?,body[ffi body]? with
 | some e,some ef=>bif lfG e then nmE types By body n e ef else 0
 | _,_=>0
def f2E (types:List xZ1) (body:List xZ0) (t:GT) (n:Nat):Int:=match body[n]? with
 | some e=>bif lfG e then fz1 types body e (scE body (t.rw body 0 A0 n)) e.Test e.Test else 0
 | none=>0
def f3E (body:List xZ0) (t:GT) (n:Nat):Int:=match body[n]? with
 | some e=>bif e.Kind==5&&(t.hF 0 n || t.hI 0 (fun _=>false) n) then 17 else 0
 | none=>0
def z3E (t:GT):Int×Int:=bif t.hN then (16,0) else (0,0)
def chE (types:List xZ1) (By:Nm) (body:List xZ0) (t:GT):Int×Int:=scn (f1E types By body) (scn (f2E types body t) (scn (f3E body t) (z3E t) body.length 0) body.length 0) body.length 0
theorem xZle {t:GT} {e:xZ0} (h:e∈t.fl):cl e.Test∧(lfG e=false→e.Test=[]):=by
 obtain ⟨⟨o,ho⟩,hn⟩:=xZgQ t e h
 exact ⟨by rw [ho];exact cl_o o,hn⟩
theorem xZo3 {p:xZ5} {types:List xZ1} (hs:small types) {t:GT} (ho:∀ n∈p.Body,okN n.Test) (ht:t.ok 0) (hb:p.Body=t.fl) (hlen:p.Body.length≤40) (hck:chkG p=0) (lt:∀ n∈p.Body,n.Test.length≤40):W (fun N=>xZ47 N p types) (·=if q_chk types=0 then chE types p.By p.Body t else (2,0)):=by
 have hp:xZ5.mk p.Body p.Within p.By p.Mode=p:=rfl
 have hb0:p.Body=[]++(t.fl++[]):=by rw [hb];simp
 simp only [xZ47]
 refine W.call (xZ9J p (by omega) ho) ?_
 rintro _ rfl
 simp only [hck,show ((0:Int) != 0)=false from rfl,cond_false]
 refine W.call (N:=fun N=>N) (xZic types (by have:=hs.1;omega)) ?_
 rintro _ rfl
 refine W.cond.2 ⟨fun hq=>W.ret.2 (by rw [if_neg (by simpa using hq)]),fun hq=>?_⟩
 rw [if_pos (by simpa using hq)]
 unfold chE
 refine W.lp1 (N:=fun N=>N) (P:=fun i=>∃ n:Nat,i=(n:Int)∧n≤p.Body.length∧scn (f1E types p.By p.Body) (scn (f2E types p.Body t) (scn (f3E p.Body t) (z3E t) p.Body.length 0) p.Body.length 0) (p.Body.length - n) n=scn (f1E types p.By p.Body) (scn (f2E types p.Body t) (scn (f3E p.Body t) (z3E t) p.Body.length 0) p.Body.length 0) p.Body.length 0) (m:=fun i=>p.Body.length - i.toNat) ⟨0,rfl,by omega,rfl⟩ ?_
 generalize scn (f1E types p.By p.Body) (scn (f2E types p.Body t) (scn (f3E p.Body t) (z3E t) p.Body.length 0) p.Body.length 0) p.Body.length 0=val
 rintro F i ⟨n,rfl,hn,hv⟩ next
 simp only [xZ80,hp]
 by_cases hlt:n < p.Body.length
 ·obtain ⟨v1,v2⟩:=xZm5 hlt hv
  have he:p.Body[n]?=some p.Body[n]:=by simp [hlt]
  generalize p.Body[n]=e at he
  have hi:i64b ((n:Int)+1)=true:=xZc.2 (by omega)
  simp only [show ltB (n:Int) (p.Body.length:Int)=true from xZ9.2 (by omega),cond_true,ix_nat',he,Option.bind_some,xZ8E,hi,xZn]
  have go:f1E types p.By p.Body n=0→W (fun q=>F q ((n:Int)+1)) (·=val):=fun hf=>next _ ⟨n+1,by omega,by omega,v2 hf⟩ (by omega)
  refine W.cond.2 ⟨fun hl=>?_,fun hl=>go ?_⟩
  ·obtain ⟨ef,hf,_⟩:=xZoG he hl
   have hf1:f1E types p.By p.Body n=nmE types p.By p.Body n e ef:=by
    simp only [f1E,he,hf,hl,cond_true]
   refine W.call (N:=fun q:Nat×Nat=>q.1) (xZq5 hs hlen he hl hf) ?_
   rintro _ rfl
   rw [← hf1]
   exact W.cond.2 ⟨fun hz=>W.ret.2 (v1 (by simpa using hz)),fun hz=>go (by simpa using hz)⟩
  ·unfold f1E
   rw [he]
   split
   ·rename_i e' _ h1 _;cases h1;rw [hl];rfl
   ·rfl
 have hnl:n=p.Body.length:=by omega
 subst hnl
 have hv:=xZfZ hv
 simp only [show ltB (p.Body.length:Int) (p.Body.length:Int)=false from xZf.2 (by omega),cond_false]
 refine W.lp1 (N:=fun q:Nat×Nat=>q.1) (P:=fun i=>∃ n:Nat,i=(n:Int)∧n≤p.Body.length∧scn (f2E types p.Body t) (scn (f3E p.Body t) (z3E t) p.Body.length 0) (p.Body.length - n) n=val) (m:=fun i=>p.Body.length - i.toNat) ⟨0,rfl,by omega,hv⟩ ?_
 clear hv
 rintro F2 i ⟨n,rfl,hn,hv⟩ next2
 simp only [xZ7Z,hp]
 by_cases hlt:n < p.Body.length
 ·obtain ⟨v1,v2⟩:=xZm5 hlt hv
  have he:p.Body[n]?=some p.Body[n]:=by simp [hlt]
  generalize p.Body[n]=e at he
  have hi:i64b ((n:Int)+1)=true:=xZc.2 (by omega)
  have hem:e∈p.Body:=List.mem_of_getElem? he
  simp only [show ltB (n:Int) (p.Body.length:Int)=true from xZ9.2 (by omega),cond_true,ix_nat',he,Option.bind_some,xZ8E,hi,xZn]
  have go:f2E types p.Body t n=0→W (fun q=>F2 q ((n:Int)+1)) (·=val):=fun hf=>next2 _ ⟨n+1,by omega,by omega,v2 hf⟩ (by omega)
  refine W.cond.2 ⟨fun hl=>?_,fun hl=>go ?_⟩
  ·have hlf:t.lf 0 n:=at_lf t 0 n e (by omega) (by rw [← hb,Nat.sub_zero];exact he) hl
   have hR:=xZnk hck ho ht hb hlen hlf
   have hR':W (fun N=>xZO N p (n:Int)) (fun r=>r.length≤1000∧Rel p.Body (t.rw p.Body 0 A0 n) r):=hR.mp fun r hr=>⟨by
    rw [← xZmU hr hlen,sortS,List.length_mergeSort]
    have:=xZkI (body:=p.Body) (t.rw p.Body 0 A0 n) 40
    omega,hr⟩
   have hf2:f2E types p.Body t n=fz1 types p.Body e (scE p.Body (t.rw p.Body 0 A0 n)) e.Test e.Test:=by
    simp only [f2E,he,hl,cond_true]
   refine W.call (N:=fun q:(Nat×Nat)×Nat=>q.1.1) (xZsX hs hlen he (lt e hem) (xZle (t:=t) (by rw [← hb];exact hem)).1 hR') ?_
   rintro _ rfl
   rw [← hf2]
   exact W.cond.2 ⟨fun hz=>W.ret.2 (v1 (by simpa using hz)),fun hz=>go (by simpa using hz)⟩
  ·simp only [f2E,he,hl,cond_false]
 have hnl:n=p.Body.length:=by omega
 subst hnl
 have hv:=xZfZ hv
 simp only [show ltB (p.Body.length:Int) (p.Body.length:Int)=false from xZf.2 (by omega),cond_false]
 refine W.lp1 (N:=fun q:(Nat×Nat)×Nat=>q.1.1) (P:=fun i=>∃ n:Nat,i=(n:Int)∧n≤p.Body.length∧scn (f3E p.Body t) (z3E t) (p.Body.length - n) n=val) (m:=fun i=>p.Body.length - i.toNat) ⟨0,rfl,by omega,hv⟩ ?_
 clear hv
 rintro F3 i ⟨n,rfl,hn,hv⟩ next3
 simp only [xZ7S]
 by_cases hlt:n < p.Body.length
 ·obtain ⟨v1,v2⟩:=xZm5 hlt hv
  have he:p.Body[n]?=some p.Body[n]:=by simp [hlt]
  generalize p.Body[n]=e at he
  have hi:i64b ((n:Int)+1)=true:=xZc.2 (by omega)
  simp only [show ltB (n:Int) (p.Body.length:Int)=true from xZ9.2 (by omega),cond_true,ix_nat',he,Option.bind_some,hi,xZn]
  have go:f3E p.Body t n=0→W (fun q=>F3 q ((n:Int)+1)) (·=val):=fun hf=>next3 _ ⟨n+1,by omega,by omega,v2 hf⟩ (by omega)
  refine W.cond.2 ⟨fun k5=>?_,fun k5=>go (by simp only [f3E,he,k5,Bool.false_and,cond_false])⟩
  refine W.call (N:=fun q:((Nat×Nat)×Nat)×Nat=>q.1.1.1) (w_mis ht hb (by omega) hlt) ?_
  rintro _ rfl
  refine W.cond.2 ⟨fun hz=>W.ret.2 ?_,fun hz=>go (by simp only [f3E,he,k5,hz,Bool.and_false,cond_false])⟩
  have hf3:f3E p.Body t n=17:=by simp only [f3E,he,k5,hz,Bool.and_self,cond_true]
  rw [hf3] at v1
  exact v1 (by decide)
 have hnl:n=p.Body.length:=by omega
 subst hnl
 have hv:=xZfZ hv
 simp only [show ltB (p.Body.length:Int) (p.Body.length:Int)=false from xZf.2 (by omega),cond_false]
 refine W.call (f:=fun N=>xZ5s N p.Body 0) (N:=fun q:((Nat×Nat)×Nat)×Nat=>q.1.1.1) (pe (body:=p.Body) (by omega) t 0 ht [] [] hb0) ?_
 rintro _ rfl
 rw [← hv,z3E]
 exact W.cond.2 ⟨fun h=>W.ret.2 (by rw [h];rfl),fun h=>W.ret.2 (by rw [h];rfl)⟩
theorem xZq2 {p:xZ5} {types:List xZ1} (hs:small types) {t:GT} (ht:t.ok 0) (hb:p.Body=t.fl) (hlen:p.Body.length≤40) (hck:chkG p=0) (lt:∀ n∈p.Body,n.Test.length≤40):W (fun N=>xZ3X N p types) (·=if q_chk types=0 then chE types p.By p.Body t else (2,0)):=by
 simp only [xZ3X,xZg8]
 refine W.call (N:=fun N=>N) (xZc8 p) ?_
 rintro _ rfl
 simp only [hck,show ((0:Int) != 0)=false from rfl,cond_false]
 refine W.call (N:=fun N=>N) (xZg2 types hs) ?_
 rintro _ rfl
 refine W.cond.2 ⟨fun hq=>W.ret.2 (by rw [if_neg (by simpa using hq)]),fun hq=>?_⟩
 rw [if_pos (by simpa using hq)]
 refine W.call (N:=fun N=>N) (xZs4 ht hb hlen) ?_
 rintro ⟨b0,Y⟩ ⟨e1,hY⟩
 dsimp only at e1 hY
 subst e1
 refine W.call (N:=fun N=>N) (xZqA p.Body (by omega)) fun fi hfi=>?_
 unfold chE
 generalize hval:scn (f1E types p.By p.Body) (scn (f2E types p.Body t) (scn (f3E p.Body t) (z3E t) p.Body.length 0) p.Body.length 0) p.Body.length 0=val
 refine W.lp8 (N:=fun N=>N) (P:=fun x3 a b c d f g h=>p.Body=a∧p.Within=b∧p.By=c∧p.Mode=d∧types=f∧p.Body=g∧Y=h∧∃ n:Nat,x3=(n:Int)∧n≤p.Body.length∧scn (f1E types p.By p.Body) (scn (f2E types p.Body t) (scn (f3E p.Body t) (z3E t) p.Body.length 0) p.Body.length 0) (p.Body.length - n) n=val) (m:=fun x3 _ _ _ _ _ _ _=>p.Body.length - x3.toNat)
  ⟨rfl,rfl,rfl,rfl,rfl,rfl,rfl,0,rfl,by omega,hval⟩ ?_
 clear hval
 rintro F x3 a b c d f g h ⟨rfl,rfl,rfl,rfl,rfl,rfl,rfl,n,rfl,hn,hv⟩ next
 simp only [xZ8f]
 by_cases hlt:n < p.Body.length
 ·obtain ⟨v1,v2⟩:=xZm5 hlt hv
  have he:p.Body[n]?=some p.Body[n]:=by simp [hlt]
  generalize p.Body[n]=e at he
  have hi:i64b ((n:Int)+1)=true:=xZc.2 (by omega)
  simp only [show ltB (n:Int) (p.Body.length:Int)=true from xZ9.2 (by omega),cond_true,ix_nat',he,Option.bind_some,xZeA,hi,xZn]
  have go:f1E types p.By p.Body n=0→W (fun q=>F q ((n:Int)+1) p.Body p.Within p.By p.Mode types p.Body Y) (·=val):=fun hf=>next _ _ _ _ _ _ _ _ ⟨rfl,rfl,rfl,rfl,rfl,rfl,rfl,n+1,by omega,by omega,v2 hf⟩ (by omega)
  refine W.cond.2 ⟨fun hl=>go ?_,fun hl=>?_⟩
  ·have hl:lfG e=false:=by simpa using hl
   unfold f1E
   rw [he]
   split
   ·rename_i e' _ h1 _;cases h1;rw [hl];rfl
   ·rfl
  ·have hl:lfG e=true:=by simpa using hl
   obtain ⟨ef,hf,_⟩:=xZoG he hl
   have hf1:f1E types p.By p.Body n=nmE types p.By p.Body n e ef:=by
    simp only [f1E,he,hf,hl,cond_true]
   obtain rfl:=hfi ⟨e,List.mem_of_getElem? he,hl⟩
   refine W.call (N:=fun q:Nat×Nat=>q.1) (xZqh hs hlen he hf) ?_
   rintro _ rfl
   dsimp only
   rw [← hf1]
   exact W.cond.2 ⟨fun hz=>W.ret.2 (v1 (by simpa using hz)),fun hz=>go (by simpa using hz)⟩
 have hnl:n=p.Body.length:=by omega
 subst hnl
 have hv:=xZfZ hv
 simp only [show ltB (p.Body.length:Int) (p.Body.length:Int)=false from xZf.2 (by omega),cond_false]
 refine W.lp8 (N:=fun q:Nat×Nat=>q.1) (P:=fun x3 a b c d f g h=>p.Body=a∧p.Within=b∧p.By=c∧p.Mode=d∧types=f∧p.Body=g∧Y=h∧∃ n:Nat,x3=(n:Int)∧n≤p.Body.length∧scn (f2E types p.Body t) (scn (f3E p.Body t) (z3E t) p.Body.length 0) (p.Body.length - n) n=val) (m:=fun x3 _ _ _ _ _ _ _=>p.Body.length - x3.toNat)
  ⟨rfl,rfl,rfl,rfl,rfl,rfl,rfl,0,rfl,by omega,hv⟩ ?_
 clear hv
 rintro F2 x3 a b c d f g h ⟨rfl,rfl,rfl,rfl,rfl,rfl,rfl,n,rfl,hn,hv⟩ next2
 simp only [xZ8b]
 by_cases hlt:n < p.Body.length
 ·obtain ⟨v1,v2⟩:=xZm5 hlt hv
  have he:p.Body[n]?=some p.Body[n]:=by simp [hlt]
  generalize p.Body[n]=e at he
  have hem:e∈p.Body:=List.mem_of_getElem? he
  have hi:i64b ((n:Int)+1)=true:=xZc.2 (by omega)
  obtain ⟨hcl,hno⟩:=xZle (t:=t) (e:=e) (by rw [← hb];exact hem)
  simp only [show ltB (n:Int) (p.Body.length:Int)=true from xZ9.2 (by omega),cond_true,hi,xZn]
  have hf2:f2E types p.Body t n=fz1 types p.Body e (scE p.Body (gm Y n)) e.Test e.Test:=by
   cases hl:lfG e with
   | true=>
     have hlf:t.lf 0 n:=at_lf t 0 n e (by omega) (by rw [← hb,Nat.sub_zero];exact he) hl
     rw [hY.2 n hlf]
     simp only [f2E,he,hl,cond_true]
   | false=>
     rw [hno hl]
     simp only [f2E,he,hl,cond_false]
     rfl
  refine W.call (N:=fun q:(Nat×Nat)×Nat=>q.1.1) (xZrn hs hlen he (lt e hem) hcl) ?_
  rintro _ rfl
  dsimp only
  rw [← hf2]
  exact W.cond.2 ⟨fun hz=>W.ret.2 (v1 (by simpa using hz)),fun hz=>next2 _ _ _ _ _ _ _ _ ⟨rfl,rfl,rfl,rfl,rfl,rfl,rfl,n+1,by omega,by omega,v2 (by simpa using hz)⟩ (by omega)⟩
 have hnl:n=p.Body.length:=by omega
 subst hnl
 have hv:=xZfZ hv
 simp only [show ltB (p.Body.length:Int) (p.Body.length:Int)=false from xZf.2 (by omega),cond_false]
 have hh:=ph (body:=p.Body) hlen t 0 ht [] [] (A40.c false) (by rw [hb];simp)
 refine W.call (f:=fun N=>(xZq N) 0 p.Body (A40.c false)) (N:=fun q:(Nat×Nat)×Nat=>q.1.1) hh ?_
 rintro ⟨r0,r1,r2,r3,r4⟩ ⟨q1,q2,_,_,q5⟩
 dsimp only at q1 q2 q5
 rw [gb_c] at q5
 subst q1
 refine W.lp1 (N:=fun q:(Nat×Nat)×Nat=>q.1.1) (P:=fun i=>∃ n:Nat,i=(n:Int)∧n≤p.Body.length∧scn (f3E p.Body t) (z3E t) (p.Body.length - n) n=val) (m:=fun i=>p.Body.length - i.toNat) ⟨0,rfl,by omega,hv⟩ ?_
 clear hv
 rintro F3 i ⟨n,rfl,hn,hv⟩ next3
 simp only [xZ8r]
 by_cases hlt:n < p.Body.length
 ·obtain ⟨v1,v2⟩:=xZm5 hlt hv
  have he:p.Body[n]?=some p.Body[n]:=by simp [hlt]
  generalize p.Body[n]=e at he
  have hi:i64b ((n:Int)+1)=true:=xZc.2 (by omega)
  have hpl:n < 40:=by omega
  have e2:r1.l.getD n false=t.hF 0 n:=congrFun q2 n
  have e5:r4.l.getD n false=t.hI 0 (fun _=>false) n:=congrFun q5 n
  simp only [show ltB (n:Int) (p.Body.length:Int)=true from xZ9.2 (by omega),cond_true,ix_nat' p.Body,he,Option.bind_some,hi,xZn,show leB 0 (n:Int)=true from xZI.2 (by omega),show ltB (n:Int) 40=true from xZ9.2 (by omega),ix_l r1 hpl false,ix_l r4 hpl false,e2,e5]
  have go:f3E p.Body t n=0→W (fun q=>F3 q ((n:Int)+1)) (·=val):=fun hf=>next3 _ ⟨n+1,by omega,by omega,v2 hf⟩ (by omega)
  refine W.cond.2 ⟨fun k5=>?_,fun k5=>go (by simp only [f3E,he,k5,Bool.false_and,cond_false])⟩
  have hit:(t.hF 0 n || t.hI 0 (fun _=>false) n)=true→((17,(n:Int)):Int×Int)=val:=fun hz=>by
   have hf3:f3E p.Body t n=17:=by simp only [f3E,he,k5,hz,Bool.and_self,cond_true]
   rw [hf3] at v1
   exact v1 (by decide)
  refine W.cond.2 ⟨fun hz=>W.ret.2 (hit (by rw [hz];rfl)),fun hz=>W.cond.2 ⟨fun hy=>W.ret.2 (hit (by rw [hy,Bool.or_true])),fun hy=>go (by simp only [f3E,he,k5,hz,hy,Bool.or_self,Bool.and_false,cond_false])⟩⟩
 have hnl:n=p.Body.length:=by omega
 subst hnl
 have hv:=xZfZ hv
 simp only [show ltB (p.Body.length:Int) (p.Body.length:Int)=false from xZf.2 (by omega),cond_false]
 rw [← hv,z3E]
 exact W.cond.2 ⟨fun h=>W.ret.2 (by rw [h];rfl),fun h=>W.ret.2 (by rw [h];rfl)⟩
end
theorem w_CC {p:xZ5} {types:List xZ1} (hs:small types) (ho:∀ n∈p.Body,okN n.Test) (hlen:p.Body.length≤50) (lt:∀ n∈p.Body,n.Test.length≤40):∃ x:Int×Int,W (fun N=>xZ3X N p types) (·=x)∧W (fun N=>xZ47 N p types) (·=x):=by
 by_cases hck:chkG p=0
 ·obtain ⟨q1,q2,q3,q4,q5,t,q6,q7,q8⟩:=xZl4 ho hck
  exact ⟨_,xZq2 hs q6 q8 q1 hck lt,xZo3 hs ho q6 q8 q1 hck lt⟩
 ·have hz:(chkG p != 0)=true:=by simpa using hck
  refine ⟨(2,0),?_,?_⟩
  ·simp only [xZ3X,xZg8]
   refine W.call (N:=fun N=>N) (xZc8 p) ?_
   rintro _ rfl
   simp only [hz,cond_true,W.ret]
  ·simp only [xZ47]
   refine W.call (xZ9J p (by omega) ho) ?_
   rintro _ rfl
   simp only [hz,cond_true,W.ret]
theorem xZff (p:xZ5) (types:List xZ1) (at_:Int) (hp:xZ4A p) (hty:okL xZ4u types) (ha:inK .i64 at_):W (fun N=>xZ3d N p types at_) (·=true):=by
 have hob:∀ n∈p.Body,okN n.Test:=fun n hn m hm=>xZsB (((hp.1.1 n hn).2.2.2.2.2.2.1 m hm).2.2.2.2.2.2.1)
 simp only [xZ3d]
 refine W.call (xZrI p hp) fun b hb=>?_
 refine W.cond.2 ⟨fun _=>xZqT _,fun hb0=>?_⟩
 obtain ⟨l50,_,lt⟩:=hb (by have:=xZf.1 hb0;omega)
 refine W.call (xZjj types) fun b2 hb2=>?_
 refine W.cond.2 ⟨fun _=>xZqT _,fun hb1=>?_⟩
 have hs:=hb2 (by have:=xZf.1 hb1;omega)
 refine W.call (xZuP p l50 lt) fun own h=>?_
 obtain rfl:=h.symm
 refine W.call (xZlv types hs) fun own2 h=>?_
 obtain rfl:=h.symm
 obtain ⟨x,hx1,hx2⟩:=w_CC hs hob l50 lt
 refine W.call hx1 ?_
 rintro _ rfl
 refine W.call hx2 ?_
 rintro _ rfl
 simp only [bne_self_eq_false,cond_false]
 obtain ⟨y,hy0,hy1,hy2⟩:=w_BB p hob l50 at_
 refine W.call hy1 ?_
 rintro _ rfl
 refine W.call hy2 ?_
 rintro _ rfl
 refine W.call (xZtu _ (Nat.le_trans hy0 (by decide))) ?_
 rintro _ rfl
 simp only [Bool.not_true,cond_false]
 refine wf1 (l:=p.Body) (fun _=>True) [] rfl rfl (by omega) trivial ?_ ?_
 ·intro F pre e rest h1 k1 k2 k3 _ hn
  have hp:xZ5.mk p.Body p.Within p.By p.Mode=p:=rfl
  simp only [xZ2q,k1,cond_true,hp]
  obtain ⟨z,hz0,hz1,hz2⟩:=w_BB p hob l50 (pre.length:Int)
  refine W.call (N:=fun q:Nat×Nat=>q.1) hz1 ?_
  rintro _ rfl
  refine W.call (N:=fun q:Nat×Nat=>q.1) hz2 ?_
  rintro _ rfl
  refine W.call (N:=fun q:Nat×Nat=>q.1) (xZtu _ (Nat.le_trans hz0 (by decide))) ?_
  rintro _ rfl
  simp only [Bool.not_true,cond_false,k3,xZn]
  exact hn trivial
 ·intro F k1 _
  simp only [xZ2q,k1,cond_false]
  exact xZqT (fun p:Nat×Nat=>p.1)
end Go.Proofs.YtbioikdfpfafaaaGreatDoor.T
