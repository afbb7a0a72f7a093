/- real.Versus, walked. No premise beyond what each theorem says. -/
import Derived.Test.YtbanfalnbhcknaaGreatDoorHG4
import Derived.Test.YtbanfalnbhcknaaGreatDoorHA4
import Derived.WalkKit
import Derived.Laws.Cover2
set_option linter.all false
set_option linter.unusedSimpArgs false
set_option linter.unusedVariables false
namespace Go.Proofs.YtbanfalnbhcknaaGreatDoor.H
open Go
section
open Go Go.RowKit Go.Proofs.Tryz
attribute [-go_sem] binOp_float_cmp_neq binOp_float_cmp_leq binOp_float_cmp_gtr binOp_float_cmp_geq
set_option maxRecDepth 1000000
set_option maxHeartbeats 4000000
theorem xZgq (w:World) (n:Int):(callFunc 164 #[.int .u64 n]).run Tryz.prog w=.ok (.value (.float .f64 n.toNat)) w:=by
 obtain ⟨fn,h1,h2,h3,h4,h5⟩:=(ExtIs.mk' (P:=Tryz.prog) (f:=164) (e:=Extern.MathFloatBits.float64frombits) Tryz.f164 (by kernel_rfl) (by kernel_rfl) (by kernel_rfl) (by kernel_rfl) (by kernel_rfl)).prf
 exact run_callFunc_extern h1 h2 h3 h4 h5 _ w
theorem xZ4S (u:Int) (w:World):Calls Tryz.prog 139 #[.int .u64 u] w fun e w'=>e=.returned (.float .f64 u.toNat)∧w'=w:=by
 have hx:=xZgq
 go_enter Tryz.func139,Tryz.ntmps139
 go_wp2
 go_ret
 exact ⟨rfl,rfl⟩
theorem xZav (f:Nat) (b1 b2:Bool) (h1:fcmpB .geq .f64 f 14109777632551763968=b1) (h2:fcmpB .leq .f64 f 4886405595696988160=b2) (w:World):Calls Tryz.prog 205 #[.float .f64 f] w fun e w'=>e=.returned (.bool (b1&&b2))∧w'=w:=by
 have q1:∀ w:World,(binOp .geq 241 (.float .f64 f) (.float .f64 14109777632551763968)).run Tryz.prog w=.ok (.bool b1) w:=fun w=>by rw [← h1];rfl
 have q2:∀ w:World,(binOp .leq 241 (.float .f64 f) (.float .f64 4886405595696988160)).run Tryz.prog w=.ok (.bool b2) w:=fun w=>by rw [← h2];rfl
 cases b1<;>cases b2
 all_goals
  go_enter Tryz.func205,Tryz.ntmps205
  go_wp2
  go_ret
  exact ⟨rfl,rfl⟩
theorem xZgr {x:Nat} {s:Bool} {m:Nat} {i:Int} (hx:dbl.read x=.number s m i) (w:World):(callFunc 212 #[.float .f64 x]).run Tryz.prog w=.ok (.value (.float .f64 (dbl.write (.number s (flN s m i) 0)))) w:=by
 obtain ⟨fn,h1,h2,h3,h4,h5⟩:=(ExtIs.mk' (P:=Tryz.prog) (f:=212) (e:=Extern.MathFloor.toIntegral "math.archFloor" .down) Tryz.f212 (by kernel_rfl) (by kernel_rfl) (by kernel_rfl) (by kernel_rfl) (by kernel_rfl)).prf
 have:=run_callFunc_extern h1 h2 h3 h4 h5 #[.float .f64 x] w
 rw [this]
 have hd:FloatKind.f64.decode x=.number s m i:=hx
 obtain ⟨A,hA⟩:∃ A:Bool→Nat→Sem Value,Extern.MathFloor.toIntegral "math.archFloor" .down #[.float .f64 x]=(match FloatKind.f64.decode x with
  | .nan s t=>A s t
  | d=>pure (.float .f64 (FloatKind.f64.encode (d.integral .down)))):=⟨_,rfl⟩
 rw [hA,hd]
 rfl
theorem xZfS {x:Nat} {s:Bool} {m:Nat} {i:Int} (hx:dbl.read x=.number s m i) (w:World):Calls Tryz.prog 206 #[.float .f64 x] w fun e w'=>e=.returned (.float .f64 (dbl.write (.number s (flN s m i) 0)))∧w'=w:=by
 have hq:=fun w=>xZgr hx w
 generalize dbl.write (.number s (flN s m i) 0)=fl at *
 go_enter Tryz.func206,Tryz.ntmps206
 go_wp2
 go_ret
 exact ⟨rfl,rfl⟩
theorem xZgy (n u:Int) (h:fcmpB .neq .f64 u.toNat u.toNat=true) (w:World):Calls Tryz.prog 201 #[.int .i64 n,.int .u64 u] w fun e w'=>e=.returned (.tuple #[.int .i64 0,.bool false])∧w'=w:=by
 have q1:∀ w:World,(binOp .neq 241 (.float .f64 u.toNat) (.float .f64 u.toNat)).run Tryz.prog w=.ok (.bool true) w:=fun w=>by rw [← h];rfl
 go_enter Tryz.func201,Tryz.ntmps201
 go_wp2_with (first | (go_at_call 139;refine (xZ4S _ _).mono ?_;rintro e w' ⟨rfl,rfl⟩))
 go_ret2
 exact ⟨rfl,rfl⟩
theorem xZbY (n u:Int) (h:fcmpB .neq .f64 u.toNat u.toNat=false) (hn:n < -4611686018427387904∨4611686018427387904 < n) (w:World):Calls Tryz.prog 201 #[.int .i64 n,.int .u64 u] w fun e w'=>e=.returned (.tuple #[.int .i64 0,.bool false])∧w'=w:=by
 have q1:∀ w:World,(binOp .neq 241 (.float .f64 u.toNat) (.float .f64 u.toNat)).run Tryz.prog w=.ok (.bool false) w:=fun w=>by rw [← h];rfl
 by_cases h1:n < -4611686018427387904
 ·go_enter Tryz.func201,Tryz.ntmps201
  go_wp2_with (first | (go_at_call 139;refine (xZ4S _ _).mono ?_;rintro e w' ⟨rfl,rfl⟩))
  go_ret2
  exact ⟨rfl,rfl⟩
 ·have h2:4611686018427387904 < n:=by omega
  have h1':-4611686018427387904≤n:=by omega
  go_enter Tryz.func201,Tryz.ntmps201
  go_wp2_with (first | (go_at_call 139;refine (xZ4S _ _).mono ?_;rintro e w' ⟨rfl,rfl⟩))
  go_ret2
  exact ⟨rfl,rfl⟩
theorem xZbX (n u:Int) (h:fcmpB .neq .f64 u.toNat u.toNat=false) (hn1:-4611686018427387904≤n) (hn2:n≤4611686018427387904) (b1 b2 g:Bool) (h1:fcmpB .geq .f64 u.toNat 14109777632551763968=b1) (h2:fcmpB .leq .f64 u.toNat 4886405595696988160=b2) (hb:(b1&&b2)=false) (hg:fcmpB .gtr .f64 u.toNat 0=g) (w:World):
 Calls Tryz.prog 201 #[.int .i64 n,.int .u64 u] w fun e w'=>e=.returned (.tuple #[.int .i64 (if g then -1 else 1),.bool true])∧w'=w:=by
 have q1:∀ w:World,(binOp .neq 241 (.float .f64 u.toNat) (.float .f64 u.toNat)).run Tryz.prog w=.ok (.bool false) w:=fun w=>by rw [← h];rfl
 have q2:∀ w:World,(binOp .gtr 241 (.float .f64 u.toNat) (.float .f64 0)).run Tryz.prog w=.ok (.bool g) w:=fun w=>by rw [← hg];rfl
 have hw:=fun w=>xZav u.toNat b1 b2 h1 h2 w
 rw [hb] at hw
 cases g
 all_goals
  go_enter Tryz.func201,Tryz.ntmps201
  go_wp2_with (first | (go_at_call 139;refine (xZ4S _ _).mono ?_;rintro e w' ⟨rfl,rfl⟩) | (go_at_call 205;refine (hw _).mono ?_;rintro e w' ⟨rfl,rfl⟩))
  go_ret2
  exact ⟨rfl,rfl⟩
theorem xZf5 (n u:Int) (h:fcmpB .neq .f64 u.toNat u.toNat=false) (hn1:-4611686018427387904≤n) (hn2:n≤4611686018427387904) (h1:fcmpB .geq .f64 u.toNat 14109777632551763968=true) (h2:fcmpB .leq .f64 u.toNat 4886405595696988160=true)
 {s:Bool} {m:Nat} {i:Int} (hx:dbl.read u.toNat=.number s m i) (F:Int) (hF1:-4611686018427387904≤F) (hF2:F≤4611686018427387904) (hF:(dbl.read (dbl.write (.number s (flN s m i) 0))).toInt .zero=some F) (g:Bool) (hg:fcmpB .gtr .f64 u.toNat (dbl.write (.number s (flN s m i) 0))=g) (w:World):
 Calls Tryz.prog 201 #[.int .i64 n,.int .u64 u] w fun e w'=>e=.returned (.tuple #[.int .i64 (if n < F then -1 else if F < n then 1 else if g then -1 else 0),.bool true])∧w'=w:=by
 have q1:∀ w:World,(binOp .neq 241 (.float .f64 u.toNat) (.float .f64 u.toNat)).run Tryz.prog w=.ok (.bool false) w:=fun w=>by rw [← h];rfl
 have hw:=fun w=>xZav u.toNat true true h1 h2 w
 have hfl:=fun w=>xZfS hx w
 generalize dbl.write (.number s (flN s m i) 0)=fl at *
 have q2:∀ w:World,(binOp .gtr 241 (.float .f64 u.toNat) (.float .f64 fl)).run Tryz.prog w=.ok (.bool g) w:=fun w=>by rw [← hg];rfl
 have q3:∀ w:World,(convert 241 3 (.float .f64 fl)).run Tryz.prog w=.ok (.int .i64 F) w:=fun w=>by
  have hd:(FloatKind.f64.decode fl).toInt .zero=some F:=hF
  have e:(Conv.floatToInt .f64 fl .i64).run Tryz.prog w=.ok (.int .i64 F) w:=by
   simp only [Conv.floatToInt,hd]
   rw [if_pos ⟨by rw [show IntKind.i64.min=-9223372036854775808 by decide];omega,by rw [show IntKind.i64.max=9223372036854775807 by decide];omega⟩]
   rfl
  exact e
 by_cases c1:n < F
 ·rw [if_pos c1]
  go_enter Tryz.func201,Tryz.ntmps201
  go_wp2_with (first | (go_at_call 139;refine (xZ4S _ _).mono ?_;rintro e w' ⟨rfl,rfl⟩) | (go_at_call 205;refine (hw _).mono ?_;rintro e w' ⟨rfl,rfl⟩) | (go_at_call 206;refine (hfl _).mono ?_;rintro e w' ⟨rfl,rfl⟩))
  go_ret2
  exact ⟨rfl,rfl⟩
 ·rw [if_neg c1]
  have c1':F≤n:=by omega
  by_cases c2:F < n
  ·rw [if_pos c2]
   have c3:¬ n=F:=by omega
   have c4:(n==F)=false:=by simpa using c3
   go_enter Tryz.func201,Tryz.ntmps201
   go_wp2_with (first | (go_at_call 139;refine (xZ4S _ _).mono ?_;rintro e w' ⟨rfl,rfl⟩) | (go_at_call 205;refine (hw _).mono ?_;rintro e w' ⟨rfl,rfl⟩) | (go_at_call 206;refine (hfl _).mono ?_;rintro e w' ⟨rfl,rfl⟩))
   go_ret2
   exact ⟨rfl,rfl⟩
  ·rw [if_neg c2]
   obtain rfl:n=F:=by omega
   cases g
   all_goals
    go_enter Tryz.func201,Tryz.ntmps201
    go_wp2_with (first | (go_at_call 139;refine (xZ4S _ _).mono ?_;rintro e w' ⟨rfl,rfl⟩) | (go_at_call 205;refine (hw _).mono ?_;rintro e w' ⟨rfl,rfl⟩) | (go_at_call 206;refine (hfl _).mono ?_;rintro e w' ⟨rfl,rfl⟩))
    go_ret2
    exact ⟨rfl,rfl⟩
theorem xZjR (n u:Int) (w:World):Calls Tryz.prog 201 #[.int .i64 n,.int .u64 u] w fun e w'=>e=.returned (.tuple #[.int .i64 (rVersus n u).1,.bool (rVersus n u).2])∧w'=w:=by
 have hK:(0:Int) < KK:=Int.pow_pos (by decide)
 rcases xZmN u.toNat with ⟨s,t,h⟩ | ⟨s,h⟩ | ⟨s,m,i,h,hm,hi⟩
 ·have e:rVersus n u=(0,false):=by unfold rVersus;rw [h]
  rw [e]
  exact xZgy n u (by
   show ((dbl.read u.toNat).order (dbl.read u.toNat) != some .eq)=true
   rw [h];rfl) w
 ·have hne:fcmpB .neq .f64 u.toNat u.toNat=false:=by
   show ((dbl.read u.toNat).order (dbl.read u.toNat) != some .eq)=false
   rw [h];cases s<;>rfl
  by_cases hn:n < -4611686018427387904∨4611686018427387904 < n
  ·have e:rVersus n u=(0,false):=by unfold rVersus;rw [h];exact if_pos hn
   rw [e]
   exact xZbY n u hne hn w
  ·have e:rVersus n u=(if s then 1 else -1,true):=by unfold rVersus;rw [h];exact if_neg hn
   rw [e]
   have h1:fcmpB .geq .f64 u.toNat 14109777632551763968=!s:=by
    show ((dbl.read u.toNat).order (dbl.read 14109777632551763968)==some .gt || (dbl.read u.toNat).order (dbl.read 14109777632551763968)==some .eq)=!s
    rw [h,rd_c1];cases s<;>rfl
   have h2:fcmpB .leq .f64 u.toNat 4886405595696988160=s:=by
    show ((dbl.read u.toNat).order (dbl.read 4886405595696988160)==some .lt || (dbl.read u.toNat).order (dbl.read 4886405595696988160)==some .eq)=s
    rw [h,rd_c2];cases s<;>rfl
   have h3:fcmpB .gtr .f64 u.toNat 0=!s:=by
    show ((dbl.read u.toNat).order (dbl.read 0)==some .gt)=!s
    rw [h,rd_0];cases s<;>rfl
   have:=xZbX n u hne (by omega) (by omega) (!s) s (!s) h1 h2 (by cases s<;>rfl) h3 w
   cases s<;>exact this
 ·have hne:=f_ne h hi
  by_cases hn:n < -4611686018427387904∨4611686018427387904 < n
  ·have e:rVersus n u=(0,false):=by unfold rVersus;rw [h];exact if_pos hn
   rw [e]
   exact xZbY n u hne hn w
  ·have e:rVersus n u=(vsI n (VD s m i),true):=by unfold rVersus;rw [h];exact if_neg hn
   rw [e]
   have h1:=f_ge h rd_c1 hi (by decide)
   have h2:=f_le h rd_c2 hi (by decide)
   have h3:=f_gt h rd_0 hi (by decide)
   rw [vd_c] at h1 h2
   rw [show VD false 0 (-1074)=0 from rfl] at h3
   have ha:n * KK≤2 ^ 62 * KK:=Int.mul_le_mul_of_nonneg_right (by omega) (Int.le_of_lt hK)
   have hb:-(2 ^ 62 * KK)≤n * KK:=by
    rw [← Int.neg_mul];exact Int.mul_le_mul_of_nonneg_right (by omega) (Int.le_of_lt hK)
   have hc:(0:Int) < 2 ^ 62 * KK:=Int.mul_pos (by decide) hK
   rw [if_pos rfl,Int.neg_mul,Int.one_mul] at h1
   rw [if_neg (by decide),Int.one_mul] at h2
   have hf:=fun a b=>xZq9 (s:=s) hm hi a b
   have hm1:∀ a b:Int,a≤b→a * KK≤b * KK:=fun a b q=>Int.mul_le_mul_of_nonneg_right q (Int.le_of_lt hK)
   have hr:=fun (c:Nat) (q1:c≤2 ^ 62) q2=>xZrS (s:=s) (c:=c) q1 q2
   generalize hV:VD s m i=V at *
   generalize hKK:KK=K at *
   generalize hL:2 ^ 62 * K=L at *
   by_cases hw:-L≤V∧V≤L
   ·obtain ⟨q1,q2,q3,q4⟩:=hf hw.2 hw.1
    obtain ⟨k,E,e1,e2,e3,e4⟩:=hr _ q1 q2
    have hs:=xZ5G s (flN s m i)
    have hg:=f_gt h e1 hi e2
    rw [hV,e3] at hg
    generalize hF:Ieee.signed s (flN s m i) 0=F at *
    have hFr:-4611686018427387904≤F∧F≤4611686018427387904:=by
     have:(2:Nat) ^ 62=4611686018427387904:=by decide
     rw [this] at q1
     cases s<;>simp at hs<;>omega
    have:=xZf5 n u hne (by omega) (by omega) (by rw [h1];exact decide_eq_true hw.1) (by rw [h2];exact decide_eq_true hw.2) h F hFr.1 hFr.2 (by rw [e1];exact e4) _ hg w
    rw [Int.add_mul,Int.one_mul] at q4
    have hv:vsI n V=(if n < F then -1 else if F < n then 1 else if decide (F * K < V)=true then -1 else 0):=by
     unfold vsI
     rw [hKK]
     by_cases c1:n < F
     ·have:=hm1 (n+1) F (by omega)
      rw [Int.add_mul,Int.one_mul] at this
      rw [if_pos (by omega),if_pos c1]
     ·rw [if_neg c1]
      by_cases c2:F < n
      ·have:=hm1 (F+1) n (by omega)
       rw [Int.add_mul,Int.one_mul] at this
       rw [if_pos c2,if_neg (by omega),if_pos (by omega)]
      ·obtain rfl:n=F:=by omega
       rw [if_neg c2]
       by_cases c3:n * K < V
       ·rw [if_pos c3,if_pos (decide_eq_true c3)]
       ·rw [if_neg c3,if_neg (by omega),if_neg (by simpa using c3)]
    rw [hv];exact this
   ·have hbb:(decide (-L≤V)&&decide (V≤L))=false:=by
     rw [← Bool.decide_and];exact decide_eq_false hw
    have:=xZbX n u hne (by omega) (by omega) _ _ _ h1 h2 hbb h3 w
    have hv:vsI n V=(if decide (0 < V)=true then -1 else 1):=by
     unfold vsI
     rw [hKK]
     by_cases c:0 < V
     ·rw [if_pos (by omega),if_pos (decide_eq_true c)]
     ·rw [if_neg (by omega),if_pos (by omega),if_neg (by simpa using c)]
    rw [hv];exact this
theorem xZh4 (N:Nat):xZcI.Ok prog N:=by
 refine ⟨⟨Tryz.f201,Tryz.func201,by kernel_rfl,by kernel_rfl⟩,fun a r h=>?_⟩
 obtain ⟨x,y,⟨⟩⟩:=a
 have h:some (rVersus x y)=some r:=h
 obtain rfl:=Option.some.inj h
 intro M S w vs hh _ hsz hrep
 obtain ⟨v,u,rfl⟩:∃ v u,vs=#[v,u]:=by
  match vs,hsz with
  | ⟨[v,u]⟩,_=>exact ⟨v,u,rfl⟩
 have vr:∀ {v x:Value},DRep S w v (.v x)→v=x:=fun h=>by cases h;rfl
 have h0:DRep S w v (.v (.int .i64 x)):=xZ28 (hrep 0 (by show 0 < 2;omega)) rfl
 obtain rfl:=vr h0
 have h1:DRep S w u (.v (.int .u64 y)):=xZ28 (hrep 1 (by show 1 < 2;omega)) rfl
 obtain rfl:=vr h1
 refine (xZjR x y w).mono ?_
 rintro e w' ⟨rfl,rfl⟩
 refine ⟨M,S,.data (.tup _ _ rfl fun i hi=>?_),hh.grew (.refl _),.grew hh (.refl _)⟩
 match i,hi with
 | 0,_=>exact .v _
 | 1,_=>exact .v _
end
section
open Go.Proofs.Tryz
set_option maxRecDepth 1000000
noncomputable section
noncomputable def xZgB:Fn xZ70:=⟨f21,[],⟨[],[],sbf,bof⟩,fun _=>[],[true],none,0,0,fun _ _=>true,none,[],[],[]⟩
theorem xZhx:xZgB.Ok prog:=⟨Is.of (by kernel_rfl) (by kernel_rfl),by kernel_rfl,xZ5 sb_ok bo_ok,trivial,trivial,fun _=>by kernel_rfl⟩
theorem xZcK (N:Nat):xZ70.Ok prog N:=xZhx.give tb_ok hm N N (fun _=>trivial) fun a r s h=>by
 exact s.main [] trivial (.trans (by kernel_rfl) h)
noncomputable def xZii:Fn xZaA:=⟨f6,[],⟨[],[],sbf,bof⟩,fun _=>[xZ70],[true],none,0,0,fun _ _=>true,none,[],[],[]⟩
theorem xZjh:xZii.Ok prog:=⟨Is.of (by kernel_rfl) (by kernel_rfl),by kernel_rfl,xZ5 sb_ok bo_ok,trivial,trivial,fun _=>by kernel_rfl⟩
theorem xZiO (N:Nat):xZaA.Ok prog N:=xZjh.give tb_ok hm N N (fun _=>⟨xZcK N,trivial⟩) fun a r s h=>by
 have l0:=s.loop 0 xZ63 (xZbA N) N fun next0 h0=>by
  exact fun c v=>s.seg 0 xZ63 [(0,.of xZ63 next0)] ⟨h0,trivial⟩ (by kernel_rfl) (by kernel_rfl)
 exact s.main [(0,.of xZ63 (xZgi N))] ⟨l0,trivial⟩ (.trans (by kernel_rfl) h)
noncomputable def xZ6J:Fn xZq:=⟨f156,[],⟨[],[],sbf,bof⟩,fun _=>[],[true],none,1,0,fun _ _=>true,none,[],[],[]⟩
theorem xZ6R:xZ6J.Ok prog:=⟨Is.of (by kernel_rfl) (by kernel_rfl),by kernel_rfl,xZ5 sb_ok bo_ok,trivial,trivial,fun _=>by kernel_rfl⟩
theorem xZR (N:Nat):xZq.Ok prog N:=xZ6R.give tb_ok hm N N (fun _=>trivial) fun a r s h=>by
 exact s.main [] trivial (.trans (by kernel_rfl) h)
noncomputable def xZ6q:Fn xZ1Q:=⟨f89,[],⟨[],[],sbf,bof⟩,fun _=>[],[true],none,1,0,fun _ _=>true,none,[],[],[]⟩
theorem xZ6s:xZ6q.Ok prog:=⟨Is.of (by kernel_rfl) (by kernel_rfl),by kernel_rfl,xZ5 sb_ok bo_ok,trivial,trivial,fun _=>by kernel_rfl⟩
theorem xZ2X (N:Nat):xZ1Q.Ok prog N:=xZ6s.give tb_ok hm N N (fun _=>trivial) fun a r s h=>by
 exact s.main [] trivial (.trans (by kernel_rfl) h)
noncomputable def xZ6I:Fn xZz:=⟨f167,[],⟨[],[],sbf,bof⟩,fun _=>[xZ1Q],[],none,1,0,fun _ _=>true,none,[],[],[]⟩
theorem xZ6Q:xZ6I.Ok prog:=⟨Is.of (by kernel_rfl) (by kernel_rfl),by kernel_rfl,xZ5 sb_ok bo_ok,trivial,trivial,fun _=>by kernel_rfl⟩
theorem xZ1i (N:Nat):xZz.Ok prog N:=xZ6Q.give tb_ok hm N N (fun _=>⟨xZ2X N,trivial⟩) fun a r s h=>by
 exact s.main [] trivial (.trans (by kernel_rfl) h)
noncomputable def xZ5P:Fn xZ1K:=⟨f166,[],⟨[],[],sbf,bof⟩,fun _=>[xZq,xZz],[],none,1,0,fun _ _=>true,none,[],[],[]⟩
theorem xZ5W:xZ5P.Ok prog:=⟨Is.of (by kernel_rfl) (by kernel_rfl),by kernel_rfl,xZ5 sb_ok bo_ok,trivial,trivial,fun _=>by kernel_rfl⟩
theorem xZ5Q (N:Nat):xZ1K.Ok prog N:=xZ5W.give tb_ok hm N N (fun _=>⟨xZR N,xZ1i N,trivial⟩) fun a r s h=>by
 exact s.main [] trivial (.trans (by kernel_rfl) h)
noncomputable def xZ7w:Fn xZt:=⟨f131,[],⟨[],[],sbf,bof⟩,fun _=>[xZq],[true],none,1,0,fun _ _=>true,none,[],[],[]⟩
theorem xZ7B:xZ7w.Ok prog:=⟨Is.of (by kernel_rfl) (by kernel_rfl),by kernel_rfl,xZ5 sb_ok bo_ok,trivial,trivial,fun _=>by kernel_rfl⟩
theorem xZX (N:Nat):xZt.Ok prog N:=xZ7B.give tb_ok hm N N (fun _=>⟨xZR N,trivial⟩) fun a r s h=>by
 exact s.main [] trivial (.trans (by kernel_rfl) h)
noncomputable def xZ7Z:Fn xZ2o:=⟨f157,[],⟨[],[],sbf,bof⟩,fun _=>[xZ24],[true],none,0,0,fun _ _=>true,none,[],[],[]⟩
theorem xZ88:xZ7Z.Ok prog:=⟨Is.of (by kernel_rfl) (by kernel_rfl),by kernel_rfl,xZ5 sb_ok bo_ok,trivial,trivial,fun _=>by kernel_rfl⟩
theorem xZ84 (N:Nat):xZ2o.Ok prog N:=xZ88.give tb_ok hm N N (fun _=>⟨xZ3r N,trivial⟩) fun a r s h=>by
 have l2:=s.loop 2 xZ1m (xZ3u N) N fun next2 h2=>by
  exact fun c v=>s.seg 2 xZ1m [(2,.of xZ1m next2)] ⟨h2,trivial⟩ (by kernel_rfl) (by kernel_rfl)
 have l0:=s.loop 0 xZ1l (xZ3t N) N fun next0 h0=>by
  exact fun c v=>s.seg 0 xZ1l [(0,.of xZ1l next0),(2,.of xZ1m (xZ6X N))] ⟨h0,l2,trivial⟩ (by kernel_rfl) (by kernel_rfl)
 exact s.main [(0,.of xZ1l (xZ6W N))] ⟨l0,trivial⟩ (.trans (by kernel_rfl) h)
noncomputable def xZdF:Fn xZ2n:=⟨f132,[],⟨[(6,4)],[],sbf,bof⟩,fun _=>[xZ2o],[true],none,0,0,fun _ _=>true,none,[],[],[]⟩
theorem xZeg:xZdF.Ok prog:=⟨Is.of (by kernel_rfl) (by kernel_rfl),by kernel_rfl,xZ5 sb_ok bo_ok,trivial,trivial,fun _=>by kernel_rfl⟩
theorem xZ4v (N:Nat):xZ2n.Ok prog N:=xZeg.give tb_ok hm N N (fun _=>⟨xZ84 N,trivial⟩) fun a r s h=>by
 exact s.main [] trivial (.trans (by kernel_rfl) h)
noncomputable def xZ6L:Fn xZ1h:=⟨f170,[],⟨[],[],sbf,bof⟩,fun _=>[xZq,xZz],[true],none,1,0,fun _ _=>true,none,[],[],[]⟩
theorem xZ6S:xZ6L.Ok prog:=⟨Is.of (by kernel_rfl) (by kernel_rfl),by kernel_rfl,xZ5 sb_ok bo_ok,trivial,trivial,fun _=>by kernel_rfl⟩
theorem xZ3p (N:Nat):xZ1h.Ok prog N:=xZ6S.give tb_ok hm N N (fun _=>⟨xZR N,xZ1i N,trivial⟩) fun a r s h=>by
 exact s.main [] trivial (.trans (by kernel_rfl) h)
noncomputable def xZ6M:Fn xZ22:=⟨f174,[],⟨[(24,4),(40,4),(51,4),(54,4)],[],sbf,bof⟩,fun _=>[xZt,xZq,xZz,xZ1h],[true],none,1,0,fun _ _=>true,none,[],[],[]⟩
theorem xZ6T:xZ6M.Ok prog:=⟨Is.of (by kernel_rfl) (by kernel_rfl),by kernel_rfl,xZ5 sb_ok bo_ok,trivial,trivial,fun _=>by kernel_rfl⟩
theorem xZ6P (N:Nat):xZ22.Ok prog N:=xZ6T.give tb_ok hm N N (fun _=>⟨xZX N,xZR N,xZ1i N,xZ3p N,trivial⟩) fun a r s h=>by
 exact s.main [] trivial (.trans (by kernel_rfl) h)
noncomputable def xZ7x:Fn xZ2c:=⟨f168,[],⟨[(14,5),(23,5)],[],sbf,bof⟩,fun _=>[xZ22,xZt,xZ2n],[true],none,1,0,fun _ _=>true,none,[],[],[]⟩
theorem xZ7C:xZ7x.Ok prog:=⟨Is.of (by kernel_rfl) (by kernel_rfl),by kernel_rfl,xZ5 sb_ok bo_ok,trivial,trivial,fun _=>by kernel_rfl⟩
theorem xZ7z (N:Nat):xZ2c.Ok prog N:=xZ7C.give tb_ok hm N N (fun _=>⟨xZ6P N,xZX N,xZ4v N,trivial⟩) fun a r s h=>by
 have l0:=s.loop 0 xZ1c (xZ30 N) N fun next0 h0=>by
  exact fun c v=>s.seg 0 xZ1c [(0,.of xZ1c next0)] ⟨h0,trivial⟩ (by kernel_rfl) (by kernel_rfl)
 exact s.main [(0,.of xZ1c (xZ6v N))] ⟨l0,trivial⟩ (.trans (by kernel_rfl) h)
noncomputable def xZfn:Fn xZ5M:=⟨f60,[],⟨[],[],sbf,bof⟩,fun _=>[],[true],none,0,0,fun _ _=>true,none,[],[],[]⟩
theorem xZg0:xZfn.Ok prog:=⟨Is.of (by kernel_rfl) (by kernel_rfl),by kernel_rfl,xZ5 sb_ok bo_ok,trivial,trivial,fun _=>by kernel_rfl⟩
theorem xZbl (N:Nat):xZ5M.Ok prog N:=xZg0.give tb_ok hm N N (fun _=>trivial) fun a r s h=>by
 exact s.main [] trivial (.trans (by kernel_rfl) h)
noncomputable def xZid:Fn xZaw:=⟨f169,[],⟨[],[],sbf,bof⟩,fun _=>[xZ5M],[true],none,0,0,fun _ _=>true,none,[],[],[]⟩
theorem xZjc:xZid.Ok prog:=⟨Is.of (by kernel_rfl) (by kernel_rfl),by kernel_rfl,xZ5 sb_ok bo_ok,trivial,trivial,fun _=>by kernel_rfl⟩
theorem xZiK (N:Nat):xZaw.Ok prog N:=xZjc.give tb_ok hm N N (fun _=>⟨xZbl N,trivial⟩) fun a r s h=>by
 have l0:=s.loop 0 xZ5Z (xZbu N) N fun next0 h0=>by
  exact fun c v=>s.seg 0 xZ5Z [(0,.of xZ5Z next0)] ⟨h0,trivial⟩ (by kernel_rfl) (by kernel_rfl)
 exact s.main [(0,.of xZ5Z (xZgc N))] ⟨l0,trivial⟩ (.trans (by kernel_rfl) h)
end
end
section
open Go.Proofs.Tryz
set_option maxRecDepth 1000000
noncomputable section
noncomputable def xZ7Y:Fn xZ1B:=⟨f91,[],⟨[(16,5)],[],sbf,bof⟩,fun _=>[xZ2b,xZt,xZ2n],[true],none,1,0,fun _ _=>true,none,[],[],[]⟩
theorem xZ4h:xZ7Y.Ok prog:=⟨Is.of (by kernel_rfl) (by kernel_rfl),by kernel_rfl,xZ5 sb_ok bo_ok,trivial,trivial,fun _=>by kernel_rfl⟩
noncomputable def xZ7v:Fn xZ2b:=⟨f130,[],⟨[(16,5)],[],sbf,bof⟩,fun _=>[xZ1g,xZt,xZ2n],[true],none,1,0,fun _ _=>true,none,[],[],[]⟩
theorem xZ3G:xZ7v.Ok prog:=⟨Is.of (by kernel_rfl) (by kernel_rfl),by kernel_rfl,xZ5 sb_ok bo_ok,trivial,trivial,fun _=>by kernel_rfl⟩
noncomputable def xZ6K:Fn xZ1g:=⟨f155,[],⟨[(18,5),(49,5)],[],sbf,bof⟩,fun _=>[xZ1K,xZt,xZ1g,xZ2n,xZ1B,xZz,xZ2c,xZq,xZaw,xZ1h],[true],none,1,0,fun _ _=>true,none,[],[],[]⟩
theorem xZ3v:xZ6K.Ok prog:=⟨Is.of (by kernel_rfl) (by kernel_rfl),by kernel_rfl,xZ5 sb_ok bo_ok,trivial,trivial,fun _=>by kernel_rfl⟩
theorem xZ3E:∀ N,xZ1B.Ok prog N∧xZ2b.Ok prog N∧xZ1g.Ok prog N
 | 0=>⟨⟨xZ4h.is.enters,fun a r h=>by (have h:none=some r:=h;cases h)⟩,⟨xZ3G.is.enters,fun a r h=>by (have h:none=some r:=h;cases h)⟩,⟨xZ3v.is.enters,fun a r h=>by (have h:none=some r:=h;cases h)⟩⟩
 | N+1=>by
   obtain ⟨h_predtext_parser_or_v927,h_predtext_parser_and_v927,h_predtext_parser_part_v927⟩:=xZ3E N
   refine ⟨?_,?_,?_⟩
   ·exact xZ4h.give tb_ok hm N (N+1) (fun _=>⟨h_predtext_parser_and_v927,xZX N,xZ4v N,trivial⟩) fun a r s h=>by
     have l0:=s.loop 0 xZ1k (xZ3s N) N fun next0 h0=>by
      exact fun c v=>s.seg 0 xZ1k [(0,.of xZ1k next0)] ⟨h0,trivial⟩ (by kernel_rfl) (by kernel_rfl)
     exact s.main [(0,.of xZ1k (xZ6V N))] ⟨l0,trivial⟩ (.trans (by kernel_rfl) h)
   ·exact xZ3G.give tb_ok hm N (N+1) (fun _=>⟨h_predtext_parser_part_v927,xZX N,xZ4v N,trivial⟩) fun a r s h=>by
     have l0:=s.loop 0 xZ1b (xZ2Z N) N fun next0 h0=>by
      exact fun c v=>s.seg 0 xZ1b [(0,.of xZ1b next0)] ⟨h0,trivial⟩ (by kernel_rfl) (by kernel_rfl)
     exact s.main [(0,.of xZ1b (xZ6u N))] ⟨l0,trivial⟩ (.trans (by kernel_rfl) h)
   ·exact xZ3v.give tb_ok hm N (N+1) (fun _=>⟨xZ5Q N,xZX N,h_predtext_parser_part_v927,xZ4v N,h_predtext_parser_or_v927,xZ1i N,xZ7z N,xZR N,xZiK N,xZ3p N,trivial⟩) fun a r s h=>by
     exact s.main [] trivial (.trans (by kernel_rfl) h)
theorem xZ83 (N:Nat):xZ1B.Ok prog N:=(xZ3E N).1
noncomputable def xZcc:Fn xZ4M:=⟨f38,[],⟨[],[],sbf,bof⟩,fun _=>[],[true],none,0,0,fun _ _=>true,none,[],[],[]⟩
theorem xZcx:xZcc.Ok prog:=⟨Is.of (by kernel_rfl) (by kernel_rfl),by kernel_rfl,xZ5 sb_ok bo_ok,trivial,trivial,fun _=>by kernel_rfl⟩
theorem xZcj (N:Nat):xZ4M.Ok prog N:=xZcx.give tb_ok hm N N (fun _=>trivial) fun a r s h=>by
 exact s.main [] trivial (.trans (by kernel_rfl) h)
noncomputable def xZeC:Fn xZ51:=⟨f97,[],⟨[],[],sbf,bof⟩,fun _=>[],[true],none,0,0,fun _ _=>true,none,[],[],[]⟩
theorem xZeV:xZeC.Ok prog:=⟨Is.of (by kernel_rfl) (by kernel_rfl),by kernel_rfl,xZ5 sb_ok bo_ok,trivial,trivial,fun _=>by kernel_rfl⟩
theorem xZak (N:Nat):xZ51.Ok prog N:=xZeV.give tb_ok hm N N (fun _=>trivial) fun a r s h=>by
 exact s.main [] trivial (.trans (by kernel_rfl) h)
noncomputable def xZda:Fn xZ5D:=⟨f98,[],⟨[],[],sbf,bof⟩,fun _=>[],[true],none,0,0,fun _ _=>true,none,[],[],[]⟩
theorem xZdl:xZda.Ok prog:=⟨Is.of (by kernel_rfl) (by kernel_rfl),by kernel_rfl,xZ5 sb_ok bo_ok,trivial,trivial,fun _=>by kernel_rfl⟩
theorem xZdf (N:Nat):xZ5D.Ok prog N:=xZdl.give tb_ok hm N N (fun _=>trivial) fun a r s h=>by
 exact s.main [] trivial (.trans (by kernel_rfl) h)
noncomputable def xZgV:Fn xZ9e:=⟨f99,[],⟨[],[],sbf,bof⟩,fun _=>[xZ51],[true],none,0,0,fun _ _=>true,none,[],[],[]⟩
theorem xZhQ:xZgV.Ok prog:=⟨Is.of (by kernel_rfl) (by kernel_rfl),by kernel_rfl,xZ5 sb_ok bo_ok,trivial,trivial,fun _=>by kernel_rfl⟩
theorem xZhg (N:Nat):xZ9e.Ok prog N:=xZhQ.give tb_ok hm N N (fun _=>⟨xZak N,trivial⟩) fun a r s h=>by
 exact s.main [] trivial (.trans (by kernel_rfl) h)
noncomputable def xZgU:Fn xZ9d:=⟨f61,[],⟨[],[],sbf,bof⟩,fun _=>[xZ51,xZ5D,xZ9e],[true],none,0,0,fun _ _=>true,none,[],[],[]⟩
theorem xZhP:xZgU.Ok prog:=⟨Is.of (by kernel_rfl) (by kernel_rfl),by kernel_rfl,xZ5 sb_ok bo_ok,trivial,trivial,fun _=>by kernel_rfl⟩
theorem xZhf (N:Nat):xZ9d.Ok prog N:=xZhP.give tb_ok hm N N (fun _=>⟨xZak N,xZdf N,xZhg N,trivial⟩) fun a r s h=>by
 have l0:=s.loop 0 xZ58 (xZar N) N fun next0 h0=>by
  exact fun c v=>s.seg 0 xZ58 [(0,.of xZ58 next0)] ⟨h0,trivial⟩ (by kernel_rfl) (by kernel_rfl)
 exact s.main [(0,.of xZ58 (xZf1 N))] ⟨l0,trivial⟩ (.trans (by kernel_rfl) h)
noncomputable def xZiG:Fn xZaL:=⟨f100,[],⟨[],[],sbf,bof⟩,fun _=>[],[false],none,0,0,fun _ _=>true,none,[],[],[]⟩
theorem xZjD:xZiG.Ok prog:=⟨Is.of (by kernel_rfl) (by kernel_rfl),by kernel_rfl,xZ5 sb_ok bo_ok,trivial,trivial,fun _=>by kernel_rfl⟩
theorem xZj1 (N:Nat):xZaL.Ok prog N:=xZjD.give tb_ok hm N N (fun _=>trivial) fun a r s h=>by
 exact s.main [] trivial (.trans (by kernel_rfl) h)
noncomputable def xZaP:Fn xZ42:=⟨f244,[],⟨[],[],sbf,bof⟩,fun _=>[],[true],none,0,0,fun _ _=>true,none,[],[],[]⟩
theorem xZb6:xZaP.Ok prog:=⟨Is.of (by kernel_rfl) (by kernel_rfl),by kernel_rfl,xZ5 sb_ok bo_ok,trivial,trivial,fun _=>by kernel_rfl⟩
theorem xZaZ (N:Nat):xZ42.Ok prog N:=xZb6.give tb_ok hm N N (fun _=>trivial) fun a r s h=>by
 exact s.main [] trivial (.trans (by kernel_rfl) h)
noncomputable def xZcd:Fn xZ4P:=⟨f245,[],⟨[],[],sbf,bof⟩,fun _=>[],[true],none,0,0,fun _ _=>true,none,[],[],[]⟩
theorem xZcy:xZcd.Ok prog:=⟨Is.of (by kernel_rfl) (by kernel_rfl),by kernel_rfl,xZ5 sb_ok bo_ok,trivial,trivial,fun _=>by kernel_rfl⟩
theorem xZcl (N:Nat):xZ4P.Ok prog N:=xZcy.give tb_ok hm N N (fun _=>trivial) fun a r s h=>by
 exact s.main [] trivial (.trans (by kernel_rfl) h)
noncomputable def xZnc:Fn xZbe:=⟨f139,[(164,.fb)],⟨[],[],sbf,bof⟩,fun _=>[],[true],none,0,0,fun _ _=>true,none,[],[],[]⟩
theorem xZo1:xZnc.Ok prog:=⟨Is.of (by kernel_rfl) (by kernel_rfl),by kernel_rfl,xZ5 sb_ok bo_ok,trivial,⟨ExtIs.mk' f164 (by kernel_rfl) (by kernel_rfl) (by kernel_rfl) (by kernel_rfl) (by kernel_rfl),trivial⟩,fun _=>by kernel_rfl⟩
theorem xZfH (N:Nat):xZbe.Ok prog N:=xZo1.give tb_ok hm N N (fun _=>trivial) fun a r s h=>by
 exact s.main [] trivial (.trans (by kernel_rfl) h)
noncomputable def xZim:Fn xZ4N:=⟨f101,[],⟨[],[],sbf,bof⟩,fun _=>[xZbe],[true],none,0,0,fun _ _=>true,none,[],[],[]⟩
theorem xZjl:xZim.Ok prog:=⟨Is.of (by kernel_rfl) (by kernel_rfl),by kernel_rfl,xZ5 sb_ok bo_ok,trivial,trivial,fun _=>by kernel_rfl⟩
theorem xZ8w (N:Nat):xZ4N.Ok prog N:=xZjl.give tb_ok hm N N (fun _=>⟨xZfH N,trivial⟩) fun a r s h=>by
 exact s.main [] trivial (.trans (by kernel_rfl) h)
noncomputable def xZaO:Fn xZ41:=⟨f246,[],⟨[],[],sbf,bof⟩,fun _=>[],[true],none,0,0,fun _ _=>true,none,[],[],[]⟩
theorem xZb5:xZaO.Ok prog:=⟨Is.of (by kernel_rfl) (by kernel_rfl),by kernel_rfl,xZ5 sb_ok bo_ok,trivial,trivial,fun _=>by kernel_rfl⟩
theorem xZaY (N:Nat):xZ41.Ok prog N:=xZb5.give tb_ok hm N N (fun _=>trivial) fun a r s h=>by
 exact s.main [] trivial (.trans (by kernel_rfl) h)
noncomputable def xZbi:Fn xZ4s:=⟨f247,[],⟨[],[],sbf,bof⟩,fun _=>[],[true],none,0,0,fun _ _=>true,none,[],[],[]⟩
theorem xZbQ:xZbi.Ok prog:=⟨Is.of (by kernel_rfl) (by kernel_rfl),by kernel_rfl,xZ5 sb_ok bo_ok,trivial,trivial,fun _=>by kernel_rfl⟩
theorem xZbp (N:Nat):xZ4s.Ok prog N:=xZbQ.give tb_ok hm N N (fun _=>trivial) fun a r s h=>by
 exact s.main [] trivial (.trans (by kernel_rfl) h)
noncomputable def xZgW:Fn xZ5g:=⟨f62,[],⟨[],[],sbf,bof⟩,fun _=>[xZaL,xZ42,xZ4P,xZ4N,xZ41,xZ4s],[true],none,0,0,fun _ _=>true,none,[],[],[]⟩
theorem xZhR:xZgW.Ok prog:=⟨Is.of (by kernel_rfl) (by kernel_rfl),by kernel_rfl,xZ5 sb_ok bo_ok,trivial,trivial,fun _=>by kernel_rfl⟩
theorem xZ9v (N:Nat):xZ5g.Ok prog N:=xZhR.give tb_ok hm N N (fun _=>⟨xZj1 N,xZaZ N,xZcl N,xZ8w N,xZaY N,xZbp N,trivial⟩) fun a r s h=>by
 exact s.main [] trivial (.trans (by kernel_rfl) h)
end
end
end Go.Proofs.YtbanfalnbhcknaaGreatDoor.H
