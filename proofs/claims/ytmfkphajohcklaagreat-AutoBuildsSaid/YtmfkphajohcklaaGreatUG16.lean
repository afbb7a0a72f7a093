/- What every right program says. No premise beyond what each theorem says. -/
import Derived.Test.YtmfkphajohcklaaGreatUG15
set_option linter.all false
set_option linter.unusedSimpArgs false
set_option linter.unusedVariables false
namespace Go.Proofs.YtmfkphajohcklaaGreat.U
noncomputable section
open Go
section
open Go.Proofs.Tryz
set_option maxRecDepth 1000000
set_option maxHeartbeats 8000000
def D9 (f:FuncId):List (aB tb):=match Nat.beq f 21 with|true=>[kv tb 21 [97,58,116,59,32,40,33,98,58,117,32,124,32,33,99,58,117,41,59,32,100,58,116] (.aL [.agg [.sl 4 ([⟨3,0⟩,⟨2,0⟩,⟨3,0⟩,⟨4,0⟩,⟨2,1⟩,⟨2,2⟩,⟨2,3⟩]:List ai),.sl 2 ([⟨false,[97],[116],[]⟩,⟨true,[98],[117],[]⟩,⟨true,[99],[117],[]⟩,⟨false,[100],[116],[]⟩]:List aA),.int .i64 9,.str [],.int .u8 1],.agg [.sl 14 ([⟨0,0⟩]:List aa),.sl 16 ([[⟨3,2⟩,⟨3,4⟩],[],[],[]]:List (List aa)),.sl 17 ([[],[],[],[0]]:List (List Int))],.int .i64 0]),kv tb 21 [97,58,116,59,32,40,33,98,58,117,59,32,99,58,116,41,42,59,32,33,100,58,117] (.aL [.agg [.sl 4 ([⟨3,0⟩,⟨2,0⟩,⟨3,0⟩,⟨4,0⟩,⟨5,0⟩,⟨3,0⟩,⟨2,1⟩,⟨2,2⟩,⟨1,0⟩,⟨2,3⟩]:List ai),.sl 2 ([⟨false,[97],[116],[]⟩,⟨true,[98],[117],[]⟩,⟨false,[99],[116],[]⟩,⟨true,[100],[117],[]⟩]:List aA),.int .i64 9,.str [],.int .u8 1],.agg [.sl 14 ([⟨0,0⟩]:List aa),.sl 16 ([[⟨2,2⟩],[],[⟨2,2⟩],[]]:List (List aa)),.sl 17 ([[8],[],[8],[]]:List (List Int))],.int .i64 0]),kv tb 21 [33,97,58,116,59,32,98,58,116] (.aL [.agg [.sl 4 ([⟨3,0⟩,⟨2,0⟩,⟨2,1⟩]:List ai),.sl 2 ([⟨true,[97],[116],[]⟩,⟨false,[98],[116],[]⟩]:List aA),.int .i64 9,.str [],.int .u8 1],.agg [.sl 14 ([]:List aa),.sl 16 ([]:List (List aa)),.sl 17 ([]:List (List Int))],.int .i64 17]),kv tb 21 [97,58,116,42] (.aL [.agg [.sl 4 ([⟨4,0⟩,⟨5,0⟩,⟨2,0⟩,⟨1,0⟩]:List ai),.sl 2 ([⟨false,[97],[116],[]⟩]:List aA),.int .i64 9,.str [],.int .u8 1],.agg [.sl 14 ([]:List aa),.sl 16 ([]:List (List aa)),.sl 17 ([]:List (List Int))],.int .i64 16])]|false=>wm f
theorem ajQ (f:FuncId):hP prog 1000 (D9 f):=by
 unfold D9;split
 ·exact⟨W6,W7,W8,W9,trivial⟩
 exact RP 1000 f
def K9:UT T:=(.node (.node (.node (.node (.node (.node (.node .nil 7 wh .nil) 16 De .nil) 22 DG (.node (.node .nil 32 DH .nil) 33 DI .nil)) 37 DJ (.node (.node (.node .nil 38 DK .nil) 39 DL .nil) 40 DM (.node (.node .nil 41 DN .nil) 42 DO .nil))) 55 DP (.node (.node (.node (.node .nil 56 DQ .nil) 57 DR .nil) 58 DS (.node (.node .nil 59 DT .nil) 61 DU .nil)) 74 DV (.node (.node (.node .nil 76 DW .nil) 77 DX .nil) 78 DY (.node .nil 79 DZ .nil)))) 80 D0 (.node (.node (.node (.node (.node .nil 81 D1 .nil) 83 D2 .nil) 84 D3 (.node (.node .nil 85 D4 .nil) 86 D5 .nil)) 87 D6 (.node (.node (.node .nil 88 D7 .nil) 89 D8 .nil) 111 CI (.node .nil 112 CJ .nil))) 113 CK (.node (.node (.node (.node .nil 115 CL .nil) 116 CM .nil) 119 CN (.node (.node .nil 120 CO .nil) 121 CP .nil)) 122 CQ (.node (.node (.node .nil 123 CR .nil) 124 CS .nil) 125 CU (.node .nil 126 CV .nil))))) 127 CW (.node (.node (.node (.node (.node (.node .nil 128 CX .nil) 129 CY .nil) 130 CZ (.node (.node .nil 131 C0 .nil) 133 C1 .nil)) 134 C2 (.node (.node (.node .nil 143 C3 .nil) 144 C4 .nil) 145 C5 (.node (.node .nil 146 C6 .nil) 148 C7 .nil))) 154 C8 (.node (.node (.node (.node .nil 155 C9 .nil) 156 Da .nil) 157 Db (.node (.node .nil 158 Dc .nil) 159 Dd .nil)) 160 Df (.node (.node (.node .nil 165 Dg .nil) 166 Dh .nil) 167 Di (.node .nil 170 Dj .nil)))) 171 Dk (.node (.node (.node (.node (.node .nil 172 Dl .nil) 173 Dm .nil) 175 Dn (.node (.node .nil 176 Do .nil) 177 Dp .nil)) 179 Dq (.node (.node (.node .nil 180 Dr .nil) 181 Ds .nil) 182 Dt (.node .nil 183 Du .nil))) 184 Dv (.node (.node (.node (.node .nil 185 Dw .nil) 186 Dx .nil) 187 Dy (.node (.node .nil 188 Dz .nil) 189 DA .nil)) 191 DB (.node (.node (.node .nil 192 DC .nil) 193 DD .nil) 195 DE (.node .nil 213 DF .nil))))))
theorem ajT:K9.Ok tb prog:=⟨⟨⟨⟨⟨⟨⟨trivial,wn,trivial⟩,KF,trivial⟩,KG,⟨⟨trivial,KH,trivial⟩,KI,trivial⟩⟩,KJ,⟨⟨⟨trivial,KK,trivial⟩,KL,trivial⟩,KM,⟨⟨trivial,KN,trivial⟩,KO,trivial⟩⟩⟩,KP,⟨⟨⟨⟨trivial,KQ,trivial⟩,KR,trivial⟩,KS,⟨⟨trivial,KT,trivial⟩,KU,trivial⟩⟩,KV,⟨⟨⟨trivial,KW,trivial⟩,KX,trivial⟩,KY,⟨trivial,KZ,trivial⟩⟩⟩⟩,K0,⟨⟨⟨⟨⟨trivial,K1,trivial⟩,K2,trivial⟩,K3,⟨⟨trivial,K4,trivial⟩,K5,trivial⟩⟩,K6,⟨⟨⟨trivial,K7,trivial⟩,K8,trivial⟩,RR,⟨trivial,RS,trivial⟩⟩⟩,RT,⟨⟨⟨⟨trivial,RU,trivial⟩,Sp,trivial⟩,Sq,⟨⟨trivial,Sr,trivial⟩,Ss,trivial⟩⟩,St,⟨⟨⟨trivial,Su,trivial⟩,Sv,trivial⟩,Sw,⟨trivial,Sx,trivial⟩⟩⟩⟩⟩,Sy,⟨⟨⟨⟨⟨⟨trivial,Sz,trivial⟩,SA,trivial⟩,SB,⟨⟨trivial,SD,trivial⟩,SF,trivial⟩⟩,SG,⟨⟨⟨trivial,SH,trivial⟩,SJ,trivial⟩,SK,⟨⟨trivial,SM,trivial⟩,SN,trivial⟩⟩⟩,SQ,⟨⟨⟨⟨trivial,SR,trivial⟩,SS,trivial⟩,ST,⟨⟨trivial,SU,trivial⟩,RV,trivial⟩⟩,RW,⟨⟨⟨trivial,RX,trivial⟩,RY,trivial⟩,RZ,⟨trivial,R0,trivial⟩⟩⟩⟩,R4,⟨⟨⟨⟨⟨trivial,R5,trivial⟩,R6,trivial⟩,R7,⟨⟨trivial,R8,trivial⟩,R9,trivial⟩⟩,Sa,⟨⟨⟨trivial,Sb,trivial⟩,Sc,trivial⟩,Sd,⟨trivial,Se,trivial⟩⟩⟩,Sf,⟨⟨⟨⟨trivial,Sg,trivial⟩,Sh,trivial⟩,Si,⟨⟨trivial,Sj,trivial⟩,Sl,trivial⟩⟩,Sm,⟨⟨⟨trivial,Sn,trivial⟩,So,trivial⟩,SV,⟨trivial,SW,trivial⟩⟩⟩⟩⟩⟩
theorem W0:ga tb 100000 prog lX (pm tb 100000 prog lX D9 K9 1000 1000) 1000 wh [true] (kw tb) cP.q1 [] ⟨[],[]⟩=some (.bool true):=by kernel_rfl
theorem acp (N:Nat):N6.Ok prog N:=⟨wn.is.enters,λa r h=>by
 cases h;exact Ay (o:=kw tb) wn aq hm oh (Hw aq hm oh ajQ ajT 1000) W0⟩
end
section
open Go.Proofs.Tryz
set_option maxRecDepth 1000000
noncomputable section
def aej:Fn GI:=⟨f25,[],⟨[(28,1)],[],au,ar⟩,λ_=>[],[true],none,0,0,λ_ _=>true,none,[],[],[]⟩
theorem aeN:aej.Ok prog:=⟨Is.of (by kernel_rfl) (by kernel_rfl),by kernel_rfl,ay ax aw,trivial,trivial,λ_=>by kernel_rfl⟩
theorem aeu (N:Nat):GI.Ok prog N:=aeN.give aq hm N N (λ_=>trivial) λa r s h=>by
 have l0:=s.loop 0 zz (N8 N) N λac h0=>by
  exact λc v=>s.seg 0 zz [(0,.of zz ac)] ⟨h0,trivial⟩ (by kernel_rfl) (by kernel_rfl)
 exact s.main [(0,.of zz (adz N))] ⟨l0,trivial⟩ (.trans (by kernel_rfl) h)
def aek:Fn GJ:=⟨f9,[],⟨[(28,4),(55,2)],[],au,ar⟩,λ_=>[GI],[true],none,0,0,λ_ _=>true,none,[],[],[]⟩
theorem aeO:aek.Ok prog:=⟨Is.of (by kernel_rfl) (by kernel_rfl),by kernel_rfl,ay ax aw,trivial,trivial,λ_=>by kernel_rfl⟩
theorem aev (N:Nat):GJ.Ok prog N:=aeO.give aq hm N N (λ_=>⟨aeu N,trivial⟩) λa r s h=>by
 have l2:=s.loop 2 zf (Oa N) N λaH h2=>by
  exact λc v=>s.seg 2 zf [(2,.of zf aH)] ⟨h2,trivial⟩ (by kernel_rfl) (by kernel_rfl)
 have l0:=s.loop 0 zA (N9 N) N λac h0=>by
  exact λc v=>s.seg 0 zA [(0,.of zA ac),(2,.of zf (adB N))] ⟨h0,l2,trivial⟩ (by kernel_rfl) (by kernel_rfl)
 exact s.main [(0,.of zA (adA N))] ⟨l0,trivial⟩ (.trans (by kernel_rfl) h)
def adk:Fn Gw:=⟨f48,[],⟨[],[],au,ar⟩,λ_=>[zC],[true],none,0,0,λ_ _=>true,none,[],[],[]⟩
theorem adO:adk.Ok prog:=⟨Is.of (by kernel_rfl) (by kernel_rfl),by kernel_rfl,ay ax aw,trivial,trivial,λ_=>by kernel_rfl⟩
theorem adZ (N:Nat):Gw.Ok prog N:=adO.give aq hm N N (λ_=>⟨Ol N,trivial⟩) λa r s h=>by
 have l0:=s.loop 0 sD (NW N) N λac h0=>by
  have l2:=s.loop 2 yS (NX N ac) N λaH h2=>by
   exact λc v=>s.seg 2 yS [(0,.of sD ac),(2,.of yS aH)] ⟨h0,h2,trivial⟩ (by kernel_rfl) (by kernel_rfl)
  exact λc v=>s.seg 0 sD [(0,.of sD ac),(2,.of yS (acM N ac))] ⟨h0,l2,trivial⟩ (by kernel_rfl) (by kernel_rfl)
 exact s.main [(0,.of sD (acL N))] ⟨l0,trivial⟩ (.trans (by kernel_rfl) h)
def abL:Fn FN:=⟨f68,[],⟨[(2000012,10),(2000016,10),(2000019,10)],[],au,ar⟩,λ_=>[],[true],none,0,0,λ_ _=>true,none,[],[],[]⟩
theorem ab4:abL.Ok prog:=⟨Is.of (by kernel_rfl) (by kernel_rfl),by kernel_rfl,ay ax aw,trivial,trivial,λ_=>by kernel_rfl⟩
theorem abQ (N:Nat):FN.Ok prog N:=ab4.give aq hm N N (λ_=>trivial) λa r s h=>by
 have l0:=s.loop 0 yo (Ng N) N λac h0=>by
  exact λc v=>s.seg 0 yo [(0,.of yo ac)] ⟨h0,trivial⟩ (by kernel_rfl) (by kernel_rfl)
 exact s.main [(0,.of yo (abl N))] ⟨l0,trivial⟩ (.trans (by kernel_rfl) h)
def ae2:Fn tj:=⟨f49,[],⟨[(2000031,10),(2000035,10),(2000083,10)],[(86,⟨19,((ah.c false):ah Bool),32⟩)],au,ar⟩,λ_=>[tj,sL,FN],[true],none,0,0,λ_ _=>true,some bw.cls,[],[],[]⟩
theorem OO:ae2.Ok prog:=⟨Is.of (by kernel_rfl) (by kernel_rfl),by kernel_rfl,ay ax aw,⟨⟨[0,0,0,0,0,0,0,0,0,0,0,0,0,0,0,0,0,0,0,0,0,0,0,0,0,0,0,0,0,0,0,0],by kernel_rfl⟩,trivial⟩,trivial,λ_=>by kernel_rfl⟩
theorem Ox:∀N,tj.Ok prog N
 | 0=>⟨OO.is.enters,λa r h=>by(have h:none=some r:=h;cases h)⟩
 | N+1=>by
   obtain Ur:=Ox N
   ·exact OO.give aq hm N (N+1) (λ_=>⟨Ur,GC N,abQ N,trivial⟩) λa r s h=>by
     have l0:=s.loop 0 zJ (Oq N) N λac h0=>by
      exact λc v=>s.seg 0 zJ [(0,.of zJ ac)] ⟨h0,trivial⟩ (by kernel_rfl) (by kernel_rfl)
     exact s.main [(0,.of zJ (adU N))] ⟨l0,trivial⟩ (.trans (by kernel_rfl) h)
theorem aeE (N:Nat):tj.Ok prog N:=(Ox N)
def acd:Fn F3:=⟨f26,[],⟨[],[],au,ar⟩,λ_=>[Gw,tj],[true,true],none,0,0,λ_ _=>true,none,[],[],[]⟩
theorem ac3:acd.Ok prog:=⟨Is.of (by kernel_rfl) (by kernel_rfl),by kernel_rfl,ay ax aw,trivial,trivial,λ_=>by kernel_rfl⟩
theorem acs (N:Nat):F3.Ok prog N:=ac3.give aq hm N N (λ_=>⟨adZ N,aeE N,trivial⟩) λa r s h=>by
 exact s.main [] trivial (.trans (by kernel_rfl) h)
def adn:Fn Gy:=⟨f27,[],⟨[(2000013,10),(2000037,10),(2000041,10),(2000049,10),(2000061,10),(2000063,10)],[],au,ar⟩,λ_=>[],[true],none,0,0,λ_ _=>true,none,[],[],[]⟩
theorem adQ:adn.Ok prog:=⟨Is.of (by kernel_rfl) (by kernel_rfl),by kernel_rfl,ay ax aw,trivial,trivial,λ_=>by kernel_rfl⟩
theorem ad2 (N:Nat):Gy.Ok prog N:=adQ.give aq hm N N (λ_=>trivial) λa r s h=>by
 have l0:=s.loop 0 sG (NA N) N λac h0=>by
  have l2:=s.loop 2 sH (NB N ac) N λaH h2=>by
   have l4:=s.loop 4 yV (NC N aH) N λaX h4=>by
    exact λc v=>s.seg 4 yV [(2,.of sH aH),(4,.of yV aX)] ⟨h2,h4,trivial⟩ (by kernel_rfl) (by kernel_rfl)
   exact λc v=>s.seg 2 sH [(0,.of sG ac),(2,.of sH aH),(4,.of yV (acT N aH))] ⟨h0,h2,l4,trivial⟩ (by kernel_rfl) (by kernel_rfl)
  exact λc v=>s.seg 0 sG [(0,.of sG ac),(2,.of sH (acS N ac))] ⟨h0,l2,trivial⟩ (by kernel_rfl) (by kernel_rfl)
 exact s.main [(0,.of sG (acR N))] ⟨l0,trivial⟩ (.trans (by kernel_rfl) h)
def adp:Fn zE:=⟨f51,[],⟨[],[],au,ar⟩,λ_=>[],[true],none,0,0,λ_ _=>true,none,[],[],[]⟩
theorem adS:adp.Ok prog:=⟨Is.of (by kernel_rfl) (by kernel_rfl),by kernel_rfl,ay ax aw,trivial,trivial,λ_=>by kernel_rfl⟩
theorem On (N:Nat):zE.Ok prog N:=adS.give aq hm N N (λ_=>trivial) λa r s h=>by
 exact s.main [] trivial (.trans (by kernel_rfl) h)
def aen:Fn zR:=⟨f70,[],⟨[],[],au,ar⟩,λ_=>[],[true],none,0,0,λ_ _=>true,none,[],[],[]⟩
theorem aeR:aen.Ok prog:=⟨Is.of (by kernel_rfl) (by kernel_rfl),by kernel_rfl,ay ax aw,trivial,trivial,λ_=>by kernel_rfl⟩
theorem Ow (N:Nat):zR.Ok prog N:=aeR.give aq hm N N (λ_=>trivial) λa r s h=>by
 have l0:=s.loop 0 zh (Oc N) N λac h0=>by
  exact λc v=>s.seg 0 zh [(0,.of zh ac)] ⟨h0,trivial⟩ (by kernel_rfl) (by kernel_rfl)
 exact s.main [(0,.of zh (adD N))] ⟨l0,trivial⟩ (.trans (by kernel_rfl) h)
def aeo:Fn GM:=⟨f69,[],⟨[],[],au,ar⟩,λ_=>[zR],[true],none,0,0,λ_ _=>true,none,[],[],[]⟩
theorem aeS:aeo.Ok prog:=⟨Is.of (by kernel_rfl) (by kernel_rfl),by kernel_rfl,ay ax aw,trivial,trivial,λ_=>by kernel_rfl⟩
theorem aey (N:Nat):GM.Ok prog N:=aeS.give aq hm N N (λ_=>⟨Ow N,trivial⟩) λa r s h=>by
 exact s.main [] trivial (.trans (by kernel_rfl) h)
def acf:Fn F5:=⟨f71,[],⟨[],[],au,ar⟩,λ_=>[],[true],none,0,0,λ_ _=>true,none,[],[],[]⟩
theorem adt:acf.Ok prog:=⟨Is.of (by kernel_rfl) (by kernel_rfl),by kernel_rfl,ay ax aw,trivial,trivial,λ_=>by kernel_rfl⟩
theorem acv (N:Nat):F5.Ok prog N:=adt.give aq hm N N (λ_=>trivial) λa r s h=>by
 have l0:=s.loop 0 yf (Nv N) N λac h0=>by
  exact λc v=>s.seg 0 yf [(0,.of yf ac)] ⟨h0,trivial⟩ (by kernel_rfl) (by kernel_rfl)
 exact s.main [(0,.of yf (abH N))] ⟨l0,trivial⟩ (.trans (by kernel_rfl) h)
def acg:Fn F6:=⟨f50,[],⟨[(13,21),(77,21),(2000043,10)],[],au,ar⟩,λ_=>[zE,GM,zR,F5],[true],none,0,0,λ_ _=>true,none,[],[],[]⟩
theorem adu:acg.Ok prog:=⟨Is.of (by kernel_rfl) (by kernel_rfl),by kernel_rfl,ay ax aw,trivial,trivial,λ_=>by kernel_rfl⟩
theorem acw (N:Nat):F6.Ok prog N:=adu.give aq hm N N (λ_=>⟨On N,aey N,Ow N,acv N,trivial⟩) λa r s h=>by
 have l0:=s.loop 0 sy (Nw N) N λac h0=>by
  have l2:=s.loop 2 yg (Nx N ac) N λaH h2=>by
   exact λc v=>s.seg 2 yg [(0,.of sy ac),(2,.of yg aH)] ⟨h0,h2,trivial⟩ (by kernel_rfl) (by kernel_rfl)
  exact λc v=>s.seg 0 sy [(0,.of sy ac),(2,.of yg (abJ N ac))] ⟨h0,l2,trivial⟩ (by kernel_rfl) (by kernel_rfl)
 exact s.main [(0,.of sy (abI N))] ⟨l0,trivial⟩ (.trans (by kernel_rfl) h)
def abM:Fn FO:=⟨f72,[],⟨[],[],au,ar⟩,λ_=>[],[true],none,0,0,λ_ _=>true,none,[],[],[]⟩
theorem ab5:abM.Ok prog:=⟨Is.of (by kernel_rfl) (by kernel_rfl),by kernel_rfl,ay ax aw,trivial,trivial,λ_=>by kernel_rfl⟩
theorem abR (N:Nat):FO.Ok prog N:=ab5.give aq hm N N (λ_=>trivial) λa r s h=>by
 exact s.main [] trivial (.trans (by kernel_rfl) h)
def ado:Fn Gz:=⟨f52,[],⟨[(34,14),(40,14)],[],au,ar⟩,λ_=>[FO],[true],none,0,0,λ_ _=>true,some bw.cls,[],[],[]⟩
theorem adR:ado.Ok prog:=⟨Is.of (by kernel_rfl) (by kernel_rfl),by kernel_rfl,ay ax aw,trivial,trivial,λ_=>by kernel_rfl⟩
theorem ad3 (N:Nat):Gz.Ok prog N:=adR.give aq hm N N (λ_=>⟨abR N,trivial⟩) λa r s h=>by
 have l0:=s.loop 0 yW (ND N) N λac h0=>by
  exact λc v=>s.seg 0 yW [(0,.of yW ac)] ⟨h0,trivial⟩ (by kernel_rfl) (by kernel_rfl)
 exact s.main [(0,.of yW (acU N))] ⟨l0,trivial⟩ (.trans (by kernel_rfl) h)
end
end
section
open Go.Proofs.Tryz
set_option maxRecDepth 1000000
noncomputable section
def ae3:Fn GV:=⟨f28,[],⟨[(2000045,10),(2000071,10)],[],au,ar⟩,λ_=>[F6,zE,Gz],[true,true,true],none,0,0,λ_ _=>true,none,[],[],[]⟩
theorem afo:ae3.Ok prog:=⟨Is.of (by kernel_rfl) (by kernel_rfl),by kernel_rfl,ay ax aw,trivial,trivial,λ_=>by kernel_rfl⟩
theorem aeF (N:Nat):GV.Ok prog N:=afo.give aq hm N N (λ_=>⟨acw N,On N,ad3 N,trivial⟩) λa r s h=>by
 have l0:=s.loop 0 sM (Or N) N λac h0=>by
  have l2:=s.loop 2 zK (Ot N ac) N λaH h2=>by
   exact λc v=>s.seg 2 zK [(0,.of sM ac),(2,.of zK aH)] ⟨h0,h2,trivial⟩ (by kernel_rfl) (by kernel_rfl)
  exact λc v=>s.seg 0 sM [(0,.of sM ac),(2,.of zK (adW N ac))] ⟨h0,l2,trivial⟩ (by kernel_rfl) (by kernel_rfl)
 exact s.main [(0,.of sM (adV N))] ⟨l0,trivial⟩ (.trans (by kernel_rfl) h)
def ace:Fn F4:=⟨f10,[],⟨[(57,14),(100,11),(105,16),(111,17),(2000039,10),(2000051,10)],[],au,ar⟩,λ_=>[F3,Gy,GV],[true,true],none,0,0,λ_ _=>true,none,[],[],[]⟩
theorem ads:ace.Ok prog:=⟨Is.of (by kernel_rfl) (by kernel_rfl),by kernel_rfl,ay ax aw,trivial,trivial,λ_=>by kernel_rfl⟩
theorem acu (N:Nat):F4.Ok prog N:=ads.give aq hm N N (λ_=>⟨acs N,ad2 N,aeF N,trivial⟩) λa r s h=>by
 have l2:=s.loop 2 pB (Nt N) N λaH h2=>by
  have l4:=s.loop 4 ye (Nu N aH) N λaX h4=>by
   exact λc v=>s.seg 4 ye [(2,.of pB aH),(4,.of ye aX)] ⟨h2,h4,trivial⟩ (by kernel_rfl) (by kernel_rfl)
  have Wv:=s.loop 4 xV (Nb N aH) N λKm Ul=>by
   exact λc v=>s.seg 4 xV [(2,.of pB aH),(4,.of xV Km)] ⟨h2,Ul,trivial⟩ (by kernel_rfl) (by kernel_rfl)
  exact λc v=>s.seg 2 pB [(2,.of pB aH),(4,.of xV (aa9 N aH)),(4,.of ye (abG N aH))] ⟨h2,Wv,l4,trivial⟩ (by kernel_rfl) (by kernel_rfl)
 have l0:=s.loop 0 yd (Ns N) N λac h0=>by
  exact λc v=>s.seg 0 yd [(0,.of yd ac),(2,.of pB (abE N))] ⟨h0,l2,trivial⟩ (by kernel_rfl) (by kernel_rfl)
 exact s.main [(0,.of yd (abD N))] ⟨l0,trivial⟩ (.trans (by kernel_rfl) h)
def ael:Fn GK:=⟨f29,[],⟨[(16,14)],[],au,ar⟩,λ_=>[],[true],none,0,0,λ_ _=>true,none,[],[],[]⟩
theorem aeP:ael.Ok prog:=⟨Is.of (by kernel_rfl) (by kernel_rfl),by kernel_rfl,ay ax aw,trivial,trivial,λ_=>by kernel_rfl⟩
theorem aew (N:Nat):GK.Ok prog N:=aeP.give aq hm N N (λ_=>trivial) λa r s h=>by
 have l0:=s.loop 0 zg (Ob N) N λac h0=>by
  exact λc v=>s.seg 0 zg [(0,.of zg ac)] ⟨h0,trivial⟩ (by kernel_rfl) (by kernel_rfl)
 exact s.main [(0,.of zg (adC N))] ⟨l0,trivial⟩ (.trans (by kernel_rfl) h)
def adb:Fn Gu:=⟨f12,[],⟨[(25,16),(37,11),(44,17),(1000043,11)],[],au,ar⟩,λ_=>[GK],[true],none,0,0,λ_ _=>true,some bw.cls,[],[],[]⟩
theorem aed:adb.Ok prog:=⟨Is.of (by kernel_rfl) (by kernel_rfl),by kernel_rfl,ay ax aw,trivial,trivial,λ_=>by kernel_rfl⟩
theorem adJ (N:Nat):Gu.Ok prog N:=aed.give aq hm N N (λ_=>⟨aew N,trivial⟩) λa r s h=>by
 have l2:=s.loop 2 yP (NT N) N λaH h2=>by
  exact λc v=>s.seg 2 yP [(2,.of yP aH)] ⟨h2,trivial⟩ (by kernel_rfl) (by kernel_rfl)
 have l0:=s.loop 0 yO (NS N) N λac h0=>by
  exact λc v=>s.seg 0 yO [(0,.of yO ac),(2,.of yP (acI N))] ⟨h0,l2,trivial⟩ (by kernel_rfl) (by kernel_rfl)
 exact s.main [(0,.of yO (acH N))] ⟨l0,trivial⟩ (.trans (by kernel_rfl) h)
def adl:Fn Gx:=⟨f11,[],⟨[(11,16),(17,16),(19,16),(25,16)],[],au,ar⟩,λ_=>[],[true],none,0,0,λ_ _=>true,some bw.cls,[],[54,81],[]⟩
theorem adP:adl.Ok prog:=⟨Is.of (by kernel_rfl) (by kernel_rfl),by kernel_rfl,ay ax aw,trivial,trivial,λ_=>by kernel_rfl⟩
theorem ad1 (N:Nat):Gx.Ok prog N:=adP.give aq hm N N (λ_=>trivial) λa r s h=>by
 have l4:=s.loop 4 sF (N0 N) N λaX h4=>by
  have l6:=s.loop 6 yU (Nz N aX) N λeQ h6=>by
   exact λc v=>s.seg 6 yU [(4,.of sF aX),(6,.of yU eQ)] ⟨h4,h6,trivial⟩ (by kernel_rfl) (by kernel_rfl)
  exact λc v=>s.seg 4 sF [(4,.of sF aX),(6,.of yU (acQ N aX))] ⟨h4,l6,trivial⟩ (by kernel_rfl) (by kernel_rfl)
 have l0:=s.loop 0 sE (NY N) N λac h0=>by
  have l2:=s.loop 2 yT (NZ N ac) N λaH h2=>by
   exact λc v=>s.seg 2 yT [(0,.of sE ac),(2,.of yT aH)] ⟨h0,h2,trivial⟩ (by kernel_rfl) (by kernel_rfl)
  exact λc v=>s.seg 0 sE [(0,.of sE ac),(2,.of yT (acO N ac)),(4,.of sF (acP N))] ⟨h0,l2,l4,trivial⟩ (by kernel_rfl) (by kernel_rfl)
 have rm:=s.jn 1000081 Nj (Nl N) [(0,.of sE (acN N))] ⟨l0,trivial⟩ (by kernel_rfl) (λx=>by kernel_rfl);have rk:=s.jn 1000054 Ni (Nk N) [(1000081,.of Nj (Nl N))] ⟨rm,trivial⟩ (by kernel_rfl) (λx=>by kernel_rfl);exact s.main [(1000054,.of Ni (Nk N))] ⟨rk,trivial⟩ (.trans (by kernel_rfl) h)
def aaP:Fn M8:=⟨f3,[],⟨[],[],au,ar⟩,λ_=>[Gt,N6,GJ,zB,F4,Gu,Gx],[true],none,0,0,λ_ _=>true,none,[],[],[]⟩
theorem abe:aaP.Ok prog:=⟨Is.of (by kernel_rfl) (by kernel_rfl),by kernel_rfl,ay ax aw,trivial,trivial,λ_=>by kernel_rfl⟩
theorem aaS (N:Nat):M8.Ok prog N:=abe.give aq hm N N (λ_=>⟨adI N,acp N,aev N,GB N,acu N,adJ N,ad1 N,trivial⟩) λa r s h=>by
 exact s.main [] trivial (.trans (by kernel_rfl) h)
end
end
end
end Go.Proofs.YtmfkphajohcklaaGreat.U
