/- What every right program says. No premise beyond what each theorem says. -/
import Derived.Test.YtmfkphajohcklaaGreatUG15
set_option linter.all false
set_option linter.unusedSimpArgs false
set_option linter.unusedVariables false
namespace Go.Proofs.YtmfkphajohcklaaGreat.U
noncomputable section
open Go
section
open Go.Proofs.Tryz
set_option maxRecDepth 1000000
set_option maxHeartbeats 8000000
def D9 (f:FuncId):List (aB tb):=match Nat.beq f 21 with|true=>[kv tb 21 [97,58,116,59,32,40,33,98,58,117,32,124,32,33,99,58,117,41,59,32,100,58,116] (.aL [.agg [.sl 4 ([⟨3,0⟩,⟨2,0⟩,⟨3,0⟩,⟨4,0⟩,⟨2,1⟩,⟨2,2⟩,⟨2,3⟩]:List ai),.sl 2 ([⟨false,[97],[116],[]⟩,⟨true,[98],[117],[]⟩,⟨true,[99],[117],[]⟩,⟨false,[100],[116],[]⟩]:List aA),.int .i64 9,.str [],.int .u8 1],.agg [.sl 14 ([⟨0,0⟩]:List aa),.sl 16 ([[⟨3,2⟩,⟨3,4⟩],[],[],[]]:List (List aa)),.sl 17 ([[],[],[],[0]]:List (List Int))],.int .i64 0]),kv tb 21 [97,58,116,59,32,40,33,98,58,117,59,32,99,58,116,41,42,59,32,33,100,58,117] (.aL [.agg [.sl 4 ([⟨3,0⟩,⟨2,0⟩,⟨3,0⟩,⟨4,0⟩,⟨5,0⟩,⟨3,0⟩,⟨2,1⟩,⟨2,2⟩,⟨1,0⟩,⟨2,3⟩]:List ai),.sl 2 ([⟨false,[97],[116],[]⟩,⟨true,[98],[117],[]⟩,⟨false,[99],[116],[]⟩,⟨true,[100],[117],[]⟩]:List aA),.int .i64 9,.str [],.int .u8 1],.agg [.sl 14 ([⟨0,0⟩]:List aa),.sl 16 ([[⟨2,2⟩],[],[⟨2,2⟩],[]]:List (List aa)),.sl 17 ([[8],[],[8],[]]:List (List Int))],.int .i64 0]),kv tb 21 [33,97,58,116,59,32,98,58,116] (.aL [.agg [.sl 4 ([⟨3,0⟩,⟨2,0⟩,⟨2,1⟩]:List ai),.sl 2 ([⟨true,[97],[116],[]⟩,⟨false,[98],[116],[]⟩]:List aA),.int .i64 9,.str [],.int .u8 1],.agg [.sl 14 ([]:List aa),.sl 16 ([]:List (List aa)),.sl 17 ([]:List (List Int))],.int .i64 17]),kv tb 21 [97,58,116,42] (.aL [.agg [.sl 4 ([⟨4,0⟩,⟨5,0⟩,⟨2,0⟩,⟨1,0⟩]:List ai),.sl 2 ([⟨false,[97],[116],[]⟩]:List aA),.int .i64 9,.str [],.int .u8 1],.agg [.sl 14 ([]:List aa),.sl 16 ([]:List (List aa)),.sl 17 ([]:List (List Int))],.int .i64 16])]|false=>wm f
theorem ajO (f:FuncId):hP prog 1000 (D9 f):=by
 unfold D9;split
 ·exact⟨W4,W5,W6,W7,trivial⟩
 exact RN 1000 f
def K8:UT T:=(.node (.node (.node (.node (.node (.node (.node .nil 7 wh .nil) 16 De .nil) 22 DG (.node (.node .nil 32 DH .nil) 33 DI .nil)) 37 DJ (.node (.node (.node .nil 38 DK .nil) 39 DL .nil) 40 DM (.node (.node .nil 41 DN .nil) 42 DO .nil))) 55 DP (.node (.node (.node (.node .nil 56 DQ .nil) 57 DR .nil) 58 DS (.node (.node .nil 59 DT .nil) 61 DU .nil)) 74 DV (.node (.node (.node .nil 76 DW .nil) 77 DX .nil) 78 DY (.node .nil 79 DZ .nil)))) 80 D0 (.node (.node (.node (.node (.node .nil 81 D1 .nil) 83 D2 .nil) 84 D3 (.node (.node .nil 85 D4 .nil) 86 D5 .nil)) 87 D6 (.node (.node (.node .nil 88 D7 .nil) 89 D8 .nil) 111 CI (.node .nil 112 CJ .nil))) 113 CK (.node (.node (.node (.node .nil 115 CL .nil) 116 CM .nil) 119 CN (.node (.node .nil 120 CO .nil) 121 CP .nil)) 122 CQ (.node (.node (.node .nil 123 CR .nil) 124 CS .nil) 125 CU (.node .nil 126 CV .nil))))) 127 CW (.node (.node (.node (.node (.node (.node .nil 128 CX .nil) 129 CY .nil) 130 CZ (.node (.node .nil 131 C0 .nil) 133 C1 .nil)) 134 C2 (.node (.node (.node .nil 143 C3 .nil) 144 C4 .nil) 145 C5 (.node (.node .nil 146 C6 .nil) 148 C7 .nil))) 154 C8 (.node (.node (.node (.node .nil 155 C9 .nil) 156 Da .nil) 157 Db (.node (.node .nil 158 Dc .nil) 159 Dd .nil)) 160 Df (.node (.node (.node .nil 165 Dg .nil) 166 Dh .nil) 167 Di (.node .nil 170 Dj .nil)))) 171 Dk (.node (.node (.node (.node (.node .nil 172 Dl .nil) 173 Dm .nil) 175 Dn (.node (.node .nil 176 Do .nil) 177 Dp .nil)) 179 Dq (.node (.node (.node .nil 180 Dr .nil) 181 Ds .nil) 182 Dt (.node .nil 183 Du .nil))) 184 Dv (.node (.node (.node (.node .nil 185 Dw .nil) 186 Dx .nil) 187 Dy (.node (.node .nil 188 Dz .nil) 189 DA .nil)) 191 DB (.node (.node (.node .nil 192 DC .nil) 193 DD .nil) 195 DE (.node .nil 213 DF .nil))))))
theorem ajR:K8.Ok tb prog:=⟨⟨⟨⟨⟨⟨⟨trivial,wn,trivial⟩,KE,trivial⟩,KF,⟨⟨trivial,KG,trivial⟩,KH,trivial⟩⟩,KI,⟨⟨⟨trivial,KJ,trivial⟩,KK,trivial⟩,KL,⟨⟨trivial,KM,trivial⟩,KN,trivial⟩⟩⟩,KO,⟨⟨⟨⟨trivial,KP,trivial⟩,KQ,trivial⟩,KR,⟨⟨trivial,KS,trivial⟩,KT,trivial⟩⟩,KU,⟨⟨⟨trivial,KV,trivial⟩,KW,trivial⟩,KX,⟨trivial,KY,trivial⟩⟩⟩⟩,KZ,⟨⟨⟨⟨⟨trivial,K0,trivial⟩,K1,trivial⟩,K2,⟨⟨trivial,K3,trivial⟩,K4,trivial⟩⟩,K5,⟨⟨⟨trivial,K6,trivial⟩,K7,trivial⟩,RO,⟨trivial,RP,trivial⟩⟩⟩,RR,⟨⟨⟨⟨trivial,RS,trivial⟩,Sn,trivial⟩,So,⟨⟨trivial,Sp,trivial⟩,Sq,trivial⟩⟩,Sr,⟨⟨⟨trivial,Ss,trivial⟩,St,trivial⟩,Su,⟨trivial,Sv,trivial⟩⟩⟩⟩⟩,Sw,⟨⟨⟨⟨⟨⟨trivial,Sx,trivial⟩,Sy,trivial⟩,Sz,⟨⟨trivial,SA,trivial⟩,SB,trivial⟩⟩,SD,⟨⟨⟨trivial,SF,trivial⟩,SG,trivial⟩,SH,⟨⟨trivial,SJ,trivial⟩,SK,trivial⟩⟩⟩,SM,⟨⟨⟨⟨trivial,SN,trivial⟩,SQ,trivial⟩,SR,⟨⟨trivial,SS,trivial⟩,RT,trivial⟩⟩,RU,⟨⟨⟨trivial,RV,trivial⟩,RW,trivial⟩,RX,⟨trivial,RY,trivial⟩⟩⟩⟩,RZ,⟨⟨⟨⟨⟨trivial,R0,trivial⟩,R4,trivial⟩,R5,⟨⟨trivial,R6,trivial⟩,R7,trivial⟩⟩,R8,⟨⟨⟨trivial,R9,trivial⟩,Sa,trivial⟩,Sb,⟨trivial,Sc,trivial⟩⟩⟩,Sd,⟨⟨⟨⟨trivial,Se,trivial⟩,Sf,trivial⟩,Sg,⟨⟨trivial,Sh,trivial⟩,Si,trivial⟩⟩,Sj,⟨⟨⟨trivial,Sl,trivial⟩,Sm,trivial⟩,ST,⟨trivial,SU,trivial⟩⟩⟩⟩⟩⟩
theorem WY:ga tb 100000 prog lX (pm tb 100000 prog lX D9 K8 1000 1000) 1000 wh [true] (kw tb) cP.q1 [] ⟨[],[]⟩=some (.bool true):=by kernel_rfl
theorem acn (N:Nat):N4.Ok prog N:=⟨wn.is.enters,λa r h=>by
 cases h;exact Ay (o:=kw tb) wn aq hm oh (Hw aq hm oh ajO ajR 1000) WY⟩
end
section
open Go.Proofs.Tryz
set_option maxRecDepth 1000000
noncomputable section
def aeh:Fn GI:=⟨f25,[],⟨[(28,1)],[],au,ar⟩,λ_=>[],[true],none,0,0,λ_ _=>true,none,[],[],[]⟩
theorem aeL:aeh.Ok prog:=⟨Is.of (by kernel_rfl) (by kernel_rfl),by kernel_rfl,ay ax aw,trivial,trivial,λ_=>by kernel_rfl⟩
theorem aer (N:Nat):GI.Ok prog N:=aeL.give aq hm N N (λ_=>trivial) λa r s h=>by
 have l0:=s.loop 0 zz (N6 N) N λac h0=>by
  exact λc v=>s.seg 0 zz [(0,.of zz ac)] ⟨h0,trivial⟩ (by kernel_rfl) (by kernel_rfl)
 exact s.main [(0,.of zz (adx N))] ⟨l0,trivial⟩ (.trans (by kernel_rfl) h)
def aei:Fn GJ:=⟨f9,[],⟨[(28,4),(55,2)],[],au,ar⟩,λ_=>[GI],[true],none,0,0,λ_ _=>true,none,[],[],[]⟩
theorem aeM:aei.Ok prog:=⟨Is.of (by kernel_rfl) (by kernel_rfl),by kernel_rfl,ay ax aw,trivial,trivial,λ_=>by kernel_rfl⟩
theorem aes (N:Nat):GJ.Ok prog N:=aeM.give aq hm N N (λ_=>⟨aer N,trivial⟩) λa r s h=>by
 have l2:=s.loop 2 zf (N8 N) N λaH h2=>by
  exact λc v=>s.seg 2 zf [(2,.of zf aH)] ⟨h2,trivial⟩ (by kernel_rfl) (by kernel_rfl)
 have l0:=s.loop 0 zA (N7 N) N λac h0=>by
  exact λc v=>s.seg 0 zA [(0,.of zA ac),(2,.of zf (adz N))] ⟨h0,l2,trivial⟩ (by kernel_rfl) (by kernel_rfl)
 exact s.main [(0,.of zA (ady N))] ⟨l0,trivial⟩ (.trans (by kernel_rfl) h)
def adh:Fn Gw:=⟨f48,[],⟨[],[],au,ar⟩,λ_=>[zC],[true],none,0,0,λ_ _=>true,none,[],[],[]⟩
theorem adM:adh.Ok prog:=⟨Is.of (by kernel_rfl) (by kernel_rfl),by kernel_rfl,ay ax aw,trivial,trivial,λ_=>by kernel_rfl⟩
theorem adX (N:Nat):Gw.Ok prog N:=adM.give aq hm N N (λ_=>⟨Oi N,trivial⟩) λa r s h=>by
 have l0:=s.loop 0 sD (NU N) N λac h0=>by
  have l2:=s.loop 2 yS (NV N ac) N λaH h2=>by
   exact λc v=>s.seg 2 yS [(0,.of sD ac),(2,.of yS aH)] ⟨h0,h2,trivial⟩ (by kernel_rfl) (by kernel_rfl)
  exact λc v=>s.seg 0 sD [(0,.of sD ac),(2,.of yS (acK N ac))] ⟨h0,l2,trivial⟩ (by kernel_rfl) (by kernel_rfl)
 exact s.main [(0,.of sD (acJ N))] ⟨l0,trivial⟩ (.trans (by kernel_rfl) h)
def abJ:Fn FN:=⟨f68,[],⟨[(2000012,10),(2000016,10),(2000019,10)],[],au,ar⟩,λ_=>[],[true],none,0,0,λ_ _=>true,none,[],[],[]⟩
theorem ab2:abJ.Ok prog:=⟨Is.of (by kernel_rfl) (by kernel_rfl),by kernel_rfl,ay ax aw,trivial,trivial,λ_=>by kernel_rfl⟩
theorem abO (N:Nat):FN.Ok prog N:=ab2.give aq hm N N (λ_=>trivial) λa r s h=>by
 have l0:=s.loop 0 yo (Nd N) N λac h0=>by
  exact λc v=>s.seg 0 yo [(0,.of yo ac)] ⟨h0,trivial⟩ (by kernel_rfl) (by kernel_rfl)
 exact s.main [(0,.of yo (abj N))] ⟨l0,trivial⟩ (.trans (by kernel_rfl) h)
def ae0:Fn tj:=⟨f49,[],⟨[(2000031,10),(2000035,10),(2000083,10)],[(86,⟨19,((ah.c false):ah Bool),32⟩)],au,ar⟩,λ_=>[tj,sL,FN],[true],none,0,0,λ_ _=>true,some bw.cls,[],[],[]⟩
theorem OM:ae0.Ok prog:=⟨Is.of (by kernel_rfl) (by kernel_rfl),by kernel_rfl,ay ax aw,⟨⟨[0,0,0,0,0,0,0,0,0,0,0,0,0,0,0,0,0,0,0,0,0,0,0,0,0,0,0,0,0,0,0,0],by kernel_rfl⟩,trivial⟩,trivial,λ_=>by kernel_rfl⟩
theorem Ov:∀N,tj.Ok prog N
 | 0=>⟨OM.is.enters,λa r h=>by(have h:none=some r:=h;cases h)⟩
 | N+1=>by
   obtain Up:=Ov N
   ·exact OM.give aq hm N (N+1) (λ_=>⟨Up,GC N,abO N,trivial⟩) λa r s h=>by
     have l0:=s.loop 0 zJ (On N) N λac h0=>by
      exact λc v=>s.seg 0 zJ [(0,.of zJ ac)] ⟨h0,trivial⟩ (by kernel_rfl) (by kernel_rfl)
     exact s.main [(0,.of zJ (adS N))] ⟨l0,trivial⟩ (.trans (by kernel_rfl) h)
theorem aeC (N:Nat):tj.Ok prog N:=(Ov N)
def ab8:Fn F3:=⟨f26,[],⟨[],[],au,ar⟩,λ_=>[Gw,tj],[true,true],none,0,0,λ_ _=>true,none,[],[],[]⟩
theorem ac1:ab8.Ok prog:=⟨Is.of (by kernel_rfl) (by kernel_rfl),by kernel_rfl,ay ax aw,trivial,trivial,λ_=>by kernel_rfl⟩
theorem acp (N:Nat):F3.Ok prog N:=ac1.give aq hm N N (λ_=>⟨adX N,aeC N,trivial⟩) λa r s h=>by
 exact s.main [] trivial (.trans (by kernel_rfl) h)
def adk:Fn Gy:=⟨f27,[],⟨[(2000013,10),(2000037,10),(2000041,10),(2000049,10),(2000061,10),(2000063,10)],[],au,ar⟩,λ_=>[],[true],none,0,0,λ_ _=>true,none,[],[],[]⟩
theorem adO:adk.Ok prog:=⟨Is.of (by kernel_rfl) (by kernel_rfl),by kernel_rfl,ay ax aw,trivial,trivial,λ_=>by kernel_rfl⟩
theorem adZ (N:Nat):Gy.Ok prog N:=adO.give aq hm N N (λ_=>trivial) λa r s h=>by
 have l0:=s.loop 0 sG (Ny N) N λac h0=>by
  have l2:=s.loop 2 sH (Nz N ac) N λaH h2=>by
   have l4:=s.loop 4 yV (NA N aH) N λaX h4=>by
    exact λc v=>s.seg 4 yV [(2,.of sH aH),(4,.of yV aX)] ⟨h2,h4,trivial⟩ (by kernel_rfl) (by kernel_rfl)
   exact λc v=>s.seg 2 sH [(0,.of sG ac),(2,.of sH aH),(4,.of yV (acR N aH))] ⟨h0,h2,l4,trivial⟩ (by kernel_rfl) (by kernel_rfl)
  exact λc v=>s.seg 0 sG [(0,.of sG ac),(2,.of sH (acQ N ac))] ⟨h0,l2,trivial⟩ (by kernel_rfl) (by kernel_rfl)
 exact s.main [(0,.of sG (acP N))] ⟨l0,trivial⟩ (.trans (by kernel_rfl) h)
def adn:Fn zE:=⟨f51,[],⟨[],[],au,ar⟩,λ_=>[],[true],none,0,0,λ_ _=>true,none,[],[],[]⟩
theorem adQ:adn.Ok prog:=⟨Is.of (by kernel_rfl) (by kernel_rfl),by kernel_rfl,ay ax aw,trivial,trivial,λ_=>by kernel_rfl⟩
theorem Ol (N:Nat):zE.Ok prog N:=adQ.give aq hm N N (λ_=>trivial) λa r s h=>by
 exact s.main [] trivial (.trans (by kernel_rfl) h)
def ael:Fn zR:=⟨f70,[],⟨[],[],au,ar⟩,λ_=>[],[true],none,0,0,λ_ _=>true,none,[],[],[]⟩
theorem aeP:ael.Ok prog:=⟨Is.of (by kernel_rfl) (by kernel_rfl),by kernel_rfl,ay ax aw,trivial,trivial,λ_=>by kernel_rfl⟩
theorem Ou (N:Nat):zR.Ok prog N:=aeP.give aq hm N N (λ_=>trivial) λa r s h=>by
 have l0:=s.loop 0 zh (Oa N) N λac h0=>by
  exact λc v=>s.seg 0 zh [(0,.of zh ac)] ⟨h0,trivial⟩ (by kernel_rfl) (by kernel_rfl)
 exact s.main [(0,.of zh (adB N))] ⟨l0,trivial⟩ (.trans (by kernel_rfl) h)
def aem:Fn GM:=⟨f69,[],⟨[],[],au,ar⟩,λ_=>[zR],[true],none,0,0,λ_ _=>true,none,[],[],[]⟩
theorem aeQ:aem.Ok prog:=⟨Is.of (by kernel_rfl) (by kernel_rfl),by kernel_rfl,ay ax aw,trivial,trivial,λ_=>by kernel_rfl⟩
theorem aew (N:Nat):GM.Ok prog N:=aeQ.give aq hm N N (λ_=>⟨Ou N,trivial⟩) λa r s h=>by
 exact s.main [] trivial (.trans (by kernel_rfl) h)
def acd:Fn F5:=⟨f71,[],⟨[],[],au,ar⟩,λ_=>[],[true],none,0,0,λ_ _=>true,none,[],[],[]⟩
theorem adr:acd.Ok prog:=⟨Is.of (by kernel_rfl) (by kernel_rfl),by kernel_rfl,ay ax aw,trivial,trivial,λ_=>by kernel_rfl⟩
theorem acs (N:Nat):F5.Ok prog N:=adr.give aq hm N N (λ_=>trivial) λa r s h=>by
 have l0:=s.loop 0 yf (Nt N) N λac h0=>by
  exact λc v=>s.seg 0 yf [(0,.of yf ac)] ⟨h0,trivial⟩ (by kernel_rfl) (by kernel_rfl)
 exact s.main [(0,.of yf (abE N))] ⟨l0,trivial⟩ (.trans (by kernel_rfl) h)
def ace:Fn F6:=⟨f50,[],⟨[(13,21),(77,21),(2000043,10)],[],au,ar⟩,λ_=>[zE,GM,zR,F5],[true],none,0,0,λ_ _=>true,none,[],[],[]⟩
theorem ads:ace.Ok prog:=⟨Is.of (by kernel_rfl) (by kernel_rfl),by kernel_rfl,ay ax aw,trivial,trivial,λ_=>by kernel_rfl⟩
theorem acu (N:Nat):F6.Ok prog N:=ads.give aq hm N N (λ_=>⟨Ol N,aew N,Ou N,acs N,trivial⟩) λa r s h=>by
 have l0:=s.loop 0 sy (Nu N) N λac h0=>by
  have l2:=s.loop 2 yg (Nv N ac) N λaH h2=>by
   exact λc v=>s.seg 2 yg [(0,.of sy ac),(2,.of yg aH)] ⟨h0,h2,trivial⟩ (by kernel_rfl) (by kernel_rfl)
  exact λc v=>s.seg 0 sy [(0,.of sy ac),(2,.of yg (abH N ac))] ⟨h0,l2,trivial⟩ (by kernel_rfl) (by kernel_rfl)
 exact s.main [(0,.of sy (abG N))] ⟨l0,trivial⟩ (.trans (by kernel_rfl) h)
def abK:Fn FO:=⟨f72,[],⟨[],[],au,ar⟩,λ_=>[],[true],none,0,0,λ_ _=>true,none,[],[],[]⟩
theorem ab3:abK.Ok prog:=⟨Is.of (by kernel_rfl) (by kernel_rfl),by kernel_rfl,ay ax aw,trivial,trivial,λ_=>by kernel_rfl⟩
theorem abP (N:Nat):FO.Ok prog N:=ab3.give aq hm N N (λ_=>trivial) λa r s h=>by
 exact s.main [] trivial (.trans (by kernel_rfl) h)
def adl:Fn Gz:=⟨f52,[],⟨[(34,14),(40,14)],[],au,ar⟩,λ_=>[FO],[true],none,0,0,λ_ _=>true,some bw.cls,[],[],[]⟩
theorem adP:adl.Ok prog:=⟨Is.of (by kernel_rfl) (by kernel_rfl),by kernel_rfl,ay ax aw,trivial,trivial,λ_=>by kernel_rfl⟩
theorem ad1 (N:Nat):Gz.Ok prog N:=adP.give aq hm N N (λ_=>⟨abP N,trivial⟩) λa r s h=>by
 have l0:=s.loop 0 yW (NB N) N λac h0=>by
  exact λc v=>s.seg 0 yW [(0,.of yW ac)] ⟨h0,trivial⟩ (by kernel_rfl) (by kernel_rfl)
 exact s.main [(0,.of yW (acS N))] ⟨l0,trivial⟩ (.trans (by kernel_rfl) h)
end
end
section
open Go.Proofs.Tryz
set_option maxRecDepth 1000000
noncomputable section
def ae1:Fn GV:=⟨f28,[],⟨[(2000045,10),(2000071,10)],[],au,ar⟩,λ_=>[F6,zE,Gz],[true,true,true],none,0,0,λ_ _=>true,none,[],[],[]⟩
theorem afm:ae1.Ok prog:=⟨Is.of (by kernel_rfl) (by kernel_rfl),by kernel_rfl,ay ax aw,trivial,trivial,λ_=>by kernel_rfl⟩
theorem aeD (N:Nat):GV.Ok prog N:=afm.give aq hm N N (λ_=>⟨acu N,Ol N,ad1 N,trivial⟩) λa r s h=>by
 have l0:=s.loop 0 sM (Oo N) N λac h0=>by
  have l2:=s.loop 2 zK (Oq N ac) N λaH h2=>by
   exact λc v=>s.seg 2 zK [(0,.of sM ac),(2,.of zK aH)] ⟨h0,h2,trivial⟩ (by kernel_rfl) (by kernel_rfl)
  exact λc v=>s.seg 0 sM [(0,.of sM ac),(2,.of zK (adU N ac))] ⟨h0,l2,trivial⟩ (by kernel_rfl) (by kernel_rfl)
 exact s.main [(0,.of sM (adT N))] ⟨l0,trivial⟩ (.trans (by kernel_rfl) h)
def ab9:Fn F4:=⟨f10,[],⟨[(57,14),(100,11),(105,16),(111,17),(2000039,10),(2000051,10)],[],au,ar⟩,λ_=>[F3,Gy,GV],[true,true],none,0,0,λ_ _=>true,none,[],[],[]⟩
theorem adq:ab9.Ok prog:=⟨Is.of (by kernel_rfl) (by kernel_rfl),by kernel_rfl,ay ax aw,trivial,trivial,λ_=>by kernel_rfl⟩
theorem acr (N:Nat):F4.Ok prog N:=adq.give aq hm N N (λ_=>⟨acp N,adZ N,aeD N,trivial⟩) λa r s h=>by
 have l2:=s.loop 2 pB (Nr N) N λaH h2=>by
  have l4:=s.loop 4 ye (Ns N aH) N λaX h4=>by
   exact λc v=>s.seg 4 ye [(2,.of pB aH),(4,.of ye aX)] ⟨h2,h4,trivial⟩ (by kernel_rfl) (by kernel_rfl)
  have Wt:=s.loop 4 xV (M9 N aH) N λKl Uj=>by
   exact λc v=>s.seg 4 xV [(2,.of pB aH),(4,.of xV Kl)] ⟨h2,Uj,trivial⟩ (by kernel_rfl) (by kernel_rfl)
  exact λc v=>s.seg 2 pB [(2,.of pB aH),(4,.of xV (aa7 N aH)),(4,.of ye (abD N aH))] ⟨h2,Wt,l4,trivial⟩ (by kernel_rfl) (by kernel_rfl)
 have l0:=s.loop 0 yd (Nq N) N λac h0=>by
  exact λc v=>s.seg 0 yd [(0,.of yd ac),(2,.of pB (abC N))] ⟨h0,l2,trivial⟩ (by kernel_rfl) (by kernel_rfl)
 exact s.main [(0,.of yd (abB N))] ⟨l0,trivial⟩ (.trans (by kernel_rfl) h)
def aej:Fn GK:=⟨f29,[],⟨[(16,14)],[],au,ar⟩,λ_=>[],[true],none,0,0,λ_ _=>true,none,[],[],[]⟩
theorem aeN:aej.Ok prog:=⟨Is.of (by kernel_rfl) (by kernel_rfl),by kernel_rfl,ay ax aw,trivial,trivial,λ_=>by kernel_rfl⟩
theorem aeu (N:Nat):GK.Ok prog N:=aeN.give aq hm N N (λ_=>trivial) λa r s h=>by
 have l0:=s.loop 0 zg (N9 N) N λac h0=>by
  exact λc v=>s.seg 0 zg [(0,.of zg ac)] ⟨h0,trivial⟩ (by kernel_rfl) (by kernel_rfl)
 exact s.main [(0,.of zg (adA N))] ⟨l0,trivial⟩ (.trans (by kernel_rfl) h)
def ac9:Fn Gu:=⟨f12,[],⟨[(25,16),(37,11),(44,17),(1000043,11)],[],au,ar⟩,λ_=>[GK],[true],none,0,0,λ_ _=>true,some bw.cls,[],[],[]⟩
theorem aeb:ac9.Ok prog:=⟨Is.of (by kernel_rfl) (by kernel_rfl),by kernel_rfl,ay ax aw,trivial,trivial,λ_=>by kernel_rfl⟩
theorem adH (N:Nat):Gu.Ok prog N:=aeb.give aq hm N N (λ_=>⟨aeu N,trivial⟩) λa r s h=>by
 have l2:=s.loop 2 yP (NR N) N λaH h2=>by
  exact λc v=>s.seg 2 yP [(2,.of yP aH)] ⟨h2,trivial⟩ (by kernel_rfl) (by kernel_rfl)
 have l0:=s.loop 0 yO (NQ N) N λac h0=>by
  exact λc v=>s.seg 0 yO [(0,.of yO ac),(2,.of yP (acG N))] ⟨h0,l2,trivial⟩ (by kernel_rfl) (by kernel_rfl)
 exact s.main [(0,.of yO (acF N))] ⟨l0,trivial⟩ (.trans (by kernel_rfl) h)
def adi:Fn Gx:=⟨f11,[],⟨[(11,16),(17,16),(19,16),(25,16)],[],au,ar⟩,λ_=>[],[true],none,0,0,λ_ _=>true,some bw.cls,[],[54,81],[]⟩
theorem adN:adi.Ok prog:=⟨Is.of (by kernel_rfl) (by kernel_rfl),by kernel_rfl,ay ax aw,trivial,trivial,λ_=>by kernel_rfl⟩
theorem adY (N:Nat):Gx.Ok prog N:=adN.give aq hm N N (λ_=>trivial) λa r s h=>by
 have l4:=s.loop 4 sF (NY N) N λaX h4=>by
  have l6:=s.loop 6 yU (Nx N aX) N λeQ h6=>by
   exact λc v=>s.seg 6 yU [(4,.of sF aX),(6,.of yU eQ)] ⟨h4,h6,trivial⟩ (by kernel_rfl) (by kernel_rfl)
  exact λc v=>s.seg 4 sF [(4,.of sF aX),(6,.of yU (acO N aX))] ⟨h4,l6,trivial⟩ (by kernel_rfl) (by kernel_rfl)
 have l0:=s.loop 0 sE (NW N) N λac h0=>by
  have l2:=s.loop 2 yT (NX N ac) N λaH h2=>by
   exact λc v=>s.seg 2 yT [(0,.of sE ac),(2,.of yT aH)] ⟨h0,h2,trivial⟩ (by kernel_rfl) (by kernel_rfl)
  exact λc v=>s.seg 0 sE [(0,.of sE ac),(2,.of yT (acM N ac)),(4,.of sF (acN N))] ⟨h0,l2,l4,trivial⟩ (by kernel_rfl) (by kernel_rfl)
 have rm:=s.jn 1000081 Nh (Nj N) [(0,.of sE (acL N))] ⟨l0,trivial⟩ (by kernel_rfl) (λx=>by kernel_rfl);have rk:=s.jn 1000054 Ng (Ni N) [(1000081,.of Nh (Nj N))] ⟨rm,trivial⟩ (by kernel_rfl) (λx=>by kernel_rfl);exact s.main [(1000054,.of Ng (Ni N))] ⟨rk,trivial⟩ (.trans (by kernel_rfl) h)
def aaN:Fn M6:=⟨f3,[],⟨[],[],au,ar⟩,λ_=>[Gt,N4,GJ,zB,F4,Gu,Gx],[true],none,0,0,λ_ _=>true,none,[],[],[]⟩
theorem abb:aaN.Ok prog:=⟨Is.of (by kernel_rfl) (by kernel_rfl),by kernel_rfl,ay ax aw,trivial,trivial,λ_=>by kernel_rfl⟩
theorem aaQ (N:Nat):M6.Ok prog N:=abb.give aq hm N N (λ_=>⟨adG N,acn N,aes N,GB N,acr N,adH N,adY N,trivial⟩) λa r s h=>by
 exact s.main [] trivial (.trans (by kernel_rfl) h)
end
end
end
end Go.Proofs.YtmfkphajohcklaaGreat.U
