/- Calls that are put off, where nothing panics. No premise beyond what each theorem says. -/
import Derived.Test.YtmfkphajohcklaaGreatUG8
import Derived.Test.YtmfkphajohcklaaGreatUA4
import Derived.Tactics
import Derived.Tactics2
import Derived.Defers
import Derived.Recover
import Derived.WalkKit
set_option linter.all false
set_option linter.unusedSimpArgs false
set_option linter.unusedVariables false
namespace Go.Proofs.YtmfkphajohcklaaGreat.U
noncomputable section
open Go
section
open Go.Proofs.Tryz
set_option maxRecDepth 1000000
set_option maxHeartbeats 8000000
open Go.RowKit
set_option maxHeartbeats 4000000
theorem Xc (w:World):(Instr.typeAssert .nilIface 20 175 true).run Tryz.prog w=.ok (.tuple #[.pointer none,.bool false]) w:=by
 obtain⟨z,hz⟩:∃z,jU Tryz.prog 175=some z:=⟨.v (.pointer none),by kernel_rfl⟩
 obtain⟨⟨d,hd,hn⟩,i,zv,hi,hzv,rfl⟩:=pX hz;have hv:(zeroValue 175).run Tryz.prog w=.ok (.pointer none) w:=Tryz.zeroValue175 w;simp only[Instr.typeAssert,Sem.run_bind,run_underlying hd,Result.andThen_ok];cases d<;>first|exact absurd rfl (hn _)|(simp only[if_true,Sem.run_bind,Sem.run_pure,hv,Result.andThen_ok])
theorem ahD (p q:Addr) (w:World):CallsD Tryz.prog 75 #[.pointer (some p),.pointer (some q)] .returning w λe u' w'=>
 e=.returned (.tuple #[])/\u'=.returning/\w'=w:=by
 refine callsD_of_wpS Tryz.func75 rfl λc₀ cs hu=>?_;simp only[Tryz.ntmps75,List.size_toArray,List.length_cons,List.length_nil,Nat.reduceAdd,Nat.reduceSub,Array.replicate_succ,
  Array.replicate_zero,List.push_toArray,List.append_toArray,List.nil_append,List.cons_append]
 apply wpS_seq;apply wpS_region;simp[wpOpsS,go_sem,recoverD,hu,Exit.thenS,Xc];refine wpS_of_wp ?_
 go_wp2
 exact⟨rfl,_,(by rw[<- hu]),_,results_none rfl _ _ _,rfl,rfl,rfl⟩
theorem Zm:Idle prog 75 2:=⟨(Is.of (fn:=f75) (by kernel_rfl) (by kernel_rfl)).enters,λcaps hn hp w=>by
 obtain⟨l⟩:=caps
 match l,hn with
 | [a,b],_=>
   obtain⟨p,h0⟩:=hp 0 (by decide);obtain⟨q,h1⟩:=hp 1 (by decide);cases h0;cases h1;refine(ahD p q w).mono ?_;rintro e u' w' ⟨rfl,rfl,rfl⟩;exact⟨⟨_,rfl⟩,rfl,.refl _⟩⟩
end
section
open Go.Proofs.Tryz
set_option maxRecDepth 1000000
set_option maxHeartbeats 8000000
def bO {α:Type} [BEq α] (x y:α):Bool:=x==y
theorem bP {α:Type} [BEq α] [LawfulBEq α] (x y:α) (h:bO x y=true):x=y:=eq_of_beq h
def qM:bM->bM->Bool
 | ⟨a0,a1,a2,a3⟩,⟨b0,b1,b2,b3⟩=>bO a0 b0&&(bO a1 b1&&(bO a2 b2&&(bO a3 b3&&true)))
theorem HW:∀x y,qM x y=true->x=y
 | ⟨a0,a1,a2,a3⟩,⟨b0,b1,b2,b3⟩,h=>by
   simp only[qM,Bool.and_eq_true]at h;obtain rfl:=bP _ _ h.1;obtain rfl:=bP _ _ h.2.1;obtain rfl:=bP _ _ h.2.2.1;obtain rfl:=bP _ _ h.2.2.2.1;rfl
def oJ:az->az->Bool
 | ⟨a0,a1,a2,a3,a4⟩,⟨b0,b1,b2,b3,b4⟩=>bO a0 b0&&(bO a1 b1&&(bO a2 b2&&(bO a3 b3&&(qM a4 b4&&true))))
theorem AB:∀x y,oJ x y=true->x=y
 | ⟨a0,a1,a2,a3,a4⟩,⟨b0,b1,b2,b3,b4⟩,h=>by
   simp only[oJ,Bool.and_eq_true]at h;obtain rfl:=bP _ _ h.1;obtain rfl:=bP _ _ h.2.1;obtain rfl:=bP _ _ h.2.2.1;obtain rfl:=bP _ _ h.2.2.2.1;obtain rfl:=HW _ _ h.2.2.2.2.1;rfl
def uE:aA->aA->Bool
 | ⟨a0,a1,a2,a3⟩,⟨b0,b1,b2,b3⟩=>bO a0 b0&&(bO a1 b1&&(bO a2 b2&&((dE oJ) a3 b3&&true)))
theorem QO:∀x y,uE x y=true->x=y
 | ⟨a0,a1,a2,a3⟩,⟨b0,b1,b2,b3⟩,h=>by
   simp only[uE,Bool.and_eq_true]at h;obtain rfl:=bP _ _ h.1;obtain rfl:=bP _ _ h.2.1;obtain rfl:=bP _ _ h.2.2.1;obtain rfl:=(eM AB) _ _ h.2.2.2.1;rfl
def BD:il->il->Bool
 | ⟨a0,a1,a2,a3,a4,a5,a6⟩,⟨b0,b1,b2,b3,b4,b5,b6⟩=>bO a0 b0&&(bO a1 b1&&(bO a2 b2&&(bO a3 b3&&(bO a4 b4&&(bO a5 b5&&((dE oJ) a6 b6&&true))))))
theorem ahy:∀x y,BD x y=true->x=y
 | ⟨a0,a1,a2,a3,a4,a5,a6⟩,⟨b0,b1,b2,b3,b4,b5,b6⟩,h=>by
   simp only[BD,Bool.and_eq_true]at h;obtain rfl:=bP _ _ h.1;obtain rfl:=bP _ _ h.2.1;obtain rfl:=bP _ _ h.2.2.1;obtain rfl:=bP _ _ h.2.2.2.1;obtain rfl:=bP _ _ h.2.2.2.2.1;obtain rfl:=bP _ _ h.2.2.2.2.2.1;obtain rfl:=(eM AB) _ _ h.2.2.2.2.2.2.1;rfl
def uF:ai->ai->Bool
 | ⟨a0,a1⟩,⟨b0,b1⟩=>bO a0 b0&&(bO a1 b1&&true)
theorem QP:∀x y,uF x y=true->x=y
 | ⟨a0,a1⟩,⟨b0,b1⟩,h=>by
   simp only[uF,Bool.and_eq_true]at h;obtain rfl:=bP _ _ h.1;obtain rfl:=bP _ _ h.2.1;rfl
def BE:aC->aC->Bool
 | ⟨a0,a1,a2,a3⟩,⟨b0,b1,b2,b3⟩=>bO a0 b0&&(bO a1 b1&&(bO a2 b2&&(qM a3 b3&&true)))
theorem ahz:∀x y,BE x y=true->x=y
 | ⟨a0,a1,a2,a3⟩,⟨b0,b1,b2,b3⟩,h=>by
   simp only[BE,Bool.and_eq_true]at h;obtain rfl:=bP _ _ h.1;obtain rfl:=bP _ _ h.2.1;obtain rfl:=bP _ _ h.2.2.1;obtain rfl:=HW _ _ h.2.2.2.1;rfl
def BF:bc->bc->Bool
 | ⟨a0,a1,a2,a3,a4⟩,⟨b0,b1,b2,b3,b4⟩=>(dE uF) a0 b0&&((dE uE) a1 b1&&(bO a2 b2&&(bO a3 b3&&(bO a4 b4&&true))))
theorem ahA:∀x y,BF x y=true->x=y
 | ⟨a0,a1,a2,a3,a4⟩,⟨b0,b1,b2,b3,b4⟩,h=>by
   simp only[BF,Bool.and_eq_true]at h;obtain rfl:=(eM QP) _ _ h.1;obtain rfl:=(eM QO) _ _ h.2.1;obtain rfl:=bP _ _ h.2.2.1;obtain rfl:=bP _ _ h.2.2.2.1;obtain rfl:=bP _ _ h.2.2.2.2.1;rfl
def JA:(bq Bool)->(bq Bool)->Bool:=λx y=>dE bO (bq.l x) (bq.l y)
theorem ahR:∀x y,JA x y=true->x=y:=λx y h=>bq.Cf (eM bP _ _ h)
def BG:cO->cO->Bool
 | ⟨a0,a1,a2⟩,⟨b0,b1,b2⟩=>bO a0 b0&&(bO a1 b1&&(bO a2 b2&&true))
theorem ahS:∀x y,BG x y=true->x=y
 | ⟨a0,a1,a2⟩,⟨b0,b1,b2⟩,h=>by
   simp only[BG,Bool.and_eq_true]at h;obtain rfl:=bP _ _ h.1;obtain rfl:=bP _ _ h.2.1;obtain rfl:=bP _ _ h.2.2.1;rfl
def BI:fw->fw->Bool
 | ⟨a0,a1,a2,a3⟩,⟨b0,b1,b2,b3⟩=>bO a0 b0&&(bO a1 b1&&(bO a2 b2&&((dE bO) a3 b3&&true)))
theorem ahT:∀x y,BI x y=true->x=y
 | ⟨a0,a1,a2,a3⟩,⟨b0,b1,b2,b3⟩,h=>by
   simp only[BI,Bool.and_eq_true]at h;obtain rfl:=bP _ _ h.1;obtain rfl:=bP _ _ h.2.1;obtain rfl:=bP _ _ h.2.2.1;obtain rfl:=(eM bP) _ _ h.2.2.2.1;rfl
def mN:aa->aa->Bool
 | ⟨a0,a1⟩,⟨b0,b1⟩=>bO a0 b0&&(bO a1 b1&&true)
theorem tE:∀x y,mN x y=true->x=y
 | ⟨a0,a1⟩,⟨b0,b1⟩,h=>by
   simp only[mN,Bool.and_eq_true]at h;obtain rfl:=bP _ _ h.1;obtain rfl:=bP _ _ h.2.1;rfl
def Jz:pV->pV->Bool
 | ⟨⟩,⟨⟩=>true
theorem ag3:∀x y,Jz x y=true->x=y
 | ⟨⟩,⟨⟩,h=>by
   rfl
def Bx:bX->bX->Bool
 | ⟨a0,a1⟩,⟨b0,b1⟩=>mN a0 b0&&(Jz a1 b1&&true)
theorem ag2:∀x y,Bx x y=true->x=y
 | ⟨a0,a1⟩,⟨b0,b1⟩,h=>by
   simp only[Bx,Bool.and_eq_true]at h;obtain rfl:=tE _ _ h.1;obtain rfl:=ag3 _ _ h.2.1;rfl
def Bz:aV->aV->Bool
 | ⟨a0,a1,a2⟩,⟨b0,b1,b2⟩=>(dE mN) a0 b0&&((dE (dE mN)) a1 b1&&((dE (dE bO)) a2 b2&&true))
theorem ag4:∀x y,Bz x y=true->x=y
 | ⟨a0,a1,a2⟩,⟨b0,b1,b2⟩,h=>by
   simp only[Bz,Bool.and_eq_true]at h;obtain rfl:=(eM tE) _ _ h.1;obtain rfl:=(eM (eM tE)) _ _ h.2.1;obtain rfl:=(eM (eM bP)) _ _ h.2.2.1;rfl
def qN:(ah Bool)->(ah Bool)->Bool:=λx y=>dE bO (ah.l x) (ah.l y)
theorem Am:∀x y,qN x y=true->x=y:=λx y h=>ah.Cf (eM bP _ _ h)
def BA:bH->bH->Bool
 | ⟨a0,a1,a2,a3⟩,⟨b0,b1,b2,b3⟩=>bO a0 b0&&(qN a1 b1&&(qN a2 b2&&((dE qN) a3 b3&&true)))
theorem ag5:∀x y,BA x y=true->x=y
 | ⟨a0,a1,a2,a3⟩,⟨b0,b1,b2,b3⟩,h=>by
   simp only[BA,Bool.and_eq_true]at h;obtain rfl:=bP _ _ h.1;obtain rfl:=Am _ _ h.2.1;obtain rfl:=Am _ _ h.2.2.1;obtain rfl:=(eM Am) _ _ h.2.2.2.1;rfl
def BC:bg->bg->Bool
 | ⟨a0,a1⟩,⟨b0,b1⟩=>bO a0 b0&&(bO a1 b1&&true)
theorem ag6:∀x y,BC x y=true->x=y
 | ⟨a0,a1⟩,⟨b0,b1⟩,h=>by
   simp only[BC,Bool.and_eq_true]at h;obtain rfl:=bP _ _ h.1;obtain rfl:=bP _ _ h.2.1;rfl
def JB:(i:Nat)->T i->T i->Bool
 | 0=>(bO:Int->Int->Bool)
 | 1=>(oJ:az->az->Bool)
 | 2=>(uE:aA->aA->Bool)
 | 3=>(BD:il->il->Bool)
 | 4=>(uF:ai->ai->Bool)
 | 5=>(BE:aC->aC->Bool)
 | 6=>((dE oJ):(List az)->(List az)->Bool)
 | 7=>(qM:bM->bM->Bool)
 | 8=>(BF:bc->bc->Bool)
 | 9=>(JA:(bq Bool)->(bq Bool)->Bool)
 | 10=>(bO:Bool->Bool->Bool)
 | 11=>(bO:Int->Int->Bool)
 | 12=>(BG:cO->cO->Bool)
 | 13=>(BI:fw->fw->Bool)
 | 14=>(mN:aa->aa->Bool)
 | 15=>(Bx:bX->bX->Bool)
 | 16=>((dE mN):(List aa)->(List aa)->Bool)
 | 17=>((dE bO):(List Int)->(List Int)->Bool)
 | 18=>(Bz:aV->aV->Bool)
 | 19=>(qN:(ah Bool)->(ah Bool)->Bool)
 | 20=>(BA:bH->bH->Bool)
 | 21=>(BC:bg->bg->Bool)
 | _=>λ_ _=>false
theorem ahU:∀i x y,JB i x y=true->x=y
 | 0,(x:Int),(y:Int),h=>bP x y h
 | 1,(x:az),(y:az),h=>AB x y h
 | 2,(x:aA),(y:aA),h=>QO x y h
 | 3,(x:il),(y:il),h=>ahy x y h
 | 4,(x:ai),(y:ai),h=>QP x y h
 | 5,(x:aC),(y:aC),h=>ahz x y h
 | 6,(x:List az),(y:List az),h=>(eM AB) x y h
 | 7,(x:bM),(y:bM),h=>HW x y h
 | 8,(x:bc),(y:bc),h=>ahA x y h
 | 9,(x:bq Bool),(y:bq Bool),h=>ahR x y h
 | 10,(x:Bool),(y:Bool),h=>bP x y h
 | 11,(x:Int),(y:Int),h=>bP x y h
 | 12,(x:cO),(y:cO),h=>ahS x y h
 | 13,(x:fw),(y:fw),h=>ahT x y h
 | 14,(x:aa),(y:aa),h=>tE x y h
 | 15,(x:bX),(y:bX),h=>ag2 x y h
 | 16,(x:List aa),(y:List aa),h=>(eM tE) x y h
 | 17,(x:List Int),(y:List Int),h=>(eM bP) x y h
 | 18,(x:aV),(y:aV),h=>ag4 x y h
 | 19,(x:ah Bool),(y:ah Bool),h=>Am x y h
 | 20,(x:bH),(y:bH),h=>ag5 x y h
 | 21,(x:bg),(y:bg),h=>ag6 x y h
 | n+22,_,_,h=>nomatch (show false=true from h)
def Uc:cP T:=⟨JB,ahU⟩
end
section
open Go.Proofs.Tryz
set_option maxRecDepth 1000000
set_option maxHeartbeats 8000000
def We:{c:SC // aW prog [] f7=c}:=⟨_,by conv=>lhs;cbv⟩
def wh:UF T:=⟨7,f7,We.1,⟨[(109,0),(115,0),(122,0)],[],au,ar⟩,[true],[],false,[],[],none⟩
theorem wn:UF.Ok tb prog wh:=UF.of func7 (by kernel_rfl) (by kernel_rfl) (ay ax aw) trivial
def Vw:{c:SC // aW prog [(12,[],false),(17,[96],false)] f16=c}:=⟨_,by conv=>lhs;cbv⟩
def De:UF T:=⟨16,f16,Vw.1,⟨[],[],au,ar⟩,[true],[(0,[3,4,7,8,35,36,37])],false,[],[true,true,true],none⟩
theorem KF:UF.Ok tb prog De:=UF.of func16 (by kernel_rfl) (by kernel_rfl) (ay ax aw) trivial
set_option cbv.maxSteps 100000000 in
def VX:{c:SC // bd prog f21=c}:=⟨_,by conv=>lhs;cbv⟩
def po:UF T:=⟨21,f21,VX.1,⟨[],[],au,ar⟩,[true,true,true],[],false,[],[true],some Uc⟩
theorem rJ:UF.Ok tb prog po:=UF.of func21 (by kernel_rfl) (by kernel_rfl) (ay ax aw) trivial
def VZ:{c:SC // aW prog [] f22=c}:=⟨_,by conv=>lhs;cbv⟩
def DG:UF T:=⟨22,f22,VZ.1,⟨[],[],au,ar⟩,[true],[],false,[],[true,true],none⟩
theorem KG:UF.Ok tb prog DG:=UF.of func22 (by kernel_rfl) (by kernel_rfl) (ay ax aw) trivial
def V0:{c:SC // aW prog [] f32=c}:=⟨_,by conv=>lhs;cbv⟩
def DH:UF T:=⟨32,f32,V0.1,⟨[],[],au,ar⟩,[true],[],false,[],[true,true],none⟩
theorem KH:UF.Ok tb prog DH:=UF.of func32 (by kernel_rfl) (by kernel_rfl) (ay ax aw) trivial
def V1:{c:SC // aW prog [] f33=c}:=⟨_,by conv=>lhs;cbv⟩
def DI:UF T:=⟨33,f33,V1.1,⟨[],[],au,ar⟩,[true],[],false,[],[true,true],none⟩
theorem KI:UF.Ok tb prog DI:=UF.of func33 (by kernel_rfl) (by kernel_rfl) (ay ax aw) trivial
def V2:{c:SC // aW prog [] f37=c}:=⟨_,by conv=>lhs;cbv⟩
def DJ:UF T:=⟨37,f37,V2.1,⟨[],[],au,ar⟩,[true,false],[],true,[],[true],none⟩
theorem KJ:UF.Ok tb prog DJ:=UF.of func37 (by kernel_rfl) (by kernel_rfl) (ay ax aw) trivial
def V3:{c:SC // aW prog [(7,[],false)] f38=c}:=⟨_,by conv=>lhs;cbv⟩
def DK:UF T:=⟨38,f38,V3.1,⟨[],[],au,ar⟩,[true,true],[],false,[],[true],none⟩
theorem KK:UF.Ok tb prog DK:=UF.of func38 (by kernel_rfl) (by kernel_rfl) (ay ax aw) trivial
def V4:{c:SC // aW prog [(6,[],false)] f39=c}:=⟨_,by conv=>lhs;cbv⟩
def DL:UF T:=⟨39,f39,V4.1,⟨[],[],au,ar⟩,[true],[(0,[0,1,12,13])],false,[],[true,true],none⟩
theorem KL:UF.Ok tb prog DL:=UF.of func39 (by kernel_rfl) (by kernel_rfl) (ay ax aw) trivial
def V5:{c:SC // aW prog [] f40=c}:=⟨_,by conv=>lhs;cbv⟩
def DM:UF T:=⟨40,f40,V5.1,⟨[],[],au,ar⟩,[true],[(0,[1,2,15,16,17])],false,[],[true,true,false],none⟩
theorem KM:UF.Ok tb prog DM:=UF.of func40 (by kernel_rfl) (by kernel_rfl) (ay ax aw) trivial
def V6:{c:SC // aW prog [] f41=c}:=⟨_,by conv=>lhs;cbv⟩
def DN:UF T:=⟨41,f41,V6.1,⟨[],[],au,ar⟩,[true],[(0,[1,2,15,16,17])],false,[],[true,true,false],none⟩
theorem KN:UF.Ok tb prog DN:=UF.of func41 (by kernel_rfl) (by kernel_rfl) (ay ax aw) trivial
def V7:{c:SC // aW prog [(6,[],false)] f42=c}:=⟨_,by conv=>lhs;cbv⟩
def DO:UF T:=⟨42,f42,V7.1,⟨[],[],au,ar⟩,[true],[(0,[0,1,12,13])],false,[],[true,true],none⟩
theorem KO:UF.Ok tb prog DO:=UF.of func42 (by kernel_rfl) (by kernel_rfl) (ay ax aw) trivial
def V8:{c:SC // aW prog [(4,[],false)] f55=c}:=⟨_,by conv=>lhs;cbv⟩
def DP:UF T:=⟨55,f55,V8.1,⟨[],[],au,ar⟩,[true],[(0,[0,3,7,8])],false,[],[true,true],none⟩
theorem KP:UF.Ok tb prog DP:=UF.of func55 (by kernel_rfl) (by kernel_rfl) (ay ax aw) trivial
def V9:{c:SC // aW prog [] f56=c}:=⟨_,by conv=>lhs;cbv⟩
def DQ:UF T:=⟨56,f56,V9.1,⟨[],[],au,ar⟩,[true],[(0,[0,1,7,8])],false,[],[true,true],none⟩
theorem KQ:UF.Ok tb prog DQ:=UF.of func56 (by kernel_rfl) (by kernel_rfl) (ay ax aw) trivial
def Wa:{c:SC // aW prog [] f57=c}:=⟨_,by conv=>lhs;cbv⟩
def DR:UF T:=⟨57,f57,Wa.1,⟨[],[],au,ar⟩,[true,false],[(0,[0,4])],true,[],[true],none⟩
theorem KR:UF.Ok tb prog DR:=UF.of func57 (by kernel_rfl) (by kernel_rfl) (ay ax aw) trivial
def Wb:{c:SC // aW prog [(8,[],false)] f58=c}:=⟨_,by conv=>lhs;cbv⟩
def DS:UF T:=⟨58,f58,Wb.1,⟨[],[],au,ar⟩,[true,false],[],true,[(75,2)],[false],none⟩
theorem KS:UF.Ok tb prog DS:=UF.of func58 (by kernel_rfl) (by kernel_rfl) (ay ax aw) trivial (λp h=>by cases h with|head=>exact Zm|tail _ h=>cases h)
def Wc:{c:SC // aW prog [] f59=c}:=⟨_,by conv=>lhs;cbv⟩
def DT:UF T:=⟨59,f59,Wc.1,⟨[],[],au,ar⟩,[true],[],false,[],[true],none⟩
theorem KT:UF.Ok tb prog DT:=UF.of func59 (by kernel_rfl) (by kernel_rfl) (ay ax aw) trivial
def Wd:{c:SC // aW prog [] f61=c}:=⟨_,by conv=>lhs;cbv⟩
def DU:UF T:=⟨61,f61,Wd.1,⟨[],[],au,ar⟩,[],[],false,[],[false,true],none⟩
theorem KU:UF.Ok tb prog DU:=UF.of func61 (by kernel_rfl) (by kernel_rfl) (ay ax aw) trivial
def Wf:{c:SC // aW prog [(1,[],false)] f74=c}:=⟨_,by conv=>lhs;cbv⟩
def DV:UF T:=⟨74,f74,Wf.1,⟨[],[],au,ar⟩,[false],[],true,[],[false],none⟩
theorem KV:UF.Ok tb prog DV:=UF.of func74 (by kernel_rfl) (by kernel_rfl) (ay ax aw) trivial
def Wg:{c:SC // aW prog [] f76=c}:=⟨_,by conv=>lhs;cbv⟩
def DW:UF T:=⟨76,f76,Wg.1,⟨[],[],au,ar⟩,[true],[],false,[],[false,true],none⟩
theorem KW:UF.Ok tb prog DW:=UF.of func76 (by kernel_rfl) (by kernel_rfl) (ay ax aw) trivial
def Wh:{c:SC // aW prog [] f77=c}:=⟨_,by conv=>lhs;cbv⟩
def DX:UF T:=⟨77,f77,Wh.1,⟨[],[],au,ar⟩,[],[],false,[],[false,true,true],none⟩
theorem KX:UF.Ok tb prog DX:=UF.of func77 (by kernel_rfl) (by kernel_rfl) (ay ax aw) trivial
def Wi:{c:SC // aW prog [(1,[],false),(4,[],false)] f78=c}:=⟨_,by conv=>lhs;cbv⟩
def DY:UF T:=⟨78,f78,Wi.1,⟨[],[],au,ar⟩,[true],[],false,[],[false],none⟩
theorem KY:UF.Ok tb prog DY:=UF.of func78 (by kernel_rfl) (by kernel_rfl) (ay ax aw) trivial
def Wj:{c:SC // aW prog [] f79=c}:=⟨_,by conv=>lhs;cbv⟩
def DZ:UF T:=⟨79,f79,Wj.1,⟨[],[],au,ar⟩,[true],[],false,[],[false,true,true],none⟩
theorem KZ:UF.Ok tb prog DZ:=UF.of func79 (by kernel_rfl) (by kernel_rfl) (ay ax aw) trivial
def Wk:{c:SC // aW prog [(1,[],false),(4,[],false)] f80=c}:=⟨_,by conv=>lhs;cbv⟩
def D0:UF T:=⟨80,f80,Wk.1,⟨[],[],au,ar⟩,[true],[],false,[],[false],none⟩
theorem K0:UF.Ok tb prog D0:=UF.of func80 (by kernel_rfl) (by kernel_rfl) (ay ax aw) trivial
def Wl:{c:SC // aW prog [] f81=c}:=⟨_,by conv=>lhs;cbv⟩
def D1:UF T:=⟨81,f81,Wl.1,⟨[],[],au,ar⟩,[true],[(0,[0,3])],false,[],[false],none⟩
theorem K1:UF.Ok tb prog D1:=UF.of func81 (by kernel_rfl) (by kernel_rfl) (ay ax aw) trivial
def Wm:{c:SC // aW prog [(11,[],true)] f83=c}:=⟨_,by conv=>lhs;cbv⟩
def D2:UF T:=⟨83,f83,Wm.1,⟨[],[],au,ar⟩,[true,true],[(1,[2,8,9,42,43])],false,[],[true,true,true],none⟩
theorem K2:UF.Ok tb prog D2:=UF.of func83 (by kernel_rfl) (by kernel_rfl) (ay ax aw) trivial
def Wn:{c:SC // aW prog [] f84=c}:=⟨_,by conv=>lhs;cbv⟩
def D3:UF T:=⟨84,f84,Wn.1,⟨[],[],au,ar⟩,[true],[(0,[0,3])],false,[],[true],none⟩
theorem K3:UF.Ok tb prog D3:=UF.of func84 (by kernel_rfl) (by kernel_rfl) (ay ax aw) trivial
def Wo:{c:SC // aW prog [] f85=c}:=⟨_,by conv=>lhs;cbv⟩
def D4:UF T:=⟨85,f85,Wo.1,⟨[],[],au,ar⟩,[true],[],false,[],[true],none⟩
theorem K4:UF.Ok tb prog D4:=UF.of func85 (by kernel_rfl) (by kernel_rfl) (ay ax aw) trivial
def Wp:{c:SC // aW prog [(4,[],false)] f86=c}:=⟨_,by conv=>lhs;cbv⟩
def D5:UF T:=⟨86,f86,Wp.1,⟨[(44,2)],[],au,ar⟩,[],[],false,[],[false,true],none⟩
theorem K5:UF.Ok tb prog D5:=UF.of func86 (by kernel_rfl) (by kernel_rfl) (ay ax aw) trivial
def Wq:{c:SC // aW prog [] f87=c}:=⟨_,by conv=>lhs;cbv⟩
def D6:UF T:=⟨87,f87,Wq.1,⟨[],[],au,ar⟩,[],[],false,[],[false,true],none⟩
theorem K6:UF.Ok tb prog D6:=UF.of func87 (by kernel_rfl) (by kernel_rfl) (ay ax aw) trivial
end
section
open Go.Proofs.Tryz
set_option maxRecDepth 1000000
set_option maxHeartbeats 8000000
def Wr:{c:SC // aW prog [] f88=c}:=⟨_,by conv=>lhs;cbv⟩
def D7:UF T:=⟨88,f88,Wr.1,⟨[],[],au,ar⟩,[],[],false,[],[false,true],none⟩
theorem K7:UF.Ok tb prog D7:=UF.of func88 (by kernel_rfl) (by kernel_rfl) (ay ax aw) trivial
def Ws:{c:SC // aW prog [] f89=c}:=⟨_,by conv=>lhs;cbv⟩
def D8:UF T:=⟨89,f89,Ws.1,⟨[],[],au,ar⟩,[],[(0,[0,1,4,5])],false,[],[false,true],none⟩
theorem K8:UF.Ok tb prog D8:=UF.of func89 (by kernel_rfl) (by kernel_rfl) (ay ax aw) trivial
def U1:{c:SC // aW prog [] f111=c}:=⟨_,by conv=>lhs;cbv⟩
def CI:UF T:=⟨111,f111,U1.1,⟨[],[],au,ar⟩,[true],[],false,[],[true],none⟩
theorem RR:UF.Ok tb prog CI:=UF.of func111 (by kernel_rfl) (by kernel_rfl) (ay ax aw) trivial
def U2:{c:SC // aW prog [] f112=c}:=⟨_,by conv=>lhs;cbv⟩
def CJ:UF T:=⟨112,f112,U2.1,⟨[],[],au,ar⟩,[true],[],false,[],[true],none⟩
theorem RS:UF.Ok tb prog CJ:=UF.of func112 (by kernel_rfl) (by kernel_rfl) (ay ax aw) trivial
def U3:{c:SC // aW prog [] f113=c}:=⟨_,by conv=>lhs;cbv⟩
def CK:UF T:=⟨113,f113,U3.1,⟨[],[],au,ar⟩,[true],[],false,[],[true,true],none⟩
theorem RT:UF.Ok tb prog CK:=UF.of func113 (by kernel_rfl) (by kernel_rfl) (ay ax aw) trivial
def U4:{c:SC // aW prog [(2,[],false)] f115=c}:=⟨_,by conv=>lhs;cbv⟩
def CL:UF T:=⟨115,f115,U4.1,⟨[],[],au,ar⟩,[false],[],true,[],[false],none⟩
theorem RU:UF.Ok tb prog CL:=UF.of func115 (by kernel_rfl) (by kernel_rfl) (ay ax aw) trivial
def U5:{c:SC // aW prog [(2,[],false),(8,[],false)] f116=c}:=⟨_,by conv=>lhs;cbv⟩
def CM:UF T:=⟨116,f116,U5.1,⟨[],[],au,ar⟩,[false],[(0,[0,3,4,25,26])],true,[],[false],none⟩
theorem Sp:UF.Ok tb prog CM:=UF.of func116 (by kernel_rfl) (by kernel_rfl) (ay ax aw) trivial
def U6:{c:SC // aW prog [(2,[13],false),(4,[59],false)] f119=c}:=⟨_,by conv=>lhs;cbv⟩
def CN:UF T:=⟨119,f119,U6.1,⟨[],[],au,ar⟩,[false],[],true,[],[false],none⟩
theorem Sq:UF.Ok tb prog CN:=UF.of func119 (by kernel_rfl) (by kernel_rfl) (ay ax aw) trivial
def U7:{c:SC // aW prog [] f120=c}:=⟨_,by conv=>lhs;cbv⟩
def CO:UF T:=⟨120,f120,U7.1,⟨[(24,3)],[],au,ar⟩,[true],[(0,[0,2,3,4,12,13])],false,[],[false,true,true,false,true],none⟩
theorem Sr:UF.Ok tb prog CO:=UF.of func120 (by kernel_rfl) (by kernel_rfl) (ay ax aw) trivial
def U8:{c:SC // aW prog [] f121=c}:=⟨_,by conv=>lhs;cbv⟩
def CP:UF T:=⟨121,f121,U8.1,⟨[],[],au,ar⟩,[true],[],false,[],[false,true],none⟩
theorem Ss:UF.Ok tb prog CP:=UF.of func121 (by kernel_rfl) (by kernel_rfl) (ay ax aw) trivial
def U9:{c:SC // aW prog [(1,[],false)] f122=c}:=⟨_,by conv=>lhs;cbv⟩
def CQ:UF T:=⟨122,f122,U9.1,⟨[],[],au,ar⟩,[true],[],false,[],[false,true,true],none⟩
theorem St:UF.Ok tb prog CQ:=UF.of func122 (by kernel_rfl) (by kernel_rfl) (ay ax aw) trivial
def Vb:{c:SC // aW prog [] f124=c}:=⟨_,by conv=>lhs;cbv⟩
def CS:UF T:=⟨124,f124,Vb.1,⟨[],[],au,ar⟩,[true],[],false,[],[true,true],none⟩
theorem Sv:UF.Ok tb prog CS:=UF.of func124 (by kernel_rfl) (by kernel_rfl) (ay ax aw) trivial
def Vc:{c:SC // aW prog [] f125=c}:=⟨_,by conv=>lhs;cbv⟩
def CU:UF T:=⟨125,f125,Vc.1,⟨[],[],au,ar⟩,[true],[],false,[],[true],none⟩
theorem Sw:UF.Ok tb prog CU:=UF.of func125 (by kernel_rfl) (by kernel_rfl) (ay ax aw) trivial
def Vd:{c:SC // aW prog [] f126=c}:=⟨_,by conv=>lhs;cbv⟩
def CV:UF T:=⟨126,f126,Vd.1,⟨[],[],au,ar⟩,[true],[],false,[],[true],none⟩
theorem Sx:UF.Ok tb prog CV:=UF.of func126 (by kernel_rfl) (by kernel_rfl) (ay ax aw) trivial
def Ve:{c:SC // aW prog [] f127=c}:=⟨_,by conv=>lhs;cbv⟩
def CW:UF T:=⟨127,f127,Ve.1,⟨[],[],au,ar⟩,[true],[],false,[],[true],none⟩
theorem Sy:UF.Ok tb prog CW:=UF.of func127 (by kernel_rfl) (by kernel_rfl) (ay ax aw) trivial
def Vf:{c:SC // aW prog [] f128=c}:=⟨_,by conv=>lhs;cbv⟩
def CX:UF T:=⟨128,f128,Vf.1,⟨[],[],au,ar⟩,[true],[],false,[],[true],none⟩
theorem Sz:UF.Ok tb prog CX:=UF.of func128 (by kernel_rfl) (by kernel_rfl) (ay ax aw) trivial
def Vg:{c:SC // aW prog [] f129=c}:=⟨_,by conv=>lhs;cbv⟩
def CY:UF T:=⟨129,f129,Vg.1,⟨[],[],au,ar⟩,[true],[],false,[],[true],none⟩
theorem SA:UF.Ok tb prog CY:=UF.of func129 (by kernel_rfl) (by kernel_rfl) (ay ax aw) trivial
def Vh:{c:SC // aW prog [] f130=c}:=⟨_,by conv=>lhs;cbv⟩
def CZ:UF T:=⟨130,f130,Vh.1,⟨[],[],au,ar⟩,[true],[],false,[],[true],none⟩
theorem SB:UF.Ok tb prog CZ:=UF.of func130 (by kernel_rfl) (by kernel_rfl) (ay ax aw) trivial
def Vi:{c:SC // aW prog [] f131=c}:=⟨_,by conv=>lhs;cbv⟩
def C0:UF T:=⟨131,f131,Vi.1,⟨[(23,4)],[],au,ar⟩,[],[],false,[],[false,true,true],none⟩
theorem SD:UF.Ok tb prog C0:=UF.of func131 (by kernel_rfl) (by kernel_rfl) (ay ax aw) trivial
def Vj:{c:SC // aW prog [] f133=c}:=⟨_,by conv=>lhs;cbv⟩
def C1:UF T:=⟨133,f133,Vj.1,⟨[],[],au,ar⟩,[],[(0,[0,1,6,7])],false,[],[false,true,true],none⟩
theorem SF:UF.Ok tb prog C1:=UF.of func133 (by kernel_rfl) (by kernel_rfl) (ay ax aw) trivial
def Vk:{c:SC // aW prog [] f134=c}:=⟨_,by conv=>lhs;cbv⟩
def C2:UF T:=⟨134,f134,Vk.1,⟨[],[],au,ar⟩,[],[],false,[],[false,true,true],none⟩
theorem SG:UF.Ok tb prog C2:=UF.of func134 (by kernel_rfl) (by kernel_rfl) (ay ax aw) trivial
def Vl:{c:SC // aW prog [] f143=c}:=⟨_,by conv=>lhs;cbv⟩
def C3:UF T:=⟨143,f143,Vl.1,⟨[],[],au,ar⟩,[true],[],false,[],[true,true],none⟩
theorem SH:UF.Ok tb prog C3:=UF.of func143 (by kernel_rfl) (by kernel_rfl) (ay ax aw) trivial
def Vm:{c:SC // aW prog [(2,[31],false)] f144=c}:=⟨_,by conv=>lhs;cbv⟩
def C4:UF T:=⟨144,f144,Vm.1,⟨[],[],au,ar⟩,[true],[(0,[0,1,5])],false,[],[false,false],none⟩
theorem SJ:UF.Ok tb prog C4:=UF.of func144 (by kernel_rfl) (by kernel_rfl) (ay ax aw) trivial
def Vn:{c:SC // aW prog [] f145=c}:=⟨_,by conv=>lhs;cbv⟩
def C5:UF T:=⟨145,f145,Vn.1,⟨[],[],au,ar⟩,[true],[],false,[],[true],none⟩
theorem SK:UF.Ok tb prog C5:=UF.of func145 (by kernel_rfl) (by kernel_rfl) (ay ax aw) trivial
def Vo:{c:SC // aW prog [(1,[],false)] f146=c}:=⟨_,by conv=>lhs;cbv⟩
def C6:UF T:=⟨146,f146,Vo.1,⟨[(24,5)],[],au,ar⟩,[false],[],true,[],[false,true,true,true,true],none⟩
theorem SM:UF.Ok tb prog C6:=UF.of func146 (by kernel_rfl) (by kernel_rfl) (ay ax aw) trivial
def Vp:{c:SC // aW prog [] f148=c}:=⟨_,by conv=>lhs;cbv⟩
def C7:UF T:=⟨148,f148,Vp.1,⟨[],[],au,ar⟩,[true],[],false,[],[true],none⟩
theorem SN:UF.Ok tb prog C7:=UF.of func148 (by kernel_rfl) (by kernel_rfl) (ay ax aw) trivial
def Vq:{c:SC // aW prog [(0,[],false),(1,[],false),(2,[],false)] f154=c}:=⟨_,by conv=>lhs;cbv⟩
def C8:UF T:=⟨154,f154,Vq.1,⟨[],[],au,ar⟩,[],[],false,[],[true],none⟩
theorem SQ:UF.Ok tb prog C8:=UF.of func154 (by kernel_rfl) (by kernel_rfl) (ay ax aw) trivial
def Vr:{c:SC // aW prog [] f155=c}:=⟨_,by conv=>lhs;cbv⟩
def C9:UF T:=⟨155,f155,Vr.1,⟨[],[],au,ar⟩,[true],[],false,[],[false,true],none⟩
theorem SR:UF.Ok tb prog C9:=UF.of func155 (by kernel_rfl) (by kernel_rfl) (ay ax aw) trivial
def Vs:{c:SC // aW prog [] f156=c}:=⟨_,by conv=>lhs;cbv⟩
def Da:UF T:=⟨156,f156,Vs.1,⟨[],[],au,ar⟩,[true],[],false,[],[true],none⟩
theorem SS:UF.Ok tb prog Da:=UF.of func156 (by kernel_rfl) (by kernel_rfl) (ay ax aw) trivial
def Vt:{c:SC // aW prog [] f157=c}:=⟨_,by conv=>lhs;cbv⟩
def Db:UF T:=⟨157,f157,Vt.1,⟨[],[],au,ar⟩,[true],[],false,[],[true],none⟩
theorem ST:UF.Ok tb prog Db:=UF.of func157 (by kernel_rfl) (by kernel_rfl) (ay ax aw) trivial
end
end
end Go.Proofs.YtmfkphajohcklaaGreat.U
