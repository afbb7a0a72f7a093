/- Calls that are put off, where nothing panics. No premise beyond what each theorem says. -/
import Derived.Test.YtmfkphajohcklaaGreatOG8
import Derived.Test.YtmfkphajohcklaaGreatOA4
import Derived.Tactics
import Derived.Tactics2
import Derived.Defers
import Derived.Recover
import Derived.WalkKit
set_option linter.all false
set_option linter.unusedSimpArgs false
set_option linter.unusedVariables false
namespace Go.Proofs.YtmfkphajohcklaaGreat.O
open Go
section
open Go.Proofs.Tryz
set_option maxRecDepth 1000000
set_option maxHeartbeats 8000000
open Go.RowKit
set_option maxHeartbeats 4000000
theorem uta_g (w:World):(Instr.typeAssert .nilIface 20 175 true).run Tryz.prog w=.ok (.tuple #[.pointer none,.bool false]) w:=by
 obtain ⟨z,hz⟩:∃ z,cTa Tryz.prog 175=some z:=⟨.v (.pointer none),by kernel_rfl⟩
 obtain ⟨⟨d,hd,hn⟩,i,zv,hi,hzv,rfl⟩:=xZdq hz
 have hv:(zeroValue 175).run Tryz.prog w=.ok (.pointer none) w:=Tryz.zeroValue175 w
 simp only [Instr.typeAssert,Sem.run_bind,run_underlying hd,Result.andThen_ok]
 cases d<;>first | exact absurd rfl (hn _) | (simp only [if_true,Sem.run_bind,Sem.run_pure,hv,Result.andThen_ok])
theorem xZnz (p q:Addr) (w:World):CallsD Tryz.prog 75 #[.pointer (some p),.pointer (some q)] .returning w fun e u' w'=>
 e=.returned (.tuple #[])∧u'=.returning∧w'=w:=by
 refine callsD_of_wpS Tryz.func75 rfl fun c₀ cs hu=>?_
 simp only [Tryz.ntmps75,List.size_toArray,List.length_cons,List.length_nil,Nat.reduceAdd,Nat.reduceSub,Array.replicate_succ,
  Array.replicate_zero,List.push_toArray,List.append_toArray,List.nil_append,List.cons_append]
 apply wpS_seq
 apply wpS_region
 simp [wpOpsS,go_sem,recoverD,hu,Exit.thenS,uta_g]
 refine wpS_of_wp ?_
 go_wp2
 exact ⟨rfl,_,(by rw [← hu]),_,results_none rfl _ _ _,rfl,rfl,rfl⟩
theorem xZ8R:Idle prog 75 2:=⟨(Is.of (fn:=f75) (by kernel_rfl) (by kernel_rfl)).enters,fun caps hn hp w=>by
 obtain ⟨l⟩:=caps
 match l,hn with
 | [a,b],_=>
   obtain ⟨p,h0⟩:=hp 0 (by decide)
   obtain ⟨q,h1⟩:=hp 1 (by decide)
   cases h0
   cases h1
   refine (xZnz p q w).mono ?_
   rintro e u' w' ⟨rfl,rfl,rfl⟩
   exact ⟨⟨_,rfl⟩,rfl,.refl _⟩⟩
end
section
open Go.Proofs.Tryz
set_option maxRecDepth 1000000
set_option maxHeartbeats 8000000
def beqF {α:Type} [BEq α] (x y:α):Bool:=x==y
theorem xZ3n {α:Type} [BEq α] [LawfulBEq α] (x y:α) (h:beqF x y=true):x=y:=eq_of_beq h
def eqF1:xZe→xZe→Bool
 | ⟨a0,a1,a2,a3⟩,⟨b0,b1,b2,b3⟩=>beqF a0 b0&&(beqF a1 b1&&(beqF a2 b2&&(beqF a3 b3&&true)))
theorem xZjQ:∀ x y,eqF1 x y=true→x=y
 | ⟨a0,a1,a2,a3⟩,⟨b0,b1,b2,b3⟩,h=>by
   simp only [eqF1,Bool.and_eq_true] at h
   obtain rfl:=xZ3n _ _ h.1
   obtain rfl:=xZ3n _ _ h.2.1
   obtain rfl:=xZ3n _ _ h.2.2.1
   obtain rfl:=xZ3n _ _ h.2.2.2.1
   rfl
def eqF0:xZ2→xZ2→Bool
 | ⟨a0,a1,a2,a3,a4⟩,⟨b0,b1,b2,b3,b4⟩=>beqF a0 b0&&(beqF a1 b1&&(beqF a2 b2&&(beqF a3 b3&&(eqF1 a4 b4&&true))))
theorem xZih:∀ x y,eqF0 x y=true→x=y
 | ⟨a0,a1,a2,a3,a4⟩,⟨b0,b1,b2,b3,b4⟩,h=>by
   simp only [eqF0,Bool.and_eq_true] at h
   obtain rfl:=xZ3n _ _ h.1
   obtain rfl:=xZ3n _ _ h.2.1
   obtain rfl:=xZ3n _ _ h.2.2.1
   obtain rfl:=xZ3n _ _ h.2.2.2.1
   obtain rfl:=xZjQ _ _ h.2.2.2.2.1
   rfl
def eqF2:xZ4→xZ4→Bool
 | ⟨a0,a1,a2,a3⟩,⟨b0,b1,b2,b3⟩=>beqF a0 b0&&(beqF a1 b1&&(beqF a2 b2&&((eqL eqF0) a3 b3&&true)))
theorem xZlQ:∀ x y,eqF2 x y=true→x=y
 | ⟨a0,a1,a2,a3⟩,⟨b0,b1,b2,b3⟩,h=>by
   simp only [eqF2,Bool.and_eq_true] at h
   obtain rfl:=xZ3n _ _ h.1
   obtain rfl:=xZ3n _ _ h.2.1
   obtain rfl:=xZ3n _ _ h.2.2.1
   obtain rfl:=(xZby xZih) _ _ h.2.2.2.1
   rfl
def eqF3:xZ5Z→xZ5Z→Bool
 | ⟨a0,a1,a2,a3,a4,a5,a6⟩,⟨b0,b1,b2,b3,b4,b5,b6⟩=>beqF a0 b0&&(beqF a1 b1&&(beqF a2 b2&&(beqF a3 b3&&(beqF a4 b4&&(beqF a5 b5&&((eqL eqF0) a6 b6&&true))))))
theorem xZof:∀ x y,eqF3 x y=true→x=y
 | ⟨a0,a1,a2,a3,a4,a5,a6⟩,⟨b0,b1,b2,b3,b4,b5,b6⟩,h=>by
   simp only [eqF3,Bool.and_eq_true] at h
   obtain rfl:=xZ3n _ _ h.1
   obtain rfl:=xZ3n _ _ h.2.1
   obtain rfl:=xZ3n _ _ h.2.2.1
   obtain rfl:=xZ3n _ _ h.2.2.2.1
   obtain rfl:=xZ3n _ _ h.2.2.2.2.1
   obtain rfl:=xZ3n _ _ h.2.2.2.2.2.1
   obtain rfl:=(xZby xZih) _ _ h.2.2.2.2.2.2.1
   rfl
def eqF4:xZ1→xZ1→Bool
 | ⟨a0,a1⟩,⟨b0,b1⟩=>beqF a0 b0&&(beqF a1 b1&&true)
theorem xZlR:∀ x y,eqF4 x y=true→x=y
 | ⟨a0,a1⟩,⟨b0,b1⟩,h=>by
   simp only [eqF4,Bool.and_eq_true] at h
   obtain rfl:=xZ3n _ _ h.1
   obtain rfl:=xZ3n _ _ h.2.1
   rfl
def eqF5:xZ3→xZ3→Bool
 | ⟨a0,a1,a2,a3⟩,⟨b0,b1,b2,b3⟩=>beqF a0 b0&&(beqF a1 b1&&(beqF a2 b2&&(eqF1 a3 b3&&true)))
theorem xZog:∀ x y,eqF5 x y=true→x=y
 | ⟨a0,a1,a2,a3⟩,⟨b0,b1,b2,b3⟩,h=>by
   simp only [eqF5,Bool.and_eq_true] at h
   obtain rfl:=xZ3n _ _ h.1
   obtain rfl:=xZ3n _ _ h.2.1
   obtain rfl:=xZ3n _ _ h.2.2.1
   obtain rfl:=xZjQ _ _ h.2.2.2.1
   rfl
def eqF6:xZy→xZy→Bool
 | ⟨a0,a1,a2,a3,a4⟩,⟨b0,b1,b2,b3,b4⟩=>(eqL eqF4) a0 b0&&((eqL eqF2) a1 b1&&(beqF a2 b2&&(beqF a3 b3&&(beqF a4 b4&&true))))
theorem xZoh:∀ x y,eqF6 x y=true→x=y
 | ⟨a0,a1,a2,a3,a4⟩,⟨b0,b1,b2,b3,b4⟩,h=>by
   simp only [eqF6,Bool.and_eq_true] at h
   obtain rfl:=(xZby xZlR) _ _ h.1
   obtain rfl:=(xZby xZlQ) _ _ h.2.1
   obtain rfl:=xZ3n _ _ h.2.2.1
   obtain rfl:=xZ3n _ _ h.2.2.2.1
   obtain rfl:=xZ3n _ _ h.2.2.2.2.1
   rfl
def eqF7:xZS→xZS→Bool
 | ⟨a0,a1,a2⟩,⟨b0,b1,b2⟩=>beqF a0 b0&&(beqF a1 b1&&(beqF a2 b2&&true))
theorem xZoi:∀ x y,eqF7 x y=true→x=y
 | ⟨a0,a1,a2⟩,⟨b0,b1,b2⟩,h=>by
   simp only [eqF7,Bool.and_eq_true] at h
   obtain rfl:=xZ3n _ _ h.1
   obtain rfl:=xZ3n _ _ h.2.1
   obtain rfl:=xZ3n _ _ h.2.2.1
   rfl
def eqF8:xZ2X→xZ2X→Bool
 | ⟨a0,a1,a2,a3⟩,⟨b0,b1,b2,b3⟩=>beqF a0 b0&&(beqF a1 b1&&(beqF a2 b2&&((eqL beqF) a3 b3&&true)))
theorem xZoj:∀ x y,eqF8 x y=true→x=y
 | ⟨a0,a1,a2,a3⟩,⟨b0,b1,b2,b3⟩,h=>by
   simp only [eqF8,Bool.and_eq_true] at h
   obtain rfl:=xZ3n _ _ h.1
   obtain rfl:=xZ3n _ _ h.2.1
   obtain rfl:=xZ3n _ _ h.2.2.1
   obtain rfl:=(xZby xZ3n) _ _ h.2.2.2.1
   rfl
def eqF9:xZ0→xZ0→Bool
 | ⟨a0,a1⟩,⟨b0,b1⟩=>beqF a0 b0&&(beqF a1 b1&&true)
theorem xZgC:∀ x y,eqF9 x y=true→x=y
 | ⟨a0,a1⟩,⟨b0,b1⟩,h=>by
   simp only [eqF9,Bool.and_eq_true] at h
   obtain rfl:=xZ3n _ _ h.1
   obtain rfl:=xZ3n _ _ h.2.1
   rfl
def eqF11:xZet→xZet→Bool
 | ⟨⟩,⟨⟩=>true
theorem xZmT:∀ x y,eqF11 x y=true→x=y
 | ⟨⟩,⟨⟩,h=>by
   rfl
def eqF10:Ent125→Ent125→Bool
 | ⟨a0,a1⟩,⟨b0,b1⟩=>eqF9 a0 b0&&(eqF11 a1 b1&&true)
theorem xZmS:∀ x y,eqF10 x y=true→x=y
 | ⟨a0,a1⟩,⟨b0,b1⟩,h=>by
   simp only [eqF10,Bool.and_eq_true] at h
   obtain rfl:=xZgC _ _ h.1
   obtain rfl:=xZmT _ _ h.2.1
   rfl
def eqF12:xZ1T→xZ1T→Bool
 | ⟨a0,a1,a2⟩,⟨b0,b1,b2⟩=>(eqL eqF9) a0 b0&&((eqL (eqL eqF9)) a1 b1&&((eqL (eqL beqF)) a2 b2&&true))
theorem xZmU:∀ x y,eqF12 x y=true→x=y
 | ⟨a0,a1,a2⟩,⟨b0,b1,b2⟩,h=>by
   simp only [eqF12,Bool.and_eq_true] at h
   obtain rfl:=(xZby xZgC) _ _ h.1
   obtain rfl:=(xZby (xZby xZgC)) _ _ h.2.1
   obtain rfl:=(xZby (xZby xZ3n)) _ _ h.2.2.1
   rfl
def eqTf:(i:Nat)→T i→T i→Bool
 | 0=>(beqF:Int→Int→Bool)
 | 1=>(eqF0:xZ2→xZ2→Bool)
 | 2=>(eqF2:xZ4→xZ4→Bool)
 | 3=>(eqF3:xZ5Z→xZ5Z→Bool)
 | 4=>(eqF4:xZ1→xZ1→Bool)
 | 5=>(eqF5:xZ3→xZ3→Bool)
 | 6=>((eqL eqF0):(List xZ2)→(List xZ2)→Bool)
 | 7=>(eqF1:xZe→xZe→Bool)
 | 8=>(eqF6:xZy→xZy→Bool)
 | 9=>((fun x y=>eqL beqF (A24.l x) (A24.l y)):(A24 Bool)→(A24 Bool)→Bool)
 | 10=>(beqF:Bool→Bool→Bool)
 | 11=>(beqF:Int→Int→Bool)
 | 12=>(eqF7:xZS→xZS→Bool)
 | 13=>(eqF8:xZ2X→xZ2X→Bool)
 | 14=>(eqF9:xZ0→xZ0→Bool)
 | 15=>(eqF10:Ent125→Ent125→Bool)
 | 16=>((eqL eqF9):(List xZ0)→(List xZ0)→Bool)
 | 17=>((eqL beqF):(List Int)→(List Int)→Bool)
 | 18=>(eqF12:xZ1T→xZ1T→Bool)
 | _=>fun _ _=>false
theorem xZok:∀ i x y,eqTf i x y=true→x=y
 | 0,(x:Int),(y:Int),h=>xZ3n x y h
 | 1,(x:xZ2),(y:xZ2),h=>xZih x y h
 | 2,(x:xZ4),(y:xZ4),h=>xZlQ x y h
 | 3,(x:xZ5Z),(y:xZ5Z),h=>xZof x y h
 | 4,(x:xZ1),(y:xZ1),h=>xZlR x y h
 | 5,(x:xZ3),(y:xZ3),h=>xZog x y h
 | 6,(x:List xZ2),(y:List xZ2),h=>(xZby xZih) x y h
 | 7,(x:xZe),(y:xZe),h=>xZjQ x y h
 | 8,(x:xZy),(y:xZy),h=>xZoh x y h
 | 9,(x:A24 Bool),(y:A24 Bool),h=>(fun x y h=>A24.l_inj (xZby xZ3n _ _ h)) x y h
 | 10,(x:Bool),(y:Bool),h=>xZ3n x y h
 | 11,(x:Int),(y:Int),h=>xZ3n x y h
 | 12,(x:xZS),(y:xZS),h=>xZoi x y h
 | 13,(x:xZ2X),(y:xZ2X),h=>xZoj x y h
 | 14,(x:xZ0),(y:xZ0),h=>xZgC x y h
 | 15,(x:Ent125),(y:Ent125),h=>xZmS x y h
 | 16,(x:List xZ0),(y:List xZ0),h=>(xZby xZgC) x y h
 | 17,(x:List Int),(y:List Int),h=>(xZby xZ3n) x y h
 | 18,(x:xZ1T),(y:xZ1T),h=>xZmU x y h
 | n+19,_,_,h=>nomatch (show false=true from h)
noncomputable def eqT:EqT T:=⟨eqTf,xZok⟩
end
section
open Go.Proofs.Tryz
set_option maxRecDepth 1000000
set_option maxHeartbeats 8000000
noncomputable def k_7:{c:SC // bdQ prog [] f7=c}:=⟨_,by conv=>lhs;cbv⟩
noncomputable def u_7:UF T:=⟨7,f7,k_7.1,⟨[(109,0),(115,0),(122,0)],[],sbf,bof⟩,[true],[],false,[],[],none⟩
theorem uk_7:UF.Ok tb prog u_7:=UF.of func7 (by kernel_rfl) (by kernel_rfl) (xZ6 sb_ok bo_ok) trivial
noncomputable def k_16:{c:SC // bdQ prog [(12,[],false),(17,[96],false)] f16=c}:=⟨_,by conv=>lhs;cbv⟩
noncomputable def u_16:UF T:=⟨16,f16,k_16.1,⟨[],[],sbf,bof⟩,[true],[(0,[3,4,7,8,35,36,37])],false,[],[true,true,true],none⟩
theorem uk_16:UF.Ok tb prog u_16:=UF.of func16 (by kernel_rfl) (by kernel_rfl) (xZ6 sb_ok bo_ok) trivial
set_option cbv.maxSteps 100000000 in
noncomputable def k_21:{c:SC // bd prog f21=c}:=⟨_,by conv=>lhs;cbv⟩
noncomputable def u_21:UF T:=⟨21,f21,k_21.1,⟨[],[],sbf,bof⟩,[true,true,true],[],false,[],[true],some eqT⟩
theorem uk_21:UF.Ok tb prog u_21:=UF.of func21 (by kernel_rfl) (by kernel_rfl) (xZ6 sb_ok bo_ok) trivial
noncomputable def k_22:{c:SC // bdQ prog [] f22=c}:=⟨_,by conv=>lhs;cbv⟩
noncomputable def u_22:UF T:=⟨22,f22,k_22.1,⟨[],[],sbf,bof⟩,[true],[],false,[],[true,true],none⟩
theorem uk_22:UF.Ok tb prog u_22:=UF.of func22 (by kernel_rfl) (by kernel_rfl) (xZ6 sb_ok bo_ok) trivial
noncomputable def k_32:{c:SC // bdQ prog [] f32=c}:=⟨_,by conv=>lhs;cbv⟩
noncomputable def u_32:UF T:=⟨32,f32,k_32.1,⟨[],[],sbf,bof⟩,[true],[],false,[],[true,true],none⟩
theorem uk_32:UF.Ok tb prog u_32:=UF.of func32 (by kernel_rfl) (by kernel_rfl) (xZ6 sb_ok bo_ok) trivial
noncomputable def k_33:{c:SC // bdQ prog [] f33=c}:=⟨_,by conv=>lhs;cbv⟩
noncomputable def u_33:UF T:=⟨33,f33,k_33.1,⟨[],[],sbf,bof⟩,[true],[],false,[],[true,true],none⟩
theorem uk_33:UF.Ok tb prog u_33:=UF.of func33 (by kernel_rfl) (by kernel_rfl) (xZ6 sb_ok bo_ok) trivial
noncomputable def k_37:{c:SC // bdQ prog [] f37=c}:=⟨_,by conv=>lhs;cbv⟩
noncomputable def u_37:UF T:=⟨37,f37,k_37.1,⟨[],[],sbf,bof⟩,[true,false],[],true,[],[true],none⟩
theorem uk_37:UF.Ok tb prog u_37:=UF.of func37 (by kernel_rfl) (by kernel_rfl) (xZ6 sb_ok bo_ok) trivial
noncomputable def k_38:{c:SC // bdQ prog [(7,[],false)] f38=c}:=⟨_,by conv=>lhs;cbv⟩
noncomputable def u_38:UF T:=⟨38,f38,k_38.1,⟨[],[],sbf,bof⟩,[true,true],[],false,[],[true],none⟩
theorem uk_38:UF.Ok tb prog u_38:=UF.of func38 (by kernel_rfl) (by kernel_rfl) (xZ6 sb_ok bo_ok) trivial
noncomputable def k_39:{c:SC // bdQ prog [(6,[],false)] f39=c}:=⟨_,by conv=>lhs;cbv⟩
noncomputable def u_39:UF T:=⟨39,f39,k_39.1,⟨[],[],sbf,bof⟩,[true],[(0,[0,1,12,13])],false,[],[true,true],none⟩
theorem uk_39:UF.Ok tb prog u_39:=UF.of func39 (by kernel_rfl) (by kernel_rfl) (xZ6 sb_ok bo_ok) trivial
noncomputable def k_40:{c:SC // bdQ prog [] f40=c}:=⟨_,by conv=>lhs;cbv⟩
noncomputable def u_40:UF T:=⟨40,f40,k_40.1,⟨[],[],sbf,bof⟩,[true],[(0,[1,2,15,16,17])],false,[],[true,true,false],none⟩
theorem uk_40:UF.Ok tb prog u_40:=UF.of func40 (by kernel_rfl) (by kernel_rfl) (xZ6 sb_ok bo_ok) trivial
noncomputable def k_41:{c:SC // bdQ prog [] f41=c}:=⟨_,by conv=>lhs;cbv⟩
noncomputable def u_41:UF T:=⟨41,f41,k_41.1,⟨[],[],sbf,bof⟩,[true],[(0,[1,2,15,16,17])],false,[],[true,true,false],none⟩
theorem uk_41:UF.Ok tb prog u_41:=UF.of func41 (by kernel_rfl) (by kernel_rfl) (xZ6 sb_ok bo_ok) trivial
noncomputable def k_42:{c:SC // bdQ prog [(6,[],false)] f42=c}:=⟨_,by conv=>lhs;cbv⟩
noncomputable def u_42:UF T:=⟨42,f42,k_42.1,⟨[],[],sbf,bof⟩,[true],[(0,[0,1,12,13])],false,[],[true,true],none⟩
theorem uk_42:UF.Ok tb prog u_42:=UF.of func42 (by kernel_rfl) (by kernel_rfl) (xZ6 sb_ok bo_ok) trivial
noncomputable def k_55:{c:SC // bdQ prog [(4,[],false)] f55=c}:=⟨_,by conv=>lhs;cbv⟩
noncomputable def u_55:UF T:=⟨55,f55,k_55.1,⟨[],[],sbf,bof⟩,[true],[(0,[0,3,7,8])],false,[],[true,true],none⟩
theorem uk_55:UF.Ok tb prog u_55:=UF.of func55 (by kernel_rfl) (by kernel_rfl) (xZ6 sb_ok bo_ok) trivial
noncomputable def k_56:{c:SC // bdQ prog [] f56=c}:=⟨_,by conv=>lhs;cbv⟩
noncomputable def u_56:UF T:=⟨56,f56,k_56.1,⟨[],[],sbf,bof⟩,[true],[(0,[0,1,7,8])],false,[],[true,true],none⟩
theorem uk_56:UF.Ok tb prog u_56:=UF.of func56 (by kernel_rfl) (by kernel_rfl) (xZ6 sb_ok bo_ok) trivial
noncomputable def k_57:{c:SC // bdQ prog [] f57=c}:=⟨_,by conv=>lhs;cbv⟩
noncomputable def u_57:UF T:=⟨57,f57,k_57.1,⟨[],[],sbf,bof⟩,[true,false],[(0,[0,4])],true,[],[true],none⟩
theorem uk_57:UF.Ok tb prog u_57:=UF.of func57 (by kernel_rfl) (by kernel_rfl) (xZ6 sb_ok bo_ok) trivial
noncomputable def k_58:{c:SC // bdQ prog [(8,[],false)] f58=c}:=⟨_,by conv=>lhs;cbv⟩
noncomputable def u_58:UF T:=⟨58,f58,k_58.1,⟨[],[],sbf,bof⟩,[true,false],[],true,[(75,2)],[false],none⟩
theorem uk_58:UF.Ok tb prog u_58:=UF.of func58 (by kernel_rfl) (by kernel_rfl) (xZ6 sb_ok bo_ok) trivial (fun p h=>by cases h with | head=>exact xZ8R | tail _ h=>cases h)
noncomputable def k_59:{c:SC // bdQ prog [] f59=c}:=⟨_,by conv=>lhs;cbv⟩
noncomputable def u_59:UF T:=⟨59,f59,k_59.1,⟨[],[],sbf,bof⟩,[true],[],false,[],[true],none⟩
theorem uk_59:UF.Ok tb prog u_59:=UF.of func59 (by kernel_rfl) (by kernel_rfl) (xZ6 sb_ok bo_ok) trivial
noncomputable def k_61:{c:SC // bdQ prog [] f61=c}:=⟨_,by conv=>lhs;cbv⟩
noncomputable def u_61:UF T:=⟨61,f61,k_61.1,⟨[],[],sbf,bof⟩,[],[],false,[],[false,true],none⟩
theorem uk_61:UF.Ok tb prog u_61:=UF.of func61 (by kernel_rfl) (by kernel_rfl) (xZ6 sb_ok bo_ok) trivial
noncomputable def k_74:{c:SC // bdQ prog [(1,[],false)] f74=c}:=⟨_,by conv=>lhs;cbv⟩
noncomputable def u_74:UF T:=⟨74,f74,k_74.1,⟨[],[],sbf,bof⟩,[false],[],true,[],[false],none⟩
theorem uk_74:UF.Ok tb prog u_74:=UF.of func74 (by kernel_rfl) (by kernel_rfl) (xZ6 sb_ok bo_ok) trivial
noncomputable def k_76:{c:SC // bdQ prog [] f76=c}:=⟨_,by conv=>lhs;cbv⟩
noncomputable def u_76:UF T:=⟨76,f76,k_76.1,⟨[],[],sbf,bof⟩,[true],[],false,[],[false,true],none⟩
theorem uk_76:UF.Ok tb prog u_76:=UF.of func76 (by kernel_rfl) (by kernel_rfl) (xZ6 sb_ok bo_ok) trivial
noncomputable def k_77:{c:SC // bdQ prog [] f77=c}:=⟨_,by conv=>lhs;cbv⟩
noncomputable def u_77:UF T:=⟨77,f77,k_77.1,⟨[],[],sbf,bof⟩,[],[],false,[],[false,true,true],none⟩
theorem uk_77:UF.Ok tb prog u_77:=UF.of func77 (by kernel_rfl) (by kernel_rfl) (xZ6 sb_ok bo_ok) trivial
noncomputable def k_78:{c:SC // bdQ prog [(1,[],false),(4,[],false)] f78=c}:=⟨_,by conv=>lhs;cbv⟩
noncomputable def u_78:UF T:=⟨78,f78,k_78.1,⟨[],[],sbf,bof⟩,[true],[],false,[],[false],none⟩
theorem uk_78:UF.Ok tb prog u_78:=UF.of func78 (by kernel_rfl) (by kernel_rfl) (xZ6 sb_ok bo_ok) trivial
noncomputable def k_79:{c:SC // bdQ prog [] f79=c}:=⟨_,by conv=>lhs;cbv⟩
noncomputable def u_79:UF T:=⟨79,f79,k_79.1,⟨[],[],sbf,bof⟩,[true],[],false,[],[false,true,true],none⟩
theorem uk_79:UF.Ok tb prog u_79:=UF.of func79 (by kernel_rfl) (by kernel_rfl) (xZ6 sb_ok bo_ok) trivial
noncomputable def k_80:{c:SC // bdQ prog [(1,[],false),(4,[],false)] f80=c}:=⟨_,by conv=>lhs;cbv⟩
noncomputable def u_80:UF T:=⟨80,f80,k_80.1,⟨[],[],sbf,bof⟩,[true],[],false,[],[false],none⟩
theorem uk_80:UF.Ok tb prog u_80:=UF.of func80 (by kernel_rfl) (by kernel_rfl) (xZ6 sb_ok bo_ok) trivial
noncomputable def k_81:{c:SC // bdQ prog [] f81=c}:=⟨_,by conv=>lhs;cbv⟩
noncomputable def u_81:UF T:=⟨81,f81,k_81.1,⟨[],[],sbf,bof⟩,[true],[(0,[0,3])],false,[],[false],none⟩
theorem uk_81:UF.Ok tb prog u_81:=UF.of func81 (by kernel_rfl) (by kernel_rfl) (xZ6 sb_ok bo_ok) trivial
noncomputable def k_83:{c:SC // bdQ prog [(11,[],true)] f83=c}:=⟨_,by conv=>lhs;cbv⟩
noncomputable def u_83:UF T:=⟨83,f83,k_83.1,⟨[],[],sbf,bof⟩,[true,true],[(1,[2,8,9,42,43])],false,[],[true,true,true],none⟩
theorem uk_83:UF.Ok tb prog u_83:=UF.of func83 (by kernel_rfl) (by kernel_rfl) (xZ6 sb_ok bo_ok) trivial
noncomputable def k_84:{c:SC // bdQ prog [] f84=c}:=⟨_,by conv=>lhs;cbv⟩
noncomputable def u_84:UF T:=⟨84,f84,k_84.1,⟨[],[],sbf,bof⟩,[true],[(0,[0,3])],false,[],[true],none⟩
theorem uk_84:UF.Ok tb prog u_84:=UF.of func84 (by kernel_rfl) (by kernel_rfl) (xZ6 sb_ok bo_ok) trivial
noncomputable def k_85:{c:SC // bdQ prog [] f85=c}:=⟨_,by conv=>lhs;cbv⟩
noncomputable def u_85:UF T:=⟨85,f85,k_85.1,⟨[],[],sbf,bof⟩,[true],[],false,[],[true],none⟩
theorem uk_85:UF.Ok tb prog u_85:=UF.of func85 (by kernel_rfl) (by kernel_rfl) (xZ6 sb_ok bo_ok) trivial
noncomputable def k_86:{c:SC // bdQ prog [(4,[],false)] f86=c}:=⟨_,by conv=>lhs;cbv⟩
noncomputable def u_86:UF T:=⟨86,f86,k_86.1,⟨[(44,2)],[],sbf,bof⟩,[],[],false,[],[false,true],none⟩
theorem uk_86:UF.Ok tb prog u_86:=UF.of func86 (by kernel_rfl) (by kernel_rfl) (xZ6 sb_ok bo_ok) trivial
noncomputable def k_87:{c:SC // bdQ prog [] f87=c}:=⟨_,by conv=>lhs;cbv⟩
noncomputable def u_87:UF T:=⟨87,f87,k_87.1,⟨[],[],sbf,bof⟩,[],[],false,[],[false,true],none⟩
theorem uk_87:UF.Ok tb prog u_87:=UF.of func87 (by kernel_rfl) (by kernel_rfl) (xZ6 sb_ok bo_ok) trivial
end
section
open Go.Proofs.Tryz
set_option maxRecDepth 1000000
set_option maxHeartbeats 8000000
noncomputable def k_88:{c:SC // bdQ prog [] f88=c}:=⟨_,by conv=>lhs;cbv⟩
noncomputable def u_88:UF T:=⟨88,f88,k_88.1,⟨[],[],sbf,bof⟩,[],[],false,[],[false,true],none⟩
theorem uk_88:UF.Ok tb prog u_88:=UF.of func88 (by kernel_rfl) (by kernel_rfl) (xZ6 sb_ok bo_ok) trivial
noncomputable def k_89:{c:SC // bdQ prog [] f89=c}:=⟨_,by conv=>lhs;cbv⟩
noncomputable def u_89:UF T:=⟨89,f89,k_89.1,⟨[],[],sbf,bof⟩,[],[(0,[0,1,4,5])],false,[],[false,true],none⟩
theorem uk_89:UF.Ok tb prog u_89:=UF.of func89 (by kernel_rfl) (by kernel_rfl) (xZ6 sb_ok bo_ok) trivial
noncomputable def k_111:{c:SC // bdQ prog [] f111=c}:=⟨_,by conv=>lhs;cbv⟩
noncomputable def u_111:UF T:=⟨111,f111,k_111.1,⟨[],[],sbf,bof⟩,[true],[],false,[],[true],none⟩
theorem xZpn:UF.Ok tb prog u_111:=UF.of func111 (by kernel_rfl) (by kernel_rfl) (xZ6 sb_ok bo_ok) trivial
noncomputable def k_112:{c:SC // bdQ prog [] f112=c}:=⟨_,by conv=>lhs;cbv⟩
noncomputable def u_112:UF T:=⟨112,f112,k_112.1,⟨[],[],sbf,bof⟩,[true],[],false,[],[true],none⟩
theorem xZpo:UF.Ok tb prog u_112:=UF.of func112 (by kernel_rfl) (by kernel_rfl) (xZ6 sb_ok bo_ok) trivial
noncomputable def k_113:{c:SC // bdQ prog [] f113=c}:=⟨_,by conv=>lhs;cbv⟩
noncomputable def u_113:UF T:=⟨113,f113,k_113.1,⟨[],[],sbf,bof⟩,[true],[],false,[],[true,true],none⟩
theorem xZpp:UF.Ok tb prog u_113:=UF.of func113 (by kernel_rfl) (by kernel_rfl) (xZ6 sb_ok bo_ok) trivial
noncomputable def k_115:{c:SC // bdQ prog [(2,[],false)] f115=c}:=⟨_,by conv=>lhs;cbv⟩
noncomputable def u_115:UF T:=⟨115,f115,k_115.1,⟨[],[],sbf,bof⟩,[false],[],true,[],[false],none⟩
theorem xZpq:UF.Ok tb prog u_115:=UF.of func115 (by kernel_rfl) (by kernel_rfl) (xZ6 sb_ok bo_ok) trivial
noncomputable def k_116:{c:SC // bdQ prog [(2,[],false),(8,[],false)] f116=c}:=⟨_,by conv=>lhs;cbv⟩
noncomputable def u_116:UF T:=⟨116,f116,k_116.1,⟨[],[],sbf,bof⟩,[false],[(0,[0,3,4,25,26])],true,[],[false],none⟩
theorem xZpr:UF.Ok tb prog u_116:=UF.of func116 (by kernel_rfl) (by kernel_rfl) (xZ6 sb_ok bo_ok) trivial
noncomputable def k_119:{c:SC // bdQ prog [(2,[13],false),(4,[59],false)] f119=c}:=⟨_,by conv=>lhs;cbv⟩
noncomputable def u_119:UF T:=⟨119,f119,k_119.1,⟨[],[],sbf,bof⟩,[false],[],true,[],[false],none⟩
theorem xZps:UF.Ok tb prog u_119:=UF.of func119 (by kernel_rfl) (by kernel_rfl) (xZ6 sb_ok bo_ok) trivial
noncomputable def k_120:{c:SC // bdQ prog [] f120=c}:=⟨_,by conv=>lhs;cbv⟩
noncomputable def u_120:UF T:=⟨120,f120,k_120.1,⟨[(24,3)],[],sbf,bof⟩,[true],[(0,[0,2,3,4,12,13])],false,[],[false,true,true,false,true],none⟩
theorem xZpt:UF.Ok tb prog u_120:=UF.of func120 (by kernel_rfl) (by kernel_rfl) (xZ6 sb_ok bo_ok) trivial
noncomputable def k_121:{c:SC // bdQ prog [] f121=c}:=⟨_,by conv=>lhs;cbv⟩
noncomputable def u_121:UF T:=⟨121,f121,k_121.1,⟨[],[],sbf,bof⟩,[true],[],false,[],[false,true],none⟩
theorem xZpu:UF.Ok tb prog u_121:=UF.of func121 (by kernel_rfl) (by kernel_rfl) (xZ6 sb_ok bo_ok) trivial
noncomputable def k_122:{c:SC // bdQ prog [(1,[],false)] f122=c}:=⟨_,by conv=>lhs;cbv⟩
noncomputable def u_122:UF T:=⟨122,f122,k_122.1,⟨[],[],sbf,bof⟩,[true],[],false,[],[false,true,true],none⟩
theorem xZpv:UF.Ok tb prog u_122:=UF.of func122 (by kernel_rfl) (by kernel_rfl) (xZ6 sb_ok bo_ok) trivial
noncomputable def k_124:{c:SC // bdQ prog [] f124=c}:=⟨_,by conv=>lhs;cbv⟩
noncomputable def u_124:UF T:=⟨124,f124,k_124.1,⟨[],[],sbf,bof⟩,[true],[],false,[],[true,true],none⟩
theorem xZpx:UF.Ok tb prog u_124:=UF.of func124 (by kernel_rfl) (by kernel_rfl) (xZ6 sb_ok bo_ok) trivial
noncomputable def k_125:{c:SC // bdQ prog [] f125=c}:=⟨_,by conv=>lhs;cbv⟩
noncomputable def u_125:UF T:=⟨125,f125,k_125.1,⟨[],[],sbf,bof⟩,[true],[],false,[],[true],none⟩
theorem xZpy:UF.Ok tb prog u_125:=UF.of func125 (by kernel_rfl) (by kernel_rfl) (xZ6 sb_ok bo_ok) trivial
noncomputable def k_126:{c:SC // bdQ prog [] f126=c}:=⟨_,by conv=>lhs;cbv⟩
noncomputable def u_126:UF T:=⟨126,f126,k_126.1,⟨[],[],sbf,bof⟩,[true],[],false,[],[true],none⟩
theorem xZpz:UF.Ok tb prog u_126:=UF.of func126 (by kernel_rfl) (by kernel_rfl) (xZ6 sb_ok bo_ok) trivial
noncomputable def k_127:{c:SC // bdQ prog [] f127=c}:=⟨_,by conv=>lhs;cbv⟩
noncomputable def u_127:UF T:=⟨127,f127,k_127.1,⟨[],[],sbf,bof⟩,[true],[],false,[],[true],none⟩
theorem xZpA:UF.Ok tb prog u_127:=UF.of func127 (by kernel_rfl) (by kernel_rfl) (xZ6 sb_ok bo_ok) trivial
noncomputable def k_128:{c:SC // bdQ prog [] f128=c}:=⟨_,by conv=>lhs;cbv⟩
noncomputable def u_128:UF T:=⟨128,f128,k_128.1,⟨[],[],sbf,bof⟩,[true],[],false,[],[true],none⟩
theorem xZpB:UF.Ok tb prog u_128:=UF.of func128 (by kernel_rfl) (by kernel_rfl) (xZ6 sb_ok bo_ok) trivial
noncomputable def k_129:{c:SC // bdQ prog [] f129=c}:=⟨_,by conv=>lhs;cbv⟩
noncomputable def u_129:UF T:=⟨129,f129,k_129.1,⟨[],[],sbf,bof⟩,[true],[],false,[],[true],none⟩
theorem xZpC:UF.Ok tb prog u_129:=UF.of func129 (by kernel_rfl) (by kernel_rfl) (xZ6 sb_ok bo_ok) trivial
noncomputable def k_130:{c:SC // bdQ prog [] f130=c}:=⟨_,by conv=>lhs;cbv⟩
noncomputable def u_130:UF T:=⟨130,f130,k_130.1,⟨[],[],sbf,bof⟩,[true],[],false,[],[true],none⟩
theorem xZpD:UF.Ok tb prog u_130:=UF.of func130 (by kernel_rfl) (by kernel_rfl) (xZ6 sb_ok bo_ok) trivial
noncomputable def k_131:{c:SC // bdQ prog [] f131=c}:=⟨_,by conv=>lhs;cbv⟩
noncomputable def u_131:UF T:=⟨131,f131,k_131.1,⟨[(23,4)],[],sbf,bof⟩,[],[],false,[],[false,true,true],none⟩
theorem xZpE:UF.Ok tb prog u_131:=UF.of func131 (by kernel_rfl) (by kernel_rfl) (xZ6 sb_ok bo_ok) trivial
noncomputable def k_133:{c:SC // bdQ prog [] f133=c}:=⟨_,by conv=>lhs;cbv⟩
noncomputable def u_133:UF T:=⟨133,f133,k_133.1,⟨[],[],sbf,bof⟩,[],[(0,[0,1,6,7])],false,[],[false,true,true],none⟩
theorem xZpF:UF.Ok tb prog u_133:=UF.of func133 (by kernel_rfl) (by kernel_rfl) (xZ6 sb_ok bo_ok) trivial
noncomputable def k_134:{c:SC // bdQ prog [] f134=c}:=⟨_,by conv=>lhs;cbv⟩
noncomputable def u_134:UF T:=⟨134,f134,k_134.1,⟨[],[],sbf,bof⟩,[],[],false,[],[false,true,true],none⟩
theorem xZpG:UF.Ok tb prog u_134:=UF.of func134 (by kernel_rfl) (by kernel_rfl) (xZ6 sb_ok bo_ok) trivial
noncomputable def k_143:{c:SC // bdQ prog [] f143=c}:=⟨_,by conv=>lhs;cbv⟩
noncomputable def u_143:UF T:=⟨143,f143,k_143.1,⟨[],[],sbf,bof⟩,[true],[],false,[],[true,true],none⟩
theorem xZpH:UF.Ok tb prog u_143:=UF.of func143 (by kernel_rfl) (by kernel_rfl) (xZ6 sb_ok bo_ok) trivial
noncomputable def k_144:{c:SC // bdQ prog [(2,[31],false)] f144=c}:=⟨_,by conv=>lhs;cbv⟩
noncomputable def u_144:UF T:=⟨144,f144,k_144.1,⟨[],[],sbf,bof⟩,[true],[(0,[0,1,5])],false,[],[false,false],none⟩
theorem xZpI:UF.Ok tb prog u_144:=UF.of func144 (by kernel_rfl) (by kernel_rfl) (xZ6 sb_ok bo_ok) trivial
noncomputable def k_145:{c:SC // bdQ prog [] f145=c}:=⟨_,by conv=>lhs;cbv⟩
noncomputable def u_145:UF T:=⟨145,f145,k_145.1,⟨[],[],sbf,bof⟩,[true],[],false,[],[true],none⟩
theorem xZpJ:UF.Ok tb prog u_145:=UF.of func145 (by kernel_rfl) (by kernel_rfl) (xZ6 sb_ok bo_ok) trivial
noncomputable def k_146:{c:SC // bdQ prog [(1,[],false)] f146=c}:=⟨_,by conv=>lhs;cbv⟩
noncomputable def u_146:UF T:=⟨146,f146,k_146.1,⟨[(24,5)],[],sbf,bof⟩,[false],[],true,[],[false,true,true,true,true],none⟩
theorem xZpK:UF.Ok tb prog u_146:=UF.of func146 (by kernel_rfl) (by kernel_rfl) (xZ6 sb_ok bo_ok) trivial
noncomputable def k_148:{c:SC // bdQ prog [] f148=c}:=⟨_,by conv=>lhs;cbv⟩
noncomputable def u_148:UF T:=⟨148,f148,k_148.1,⟨[],[],sbf,bof⟩,[true],[],false,[],[true],none⟩
theorem xZpL:UF.Ok tb prog u_148:=UF.of func148 (by kernel_rfl) (by kernel_rfl) (xZ6 sb_ok bo_ok) trivial
noncomputable def k_154:{c:SC // bdQ prog [(0,[],false),(1,[],false),(2,[],false)] f154=c}:=⟨_,by conv=>lhs;cbv⟩
noncomputable def u_154:UF T:=⟨154,f154,k_154.1,⟨[],[],sbf,bof⟩,[],[],false,[],[true],none⟩
theorem xZpM:UF.Ok tb prog u_154:=UF.of func154 (by kernel_rfl) (by kernel_rfl) (xZ6 sb_ok bo_ok) trivial
noncomputable def k_155:{c:SC // bdQ prog [] f155=c}:=⟨_,by conv=>lhs;cbv⟩
noncomputable def u_155:UF T:=⟨155,f155,k_155.1,⟨[],[],sbf,bof⟩,[true],[],false,[],[false,true],none⟩
theorem xZpN:UF.Ok tb prog u_155:=UF.of func155 (by kernel_rfl) (by kernel_rfl) (xZ6 sb_ok bo_ok) trivial
noncomputable def k_156:{c:SC // bdQ prog [] f156=c}:=⟨_,by conv=>lhs;cbv⟩
noncomputable def u_156:UF T:=⟨156,f156,k_156.1,⟨[],[],sbf,bof⟩,[true],[],false,[],[true],none⟩
theorem xZpO:UF.Ok tb prog u_156:=UF.of func156 (by kernel_rfl) (by kernel_rfl) (xZ6 sb_ok bo_ok) trivial
noncomputable def k_157:{c:SC // bdQ prog [] f157=c}:=⟨_,by conv=>lhs;cbv⟩
noncomputable def u_157:UF T:=⟨157,f157,k_157.1,⟨[],[],sbf,bof⟩,[true],[],false,[],[true],none⟩
theorem xZpP:UF.Ok tb prog u_157:=UF.of func157 (by kernel_rfl) (by kernel_rfl) (xZ6 sb_ok bo_ok) trivial
end
end Go.Proofs.YtmfkphajohcklaaGreat.O
