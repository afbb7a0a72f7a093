/- Calls that are put off, where nothing panics. No premise beyond what each theorem says. -/
import Derived.Test.YtbioikdfpfafaaaGreatDoorTG5
import Derived.Test.YtbioikdfpfafaaaGreatDoorTA4
import Derived.Tactics
import Derived.Tactics2
import Derived.Defers
import Derived.Recover
import Derived.WalkKit
set_option linter.all false
set_option linter.unusedSimpArgs false
set_option linter.unusedVariables false
namespace Go.Proofs.YtbioikdfpfafaaaGreatDoor.T
open Go
section
open Go.Proofs.Tryz
set_option maxRecDepth 1000000
set_option maxHeartbeats 8000000
open Go.RowKit
set_option maxHeartbeats 4000000
theorem uta_g (w:World):(Instr.typeAssert .nilIface 20 172 true).run Tryz.prog w=.ok (.tuple #[.pointer none,.bool false]) w:=by
 obtain ⟨z,hz⟩:∃ z,cTa Tryz.prog 172=some z:=⟨.v (.pointer none),by kernel_rfl⟩
 obtain ⟨⟨d,hd,hn⟩,i,zv,hi,hzv,rfl⟩:=xZcT hz
 have hv:(zeroValue 172).run Tryz.prog w=.ok (.pointer none) w:=Tryz.zeroValue172 w
 simp only [Instr.typeAssert,Sem.run_bind,run_underlying hd,Result.andThen_ok]
 cases d<;>first | exact absurd rfl (hn _) | (simp only [if_true,Sem.run_bind,Sem.run_pure,hv,Result.andThen_ok])
theorem xZqY (p q:Addr) (w:World):CallsD Tryz.prog 84 #[.pointer (some p),.pointer (some q)] .returning w fun e u' w'=>
 e=.returned (.tuple #[])∧u'=.returning∧w'=w:=by
 refine callsD_of_wpS Tryz.func84 rfl fun c₀ cs hu=>?_
 simp only [Tryz.ntmps84,List.size_toArray,List.length_cons,List.length_nil,Nat.reduceAdd,Nat.reduceSub,Array.replicate_succ,
  Array.replicate_zero,List.push_toArray,List.append_toArray,List.nil_append,List.cons_append]
 apply wpS_seq
 apply wpS_region
 simp [wpOpsS,go_sem,recoverD,hu,Exit.thenS,uta_g]
 refine wpS_of_wp ?_
 go_wp2
 exact ⟨rfl,_,(by rw [← hu]),_,results_none rfl _ _ _,rfl,rfl,rfl⟩
theorem xZ5z:Idle prog 84 2:=⟨(Is.of (fn:=f84) (by kernel_rfl) (by kernel_rfl)).enters,fun caps hn hp w=>by
 obtain ⟨l⟩:=caps
 match l,hn with
 | [a,b],_=>
   obtain ⟨p,h0⟩:=hp 0 (by decide)
   obtain ⟨q,h1⟩:=hp 1 (by decide)
   cases h0
   cases h1
   refine (xZqY p q w).mono ?_
   rintro e u' w' ⟨rfl,rfl,rfl⟩
   exact ⟨⟨_,rfl⟩,rfl,.refl _⟩⟩
end
section
open Go.Proofs.Tryz
set_option maxRecDepth 1000000
set_option maxHeartbeats 8000000
def beqF {α:Type} [BEq α] (x y:α):Bool:=x==y
theorem xZ2a {α:Type} [BEq α] [LawfulBEq α] (x y:α) (h:beqF x y=true):x=y:=eq_of_beq h
def eqF0:xZ6→xZ6→Bool
 | ⟨a0,a1⟩,⟨b0,b1⟩=>beqF a0 b0&&(beqF a1 b1&&true)
theorem xZpz:∀ x y,eqF0 x y=true→x=y
 | ⟨a0,a1⟩,⟨b0,b1⟩,h=>by
   simp only [eqF0,Bool.and_eq_true] at h
   obtain rfl:=xZ2a _ _ h.1
   obtain rfl:=xZ2a _ _ h.2.1
   rfl
def eqF1:xZ1→xZ1→Bool
 | ⟨a0,a1⟩,⟨b0,b1⟩=>beqF a0 b0&&((eqL eqF0) a1 b1&&true)
theorem xZts:∀ x y,eqF1 x y=true→x=y
 | ⟨a0,a1⟩,⟨b0,b1⟩,h=>by
   simp only [eqF1,Bool.and_eq_true] at h
   obtain rfl:=xZ2a _ _ h.1
   obtain rfl:=(xZet xZpz) _ _ h.2.1
   rfl
def eqF3:xZ7→xZ7→Bool
 | ⟨a0,a1,a2,a3⟩,⟨b0,b1,b2,b3⟩=>beqF a0 b0&&(beqF a1 b1&&(beqF a2 b2&&(beqF a3 b3&&true)))
theorem xZnE:∀ x y,eqF3 x y=true→x=y
 | ⟨a0,a1,a2,a3⟩,⟨b0,b1,b2,b3⟩,h=>by
   simp only [eqF3,Bool.and_eq_true] at h
   obtain rfl:=xZ2a _ _ h.1
   obtain rfl:=xZ2a _ _ h.2.1
   obtain rfl:=xZ2a _ _ h.2.2.1
   obtain rfl:=xZ2a _ _ h.2.2.2.1
   rfl
def eqF2:xZ2→xZ2→Bool
 | ⟨a0,a1,a2,a3,a4⟩,⟨b0,b1,b2,b3,b4⟩=>beqF a0 b0&&(beqF a1 b1&&(beqF a2 b2&&(beqF a3 b3&&(eqF3 a4 b4&&true))))
theorem xZmW:∀ x y,eqF2 x y=true→x=y
 | ⟨a0,a1,a2,a3,a4⟩,⟨b0,b1,b2,b3,b4⟩,h=>by
   simp only [eqF2,Bool.and_eq_true] at h
   obtain rfl:=xZ2a _ _ h.1
   obtain rfl:=xZ2a _ _ h.2.1
   obtain rfl:=xZ2a _ _ h.2.2.1
   obtain rfl:=xZ2a _ _ h.2.2.2.1
   obtain rfl:=xZnE _ _ h.2.2.2.2.1
   rfl
def eqF4:xZ0→xZ0→Bool
 | ⟨a0,a1,a2,a3,a4,a5,a6⟩,⟨b0,b1,b2,b3,b4,b5,b6⟩=>beqF a0 b0&&(beqF a1 b1&&(beqF a2 b2&&(beqF a3 b3&&(beqF a4 b4&&(beqF a5 b5&&((eqL eqF2) a6 b6&&true))))))
theorem xZoW:∀ x y,eqF4 x y=true→x=y
 | ⟨a0,a1,a2,a3,a4,a5,a6⟩,⟨b0,b1,b2,b3,b4,b5,b6⟩,h=>by
   simp only [eqF4,Bool.and_eq_true] at h
   obtain rfl:=xZ2a _ _ h.1
   obtain rfl:=xZ2a _ _ h.2.1
   obtain rfl:=xZ2a _ _ h.2.2.1
   obtain rfl:=xZ2a _ _ h.2.2.2.1
   obtain rfl:=xZ2a _ _ h.2.2.2.2.1
   obtain rfl:=xZ2a _ _ h.2.2.2.2.2.1
   obtain rfl:=(xZet xZmW) _ _ h.2.2.2.2.2.2.1
   rfl
def eqF5:xZ3→xZ3→Bool
 | ⟨a0,a1,a2,a3⟩,⟨b0,b1,b2,b3⟩=>beqF a0 b0&&(beqF a1 b1&&(beqF a2 b2&&(eqF3 a3 b3&&true)))
theorem xZsY:∀ x y,eqF5 x y=true→x=y
 | ⟨a0,a1,a2,a3⟩,⟨b0,b1,b2,b3⟩,h=>by
   simp only [eqF5,Bool.and_eq_true] at h
   obtain rfl:=xZ2a _ _ h.1
   obtain rfl:=xZ2a _ _ h.2.1
   obtain rfl:=xZ2a _ _ h.2.2.1
   obtain rfl:=xZnE _ _ h.2.2.2.1
   rfl
def eqF6:xZ5→xZ5→Bool
 | ⟨a0,a1,a2,a3⟩,⟨b0,b1,b2,b3⟩=>(eqL eqF4) a0 b0&&(beqF a1 b1&&(beqF a2 b2&&(beqF a3 b3&&true)))
theorem xZtC:∀ x y,eqF6 x y=true→x=y
 | ⟨a0,a1,a2,a3⟩,⟨b0,b1,b2,b3⟩,h=>by
   simp only [eqF6,Bool.and_eq_true] at h
   obtain rfl:=(xZet xZoW) _ _ h.1
   obtain rfl:=xZ2a _ _ h.2.1
   obtain rfl:=xZ2a _ _ h.2.2.1
   obtain rfl:=xZ2a _ _ h.2.2.2.1
   rfl
def eqTf:(i:Nat)→T i→T i→Bool
 | 0=>(beqF:Int→Int→Bool)
 | 1=>(beqF:(List UInt8)→(List UInt8)→Bool)
 | 2=>(eqF0:xZ6→xZ6→Bool)
 | 3=>(eqF1:xZ1→xZ1→Bool)
 | 4=>(eqF2:xZ2→xZ2→Bool)
 | 5=>(eqF4:xZ0→xZ0→Bool)
 | 6=>(eqF5:xZ3→xZ3→Bool)
 | 7=>((eqL eqF2):(List xZ2)→(List xZ2)→Bool)
 | 8=>(eqF3:xZ7→xZ7→Bool)
 | 9=>(eqF6:xZ5→xZ5→Bool)
 | 10=>((fun x y=>eqL beqF (A40.l x) (A40.l y)):(A40 Bool)→(A40 Bool)→Bool)
 | 11=>(beqF:Bool→Bool→Bool)
 | 12=>((fun x y=>eqL (fun x y=>eqL beqF (A40.l x) (A40.l y)) (A40.l x) (A40.l y)):(A40 (A40 Bool))→(A40 (A40 Bool))→Bool)
 | _=>fun _ _=>false
theorem xZru:∀ i x y,eqTf i x y=true→x=y
 | 0,(x:Int),(y:Int),h=>xZ2a x y h
 | 1,(x:List UInt8),(y:List UInt8),h=>xZ2a x y h
 | 2,(x:xZ6),(y:xZ6),h=>xZpz x y h
 | 3,(x:xZ1),(y:xZ1),h=>xZts x y h
 | 4,(x:xZ2),(y:xZ2),h=>xZmW x y h
 | 5,(x:xZ0),(y:xZ0),h=>xZoW x y h
 | 6,(x:xZ3),(y:xZ3),h=>xZsY x y h
 | 7,(x:List xZ2),(y:List xZ2),h=>(xZet xZmW) x y h
 | 8,(x:xZ7),(y:xZ7),h=>xZnE x y h
 | 9,(x:xZ5),(y:xZ5),h=>xZtC x y h
 | 10,(x:A40 Bool),(y:A40 Bool),h=>(fun x y h=>A40.l_inj (xZet xZ2a _ _ h)) x y h
 | 11,(x:Bool),(y:Bool),h=>xZ2a x y h
 | 12,(x:A40 (A40 Bool)),(y:A40 (A40 Bool)),h=>(fun x y h=>A40.l_inj (xZet (fun x y h=>A40.l_inj (xZet xZ2a _ _ h)) _ _ h)) x y h
 | n+13,_,_,h=>nomatch (show false=true from h)
noncomputable def eqT:EqT T:=⟨eqTf,xZru⟩
end
section
open Go.Proofs.Tryz
set_option maxRecDepth 1000000
set_option maxHeartbeats 8000000
noncomputable def k_9:{c:SC // bdQ prog [] f9=c}:=⟨_,by conv=>lhs;cbv⟩
noncomputable def u_9:UF T:=⟨9,f9,k_9.1,⟨[(46,0)],[],sbf,bof⟩,[true],[],false,[],[],none⟩
theorem uk_9:UF.Ok tb prog u_9:=UF.of func9 (by kernel_rfl) (by kernel_rfl) (xZ4 sb_ok bo_ok) trivial
noncomputable def k_15:{c:SC // bdQ prog [] f15=c}:=⟨_,by conv=>lhs;cbv⟩
noncomputable def u_15:UF T:=⟨15,f15,k_15.1,⟨[(51,1)],[],sbf,bof⟩,[true],[(0,[2,5,38,39])],false,[],[true,true],none⟩
theorem uk_15:UF.Ok tb prog u_15:=UF.of func15 (by kernel_rfl) (by kernel_rfl) (xZ4 sb_ok bo_ok) trivial
noncomputable def k_18:{c:SC // bdQ prog [] f18=c}:=⟨_,by conv=>lhs;cbv⟩
noncomputable def u_18:UF T:=⟨18,f18,k_18.1,⟨[],[],sbf,bof⟩,[true],[],false,[],[true,true],none⟩
theorem uk_18:UF.Ok tb prog u_18:=UF.of func18 (by kernel_rfl) (by kernel_rfl) (xZ4 sb_ok bo_ok) trivial
noncomputable def k_21:{c:SC // bdQ prog [] f21=c}:=⟨_,by conv=>lhs;cbv⟩
noncomputable def u_21:UF T:=⟨21,f21,k_21.1,⟨[],[],sbf,bof⟩,[true,true],[],false,[],[true],none⟩
theorem uk_21:UF.Ok tb prog u_21:=UF.of func21 (by kernel_rfl) (by kernel_rfl) (xZ4 sb_ok bo_ok) trivial
noncomputable def k_22:{c:SC // bdQ prog [] f22=c}:=⟨_,by conv=>lhs;cbv⟩
noncomputable def u_22:UF T:=⟨22,f22,k_22.1,⟨[],[],sbf,bof⟩,[true,false],[],true,[],[true],none⟩
theorem uk_22:UF.Ok tb prog u_22:=UF.of func22 (by kernel_rfl) (by kernel_rfl) (xZ4 sb_ok bo_ok) trivial
noncomputable def k_24:{c:SC // bdQ prog [] f24=c}:=⟨_,by conv=>lhs;cbv⟩
noncomputable def u_24:UF T:=⟨24,f24,k_24.1,⟨[],[],sbf,bof⟩,[true],[],false,[],[true],none⟩
theorem uk_24:UF.Ok tb prog u_24:=UF.of func24 (by kernel_rfl) (by kernel_rfl) (xZ4 sb_ok bo_ok) trivial
noncomputable def k_26:{c:SC // bdQ prog [] f26=c}:=⟨_,by conv=>lhs;cbv⟩
noncomputable def u_26:UF T:=⟨26,f26,k_26.1,⟨[],[],sbf,bof⟩,[false],[],true,[],[true],none⟩
theorem uk_26:UF.Ok tb prog u_26:=UF.of func26 (by kernel_rfl) (by kernel_rfl) (xZ4 sb_ok bo_ok) trivial
noncomputable def k_28:{c:SC // bdQ prog [] f28=c}:=⟨_,by conv=>lhs;cbv⟩
noncomputable def u_28:UF T:=⟨28,f28,k_28.1,⟨[],[],sbf,bof⟩,[true],[],false,[],[true],none⟩
theorem uk_28:UF.Ok tb prog u_28:=UF.of func28 (by kernel_rfl) (by kernel_rfl) (xZ4 sb_ok bo_ok) trivial
noncomputable def k_39:{c:SC // bdQ prog [] f39=c}:=⟨_,by conv=>lhs;cbv⟩
noncomputable def u_39:UF T:=⟨39,f39,k_39.1,⟨[],[],sbf,bof⟩,[],[],false,[],[true],none⟩
theorem uk_39:UF.Ok tb prog u_39:=UF.of func39 (by kernel_rfl) (by kernel_rfl) (xZ4 sb_ok bo_ok) trivial
set_option cbv.maxSteps 100000000 in
noncomputable def k_41:{c:SC // bd prog f41=c}:=⟨_,by conv=>lhs;cbv⟩
noncomputable def u_41:UF T:=⟨41,f41,k_41.1,⟨[(57,0)],[],sbf,bof⟩,[],[(3,[0,5,80,81]),(5,[0,1,6,7]),(1,[0,4,8,9])],false,[],[false,true],some eqT⟩
theorem uk_41:UF.Ok tb prog u_41:=UF.of func41 (by kernel_rfl) (by kernel_rfl) (xZ4 sb_ok bo_ok) trivial
set_option cbv.maxSteps 100000000 in
noncomputable def k_11:{c:SC // bd prog f11=c}:=⟨_,by conv=>lhs;cbv⟩
noncomputable def u_11:UF T:=⟨11,f11,k_11.1,⟨[],[],sbf,bof⟩,[true,true],[(0,[2,6,7,38,39,40]),(2,[2,6,59,60]),(4,[13,14,15,82,83,84])],false,[],[true,true],some eqT⟩
theorem uk_11:UF.Ok tb prog u_11:=UF.of func11 (by kernel_rfl) (by kernel_rfl) (xZ4 sb_ok bo_ok) trivial
noncomputable def k_44:{c:SC // bdQ prog [] f44=c}:=⟨_,by conv=>lhs;cbv⟩
noncomputable def u_44:UF T:=⟨44,f44,k_44.1,⟨[(58,2),(66,3)],[],sbf,bof⟩,[true,true],[(0,[0,4,5]),(2,[4,5,7,8,10,33,34,35])],false,[],[true],none⟩
theorem uk_44:UF.Ok tb prog u_44:=UF.of func44 (by kernel_rfl) (by kernel_rfl) (xZ4 sb_ok bo_ok) trivial
noncomputable def k_45:{c:SC // bdQ prog [] f45=c}:=⟨_,by conv=>lhs;cbv⟩
noncomputable def u_45:UF T:=⟨45,f45,k_45.1,⟨[],[],sbf,bof⟩,[true,false],[(0,[0,4])],true,[],[true],none⟩
theorem uk_45:UF.Ok tb prog u_45:=UF.of func45 (by kernel_rfl) (by kernel_rfl) (xZ4 sb_ok bo_ok) trivial
noncomputable def k_46:{c:SC // bdQ prog [(8,[],false)] f46=c}:=⟨_,by conv=>lhs;cbv⟩
noncomputable def u_46:UF T:=⟨46,f46,k_46.1,⟨[],[],sbf,bof⟩,[true,false],[],true,[(84,2)],[false],none⟩
theorem uk_46:UF.Ok tb prog u_46:=UF.of func46 (by kernel_rfl) (by kernel_rfl) (xZ4 sb_ok bo_ok) trivial (fun p h=>by cases h with | head=>exact xZ5z | tail _ h=>cases h)
noncomputable def k_48:{c:SC // bdQ prog [(11,[],true)] f48=c}:=⟨_,by conv=>lhs;cbv⟩
noncomputable def u_48:UF T:=⟨48,f48,k_48.1,⟨[],[],sbf,bof⟩,[true,true],[(1,[2,8,9,42,43])],false,[],[true,true,true],none⟩
theorem uk_48:UF.Ok tb prog u_48:=UF.of func48 (by kernel_rfl) (by kernel_rfl) (xZ4 sb_ok bo_ok) trivial
noncomputable def k_49:{c:SC // bdQ prog [] f49=c}:=⟨_,by conv=>lhs;cbv⟩
noncomputable def u_49:UF T:=⟨49,f49,k_49.1,⟨[],[],sbf,bof⟩,[true],[(0,[0,3])],false,[],[true],none⟩
theorem uk_49:UF.Ok tb prog u_49:=UF.of func49 (by kernel_rfl) (by kernel_rfl) (xZ4 sb_ok bo_ok) trivial
noncomputable def k_50:{c:SC // bdQ prog [] f50=c}:=⟨_,by conv=>lhs;cbv⟩
noncomputable def u_50:UF T:=⟨50,f50,k_50.1,⟨[],[],sbf,bof⟩,[true],[],false,[],[true],none⟩
theorem uk_50:UF.Ok tb prog u_50:=UF.of func50 (by kernel_rfl) (by kernel_rfl) (xZ4 sb_ok bo_ok) trivial
noncomputable def k_53:{c:SC // bdQ prog [(3,[],false),(5,[39],false)] f53=c}:=⟨_,by conv=>lhs;cbv⟩
noncomputable def u_53:UF T:=⟨53,f53,k_53.1,⟨[],[],sbf,bof⟩,[true,true],[(0,[0,5,6,8,9,10,48,49])],false,[],[false,true,true],none⟩
theorem uk_53:UF.Ok tb prog u_53:=UF.of func53 (by kernel_rfl) (by kernel_rfl) (xZ4 sb_ok bo_ok) trivial
noncomputable def k_73:{c:SC // bdQ prog [(17,[85],false)] f73=c}:=⟨_,by conv=>lhs;cbv⟩
noncomputable def u_73:UF T:=⟨73,f73,k_73.1,⟨[],[],sbf,bof⟩,[],[(0,[0,1,2,3,8,9])],false,[],[true,true,true,true],none⟩
theorem uk_73:UF.Ok tb prog u_73:=UF.of func73 (by kernel_rfl) (by kernel_rfl) (xZ4 sb_ok bo_ok) trivial
noncomputable def k_74:{c:SC // bdQ prog [] f74=c}:=⟨_,by conv=>lhs;cbv⟩
noncomputable def u_74:UF T:=⟨74,f74,k_74.1,⟨[],[],sbf,bof⟩,[true],[],false,[],[true],none⟩
theorem uk_74:UF.Ok tb prog u_74:=UF.of func74 (by kernel_rfl) (by kernel_rfl) (xZ4 sb_ok bo_ok) trivial
noncomputable def k_77:{c:SC // bdQ prog [(5,[],false),(7,[],false)] f77=c}:=⟨_,by conv=>lhs;cbv⟩
noncomputable def u_77:UF T:=⟨77,f77,k_77.1,⟨[],[],sbf,bof⟩,[true],[],false,[],[false],none⟩
theorem uk_77:UF.Ok tb prog u_77:=UF.of func77 (by kernel_rfl) (by kernel_rfl) (xZ4 sb_ok bo_ok) trivial
noncomputable def k_78:{c:SC // bdQ prog [] f78=c}:=⟨_,by conv=>lhs;cbv⟩
noncomputable def u_78:UF T:=⟨78,f78,k_78.1,⟨[],[],sbf,bof⟩,[true],[(0,[5,18,19,20])],false,[],[true,true],none⟩
theorem uk_78:UF.Ok tb prog u_78:=UF.of func78 (by kernel_rfl) (by kernel_rfl) (xZ4 sb_ok bo_ok) trivial
noncomputable def k_25:{c:SC // bdQ prog [(9,[],false)] f25=c}:=⟨_,by conv=>lhs;cbv⟩
noncomputable def u_25:UF T:=⟨25,f25,k_25.1,⟨[],[],sbf,bof⟩,[true],[(0,[0,11,12,13])],false,[],[true],none⟩
theorem uk_25:UF.Ok tb prog u_25:=UF.of func25 (by kernel_rfl) (by kernel_rfl) (xZ4 sb_ok bo_ok) trivial
noncomputable def k_27:{c:SC // bdQ prog [] f27=c}:=⟨_,by conv=>lhs;cbv⟩
noncomputable def u_27:UF T:=⟨27,f27,k_27.1,⟨[],[],sbf,bof⟩,[true],[(0,[0,1,7,8])],false,[],[true,false],none⟩
theorem uk_27:UF.Ok tb prog u_27:=UF.of func27 (by kernel_rfl) (by kernel_rfl) (xZ4 sb_ok bo_ok) trivial
noncomputable def k_29:{c:SC // bdQ prog [(14,[75],false),(15,[85],false)] f29=c}:=⟨_,by conv=>lhs;cbv⟩
noncomputable def u_29:UF T:=⟨29,f29,k_29.1,⟨[],[],sbf,bof⟩,[true],[(0,[0,1,2,7,32,33,34])],false,[],[false,true,true],none⟩
theorem uk_29:UF.Ok tb prog u_29:=UF.of func29 (by kernel_rfl) (by kernel_rfl) (xZ4 sb_ok bo_ok) trivial
noncomputable def k_30:{c:SC // bdQ prog [] f30=c}:=⟨_,by conv=>lhs;cbv⟩
noncomputable def u_30:UF T:=⟨30,f30,k_30.1,⟨[],[],sbf,bof⟩,[true],[(0,[0,1,5,20,21,22]),(2,[0,1,46,47])],false,[],[false,true],none⟩
theorem uk_30:UF.Ok tb prog u_30:=UF.of func30 (by kernel_rfl) (by kernel_rfl) (xZ4 sb_ok bo_ok) trivial
noncomputable def k_31:{c:SC // bdQ prog [(5,[],false),(19,[76],false),(21,[],false)] f31=c}:=⟨_,by conv=>lhs;cbv⟩
noncomputable def u_31:UF T:=⟨31,f31,k_31.1,⟨[],[],sbf,bof⟩,[true,true,true],[(0,[0,5,7,9,10,11,35,36])],false,[],[false,true],none⟩
theorem uk_31:UF.Ok tb prog u_31:=UF.of func31 (by kernel_rfl) (by kernel_rfl) (xZ4 sb_ok bo_ok) trivial
noncomputable def k_80:{c:SC // bdQ prog [] f80=c}:=⟨_,by conv=>lhs;cbv⟩
noncomputable def u_80:UF T:=⟨80,f80,k_80.1,⟨[],[],sbf,bof⟩,[true,true,true],[],false,[],[true,true],none⟩
theorem uk_80:UF.Ok tb prog u_80:=UF.of func80 (by kernel_rfl) (by kernel_rfl) (xZ4 sb_ok bo_ok) trivial
noncomputable def k_81:{c:SC // bdQ prog [] f81=c}:=⟨_,by conv=>lhs;cbv⟩
noncomputable def u_81:UF T:=⟨81,f81,k_81.1,⟨[],[],sbf,bof⟩,[true],[],false,[],[true,true],none⟩
theorem uk_81:UF.Ok tb prog u_81:=UF.of func81 (by kernel_rfl) (by kernel_rfl) (xZ4 sb_ok bo_ok) trivial
noncomputable def k_82:{c:SC // bdQ prog [] f82=c}:=⟨_,by conv=>lhs;cbv⟩
noncomputable def u_82:UF T:=⟨82,f82,k_82.1,⟨[],[],sbf,bof⟩,[true],[(0,[0,3])],false,[],[true],none⟩
theorem uk_82:UF.Ok tb prog u_82:=UF.of func82 (by kernel_rfl) (by kernel_rfl) (xZ4 sb_ok bo_ok) trivial
end
section
open Go.Proofs.Tryz
set_option maxRecDepth 1000000
set_option maxHeartbeats 8000000
noncomputable def k_83:{c:SC // bdQ prog [(1,[],false)] f83=c}:=⟨_,by conv=>lhs;cbv⟩
noncomputable def u_83:UF T:=⟨83,f83,k_83.1,⟨[],[],sbf,bof⟩,[false],[],true,[],[false],none⟩
theorem uk_83:UF.Ok tb prog u_83:=UF.of func83 (by kernel_rfl) (by kernel_rfl) (xZ4 sb_ok bo_ok) trivial
noncomputable def k_85:{c:SC // bdQ prog [] f85=c}:=⟨_,by conv=>lhs;cbv⟩
noncomputable def u_85:UF T:=⟨85,f85,k_85.1,⟨[],[],sbf,bof⟩,[true],[],false,[],[false,true],none⟩
theorem uk_85:UF.Ok tb prog u_85:=UF.of func85 (by kernel_rfl) (by kernel_rfl) (xZ4 sb_ok bo_ok) trivial
noncomputable def k_86:{c:SC // bdQ prog [] f86=c}:=⟨_,by conv=>lhs;cbv⟩
noncomputable def u_86:UF T:=⟨86,f86,k_86.1,⟨[],[],sbf,bof⟩,[],[],false,[],[false,true,true],none⟩
theorem uk_86:UF.Ok tb prog u_86:=UF.of func86 (by kernel_rfl) (by kernel_rfl) (xZ4 sb_ok bo_ok) trivial
noncomputable def k_87:{c:SC // bdQ prog [(1,[],false),(4,[],false)] f87=c}:=⟨_,by conv=>lhs;cbv⟩
noncomputable def u_87:UF T:=⟨87,f87,k_87.1,⟨[],[],sbf,bof⟩,[true],[],false,[],[false],none⟩
theorem uk_87:UF.Ok tb prog u_87:=UF.of func87 (by kernel_rfl) (by kernel_rfl) (xZ4 sb_ok bo_ok) trivial
noncomputable def k_88:{c:SC // bdQ prog [] f88=c}:=⟨_,by conv=>lhs;cbv⟩
noncomputable def u_88:UF T:=⟨88,f88,k_88.1,⟨[],[],sbf,bof⟩,[true],[],false,[],[false,true,true],none⟩
theorem uk_88:UF.Ok tb prog u_88:=UF.of func88 (by kernel_rfl) (by kernel_rfl) (xZ4 sb_ok bo_ok) trivial
noncomputable def k_89:{c:SC // bdQ prog [(1,[],false),(4,[],false)] f89=c}:=⟨_,by conv=>lhs;cbv⟩
noncomputable def u_89:UF T:=⟨89,f89,k_89.1,⟨[],[],sbf,bof⟩,[true],[],false,[],[false],none⟩
theorem uk_89:UF.Ok tb prog u_89:=UF.of func89 (by kernel_rfl) (by kernel_rfl) (xZ4 sb_ok bo_ok) trivial
noncomputable def k_90:{c:SC // bdQ prog [] f90=c}:=⟨_,by conv=>lhs;cbv⟩
noncomputable def u_90:UF T:=⟨90,f90,k_90.1,⟨[],[],sbf,bof⟩,[true],[(0,[0,3])],false,[],[false],none⟩
theorem uk_90:UF.Ok tb prog u_90:=UF.of func90 (by kernel_rfl) (by kernel_rfl) (xZ4 sb_ok bo_ok) trivial
noncomputable def k_92:{c:SC // bdQ prog [] f92=c}:=⟨_,by conv=>lhs;cbv⟩
noncomputable def u_92:UF T:=⟨92,f92,k_92.1,⟨[],[],sbf,bof⟩,[true],[],false,[],[true,true],none⟩
theorem uk_92:UF.Ok tb prog u_92:=UF.of func92 (by kernel_rfl) (by kernel_rfl) (xZ4 sb_ok bo_ok) trivial
noncomputable def k_93:{c:SC // bdQ prog [] f93=c}:=⟨_,by conv=>lhs;cbv⟩
noncomputable def u_93:UF T:=⟨93,f93,k_93.1,⟨[],[],sbf,bof⟩,[true],[],false,[],[true],none⟩
theorem uk_93:UF.Ok tb prog u_93:=UF.of func93 (by kernel_rfl) (by kernel_rfl) (xZ4 sb_ok bo_ok) trivial
noncomputable def k_94:{c:SC // bdQ prog [] f94=c}:=⟨_,by conv=>lhs;cbv⟩
noncomputable def u_94:UF T:=⟨94,f94,k_94.1,⟨[],[],sbf,bof⟩,[true],[],false,[],[true],none⟩
theorem uk_94:UF.Ok tb prog u_94:=UF.of func94 (by kernel_rfl) (by kernel_rfl) (xZ4 sb_ok bo_ok) trivial
noncomputable def k_95:{c:SC // bdQ prog [] f95=c}:=⟨_,by conv=>lhs;cbv⟩
noncomputable def u_95:UF T:=⟨95,f95,k_95.1,⟨[],[],sbf,bof⟩,[true],[],false,[],[true],none⟩
theorem uk_95:UF.Ok tb prog u_95:=UF.of func95 (by kernel_rfl) (by kernel_rfl) (xZ4 sb_ok bo_ok) trivial
noncomputable def k_96:{c:SC // bdQ prog [] f96=c}:=⟨_,by conv=>lhs;cbv⟩
noncomputable def u_96:UF T:=⟨96,f96,k_96.1,⟨[],[],sbf,bof⟩,[true],[],false,[],[true],none⟩
theorem uk_96:UF.Ok tb prog u_96:=UF.of func96 (by kernel_rfl) (by kernel_rfl) (xZ4 sb_ok bo_ok) trivial
noncomputable def k_97:{c:SC // bdQ prog [] f97=c}:=⟨_,by conv=>lhs;cbv⟩
noncomputable def u_97:UF T:=⟨97,f97,k_97.1,⟨[],[],sbf,bof⟩,[true],[],false,[],[true],none⟩
theorem uk_97:UF.Ok tb prog u_97:=UF.of func97 (by kernel_rfl) (by kernel_rfl) (xZ4 sb_ok bo_ok) trivial
noncomputable def k_98:{c:SC // bdQ prog [] f98=c}:=⟨_,by conv=>lhs;cbv⟩
noncomputable def u_98:UF T:=⟨98,f98,k_98.1,⟨[],[],sbf,bof⟩,[true],[],false,[],[true],none⟩
theorem uk_98:UF.Ok tb prog u_98:=UF.of func98 (by kernel_rfl) (by kernel_rfl) (xZ4 sb_ok bo_ok) trivial
noncomputable def k_58:{c:SC // bdQ prog [] f58=c}:=⟨_,by conv=>lhs;cbv⟩
noncomputable def u_58:UF T:=⟨58,f58,k_58.1,⟨[],[],sbf,bof⟩,[true],[],false,[],[true],none⟩
theorem uk_58:UF.Ok tb prog u_58:=UF.of func58 (by kernel_rfl) (by kernel_rfl) (xZ4 sb_ok bo_ok) trivial
noncomputable def k_101:{c:SC // bdQ prog [] f101=c}:=⟨_,by conv=>lhs;cbv⟩
noncomputable def u_101:UF T:=⟨101,f101,k_101.1,⟨[],[],sbf,bof⟩,[true],[],false,[],[true,true],none⟩
theorem xZtS:UF.Ok tb prog u_101:=UF.of func101 (by kernel_rfl) (by kernel_rfl) (xZ4 sb_ok bo_ok) trivial
noncomputable def k_102:{c:SC // bdQ prog [] f102=c}:=⟨_,by conv=>lhs;cbv⟩
noncomputable def u_102:UF T:=⟨102,f102,k_102.1,⟨[],[],sbf,bof⟩,[true],[(0,[2,3,4,6])],false,[],[true,true],none⟩
theorem xZtR:UF.Ok tb prog u_102:=UF.of func102 (by kernel_rfl) (by kernel_rfl) (xZ4 sb_ok bo_ok) trivial
noncomputable def k_113:{c:SC // bdQ prog [(4,[29],false),(6,[],false)] f113=c}:=⟨_,by conv=>lhs;cbv⟩
noncomputable def u_113:UF T:=⟨113,f113,k_113.1,⟨[],[],sbf,bof⟩,[],[(0,[0,1,2,6]),(2,[0,1,2,6,7])],false,[],[true,true,true],none⟩
theorem xZss:UF.Ok tb prog u_113:=UF.of func113 (by kernel_rfl) (by kernel_rfl) (xZ4 sb_ok bo_ok) trivial
noncomputable def k_119:{c:SC // bdQ prog [] f119=c}:=⟨_,by conv=>lhs;cbv⟩
noncomputable def u_119:UF T:=⟨119,f119,k_119.1,⟨[],[],sbf,bof⟩,[true],[],false,[],[true,true],none⟩
theorem xZti:UF.Ok tb prog u_119:=UF.of func119 (by kernel_rfl) (by kernel_rfl) (xZ4 sb_ok bo_ok) trivial
noncomputable def k_122:{c:SC // bdQ prog [] f122=c}:=⟨_,by conv=>lhs;cbv⟩
noncomputable def u_122:UF T:=⟨122,f122,k_122.1,⟨[],[],sbf,bof⟩,[true],[],false,[],[true],none⟩
theorem xZte:UF.Ok tb prog u_122:=UF.of func122 (by kernel_rfl) (by kernel_rfl) (xZ4 sb_ok bo_ok) trivial
noncomputable def k_123:{c:SC // bdQ prog [] f123=c}:=⟨_,by conv=>lhs;cbv⟩
noncomputable def u_123:UF T:=⟨123,f123,k_123.1,⟨[],[],sbf,bof⟩,[true],[],false,[],[true],none⟩
theorem xZse:UF.Ok tb prog u_123:=UF.of func123 (by kernel_rfl) (by kernel_rfl) (xZ4 sb_ok bo_ok) trivial
noncomputable def k_51:{c:SC // bdQ prog [] f51=c}:=⟨_,by conv=>lhs;cbv⟩
noncomputable def u_51:UF T:=⟨51,f51,k_51.1,⟨[],[],sbf,bof⟩,[true],[(0,[1,16,17,18])],false,[],[true],none⟩
theorem uk_51:UF.Ok tb prog u_51:=UF.of func51 (by kernel_rfl) (by kernel_rfl) (xZ4 sb_ok bo_ok) trivial
noncomputable def k_52:{c:SC // bdQ prog [] f52=c}:=⟨_,by conv=>lhs;cbv⟩
noncomputable def u_52:UF T:=⟨52,f52,k_52.1,⟨[],[],sbf,bof⟩,[true,true],[(0,[1,4,8,9,10])],false,[],[true,true],none⟩
theorem uk_52:UF.Ok tb prog u_52:=UF.of func52 (by kernel_rfl) (by kernel_rfl) (xZ4 sb_ok bo_ok) trivial
noncomputable def k_54:{c:SC // bdQ prog [(1,[19],false)] f54=c}:=⟨_,by conv=>lhs;cbv⟩
noncomputable def u_54:UF T:=⟨54,f54,k_54.1,⟨[],[],sbf,bof⟩,[true,true],[],false,[],[false,true],none⟩
theorem uk_54:UF.Ok tb prog u_54:=UF.of func54 (by kernel_rfl) (by kernel_rfl) (xZ4 sb_ok bo_ok) trivial
noncomputable def k_55:{c:SC // bdQ prog [(5,[],false)] f55=c}:=⟨_,by conv=>lhs;cbv⟩
noncomputable def u_55:UF T:=⟨55,f55,k_55.1,⟨[],[],sbf,bof⟩,[true,true],[(0,[1,9,10,11])],false,[],[true,true],none⟩
theorem uk_55:UF.Ok tb prog u_55:=UF.of func55 (by kernel_rfl) (by kernel_rfl) (xZ4 sb_ok bo_ok) trivial
noncomputable def k_56:{c:SC // bdQ prog [(3,[24],false)] f56=c}:=⟨_,by conv=>lhs;cbv⟩
noncomputable def u_56:UF T:=⟨56,f56,k_56.1,⟨[],[],sbf,bof⟩,[true,true],[],false,[],[false,true,true],none⟩
theorem uk_56:UF.Ok tb prog u_56:=UF.of func56 (by kernel_rfl) (by kernel_rfl) (xZ4 sb_ok bo_ok) trivial
noncomputable def k_57:{c:SC // bdQ prog [] f57=c}:=⟨_,by conv=>lhs;cbv⟩
noncomputable def u_57:UF T:=⟨57,f57,k_57.1,⟨[],[],sbf,bof⟩,[true],[],false,[],[false,true,true],none⟩
theorem uk_57:UF.Ok tb prog u_57:=UF.of func57 (by kernel_rfl) (by kernel_rfl) (xZ4 sb_ok bo_ok) trivial
noncomputable def k_59:{c:SC // bdQ prog [] f59=c}:=⟨_,by conv=>lhs;cbv⟩
noncomputable def u_59:UF T:=⟨59,f59,k_59.1,⟨[],[],sbf,bof⟩,[true],[(0,[2,3,4,6])],false,[],[true,true],none⟩
theorem uk_59:UF.Ok tb prog u_59:=UF.of func59 (by kernel_rfl) (by kernel_rfl) (xZ4 sb_ok bo_ok) trivial
noncomputable def k_124:{c:SC // bdQ prog [(3,[],false)] f124=c}:=⟨_,by conv=>lhs;cbv⟩
noncomputable def u_124:UF T:=⟨124,f124,k_124.1,⟨[],[],sbf,bof⟩,[true,true,true],[],false,[],[true,true],none⟩
theorem xZtH:UF.Ok tb prog u_124:=UF.of func124 (by kernel_rfl) (by kernel_rfl) (xZ4 sb_ok bo_ok) trivial
noncomputable def k_125:{c:SC // bdQ prog [] f125=c}:=⟨_,by conv=>lhs;cbv⟩
noncomputable def u_125:UF T:=⟨125,f125,k_125.1,⟨[],[(41,⟨1,([]:List UInt8),16⟩)],sbf,bof⟩,[true],[(0,[0,1,2,3,9,10])],false,[],[true,true,true,true],none⟩
theorem xZrD:UF.Ok tb prog u_125:=UF.of func125 (by kernel_rfl) (by kernel_rfl) (xZ4 sb_ok bo_ok) ⟨⟨[0],by kernel_rfl⟩,trivial⟩
end
end Go.Proofs.YtbioikdfpfafaaaGreatDoor.T
