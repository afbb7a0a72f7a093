/- How elements are held against each other. No premise beyond what each theorem says. -/
import Derived.Test.YtbanfalnbhcknaaGreatDoorHG7
import Derived.Test.YtbanfalnbhcknaaGreatDoorHA4
set_option linter.all false
set_option linter.unusedSimpArgs false
set_option linter.unusedVariables false
namespace Go.Proofs.YtbanfalnbhcknaaGreatDoor.H
open Go
section
open Go.Proofs.Tryz
set_option maxRecDepth 1000000
noncomputable section
theorem xZ3q (N:Nat):xZ23.Ok prog N:=xZpA (te:=82) (tb:=4) (e:=86) (CloneIs.of (fn:=f138) (by kernel_rfl) (by kernel_rfl) (by kernel_rfl) (by kernel_rfl) (by kernel_rfl) (by kernel_rfl) (by decide)) hm N
theorem xZ5R (N:Nat):xZ2O.Ok prog N:=xZnv (te:=82) (tb:=4) (e:=86) (CloneIs.of (fn:=f138) (by kernel_rfl) (by kernel_rfl) (by kernel_rfl) (by kernel_rfl) (by kernel_rfl) (by kernel_rfl) (by decide)) hm N
end
end
section
open Go.Proofs.Tryz
set_option maxRecDepth 1000000
set_option maxHeartbeats 8000000
def beqF {α:Type} [BEq α] (x y:α):Bool:=x==y
theorem xZ1J {α:Type} [BEq α] [LawfulBEq α] (x y:α) (h:beqF x y=true):x=y:=eq_of_beq h
def eqF0:xZ0→xZ0→Bool
 | ⟨a0,a1,a2,a3⟩,⟨b0,b1,b2,b3⟩=>beqF a0 b0&&(beqF a1 b1&&(beqF a2 b2&&(beqF a3 b3&&true)))
theorem xZfa:∀ x y,eqF0 x y=true→x=y
 | ⟨a0,a1,a2,a3⟩,⟨b0,b1,b2,b3⟩,h=>by
   simp only [eqF0,Bool.and_eq_true] at h
   obtain rfl:=xZ1J _ _ h.1
   obtain rfl:=xZ1J _ _ h.2.1
   obtain rfl:=xZ1J _ _ h.2.2.1
   obtain rfl:=xZ1J _ _ h.2.2.2.1
   rfl
def eqF2:xZ6→xZ6→Bool
 | ⟨a0,a1,a2,a3,a4⟩,⟨b0,b1,b2,b3,b4⟩=>beqF a0 b0&&(beqF a1 b1&&(beqF a2 b2&&(beqF a3 b3&&((eqL eqF0) a4 b4&&true))))
theorem xZm6:∀ x y,eqF2 x y=true→x=y
 | ⟨a0,a1,a2,a3,a4⟩,⟨b0,b1,b2,b3,b4⟩,h=>by
   simp only [eqF2,Bool.and_eq_true] at h
   obtain rfl:=xZ1J _ _ h.1
   obtain rfl:=xZ1J _ _ h.2.1
   obtain rfl:=xZ1J _ _ h.2.2.1
   obtain rfl:=xZ1J _ _ h.2.2.2.1
   obtain rfl:=(xZeL xZfa) _ _ h.2.2.2.2.1
   rfl
def eqF1:xZ4→xZ4→Bool
 | ⟨a0,a1⟩,⟨b0,b1⟩=>beqF a0 b0&&(eqF2 a1 b1&&true)
theorem xZoL:∀ x y,eqF1 x y=true→x=y
 | ⟨a0,a1⟩,⟨b0,b1⟩,h=>by
   simp only [eqF1,Bool.and_eq_true] at h
   obtain rfl:=xZ1J _ _ h.1
   obtain rfl:=xZm6 _ _ h.2.1
   rfl
def eqF3:xZb→xZb→Bool
 | ⟨a0,a1⟩,⟨b0,b1⟩=>beqF a0 b0&&(beqF a1 b1&&true)
theorem xZoM:∀ x y,eqF3 x y=true→x=y
 | ⟨a0,a1⟩,⟨b0,b1⟩,h=>by
   simp only [eqF3,Bool.and_eq_true] at h
   obtain rfl:=xZ1J _ _ h.1
   obtain rfl:=xZ1J _ _ h.2.1
   rfl
def eqF4:xZ2→xZ2→Bool
 | ⟨a0,a1⟩,⟨b0,b1⟩=>beqF a0 b0&&((eqL eqF3) a1 b1&&true)
theorem xZoN:∀ x y,eqF4 x y=true→x=y
 | ⟨a0,a1⟩,⟨b0,b1⟩,h=>by
   simp only [eqF4,Bool.and_eq_true] at h
   obtain rfl:=xZ1J _ _ h.1
   obtain rfl:=(xZeL xZoM) _ _ h.2.1
   rfl
def eqF5:xZ1→xZ1→Bool
 | ⟨a0,a1,a2,a3,a4⟩,⟨b0,b1,b2,b3,b4⟩=>beqF a0 b0&&(beqF a1 b1&&(beqF a2 b2&&(beqF a3 b3&&(eqF0 a4 b4&&true))))
theorem xZm7:∀ x y,eqF5 x y=true→x=y
 | ⟨a0,a1,a2,a3,a4⟩,⟨b0,b1,b2,b3,b4⟩,h=>by
   simp only [eqF5,Bool.and_eq_true] at h
   obtain rfl:=xZ1J _ _ h.1
   obtain rfl:=xZ1J _ _ h.2.1
   obtain rfl:=xZ1J _ _ h.2.2.1
   obtain rfl:=xZ1J _ _ h.2.2.2.1
   obtain rfl:=xZfa _ _ h.2.2.2.2.1
   rfl
def eqF6:xZ3→xZ3→Bool
 | ⟨a0,a1,a2,a3⟩,⟨b0,b1,b2,b3⟩=>beqF a0 b0&&(beqF a1 b1&&(beqF a2 b2&&(eqF0 a3 b3&&true)))
theorem xZrG:∀ x y,eqF6 x y=true→x=y
 | ⟨a0,a1,a2,a3⟩,⟨b0,b1,b2,b3⟩,h=>by
   simp only [eqF6,Bool.and_eq_true] at h
   obtain rfl:=xZ1J _ _ h.1
   obtain rfl:=xZ1J _ _ h.2.1
   obtain rfl:=xZ1J _ _ h.2.2.1
   obtain rfl:=xZfa _ _ h.2.2.2.1
   rfl
def eqF7:xZc→xZc→Bool
 | ⟨a0,a1,a2⟩,⟨b0,b1,b2⟩=>(eqL eqF4) a0 b0&&((eqL eqF1) a1 b1&&(eqF2 a2 b2&&true))
theorem xZrH:∀ x y,eqF7 x y=true→x=y
 | ⟨a0,a1,a2⟩,⟨b0,b1,b2⟩,h=>by
   simp only [eqF7,Bool.and_eq_true] at h
   obtain rfl:=(xZeL xZoN) _ _ h.1
   obtain rfl:=(xZeL xZoL) _ _ h.2.1
   obtain rfl:=xZm6 _ _ h.2.2.1
   rfl
def eqF8:xZd→xZd→Bool
 | .lit_ a0,y=>match y with
   | .lit_ b0=>eqF0 a0 b0&&true
   | _=>false
 | .of_ a0 a1,y=>match y with
   | .of_ b0 b1=>beqF a0 b0&&(beqF a1 b1&&true)
   | _=>false
 | .own_ a0,y=>match y with
   | .own_ b0=>beqF a0 b0&&true
   | _=>false
 | .sum_ a0 a1 a2,y=>match y with
   | .sum_ b0 b1 b2=>beqF a0 b0&&(eqF8 a1 b1&&(eqF8 a2 b2&&true))
   | _=>false
theorem xZbt:∀ x y,eqF8 x y=true→x=y
 | .lit_ a0,.lit_ b0,h=>by
   simp only [eqF8,Bool.and_eq_true] at h
   obtain rfl:=xZfa _ _ h.1
   rfl
 | .lit_ a0,.of_ _ _,h=>by simp only [eqF8] at h;cases h
 | .lit_ a0,.own_ _,h=>by simp only [eqF8] at h;cases h
 | .lit_ a0,.sum_ _ _ _,h=>by simp only [eqF8] at h;cases h
 | .of_ a0 a1,.lit_ _,h=>by simp only [eqF8] at h;cases h
 | .of_ a0 a1,.of_ b0 b1,h=>by
   simp only [eqF8,Bool.and_eq_true] at h
   obtain rfl:=xZ1J _ _ h.1
   obtain rfl:=xZ1J _ _ h.2.1
   rfl
 | .of_ a0 a1,.own_ _,h=>by simp only [eqF8] at h;cases h
 | .of_ a0 a1,.sum_ _ _ _,h=>by simp only [eqF8] at h;cases h
 | .own_ a0,.lit_ _,h=>by simp only [eqF8] at h;cases h
 | .own_ a0,.of_ _ _,h=>by simp only [eqF8] at h;cases h
 | .own_ a0,.own_ b0,h=>by
   simp only [eqF8,Bool.and_eq_true] at h
   obtain rfl:=xZ1J _ _ h.1
   rfl
 | .own_ a0,.sum_ _ _ _,h=>by simp only [eqF8] at h;cases h
 | .sum_ a0 a1 a2,.lit_ _,h=>by simp only [eqF8] at h;cases h
 | .sum_ a0 a1 a2,.of_ _ _,h=>by simp only [eqF8] at h;cases h
 | .sum_ a0 a1 a2,.own_ _,h=>by simp only [eqF8] at h;cases h
 | .sum_ a0 a1 a2,.sum_ b0 b1 b2,h=>by
   simp only [eqF8,Bool.and_eq_true] at h
   obtain rfl:=xZ1J _ _ h.1
   obtain rfl:=xZbt _ _ h.2.1
   obtain rfl:=xZbt _ _ h.2.2.1
   rfl
def eqF9:xZ1Z→xZ1Z→Bool
 | ⟨a0⟩,⟨b0⟩=>eqF0 a0 b0&&true
theorem xZrI:∀ x y,eqF9 x y=true→x=y
 | ⟨a0⟩,⟨b0⟩,h=>by
   simp only [eqF9,Bool.and_eq_true] at h
   obtain rfl:=xZfa _ _ h.1
   rfl
def eqF10:xZ2M→xZ2M→Bool
 | ⟨a0,a1⟩,⟨b0,b1⟩=>beqF a0 b0&&(beqF a1 b1&&true)
theorem xZpZ:∀ x y,eqF10 x y=true→x=y
 | ⟨a0,a1⟩,⟨b0,b1⟩,h=>by
   simp only [eqF10,Bool.and_eq_true] at h
   obtain rfl:=xZ1J _ _ h.1
   obtain rfl:=xZ1J _ _ h.2.1
   rfl
def eqF11:xZ20→xZ20→Bool
 | ⟨a0⟩,⟨b0⟩=>beqF a0 b0&&true
theorem xZq0:∀ x y,eqF11 x y=true→x=y
 | ⟨a0⟩,⟨b0⟩,h=>by
   simp only [eqF11,Bool.and_eq_true] at h
   obtain rfl:=xZ1J _ _ h.1
   rfl
def eqF12:xZ1j→xZ1j→Bool
 | ⟨a0,a1,a2⟩,⟨b0,b1,b2⟩=>beqF a0 b0&&(eqF8 a1 b1&&(eqF8 a2 b2&&true))
theorem xZq1:∀ x y,eqF12 x y=true→x=y
 | ⟨a0,a1,a2⟩,⟨b0,b1,b2⟩,h=>by
   simp only [eqF12,Bool.and_eq_true] at h
   obtain rfl:=xZ1J _ _ h.1
   obtain rfl:=xZbt _ _ h.2.1
   obtain rfl:=xZbt _ _ h.2.2.1
   rfl
def eqF13:xZ9→xZ9→Bool
 | .and_ a0 a1,y=>match y with
   | .and_ b0 b1=>eqF13 a0 b0&&(eqF13 a1 b1&&true)
   | _=>false
 | .not_ a0,y=>match y with
   | .not_ b0=>eqF13 a0 b0&&true
   | _=>false
 | .or_ a0 a1,y=>match y with
   | .or_ b0 b1=>eqF13 a0 b0&&(eqF13 a1 b1&&true)
   | _=>false
 | .test_ a0 a1 a2,y=>match y with
   | .test_ b0 b1 b2=>beqF a0 b0&&(eqF8 a1 b1&&(eqF8 a2 b2&&true))
   | _=>false
theorem xZ8B:∀ x y,eqF13 x y=true→x=y
 | .and_ a0 a1,.and_ b0 b1,h=>by
   simp only [eqF13,Bool.and_eq_true] at h
   obtain rfl:=xZ8B _ _ h.1
   obtain rfl:=xZ8B _ _ h.2.1
   rfl
 | .and_ a0 a1,.not_ _,h=>by simp only [eqF13] at h;cases h
 | .and_ a0 a1,.or_ _ _,h=>by simp only [eqF13] at h;cases h
 | .and_ a0 a1,.test_ _ _ _,h=>by simp only [eqF13] at h;cases h
 | .not_ a0,.and_ _ _,h=>by simp only [eqF13] at h;cases h
 | .not_ a0,.not_ b0,h=>by
   simp only [eqF13,Bool.and_eq_true] at h
   obtain rfl:=xZ8B _ _ h.1
   rfl
 | .not_ a0,.or_ _ _,h=>by simp only [eqF13] at h;cases h
 | .not_ a0,.test_ _ _ _,h=>by simp only [eqF13] at h;cases h
 | .or_ a0 a1,.and_ _ _,h=>by simp only [eqF13] at h;cases h
 | .or_ a0 a1,.not_ _,h=>by simp only [eqF13] at h;cases h
 | .or_ a0 a1,.or_ b0 b1,h=>by
   simp only [eqF13,Bool.and_eq_true] at h
   obtain rfl:=xZ8B _ _ h.1
   obtain rfl:=xZ8B _ _ h.2.1
   rfl
 | .or_ a0 a1,.test_ _ _ _,h=>by simp only [eqF13] at h;cases h
 | .test_ a0 a1 a2,.and_ _ _,h=>by simp only [eqF13] at h;cases h
 | .test_ a0 a1 a2,.not_ _,h=>by simp only [eqF13] at h;cases h
 | .test_ a0 a1 a2,.or_ _ _,h=>by simp only [eqF13] at h;cases h
 | .test_ a0 a1 a2,.test_ b0 b1 b2,h=>by
   simp only [eqF13,Bool.and_eq_true] at h
   obtain rfl:=xZ1J _ _ h.1
   obtain rfl:=xZbt _ _ h.2.1
   obtain rfl:=xZbt _ _ h.2.2.1
   rfl
def eqF14:xZx→xZx→Bool
 | ⟨a0,a1,a2⟩,⟨b0,b1,b2⟩=>beqF a0 b0&&(eqF8 a1 b1&&(eqF8 a2 b2&&true))
theorem xZq2:∀ x y,eqF14 x y=true→x=y
 | ⟨a0,a1,a2⟩,⟨b0,b1,b2⟩,h=>by
   simp only [eqF14,Bool.and_eq_true] at h
   obtain rfl:=xZ1J _ _ h.1
   obtain rfl:=xZbt _ _ h.2.1
   obtain rfl:=xZbt _ _ h.2.2.1
   rfl
def eqF15:xZi→xZi→Bool
 | ⟨a0,a1⟩,⟨b0,b1⟩=>eqF13 a0 b0&&(eqF13 a1 b1&&true)
theorem xZq3:∀ x y,eqF15 x y=true→x=y
 | ⟨a0,a1⟩,⟨b0,b1⟩,h=>by
   simp only [eqF15,Bool.and_eq_true] at h
   obtain rfl:=xZ8B _ _ h.1
   obtain rfl:=xZ8B _ _ h.2.1
   rfl
def eqF16:xZP→xZP→Bool
 | ⟨a0⟩,⟨b0⟩=>eqF13 a0 b0&&true
theorem xZq4:∀ x y,eqF16 x y=true→x=y
 | ⟨a0⟩,⟨b0⟩,h=>by
   simp only [eqF16,Bool.and_eq_true] at h
   obtain rfl:=xZ8B _ _ h.1
   rfl
def eqF17:xZ1r→xZ1r→Bool
 | ⟨a0,a1,a2,a3⟩,⟨b0,b1,b2,b3⟩=>beqF a0 b0&&(beqF a1 b1&&(beqF a2 b2&&((eqL eqF5) a3 b3&&true)))
theorem xZq5:∀ x y,eqF17 x y=true→x=y
 | ⟨a0,a1,a2,a3⟩,⟨b0,b1,b2,b3⟩,h=>by
   simp only [eqF17,Bool.and_eq_true] at h
   obtain rfl:=xZ1J _ _ h.1
   obtain rfl:=xZ1J _ _ h.2.1
   obtain rfl:=xZ1J _ _ h.2.2.1
   obtain rfl:=(xZeL xZm7) _ _ h.2.2.2.1
   rfl
def eqTf:(i:Nat)→T i→T i→Bool
 | 0=>(eqF0:xZ0→xZ0→Bool)
 | 1=>(eqF1:xZ4→xZ4→Bool)
 | 2=>(eqF3:xZb→xZb→Bool)
 | 3=>(eqF4:xZ2→xZ2→Bool)
 | 4=>(eqF5:xZ1→xZ1→Bool)
 | 5=>((eqL eqF5):(List xZ1)→(List xZ1)→Bool)
 | 6=>(beqF:(List UInt8)→(List UInt8)→Bool)
 | 7=>(eqF6:xZ3→xZ3→Bool)
 | 8=>(eqF2:xZ6→xZ6→Bool)
 | 9=>(eqF7:xZc→xZc→Bool)
 | 10=>(eqF8:xZd→xZd→Bool)
 | 11=>(eqF9:xZ1Z→xZ1Z→Bool)
 | 12=>(eqF10:xZ2M→xZ2M→Bool)
 | 13=>(eqF11:xZ20→xZ20→Bool)
 | 14=>(eqF12:xZ1j→xZ1j→Bool)
 | 15=>(eqF13:xZ9→xZ9→Bool)
 | 16=>(eqF14:xZx→xZx→Bool)
 | 17=>(eqF15:xZi→xZi→Bool)
 | 18=>(eqF16:xZP→xZP→Bool)
 | 19=>(eqF17:xZ1r→xZ1r→Bool)
 | _=>fun _ _=>false
theorem xZrJ:∀ i x y,eqTf i x y=true→x=y
 | 0,(x:xZ0),(y:xZ0),h=>xZfa x y h
 | 1,(x:xZ4),(y:xZ4),h=>xZoL x y h
 | 2,(x:xZb),(y:xZb),h=>xZoM x y h
 | 3,(x:xZ2),(y:xZ2),h=>xZoN x y h
 | 4,(x:xZ1),(y:xZ1),h=>xZm7 x y h
 | 5,(x:List xZ1),(y:List xZ1),h=>(xZeL xZm7) x y h
 | 6,(x:List UInt8),(y:List UInt8),h=>xZ1J x y h
 | 7,(x:xZ3),(y:xZ3),h=>xZrG x y h
 | 8,(x:xZ6),(y:xZ6),h=>xZm6 x y h
 | 9,(x:xZc),(y:xZc),h=>xZrH x y h
 | 10,(x:xZd),(y:xZd),h=>xZbt x y h
 | 11,(x:xZ1Z),(y:xZ1Z),h=>xZrI x y h
 | 12,(x:xZ2M),(y:xZ2M),h=>xZpZ x y h
 | 13,(x:xZ20),(y:xZ20),h=>xZq0 x y h
 | 14,(x:xZ1j),(y:xZ1j),h=>xZq1 x y h
 | 15,(x:xZ9),(y:xZ9),h=>xZ8B x y h
 | 16,(x:xZx),(y:xZx),h=>xZq2 x y h
 | 17,(x:xZi),(y:xZi),h=>xZq3 x y h
 | 18,(x:xZP),(y:xZP),h=>xZq4 x y h
 | 19,(x:xZ1r),(y:xZ1r),h=>xZq5 x y h
 | n+20,_,_,h=>nomatch (show false=true from h)
noncomputable def eqT:EqT T:=⟨eqTf,xZrJ⟩
end
section
open Go.Proofs.Tryz
set_option maxRecDepth 1000000
set_option maxHeartbeats 8000000
noncomputable def k_8:{c:SC // bdQ prog [] f8=c}:=⟨_,by conv=>lhs;cbv⟩
noncomputable def u_8:UF T:=⟨8,f8,k_8.1,⟨[],[],sbf,bof⟩,[true],[],false,[],[],none⟩
theorem uk_8:UF.Ok tb prog u_8:=UF.of func8 (by kernel_rfl) (by kernel_rfl) (xZ5 sb_ok bo_ok) trivial
noncomputable def k_18:{c:SC // bdQ prog [] f18=c}:=⟨_,by conv=>lhs;cbv⟩
noncomputable def u_18:UF T:=⟨18,f18,k_18.1,⟨[],[],sbf,bof⟩,[true],[],false,[],[true,true,true,true],none⟩
theorem uk_18:UF.Ok tb prog u_18:=UF.of func18 (by kernel_rfl) (by kernel_rfl) (xZ5 sb_ok bo_ok) trivial
noncomputable def k_25:{c:SC // bdQ prog [(4,[27],false)] f25=c}:=⟨_,by conv=>lhs;cbv⟩
noncomputable def u_25:UF T:=⟨25,f25,k_25.1,⟨[(19,0),(25,1),(1000019,0)],[],sbf,bof⟩,[true,true],[],false,[],[true],none⟩
theorem uk_25:UF.Ok tb prog u_25:=UF.of func25 (by kernel_rfl) (by kernel_rfl) (xZ5 sb_ok bo_ok) trivial
noncomputable def k_14:{c:SC // bd prog f14=c}:=⟨bd prog f14,rfl⟩
noncomputable def u_14:UF T:=⟨14,f14,k_14.1,⟨[],[],sbf,bof⟩,[true],[],false,[],[true,true,true,true],some eqT⟩
theorem uk_14:UF.Ok tb prog u_14:=UF.of func14 (by kernel_rfl) (by kernel_rfl) (xZ5 sb_ok bo_ok) trivial
noncomputable def k_35:{c:SC // bdQ prog [] f35=c}:=⟨_,by conv=>lhs;cbv⟩
noncomputable def u_35:UF T:=⟨35,f35,k_35.1,⟨[],[],sbf,bof⟩,[true,false],[],true,[],[true],none⟩
theorem uk_35:UF.Ok tb prog u_35:=UF.of func35 (by kernel_rfl) (by kernel_rfl) (xZ5 sb_ok bo_ok) trivial
noncomputable def k_36:{c:SC // bdQ prog [] f36=c}:=⟨_,by conv=>lhs;cbv⟩
noncomputable def u_36:UF T:=⟨36,f36,k_36.1,⟨[(58,2),(66,3)],[],sbf,bof⟩,[true,true],[(0,[0,4,5]),(2,[4,5,7,8,10,33,34,35])],false,[],[true],none⟩
theorem uk_36:UF.Ok tb prog u_36:=UF.of func36 (by kernel_rfl) (by kernel_rfl) (xZ5 sb_ok bo_ok) trivial
noncomputable def k_37:{c:SC // bdQ prog [] f37=c}:=⟨_,by conv=>lhs;cbv⟩
noncomputable def u_37:UF T:=⟨37,f37,k_37.1,⟨[],[],sbf,bof⟩,[true],[],false,[],[true],none⟩
theorem uk_37:UF.Ok tb prog u_37:=UF.of func37 (by kernel_rfl) (by kernel_rfl) (xZ5 sb_ok bo_ok) trivial
noncomputable def k_13:{c:SC // bdQ prog [] f13=c}:=⟨_,by conv=>lhs;cbv⟩
noncomputable def u_13:UF T:=⟨13,f13,k_13.1,⟨[],[],sbf,bof⟩,[true],[],false,[],[true],none⟩
theorem uk_13:UF.Ok tb prog u_13:=UF.of func13 (by kernel_rfl) (by kernel_rfl) (xZ5 sb_ok bo_ok) trivial
noncomputable def k_28:{c:SC // bd prog f28=c}:=⟨bd prog f28,rfl⟩
noncomputable def u_28:UF T:=⟨28,f28,k_28.1,⟨[],[],sbf,bof⟩,[true],[],false,[],[false],some eqT⟩
theorem uk_28:UF.Ok tb prog u_28:=UF.of func28 (by kernel_rfl) (by kernel_rfl) (xZ5 sb_ok bo_ok) trivial
noncomputable def k_53:{c:SC // bdQ prog [] f53=c}:=⟨_,by conv=>lhs;cbv⟩
noncomputable def u_53:UF T:=⟨53,f53,k_53.1,⟨[],[],sbf,bof⟩,[true,false],[(0,[0,4])],true,[],[true],none⟩
theorem uk_53:UF.Ok tb prog u_53:=UF.of func53 (by kernel_rfl) (by kernel_rfl) (xZ5 sb_ok bo_ok) trivial
noncomputable def k_56:{c:SC // bdQ prog [] f56=c}:=⟨_,by conv=>lhs;cbv⟩
noncomputable def u_56:UF T:=⟨56,f56,k_56.1,⟨[],[],sbf,bof⟩,[true,true,true],[],false,[],[true,true],none⟩
theorem uk_56:UF.Ok tb prog u_56:=UF.of func56 (by kernel_rfl) (by kernel_rfl) (xZ5 sb_ok bo_ok) trivial
noncomputable def k_57:{c:SC // bdQ prog [] f57=c}:=⟨_,by conv=>lhs;cbv⟩
noncomputable def u_57:UF T:=⟨57,f57,k_57.1,⟨[],[],sbf,bof⟩,[true],[],false,[],[true,true],none⟩
theorem uk_57:UF.Ok tb prog u_57:=UF.of func57 (by kernel_rfl) (by kernel_rfl) (xZ5 sb_ok bo_ok) trivial
noncomputable def k_58:{c:SC // bdQ prog [] f58=c}:=⟨_,by conv=>lhs;cbv⟩
noncomputable def u_58:UF T:=⟨58,f58,k_58.1,⟨[],[],sbf,bof⟩,[true],[(0,[0,3])],false,[],[true],none⟩
theorem uk_58:UF.Ok tb prog u_58:=UF.of func58 (by kernel_rfl) (by kernel_rfl) (xZ5 sb_ok bo_ok) trivial
noncomputable def k_59:{c:SC // bdQ prog [(9,[],false)] f59=c}:=⟨_,by conv=>lhs;cbv⟩
noncomputable def u_59:UF T:=⟨59,f59,k_59.1,⟨[],[],sbf,bof⟩,[true],[(0,[0,11,12,13])],false,[],[true],none⟩
theorem uk_59:UF.Ok tb prog u_59:=UF.of func59 (by kernel_rfl) (by kernel_rfl) (xZ5 sb_ok bo_ok) trivial
noncomputable def k_27:{c:SC // bdQ prog [(1,[],false),(3,[],false)] f27=c}:=⟨_,by conv=>lhs;cbv⟩
noncomputable def u_27:UF T:=⟨27,f27,k_27.1,⟨[],[],sbf,bof⟩,[true],[(0,[0,2,7,57,58])],false,[],[false,true,true],none⟩
theorem uk_27:UF.Ok tb prog u_27:=UF.of func27 (by kernel_rfl) (by kernel_rfl) (xZ5 sb_ok bo_ok) trivial
noncomputable def k_29:{c:SC // bd prog f29=c}:=⟨bd prog f29,rfl⟩
noncomputable def u_29:UF T:=⟨29,f29,k_29.1,⟨[],[],sbf,bof⟩,[true],[],false,[],[false],some eqT⟩
theorem uk_29:UF.Ok tb prog u_29:=UF.of func29 (by kernel_rfl) (by kernel_rfl) (xZ5 sb_ok bo_ok) trivial
noncomputable def k_88:{c:SC // bdQ prog [(1,[],false)] f88=c}:=⟨_,by conv=>lhs;cbv⟩
noncomputable def u_88:UF T:=⟨88,f88,k_88.1,⟨[],[],sbf,bof⟩,[false],[],true,[],[false],none⟩
theorem uk_88:UF.Ok tb prog u_88:=UF.of func88 (by kernel_rfl) (by kernel_rfl) (xZ5 sb_ok bo_ok) trivial
noncomputable def k_89:{c:SC // bdQ prog [(1,[],false),(2,[],false)] f89=c}:=⟨_,by conv=>lhs;cbv⟩
noncomputable def u_89:UF T:=⟨89,f89,k_89.1,⟨[],[],sbf,bof⟩,[true],[],false,[],[false],none⟩
theorem uk_89:UF.Ok tb prog u_89:=UF.of func89 (by kernel_rfl) (by kernel_rfl) (xZ5 sb_ok bo_ok) trivial
noncomputable def k_91:{c:SC // bdQ prog [] f91=c}:=⟨_,by conv=>lhs;cbv⟩
noncomputable def u_91:UF T:=⟨91,f91,k_91.1,⟨[(16,5)],[],sbf,bof⟩,[true],[(0,[0,1,5])],false,[],[false,true],none⟩
theorem uk_91:UF.Ok tb prog u_91:=UF.of func91 (by kernel_rfl) (by kernel_rfl) (xZ5 sb_ok bo_ok) trivial
noncomputable def k_92:{c:SC // bdQ prog [(3,[],false)] f92=c}:=⟨_,by conv=>lhs;cbv⟩
noncomputable def u_92:UF T:=⟨92,f92,k_92.1,⟨[],[],sbf,bof⟩,[true,true,true],[],false,[],[true,true],none⟩
theorem uk_92:UF.Ok tb prog u_92:=UF.of func92 (by kernel_rfl) (by kernel_rfl) (xZ5 sb_ok bo_ok) trivial
noncomputable def k_93:{c:SC // bdQ prog [] f93=c}:=⟨_,by conv=>lhs;cbv⟩
noncomputable def u_93:UF T:=⟨93,f93,k_93.1,⟨[],[(65,⟨6,([]:List UInt8),16⟩)],sbf,bof⟩,[true],[(0,[0,1,2,3,9,10])],false,[],[true,true,true,true],none⟩
theorem uk_93:UF.Ok tb prog u_93:=UF.of func93 (by kernel_rfl) (by kernel_rfl) (xZ5 sb_ok bo_ok) ⟨⟨[0],by kernel_rfl⟩,trivial⟩
noncomputable def k_94:{c:SC // bdQ prog [] f94=c}:=⟨_,by conv=>lhs;cbv⟩
noncomputable def u_94:UF T:=⟨94,f94,k_94.1,⟨[],[],sbf,bof⟩,[true],[],false,[],[true],none⟩
theorem uk_94:UF.Ok tb prog u_94:=UF.of func94 (by kernel_rfl) (by kernel_rfl) (xZ5 sb_ok bo_ok) trivial
noncomputable def k_95:{c:SC // bdQ prog [] f95=c}:=⟨_,by conv=>lhs;cbv⟩
noncomputable def u_95:UF T:=⟨95,f95,k_95.1,⟨[],[],sbf,bof⟩,[true],[(0,[1,16,17,18])],false,[],[true],none⟩
theorem uk_95:UF.Ok tb prog u_95:=UF.of func95 (by kernel_rfl) (by kernel_rfl) (xZ5 sb_ok bo_ok) trivial
noncomputable def k_96:{c:SC // bdQ prog [] f96=c}:=⟨_,by conv=>lhs;cbv⟩
noncomputable def u_96:UF T:=⟨96,f96,k_96.1,⟨[],[],sbf,bof⟩,[true,true],[(0,[1,4,8,9,10])],false,[],[true,true],none⟩
theorem uk_96:UF.Ok tb prog u_96:=UF.of func96 (by kernel_rfl) (by kernel_rfl) (xZ5 sb_ok bo_ok) trivial
noncomputable def k_38:{c:SC // bdQ prog [] f38=c}:=⟨_,by conv=>lhs;cbv⟩
noncomputable def u_38:UF T:=⟨38,f38,k_38.1,⟨[],[],sbf,bof⟩,[true],[],false,[],[true,true],none⟩
theorem uk_38:UF.Ok tb prog u_38:=UF.of func38 (by kernel_rfl) (by kernel_rfl) (xZ5 sb_ok bo_ok) trivial
noncomputable def k_39:{c:SC // bdQ prog [] f39=c}:=⟨_,by conv=>lhs;cbv⟩
noncomputable def u_39:UF T:=⟨39,f39,k_39.1,⟨[],[],sbf,bof⟩,[true],[],false,[],[true,false,true],none⟩
theorem uk_39:UF.Ok tb prog u_39:=UF.of func39 (by kernel_rfl) (by kernel_rfl) (xZ5 sb_ok bo_ok) trivial
noncomputable def k_40:{c:SC // bdQ prog [] f40=c}:=⟨_,by conv=>lhs;cbv⟩
noncomputable def u_40:UF T:=⟨40,f40,k_40.1,⟨[],[],sbf,bof⟩,[true],[],false,[],[true],none⟩
theorem uk_40:UF.Ok tb prog u_40:=UF.of func40 (by kernel_rfl) (by kernel_rfl) (xZ5 sb_ok bo_ok) trivial
noncomputable def k_42:{c:SC // bdQ prog [] f42=c}:=⟨_,by conv=>lhs;cbv⟩
noncomputable def u_42:UF T:=⟨42,f42,k_42.1,⟨[],[],sbf,bof⟩,[true],[],false,[],[true],none⟩
theorem uk_42:UF.Ok tb prog u_42:=UF.of func42 (by kernel_rfl) (by kernel_rfl) (xZ5 sb_ok bo_ok) trivial
noncomputable def k_43:{c:SC // bdQ prog [] f43=c}:=⟨_,by conv=>lhs;cbv⟩
noncomputable def u_43:UF T:=⟨43,f43,k_43.1,⟨[],[],sbf,bof⟩,[true],[],false,[],[true,true],none⟩
theorem uk_43:UF.Ok tb prog u_43:=UF.of func43 (by kernel_rfl) (by kernel_rfl) (xZ5 sb_ok bo_ok) trivial
noncomputable def k_121:{c:SC // bdQ prog [] f121=c}:=⟨_,by conv=>lhs;cbv⟩
noncomputable def u_121:UF T:=⟨121,f121,k_121.1,⟨[],[],sbf,bof⟩,[true],[],false,[],[true],none⟩
theorem xZut:UF.Ok tb prog u_121:=UF.of func121 (by kernel_rfl) (by kernel_rfl) (xZ5 sb_ok bo_ok) trivial
end
section
open Go.Proofs.Tryz
set_option maxRecDepth 1000000
set_option maxHeartbeats 8000000
noncomputable def k_122:{c:SC // bdQ prog [] f122=c}:=⟨_,by conv=>lhs;cbv⟩
noncomputable def u_122:UF T:=⟨122,f122,k_122.1,⟨[],[],sbf,bof⟩,[true],[],false,[],[true],none⟩
theorem xZuu:UF.Ok tb prog u_122:=UF.of func122 (by kernel_rfl) (by kernel_rfl) (xZ5 sb_ok bo_ok) trivial
noncomputable def k_123:{c:SC // bdQ prog [] f123=c}:=⟨_,by conv=>lhs;cbv⟩
noncomputable def u_123:UF T:=⟨123,f123,k_123.1,⟨[],[],sbf,bof⟩,[true],[],false,[],[true,true],none⟩
theorem xZuv:UF.Ok tb prog u_123:=UF.of func123 (by kernel_rfl) (by kernel_rfl) (xZ5 sb_ok bo_ok) trivial
noncomputable def k_125:{c:SC // bdQ prog [(2,[],false)] f125=c}:=⟨_,by conv=>lhs;cbv⟩
noncomputable def u_125:UF T:=⟨125,f125,k_125.1,⟨[],[],sbf,bof⟩,[false],[],true,[],[false],none⟩
theorem xZuw:UF.Ok tb prog u_125:=UF.of func125 (by kernel_rfl) (by kernel_rfl) (xZ5 sb_ok bo_ok) trivial
noncomputable def k_126:{c:SC // bdQ prog [(2,[],false),(8,[],false)] f126=c}:=⟨_,by conv=>lhs;cbv⟩
noncomputable def u_126:UF T:=⟨126,f126,k_126.1,⟨[],[],sbf,bof⟩,[false],[(0,[0,3,4,25,26])],true,[],[false],none⟩
theorem xZux:UF.Ok tb prog u_126:=UF.of func126 (by kernel_rfl) (by kernel_rfl) (xZ5 sb_ok bo_ok) trivial
noncomputable def k_129:{c:SC // bdQ prog [(2,[13],false),(4,[59],false)] f129=c}:=⟨_,by conv=>lhs;cbv⟩
noncomputable def u_129:UF T:=⟨129,f129,k_129.1,⟨[],[],sbf,bof⟩,[false],[],true,[],[false],none⟩
theorem xZuy:UF.Ok tb prog u_129:=UF.of func129 (by kernel_rfl) (by kernel_rfl) (xZ5 sb_ok bo_ok) trivial
noncomputable def k_130:{c:SC // bdQ prog [] f130=c}:=⟨_,by conv=>lhs;cbv⟩
noncomputable def u_130:UF T:=⟨130,f130,k_130.1,⟨[(16,5)],[],sbf,bof⟩,[true],[(0,[0,1,5])],false,[],[false,true],none⟩
theorem xZuz:UF.Ok tb prog u_130:=UF.of func130 (by kernel_rfl) (by kernel_rfl) (xZ5 sb_ok bo_ok) trivial
noncomputable def k_131:{c:SC // bdQ prog [] f131=c}:=⟨_,by conv=>lhs;cbv⟩
noncomputable def u_131:UF T:=⟨131,f131,k_131.1,⟨[],[],sbf,bof⟩,[true],[],false,[],[false,true,true],none⟩
theorem xZuA:UF.Ok tb prog u_131:=UF.of func131 (by kernel_rfl) (by kernel_rfl) (xZ5 sb_ok bo_ok) trivial
noncomputable def k_132:{c:SC // bdQ prog [(1,[6],false)] f132=c}:=⟨_,by conv=>lhs;cbv⟩
noncomputable def u_132:UF T:=⟨132,f132,k_132.1,⟨[(6,4)],[],sbf,bof⟩,[true],[],false,[],[true,true],none⟩
theorem xZuB:UF.Ok tb prog u_132:=UF.of func132 (by kernel_rfl) (by kernel_rfl) (xZ5 sb_ok bo_ok) trivial
noncomputable def k_133:{c:SC // bdQ prog [] f133=c}:=⟨_,by conv=>lhs;cbv⟩
noncomputable def u_133:UF T:=⟨133,f133,k_133.1,⟨[],[],sbf,bof⟩,[true],[(1,[0,1,5,6,7,8,9,10])],false,[],[true,true],none⟩
theorem xZuC:UF.Ok tb prog u_133:=UF.of func133 (by kernel_rfl) (by kernel_rfl) (xZ5 sb_ok bo_ok) trivial
noncomputable def k_135:{c:SC // bdQ prog [] f135=c}:=⟨_,by conv=>lhs;cbv⟩
noncomputable def u_135:UF T:=⟨135,f135,k_135.1,⟨[],[],sbf,bof⟩,[true],[(0,[0,1,5])],false,[],[true,true],none⟩
theorem xZuD:UF.Ok tb prog u_135:=UF.of func135 (by kernel_rfl) (by kernel_rfl) (xZ5 sb_ok bo_ok) trivial
noncomputable def k_136:{c:SC // bdQ prog [] f136=c}:=⟨_,by conv=>lhs;cbv⟩
noncomputable def u_136:UF T:=⟨136,f136,k_136.1,⟨[],[],sbf,bof⟩,[true],[],false,[],[true,true],none⟩
theorem xZuE:UF.Ok tb prog u_136:=UF.of func136 (by kernel_rfl) (by kernel_rfl) (xZ5 sb_ok bo_ok) trivial
noncomputable def k_61:{c:SC // bdQ prog [] f61=c}:=⟨_,by conv=>lhs;cbv⟩
noncomputable def u_61:UF T:=⟨61,f61,k_61.1,⟨[],[],sbf,bof⟩,[true],[(0,[0,3])],false,[],[true],none⟩
theorem uk_61:UF.Ok tb prog u_61:=UF.of func61 (by kernel_rfl) (by kernel_rfl) (xZ5 sb_ok bo_ok) trivial
noncomputable def k_137:{c:SC // bdQ prog [(5,[],false)] f137=c}:=⟨_,by conv=>lhs;cbv⟩
noncomputable def u_137:UF T:=⟨137,f137,k_137.1,⟨[],[],sbf,bof⟩,[true,true],[(0,[1,9,10,11])],false,[],[true,true],none⟩
theorem xZuF:UF.Ok tb prog u_137:=UF.of func137 (by kernel_rfl) (by kernel_rfl) (xZ5 sb_ok bo_ok) trivial
noncomputable def k_60:{c:SC // bdQ prog [] f60=c}:=⟨_,by conv=>lhs;cbv⟩
noncomputable def u_60:UF T:=⟨60,f60,k_60.1,⟨[],[],sbf,bof⟩,[true],[],false,[],[true],none⟩
theorem uk_60:UF.Ok tb prog u_60:=UF.of func60 (by kernel_rfl) (by kernel_rfl) (xZ5 sb_ok bo_ok) trivial
noncomputable def k_62:{c:SC // bdQ prog [(21,[],false)] f62=c}:=⟨_,by conv=>lhs;cbv⟩
noncomputable def u_62:UF T:=⟨62,f62,k_62.1,⟨[],[],sbf,bof⟩,[true],[],false,[],[true],none⟩
theorem uk_62:UF.Ok tb prog u_62:=UF.of func62 (by kernel_rfl) (by kernel_rfl) (xZ5 sb_ok bo_ok) trivial
noncomputable def k_146:{c:SC // bdQ prog [] f146=c}:=⟨_,by conv=>lhs;cbv⟩
noncomputable def u_146:UF T:=⟨146,f146,k_146.1,⟨[],[],sbf,bof⟩,[true],[],false,[],[true,true],none⟩
theorem xZuG:UF.Ok tb prog u_146:=UF.of func146 (by kernel_rfl) (by kernel_rfl) (xZ5 sb_ok bo_ok) trivial
noncomputable def k_98:{c:SC // bdQ prog [] f98=c}:=⟨_,by conv=>lhs;cbv⟩
noncomputable def u_98:UF T:=⟨98,f98,k_98.1,⟨[],[],sbf,bof⟩,[true],[],false,[],[true],none⟩
theorem uk_98:UF.Ok tb prog u_98:=UF.of func98 (by kernel_rfl) (by kernel_rfl) (xZ5 sb_ok bo_ok) trivial
noncomputable def k_147:{c:SC // bdQ prog [(2,[31],false)] f147=c}:=⟨_,by conv=>lhs;cbv⟩
noncomputable def u_147:UF T:=⟨147,f147,k_147.1,⟨[],[],sbf,bof⟩,[true],[(0,[0,1,5])],false,[],[false,false],none⟩
theorem xZuH:UF.Ok tb prog u_147:=UF.of func147 (by kernel_rfl) (by kernel_rfl) (xZ5 sb_ok bo_ok) trivial
noncomputable def k_148:{c:SC // bdQ prog [] f148=c}:=⟨_,by conv=>lhs;cbv⟩
noncomputable def u_148:UF T:=⟨148,f148,k_148.1,⟨[],[],sbf,bof⟩,[true],[],false,[],[true],none⟩
theorem xZuI:UF.Ok tb prog u_148:=UF.of func148 (by kernel_rfl) (by kernel_rfl) (xZ5 sb_ok bo_ok) trivial
noncomputable def k_149:{c:SC // bdQ prog [(1,[],false)] f149=c}:=⟨_,by conv=>lhs;cbv⟩
noncomputable def u_149:UF T:=⟨149,f149,k_149.1,⟨[(24,7)],[],sbf,bof⟩,[false],[],true,[],[false,true,true,true,true],none⟩
theorem xZuJ:UF.Ok tb prog u_149:=UF.of func149 (by kernel_rfl) (by kernel_rfl) (xZ5 sb_ok bo_ok) trivial
noncomputable def k_155:{c:SC // bdQ prog [] f155=c}:=⟨_,by conv=>lhs;cbv⟩
noncomputable def u_155:UF T:=⟨155,f155,k_155.1,⟨[(18,5),(49,5)],[],sbf,bof⟩,[true],[],false,[],[false,true],none⟩
theorem xZuK:UF.Ok tb prog u_155:=UF.of func155 (by kernel_rfl) (by kernel_rfl) (xZ5 sb_ok bo_ok) trivial
noncomputable def k_156:{c:SC // bdQ prog [(1,[],false),(2,[],false)] f156=c}:=⟨_,by conv=>lhs;cbv⟩
noncomputable def u_156:UF T:=⟨156,f156,k_156.1,⟨[],[],sbf,bof⟩,[true],[],false,[],[false],none⟩
theorem xZuL:UF.Ok tb prog u_156:=UF.of func156 (by kernel_rfl) (by kernel_rfl) (xZ5 sb_ok bo_ok) trivial
noncomputable def k_157:{c:SC // bdQ prog [] f157=c}:=⟨_,by conv=>lhs;cbv⟩
noncomputable def u_157:UF T:=⟨157,f157,k_157.1,⟨[],[],sbf,bof⟩,[true],[(0,[0,3,9,10,11]),(2,[6,25,26,27])],true,[],[true],none⟩
theorem xZuM:UF.Ok tb prog u_157:=UF.of func157 (by kernel_rfl) (by kernel_rfl) (xZ5 sb_ok bo_ok) trivial
noncomputable def k_97:{c:SC // bdQ prog [] f97=c}:=⟨_,by conv=>lhs;cbv⟩
noncomputable def u_97:UF T:=⟨97,f97,k_97.1,⟨[],[],sbf,bof⟩,[true],[],false,[],[true],none⟩
theorem uk_97:UF.Ok tb prog u_97:=UF.of func97 (by kernel_rfl) (by kernel_rfl) (xZ5 sb_ok bo_ok) trivial
noncomputable def k_99:{c:SC // bdQ prog [] f99=c}:=⟨_,by conv=>lhs;cbv⟩
noncomputable def u_99:UF T:=⟨99,f99,k_99.1,⟨[],[],sbf,bof⟩,[true],[],false,[],[true],none⟩
theorem uk_99:UF.Ok tb prog u_99:=UF.of func99 (by kernel_rfl) (by kernel_rfl) (xZ5 sb_ok bo_ok) trivial
noncomputable def k_100:{c:SC // bdQ prog [] f100=c}:=⟨_,by conv=>lhs;cbv⟩
noncomputable def u_100:UF T:=⟨100,f100,k_100.1,⟨[],[],sbf,bof⟩,[false],[],true,[],[true],none⟩
theorem xZur:UF.Ok tb prog u_100:=UF.of func100 (by kernel_rfl) (by kernel_rfl) (xZ5 sb_ok bo_ok) trivial
noncomputable def k_166:{c:SC // bdQ prog [] f166=c}:=⟨_,by conv=>lhs;cbv⟩
noncomputable def u_166:UF T:=⟨166,f166,k_166.1,⟨[],[],sbf,bof⟩,[],[],false,[],[false,true],none⟩
theorem xZuN:UF.Ok tb prog u_166:=UF.of func166 (by kernel_rfl) (by kernel_rfl) (xZ5 sb_ok bo_ok) trivial
noncomputable def k_168:{c:SC // bdQ prog [] f168=c}:=⟨_,by conv=>lhs;cbv⟩
noncomputable def u_168:UF T:=⟨168,f168,k_168.1,⟨[(14,5),(23,5)],[],sbf,bof⟩,[true],[(0,[0,3])],false,[],[false],none⟩
theorem xZuO:UF.Ok tb prog u_168:=UF.of func168 (by kernel_rfl) (by kernel_rfl) (xZ5 sb_ok bo_ok) trivial
noncomputable def k_169:{c:SC // bdQ prog [] f169=c}:=⟨_,by conv=>lhs;cbv⟩
noncomputable def u_169:UF T:=⟨169,f169,k_169.1,⟨[],[],sbf,bof⟩,[true],[(0,[0,3])],false,[],[true],none⟩
theorem xZuP:UF.Ok tb prog u_169:=UF.of func169 (by kernel_rfl) (by kernel_rfl) (xZ5 sb_ok bo_ok) trivial
noncomputable def k_170:{c:SC // bdQ prog [] f170=c}:=⟨_,by conv=>lhs;cbv⟩
noncomputable def u_170:UF T:=⟨170,f170,k_170.1,⟨[],[],sbf,bof⟩,[true],[],false,[],[false,true],none⟩
theorem xZuQ:UF.Ok tb prog u_170:=UF.of func170 (by kernel_rfl) (by kernel_rfl) (xZ5 sb_ok bo_ok) trivial
end
end Go.Proofs.YtbanfalnbhcknaaGreatDoor.H
