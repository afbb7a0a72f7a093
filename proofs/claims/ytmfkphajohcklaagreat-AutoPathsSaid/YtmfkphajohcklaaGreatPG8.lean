/- A core's automaton, by a function that can be reckoned. No premise beyond what each theorem says. -/
import Derived.Test.YtmfkphajohcklaaGreatPG7
set_option linter.all false
set_option linter.unusedSimpArgs false
set_option linter.unusedVariables false
namespace Go.Proofs.YtmfkphajohcklaaGreat.P
open Go
section
open Go.Proofs.Tryz
set_option maxRecDepth 1000000
set_option maxHeartbeats 8000000
noncomputable def xf1:{f // xZ4H=f}:=⟨_,by conv=>lhs;delta xZ4H;simp only [xZbC]⟩
noncomputable def xf2:{f // xZ38=f}:=⟨_,by conv=>lhs;delta xZ38;simp only [xZbC]⟩
noncomputable def xf3:{f // xZ2b=f}:=⟨_,by conv=>lhs;delta xZ2b;simp only [xf2.2]⟩
noncomputable def xf4:{f // xZ8A=f}:=⟨_,by conv=>lhs;delta xZ8A;simp only [xZbC,xf3.2]⟩
noncomputable def xf5:{f // xZ7i=f}:=⟨_,by conv=>lhs;delta xZ7i;simp only [xZbC,xf4.2]⟩
noncomputable def xf6:{f // xZ8Q=f}:=⟨_,by conv=>lhs;delta xZ8Q;simp only [xZbC,xf1.2,xf5.2]⟩
noncomputable def xZoz:Con tb:={ xZbq with sh:=fun N a=>xf6.1 N a.1 }
theorem xZrz (N:Nat):xZoz.Ok prog N:=⟨(xZda N).ent,fun a r h=>by
 have h:xf6.1 N a.1=some r:=h
 rw [← xf6.2] at h
 exact (xZda N).res a r h⟩
end
end Go.Proofs.YtmfkphajohcklaaGreat.P
