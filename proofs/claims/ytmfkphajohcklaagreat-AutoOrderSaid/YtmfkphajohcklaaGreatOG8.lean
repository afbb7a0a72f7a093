/- A core's automaton, by a function that can be reckoned. No premise beyond what each theorem says. -/
import Derived.Test.YtmfkphajohcklaaGreatOG7
set_option linter.all false
set_option linter.unusedSimpArgs false
set_option linter.unusedVariables false
namespace Go.Proofs.YtmfkphajohcklaaGreat.O
open Go
section
open Go.Proofs.Tryz
set_option maxRecDepth 1000000
set_option maxHeartbeats 8000000
noncomputable def xf1:{f // xZ57=f}:=⟨_,by conv=>lhs;delta xZ57;simp only [xZbc]⟩
noncomputable def xf2:{f // xZ36=f}:=⟨_,by conv=>lhs;delta xZ36;simp only [xZbc]⟩
noncomputable def xf3:{f // xZ2a=f}:=⟨_,by conv=>lhs;delta xZ2a;simp only [xf2.2]⟩
noncomputable def xf4:{f // xZ8n=f}:=⟨_,by conv=>lhs;delta xZ8n;simp only [xZbc,xf3.2]⟩
noncomputable def xf5:{f // xZ75=f}:=⟨_,by conv=>lhs;delta xZ75;simp only [xZbc,xf4.2]⟩
noncomputable def xf6:{f // xZ8B=f}:=⟨_,by conv=>lhs;delta xZ8B;simp only [xZbc,xf1.2,xf5.2]⟩
noncomputable def xZnE:Con tb:={ xZb2 with sh:=fun N a=>xf6.1 N a.1 }
theorem xZqE (N:Nat):xZnE.Ok prog N:=⟨(xZct N).ent,fun a r h=>by
 have h:xf6.1 N a.1=some r:=h
 rw [← xf6.2] at h
 exact (xZct N).res a r h⟩
end
end Go.Proofs.YtmfkphajohcklaaGreat.O
