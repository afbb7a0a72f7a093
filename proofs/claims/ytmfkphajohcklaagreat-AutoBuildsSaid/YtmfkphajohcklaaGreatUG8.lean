/- A core's automaton, by a function that can be reckoned. No premise beyond what each theorem says. -/
import Derived.Test.YtmfkphajohcklaaGreatUG7
set_option linter.all false
set_option linter.unusedSimpArgs false
set_option linter.unusedVariables false
namespace Go.Proofs.YtmfkphajohcklaaGreat.U
noncomputable section
open Go
section
open Go.Proofs.Tryz
set_option maxRecDepth 1000000
set_option maxHeartbeats 8000000
def xf1:{f // pE=f}:=⟨_,by conv=>lhs;delta pE;simp only[fO]⟩
def xf2:{f // sq=f}:=⟨_,by conv=>lhs;delta sq;simp only[fO]⟩
def xf3:{f // l9=f}:=⟨_,by conv=>lhs;delta l9;simp only[xf2.2]⟩
def xf4:{f // sI=f}:=⟨_,by conv=>lhs;delta sI;simp only[fO,xf3.2]⟩
def xf5:{f // pD=f}:=⟨_,by conv=>lhs;delta pD;simp only[fO,xf4.2]⟩
def IA:{f // kD=f}:=⟨_,by conv=>lhs;delta kD;simp only[fO,xf1.2,xf5.2]⟩
def Rh:aB tb:={ zB with sh:=λN a=>IA.1 N a.1 }
theorem ajs (N:Nat):Rh.Ok prog N:=⟨(GB N).ent,λa r h=>by
 have h:IA.1 N a.1=some r:=h;rw[<- IA.2]at h;exact(GB N).res a r h⟩
end
end
end Go.Proofs.YtmfkphajohcklaaGreat.U
