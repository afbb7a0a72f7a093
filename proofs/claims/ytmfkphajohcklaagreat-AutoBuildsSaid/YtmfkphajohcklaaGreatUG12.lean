/- A call at a known text: number 0. No premise beyond what each theorem says. -/
import Derived.Test.YtmfkphajohcklaaGreatUG11
set_option linter.all false
set_option linter.unusedSimpArgs false
set_option linter.unusedVariables false
namespace Go.Proofs.YtmfkphajohcklaaGreat.U
open Go
section
open Go.Proofs.Tryz
set_option maxRecDepth 1000000
set_option maxHeartbeats 8000000
theorem W6:(kv tb 21 [97,58,116,59,32,40,33,98,58,117,32,124,32,33,99,58,117,41,59,32,100,58,116] (.aL [.agg [.sl 4 ([⟨3,0⟩,⟨2,0⟩,⟨3,0⟩,⟨4,0⟩,⟨2,1⟩,⟨2,2⟩,⟨2,3⟩]:List ai),.sl 2 ([⟨false,[97],[116],[]⟩,⟨true,[98],[117],[]⟩,⟨true,[99],[117],[]⟩,⟨false,[100],[116],[]⟩]:List aA),.int .i64 9,.str [],.int .u8 1],.agg [.sl 14 ([⟨0,0⟩]:List aa),.sl 16 ([[⟨3,2⟩,⟨3,4⟩],[],[],[]]:List (List aa)),.sl 17 ([[],[],[],[0]]:List (List Int))],.int .i64 0])).Ok prog 1000:=Ax (F0:=100000) (ex:=lX) (con:=rI) (md:=po.md) rJ aq hm oh AS (by kernel_rfl)
end
end Go.Proofs.YtmfkphajohcklaaGreat.U
