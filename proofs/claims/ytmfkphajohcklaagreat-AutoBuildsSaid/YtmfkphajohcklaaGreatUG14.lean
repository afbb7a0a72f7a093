/- A call at a known text: number 2. No premise beyond what each theorem says. -/
import Derived.Test.YtmfkphajohcklaaGreatUG13
set_option linter.all false
set_option linter.unusedSimpArgs false
set_option linter.unusedVariables false
namespace Go.Proofs.YtmfkphajohcklaaGreat.U
open Go
section
open Go.Proofs.Tryz
set_option maxRecDepth 1000000
set_option maxHeartbeats 8000000
theorem W8:(kv tb 21 [33,97,58,116,59,32,98,58,116] (.aL [.agg [.sl 4 ([⟨3,0⟩,⟨2,0⟩,⟨2,1⟩]:List ai),.sl 2 ([⟨true,[97],[116],[]⟩,⟨false,[98],[116],[]⟩]:List aA),.int .i64 9,.str [],.int .u8 1],.agg [.sl 14 ([]:List aa),.sl 16 ([]:List (List aa)),.sl 17 ([]:List (List Int))],.int .i64 17])).Ok prog 1000:=Ax (F0:=100000) (ex:=lX) (con:=rI) (md:=po.md) rJ aq hm oh AS (by kernel_rfl)
end
end Go.Proofs.YtmfkphajohcklaaGreat.U
