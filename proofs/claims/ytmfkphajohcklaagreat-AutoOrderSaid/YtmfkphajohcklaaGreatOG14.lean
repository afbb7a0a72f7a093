/- A call at a known text: number 2. No premise beyond what each theorem says. -/
import Derived.Test.YtmfkphajohcklaaGreatOG13
set_option linter.all false
set_option linter.unusedSimpArgs false
set_option linter.unusedVariables false
namespace Go.Proofs.YtmfkphajohcklaaGreat.O
open Go
section
open Go.Proofs.Tryz
set_option maxRecDepth 1000000
set_option maxHeartbeats 8000000
theorem ul_2:(uLit tb 21 [33,97,58,116,59,32,98,58,116] (.tup [.agg [.sl 4 ([⟨3,0⟩,⟨2,0⟩,⟨2,1⟩]:List xZ1),.sl 2 ([⟨true,[97],[116],[]⟩,⟨false,[98],[116],[]⟩]:List xZ4),.int .i64 9,.str [],.int .u8 1],.agg [.sl 14 ([]:List xZ0),.sl 16 ([]:List (List xZ0)),.sl 17 ([]:List (List Int))],.int .i64 17])).Ok prog 1000:=xZiG (F0:=100000) (ex:=uex) (con:=uc0) (md:=u_21.md) uk_21 tb_ok hm xZi3 xZlB (by kernel_rfl)
end
end Go.Proofs.YtmfkphajohcklaaGreat.O
