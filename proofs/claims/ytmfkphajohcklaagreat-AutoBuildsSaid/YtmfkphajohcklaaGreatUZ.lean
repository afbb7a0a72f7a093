/- For all arguments the law AutoBuilds returns true, and its arguments read behind the call as they read before. Conditions: none beyond those of the given row. -/
import Derived.Test.YtmfkphajohcklaaGreatUP1
import Derived.Test.YtmfkphajohcklaaGreatUG16
import Derived.Test.YtmfkphajohcklaaGreatUP2
import Derived.Test.YtmfkphajohcklaaGreatRows
import Derived.ChangeSame
import Derived.ChangeVars
import Derived.JoinedOf
import Derived.RowKit
import Derived.RowKitTokens
import Derived.LaidLaws
import Derived.LaidHandle
import Derived.Lay
import Derived.LaidMore
import Derived.SevenTiedAt
import Derived.MakeChecks
import Derived.Handed
set_option linter.all false
set_option linter.unusedSimpArgs false
set_option linter.unusedVariables false
namespace Go.Proofs.YtmfkphajohcklaaGreat
open Go Go.ChangeShapes Go.WideShapes Go.RowKit Go.Proofs.YtmfkphajohcklaaGreat.U
theorem agC (N:Nat) (c:bc) (h:xU N c=some true):bQ Tryz.prog 3 [.agg [.sl 2 (List.map lm c.Nodes),.sl 4 (List.map lj c.Places),.v (.int .i64 c.Within),.v (.string (bs c.By)),.v (.int .u8 c.Mode)]] .nil (.ret (.b true)) .nil:=
 (aaS N).res (c,()) true h
theorem afu {H:Type} (ds:List (DataW H)) (xs:List AV) (h:iX Tryz.prog [25] ds xs):bQ Tryz.prog 3 xs .nil (.ret (.b true)) .nil:=by
 obtain⟨c,rfl,h0⟩:=abb ds xs h;obtain⟨a,⟨K,hK⟩,rfl⟩:=abv c h0;exact agC K c (hK K (Nat.le_refl _))
set_option maxRecDepth 100000 in
theorem afl (os:Os) (started:os.Started) (H:Type) (enc:TypeId×Value->H):
 ReturnsInHanded {} Tryz.checked os 3 .any (Rows.autoBuildsSpec.pre6 enc Tryz.prog Tryz.f3 [] false) (Rows.autoBuildsSpec.post enc Tryz.prog Tryz.f3 false true false false):=by
 refine returnsInHanded_of_change (C:=Tryz.checked) (by kernel_rfl) started (by kernel_rfl) Tryz.func3
  (ChangeSpec.witness6 (enc:=enc) (C:=Tryz.checked) (os:=os) false ⟨#[],#[.agg #[.slice none 0 0,.slice none 0 0,.int .i64 0,.string ⟨#[]⟩,.int .u8 0]],[]⟩ 8 (by kernel_rfl) (by kernel_rfl) (by kernel_rfl) (by kernel_rfl)) ?_
 intro W base args ds gs before hval0 hW _ _;exact agD (ts:=[25]) (tb:=4) (by kernel_rfl) (by kernel_rfl) (by kernel_rfl) (by kernel_rfl)
  (λds=>by
    by_cases h:ds.length=1
    ·left
     match ds,h with
     | [a],_=>rfl
    ·right;exact h) rfl (by
    have:([25].all λt=>cx Tryz.prog 40 t)=true:=by kernel_rfl
    exact λt ht=>List.all_eq_true.1 this t ht) (by
    have:([25].all λt=>Tryz.prog.readableRec t&&decide (t<Tryz.prog.types.size))=true:=by kernel_rfl
    exact λt ht=>by have:=List.all_eq_true.1 this t ht;simpa using this)
  (λds xs h=>afu ds xs h) (λi v h=>by rw[show uD Tryz.prog=none from by kernel_rfl]at h;cases h) hval0 hW
theorem AutoBuilds_holds:Rows.AutoBuildsSaid:=
 OpenClaim.holds_of_wide 3 Tryz.f3 rfl rfl rfl rfl rfl rfl rfl ⟨rfl,rfl,rfl,rfl,rfl⟩ rfl rfl rfl rfl rfl (by kernel_rfl) Tryz.func3 (by kernel_rfl)
  (of_decide_eq_true (by kernel_rfl)) (by unfold Func.isWrapper;rw[if_neg (of_decide_eq_false (by kernel_rfl))];exact⟨rfl,rfl⟩)
  (λos started H enc _=>afl os started H enc)
#print axioms AutoBuilds_holds
end Go.Proofs.YtmfkphajohcklaaGreat
