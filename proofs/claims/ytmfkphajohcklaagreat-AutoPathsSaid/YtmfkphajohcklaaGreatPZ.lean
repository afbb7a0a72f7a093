/- For all arguments the law AutoPaths returns true, and its arguments read behind the call as they read before. Conditions: none beyond those of the given row. -/
import Derived.Test.YtmfkphajohcklaaGreatPP1
import Derived.Test.YtmfkphajohcklaaGreatPG16
import Derived.Test.YtmfkphajohcklaaGreatRows
import Derived.ChangeSame
import Derived.ChangeVars
import Derived.JoinedOf
import Derived.RowKit
import Derived.RowKitTokens
import Derived.LaidLaws
import Derived.LaidHandle
import Derived.Lay
import Derived.LaidMore
import Derived.SevenTiedAt
import Derived.MakeChecks
import Derived.Handed
set_option linter.all false
set_option linter.unusedSimpArgs false
set_option linter.unusedVariables false
namespace Go.Proofs.YtmfkphajohcklaaGreat
open Go Go.ChangeShapes Go.WideShapes Go.RowKit Go.Proofs.YtmfkphajohcklaaGreat.P
theorem xZo6 (N:Nat) (c:xZv) (word:List Int) (h:xZ82 N c word=some true):CRes Tryz.prog 5 [.agg [.sl 2 (List.map eA4 c.Nodes),.sl 4 (List.map eA2 c.Places),.v (.int .i64 c.Within),.v (.string (bs c.By)),.v (.int .u8 c.Mode)],.sl 1 (List.map eA0 word)] .nil (.ret (.b true)) .nil:=
 (xZeL N).res (c,word,()) true h
theorem xZmc {H:Type} (ds:List (DataW H)) (xs:List AV) (h:DAvV Tryz.prog [25,58] ds xs):CRes Tryz.prog 5 xs .nil (.ret (.b true)) .nil:=by
 obtain ⟨c,word,rfl,h0,h1⟩:=xZeP ds xs h
 obtain ⟨a,⟨K,hK⟩,rfl⟩:=xZgB c word h0 h1
 exact xZo6 K c word (hK K (Nat.le_refl _))
set_option maxRecDepth 100000 in
theorem xZkW (os:Os) (started:os.Started) (H:Type) (enc:TypeId×Value→H):
 ReturnsInHanded {} Tryz.checked os 5 .any (Rows.autoPathsSpec.pre6 enc Tryz.prog Tryz.f5 [] false) (Rows.autoPathsSpec.post enc Tryz.prog Tryz.f5 false true false false):=by
 refine returnsInHanded_of_change (C:=Tryz.checked) (by kernel_rfl) started (by kernel_rfl) Tryz.func5
  (ChangeSpec.witness6 (enc:=enc) (C:=Tryz.checked) (os:=os) false ⟨#[],#[.agg #[.slice none 0 0,.slice none 0 0,.int .i64 0,.string ⟨#[]⟩,.int .u8 0],.slice none 0 0],[]⟩ 8 (by kernel_rfl) (by kernel_rfl) (by kernel_rfl) (by kernel_rfl)) ?_
 intro W base args ds gs before hval0 hW _ _
 exact xZo7 (ts:=[25,58]) (tb:=4) (by kernel_rfl) (by kernel_rfl) (by kernel_rfl) (by kernel_rfl)
  (fun ds=>by
    by_cases h:ds.length=2
    ·left
     match ds,h with
     | [a,b],_=>rfl
    ·right;exact h) rfl (by
    have:([25,58].all fun t=>goodT Tryz.prog 40 t)=true:=by kernel_rfl
    exact fun t ht=>List.all_eq_true.1 this t ht) (by
    have:([25,58].all fun t=>Tryz.prog.readableRec t&&decide (t < Tryz.prog.types.size))=true:=by kernel_rfl
    exact fun t ht=>by have:=List.all_eq_true.1 this t ht;simpa using this)
  (fun ds xs h=>xZmc ds xs h) (fun i v h=>by rw [show envCell Tryz.prog=none from by kernel_rfl] at h;cases h) hval0 hW
theorem AutoPaths_holds:Rows.AutoPathsSaid:=
 OpenClaim.holds_of_wide 5 Tryz.f5 rfl rfl rfl rfl rfl rfl rfl ⟨rfl,rfl,rfl,rfl,rfl⟩ rfl rfl rfl rfl rfl (by kernel_rfl) Tryz.func5 (by kernel_rfl)
  (of_decide_eq_true (by kernel_rfl)) (by unfold Func.isWrapper;rw [if_neg (of_decide_eq_false (by kernel_rfl))];exact ⟨rfl,rfl⟩)
  (fun os started H enc _=>xZkW os started H enc)
#print axioms AutoPaths_holds
end Go.Proofs.YtmfkphajohcklaaGreat
