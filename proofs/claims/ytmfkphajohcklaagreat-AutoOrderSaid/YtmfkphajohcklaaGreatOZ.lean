/- For all arguments the law AutoOrder returns true, and its arguments read behind the call as they read before. Conditions: none beyond those of the given row. -/
import Derived.Test.YtmfkphajohcklaaGreatOP1
import Derived.Test.YtmfkphajohcklaaGreatOG16
import Derived.Test.YtmfkphajohcklaaGreatRows
import Derived.ChangeSame
import Derived.ChangeVars
import Derived.JoinedOf
import Derived.RowKit
import Derived.RowKitTokens
import Derived.LaidLaws
import Derived.LaidHandle
import Derived.Lay
import Derived.LaidMore
import Derived.SevenTiedAt
import Derived.MakeChecks
import Derived.Handed
set_option linter.all false
set_option linter.unusedSimpArgs false
set_option linter.unusedVariables false
namespace Go.Proofs.YtmfkphajohcklaaGreat
open Go Go.ChangeShapes Go.WideShapes Go.RowKit Go.Proofs.YtmfkphajohcklaaGreat.O
theorem xZn8 (N:Nat) (c:xZy) (h:xZ7N N c=some true):CRes Tryz.prog 4 [.agg [.sl 2 (List.map eA4 c.Nodes),.sl 4 (List.map eA2 c.Places),.v (.int .i64 c.Within),.v (.string (bs c.By)),.v (.int .u8 c.Mode)]] .nil (.ret (.b true)) .nil:=
 (xZe3 N).res (c,()) true h
theorem xZlh {H:Type} (ds:List (DataW H)) (xs:List AV) (h:DAvV Tryz.prog [25] ds xs):CRes Tryz.prog 4 xs .nil (.ret (.b true)) .nil:=by
 obtain ⟨c,rfl,h0⟩:=xZe7 ds xs h
 obtain ⟨a,⟨K,hK⟩,rfl⟩:=xZfQ c h0
 exact xZn8 K c (hK K (Nat.le_refl _))
set_option maxRecDepth 100000 in
theorem xZk2 (os:Os) (started:os.Started) (H:Type) (enc:TypeId×Value→H):
 ReturnsInHanded {} Tryz.checked os 4 .any (Rows.autoOrderSpec.pre6 enc Tryz.prog Tryz.f4 [] false) (Rows.autoOrderSpec.post enc Tryz.prog Tryz.f4 false true false false):=by
 refine returnsInHanded_of_change (C:=Tryz.checked) (by kernel_rfl) started (by kernel_rfl) Tryz.func4
  (ChangeSpec.witness6 (enc:=enc) (C:=Tryz.checked) (os:=os) false ⟨#[],#[.agg #[.slice none 0 0,.slice none 0 0,.int .i64 0,.string ⟨#[]⟩,.int .u8 0]],[]⟩ 8 (by kernel_rfl) (by kernel_rfl) (by kernel_rfl) (by kernel_rfl)) ?_
 intro W base args ds gs before hval0 hW _ _
 exact xZn9 (ts:=[25]) (tb:=4) (by kernel_rfl) (by kernel_rfl) (by kernel_rfl) (by kernel_rfl)
  (fun ds=>by
    by_cases h:ds.length=1
    ·left
     match ds,h with
     | [a],_=>rfl
    ·right;exact h) rfl (by
    have:([25].all fun t=>goodT Tryz.prog 40 t)=true:=by kernel_rfl
    exact fun t ht=>List.all_eq_true.1 this t ht) (by
    have:([25].all fun t=>Tryz.prog.readableRec t&&decide (t < Tryz.prog.types.size))=true:=by kernel_rfl
    exact fun t ht=>by have:=List.all_eq_true.1 this t ht;simpa using this)
  (fun ds xs h=>xZlh ds xs h) (fun i v h=>by rw [show envCell Tryz.prog=none from by kernel_rfl] at h;cases h) hval0 hW
theorem AutoOrder_holds:Rows.AutoOrderSaid:=
 OpenClaim.holds_of_wide 4 Tryz.f4 rfl rfl rfl rfl rfl rfl rfl ⟨rfl,rfl,rfl,rfl,rfl⟩ rfl rfl rfl rfl rfl (by kernel_rfl) Tryz.func4 (by kernel_rfl)
  (of_decide_eq_true (by kernel_rfl)) (by unfold Func.isWrapper;rw [if_neg (of_decide_eq_false (by kernel_rfl))];exact ⟨rfl,rfl⟩)
  (fun os started H enc _=>xZk2 os started H enc)
#print axioms AutoOrder_holds
end Go.Proofs.YtmfkphajohcklaaGreat
