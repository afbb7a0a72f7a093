/- For all arguments the law CoreWalks returns true, and its arguments read behind the call as they read before. Conditions: none beyond those of the given row. -/
import Derived.Test.YtmllclbhdmajmaaGreatKP1
import Derived.Test.YtmllclbhdmajmaaGreatKG10
import Derived.Test.YtmllclbhdmajmaaGreatRows
import Derived.ChangeSame
import Derived.ChangeVars
import Derived.JoinedOf
import Derived.RowKit
import Derived.RowKitTokens
import Derived.LaidLaws
import Derived.LaidHandle
import Derived.Lay
import Derived.LaidMore
import Derived.SevenTiedAt
import Derived.MakeChecks
import Derived.Handed
set_option linter.all false
set_option linter.unusedSimpArgs false
set_option linter.unusedVariables false
namespace Go.Proofs.YtmllclbhdmajmaaGreat
open Go Go.ChangeShapes Go.WideShapes Go.RowKit Go.Proofs.YtmllclbhdmajmaaGreat.K
theorem xZmk (N:Nat) (vp:xZ9) (choices:List Int) (h:xZ3I N vp choices=some true):CRes Tryz.prog 6 [.agg [.sl 7 (List.map eA4 vp.Body),.v (.int .i64 vp.Within),.v (.string (bs vp.By)),.v (.int .u8 vp.Mode)],.sl 1 (List.map eA13 choices)] .nil (.ret (.b true)) .nil:=
 (xZbR N).res (vp,choices,()) true h
theorem xZkz {H:Type} (ds:List (DataW H)) (xs:List AV) (h:DAvV Tryz.prog [24,62] ds xs):CRes Tryz.prog 6 xs .nil (.ret (.b true)) .nil:=by
 obtain ⟨vp,choices,rfl,h0,h1⟩:=xZbW ds xs h
 obtain ⟨a,⟨K,hK⟩,rfl⟩:=xZdF vp choices h0 h1
 exact xZmk K vp choices (hK K (Nat.le_refl _))
set_option maxRecDepth 100000 in
theorem xZj4 (os:Os) (started:os.Started) (H:Type) (enc:TypeId×Value→H):
 ReturnsInHanded {} Tryz.checked os 6 .any (Rows.coreWalksSpec.pre6 enc Tryz.prog Tryz.f6 [] false) (Rows.coreWalksSpec.post enc Tryz.prog Tryz.f6 false true false false):=by
 refine returnsInHanded_of_change (C:=Tryz.checked) (by kernel_rfl) started (by kernel_rfl) Tryz.func6
  (ChangeSpec.witness6 (enc:=enc) (C:=Tryz.checked) (os:=os) false ⟨#[],#[.agg #[.slice none 0 0,.int .i64 0,.string ⟨#[]⟩,.int .u8 0],.slice none 0 0],[]⟩ 8 (by kernel_rfl) (by kernel_rfl) (by kernel_rfl) (by kernel_rfl)) ?_
 intro W base args ds gs before hval0 hW _ _
 exact xZml (ts:=[24,62]) (tb:=4) (by kernel_rfl) (by kernel_rfl) (by kernel_rfl) (by kernel_rfl)
  (fun ds=>by
    by_cases h:ds.length=2
    ·left
     match ds,h with
     | [a,b],_=>rfl
    ·right;exact h) rfl (by
    have:([24,62].all fun t=>goodT Tryz.prog 40 t)=true:=by kernel_rfl
    exact fun t ht=>List.all_eq_true.1 this t ht) (by
    have:([24,62].all fun t=>Tryz.prog.readableRec t&&decide (t < Tryz.prog.types.size))=true:=by kernel_rfl
    exact fun t ht=>by have:=List.all_eq_true.1 this t ht;simpa using this)
  (fun ds xs h=>xZkz ds xs h) (fun i v h=>by rw [show envCell Tryz.prog=none from by kernel_rfl] at h;cases h) hval0 hW
theorem CoreWalks_holds:Rows.CoreWalksSaid:=
 OpenClaim.holds_of_wide 6 Tryz.f6 rfl rfl rfl rfl rfl rfl rfl ⟨rfl,rfl,rfl,rfl,rfl⟩ rfl rfl rfl rfl rfl (by kernel_rfl) Tryz.func6 (by kernel_rfl)
  (of_decide_eq_true (by kernel_rfl)) (by unfold Func.isWrapper;rw [if_neg (of_decide_eq_false (by kernel_rfl))];exact ⟨rfl,rfl⟩)
  (fun os started H enc _=>xZj4 os started H enc)
#print axioms CoreWalks_holds
end Go.Proofs.YtmllclbhdmajmaaGreat
