/- For all arguments the law CoreWords returns true, and its arguments read behind the call as they read before. Conditions: none beyond those of the given row. -/
import Derived.Test.YtmllclbhdmajmaaGreatWP1
import Derived.Test.YtmllclbhdmajmaaGreatWG10
import Derived.Test.YtmllclbhdmajmaaGreatRows
import Derived.ChangeSame
import Derived.ChangeVars
import Derived.JoinedOf
import Derived.RowKit
import Derived.RowKitTokens
import Derived.LaidLaws
import Derived.LaidHandle
import Derived.Lay
import Derived.LaidMore
import Derived.SevenTiedAt
import Derived.MakeChecks
import Derived.Handed
set_option linter.all false
set_option linter.unusedSimpArgs false
set_option linter.unusedVariables false
namespace Go.Proofs.YtmllclbhdmajmaaGreat
open Go Go.ChangeShapes Go.WideShapes Go.RowKit Go.Proofs.YtmllclbhdmajmaaGreat.W
theorem xZnH (N:Nat) (vp:xZ9) (word:List (List UInt8)) (h:xZ3k N vp word=some true):CRes Tryz.prog 5 [.agg [.sl 7 (List.map eA4 vp.Body),.v (.int .i64 vp.Within),.v (.string (bs vp.By)),.v (.int .u8 vp.Mode)],.sl 1 (List.map eA0 word)] .nil (.ret (.b true)) .nil:=
 (xZca N).res (vp,word,()) true h
theorem xZlM {H:Type} (ds:List (DataW H)) (xs:List AV) (h:DAvV Tryz.prog [24,51] ds xs):CRes Tryz.prog 5 xs .nil (.ret (.b true)) .nil:=by
 obtain ⟨vp,word,rfl,h0,h1⟩:=xZcf ds xs h
 obtain ⟨a,⟨K,hK⟩,rfl⟩:=xZej vp word h0 h1
 exact xZnH K vp word (hK K (Nat.le_refl _))
set_option maxRecDepth 100000 in
theorem xZkf (os:Os) (started:os.Started) (H:Type) (enc:TypeId×Value→H):
 ReturnsInHanded {} Tryz.checked os 5 .any (Rows.coreWordsSpec.pre6 enc Tryz.prog Tryz.f5 [] false) (Rows.coreWordsSpec.post enc Tryz.prog Tryz.f5 false true false false):=by
 refine returnsInHanded_of_change (C:=Tryz.checked) (by kernel_rfl) started (by kernel_rfl) Tryz.func5
  (ChangeSpec.witness6 (enc:=enc) (C:=Tryz.checked) (os:=os) false ⟨#[],#[.agg #[.slice none 0 0,.int .i64 0,.string ⟨#[]⟩,.int .u8 0],.slice none 0 0],[]⟩ 8 (by kernel_rfl) (by kernel_rfl) (by kernel_rfl) (by kernel_rfl)) ?_
 intro W base args ds gs before hval0 hW _ _
 exact xZnI (ts:=[24,51]) (tb:=4) (by kernel_rfl) (by kernel_rfl) (by kernel_rfl) (by kernel_rfl)
  (fun ds=>by
    by_cases h:ds.length=2
    ·left
     match ds,h with
     | [a,b],_=>rfl
    ·right;exact h) rfl (by
    have:([24,51].all fun t=>goodT Tryz.prog 40 t)=true:=by kernel_rfl
    exact fun t ht=>List.all_eq_true.1 this t ht) (by
    have:([24,51].all fun t=>Tryz.prog.readableRec t&&decide (t < Tryz.prog.types.size))=true:=by kernel_rfl
    exact fun t ht=>by have:=List.all_eq_true.1 this t ht;simpa using this)
  (fun ds xs h=>xZlM ds xs h) (fun i v h=>by rw [show envCell Tryz.prog=none from by kernel_rfl] at h;cases h) hval0 hW
theorem CoreWords_holds:Rows.CoreWordsSaid:=
 OpenClaim.holds_of_wide 5 Tryz.f5 rfl rfl rfl rfl rfl rfl rfl ⟨rfl,rfl,rfl,rfl,rfl⟩ rfl rfl rfl rfl rfl (by kernel_rfl) Tryz.func5 (by kernel_rfl)
  (of_decide_eq_true (by kernel_rfl)) (by unfold Func.isWrapper;rw [if_neg (of_decide_eq_false (by kernel_rfl))];exact ⟨rfl,rfl⟩)
  (fun os started H enc _=>xZkf os started H enc)
#print axioms CoreWords_holds
end Go.Proofs.YtmllclbhdmajmaaGreat
