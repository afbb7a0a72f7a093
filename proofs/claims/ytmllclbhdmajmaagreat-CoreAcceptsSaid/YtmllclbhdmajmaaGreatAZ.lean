/- For all arguments the law CoreAccepts returns true, and its arguments read behind the call as they read before. Conditions: none beyond those of the given row. -/
import Derived.Test.YtmllclbhdmajmaaGreatAP1
import Derived.Test.YtmllclbhdmajmaaGreatAG9
import Derived.Test.YtmllclbhdmajmaaGreatRows
import Derived.ChangeSame
import Derived.ChangeVars
import Derived.JoinedOf
import Derived.RowKit
import Derived.RowKitTokens
import Derived.LaidLaws
import Derived.LaidHandle
import Derived.Lay
import Derived.LaidMore
import Derived.SevenTiedAt
import Derived.MakeChecks
import Derived.Handed
set_option linter.all false
set_option linter.unusedSimpArgs false
set_option linter.unusedVariables false
namespace Go.Proofs.YtmllclbhdmajmaaGreat
open Go Go.ChangeShapes Go.WideShapes Go.RowKit Go.Proofs.YtmllclbhdmajmaaGreat.A
theorem xZhY (N:Nat) (l:xZ67) (word:List (List UInt8)) (vat:Int) (h:xZ1M N l word vat=some true):CRes Tryz.prog 4 [.agg [.sl 2 (List.map eA3 l.i0.Nodes),.sl 4 (List.map eA2 l.i0.Places),.v (.int .i64 l.i0.Within),.v (.string (bs l.i0.By)),.v (.int .u8 l.i0.Mode),.sl 2 (List.map eA3 l.i1.Nodes),.sl 4 (List.map eA2 l.i1.Places),.v (.int .i64 l.i1.Within),.v (.string (bs l.i1.By)),.v (.int .u8 l.i1.Mode)],.sl 1 (List.map eA0 word),.v (.int .i64 vat)] .nil (.ret (.b true)) .nil:=
 (xZ7u N).res (l,word,vat,()) true h
theorem xZgh {H:Type} (ds:List (DataW H)) (xs:List AV) (h:DAvV Tryz.prog [55,51,3] ds xs):CRes Tryz.prog 4 xs .nil (.ret (.b true)) .nil:=by
 obtain ⟨l,word,vat,rfl,h0,h1,h2⟩:=xZ7y ds xs h
 obtain ⟨a,⟨K,hK⟩,rfl⟩:=xZ9i l word vat h0 h1 h2
 exact xZhY K l word vat (hK K (Nat.le_refl _))
set_option maxRecDepth 100000 in
theorem xZeQ (os:Os) (started:os.Started) (H:Type) (enc:TypeId×Value→H):
 ReturnsInHanded {} Tryz.checked os 4 .any (Rows.coreAcceptsSpec.pre6 enc Tryz.prog Tryz.f4 [] false) (Rows.coreAcceptsSpec.post enc Tryz.prog Tryz.f4 false true false false):=by
 refine returnsInHanded_of_change (C:=Tryz.checked) (by kernel_rfl) started (by kernel_rfl) Tryz.func4
  (ChangeSpec.witness6 (enc:=enc) (C:=Tryz.checked) (os:=os) false ⟨#[],#[.agg #[.slice none 0 0,.slice none 0 0,.int .i64 0,.string ⟨#[]⟩,.int .u8 0,.slice none 0 0,.slice none 0 0,.int .i64 0,.string ⟨#[]⟩,.int .u8 0],.slice none 0 0,.int .i64 0],[]⟩ 8 (by kernel_rfl) (by kernel_rfl) (by kernel_rfl) (by kernel_rfl)) ?_
 intro W base args ds gs before hval0 hW _ _
 exact xZhZ (ts:=[55,51,3]) (tb:=4) (by kernel_rfl) (by kernel_rfl) (by kernel_rfl) (by kernel_rfl)
  (fun ds=>by
    by_cases h:ds.length=3
    ·left
     match ds,h with
     | [a,b,c],_=>rfl
    ·right;exact h) rfl (by
    have:([55,51,3].all fun t=>goodT Tryz.prog 40 t)=true:=by kernel_rfl
    exact fun t ht=>List.all_eq_true.1 this t ht) (by
    have:([55,51,3].all fun t=>Tryz.prog.readableRec t&&decide (t < Tryz.prog.types.size))=true:=by kernel_rfl
    exact fun t ht=>by have:=List.all_eq_true.1 this t ht;simpa using this)
  (fun ds xs h=>xZgh ds xs h) (fun i v h=>by rw [show envCell Tryz.prog=none from by kernel_rfl] at h;cases h) hval0 hW
theorem CoreAccepts_holds:Rows.CoreAcceptsSaid:=
 OpenClaim.holds_of_wide 4 Tryz.f4 rfl rfl rfl rfl rfl rfl rfl ⟨rfl,rfl,rfl,rfl,rfl⟩ rfl rfl rfl rfl rfl (by kernel_rfl) Tryz.func4 (by kernel_rfl)
  (of_decide_eq_true (by kernel_rfl)) (by unfold Func.isWrapper;rw [if_neg (of_decide_eq_false (by kernel_rfl))];exact ⟨rfl,rfl⟩)
  (fun os started H enc _=>xZeQ os started H enc)
#print axioms CoreAccepts_holds
end Go.Proofs.YtmllclbhdmajmaaGreat
