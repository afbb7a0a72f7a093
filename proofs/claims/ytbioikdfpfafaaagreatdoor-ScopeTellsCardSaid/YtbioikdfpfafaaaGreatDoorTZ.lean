/- For all arguments the law ScopeTells returns true, and its arguments read behind the call as they read before. Conditions: none beyond those of the given card. -/
import Derived.Test.YtbioikdfpfafaaaGreatDoorTP1
import Derived.Test.YtbioikdfpfafaaaGreatDoorTG9
import Derived.Test.YtbioikdfpfafaaaGreatDoorTP2
import Derived.Test.YtbioikdfpfafaaaGreatDoorRows
import Derived.Test.YtbioikdfpfafaaaGreatDoorCards
import Derived.Test.YtbioikdfpfafaaaGreatDoorTie
import Derived.ChangeSame
import Derived.ChangeVars
import Derived.JoinedOf
import Derived.RowKit
import Derived.RowKitTokens
import Derived.LaidLaws
import Derived.LaidHandle
import Derived.Lay
import Derived.LaidMore
import Derived.SevenTiedAt
import Derived.MakeChecks
import Derived.Handed
set_option linter.all false
set_option linter.unusedSimpArgs false
set_option linter.unusedVariables false
namespace Go.Proofs.YtbioikdfpfafaaaGreatDoor
open Go Go.ChangeShapes Go.WideShapes Go.RowKit Go.Proofs.YtbioikdfpfafaaaGreatDoor.T
def laidL:List (String×DataW Unit):=Rows.scopeTellsRow.laid
theorem xZr9 (N:Nat) (vp:xZ5) (types:List xZ1) (vat:Int) (h:xZ3d N vp types vat=some true):CRes Tryz.prog 3 [.agg [.sl 7 (List.map eA5 vp.Body),.v (.int .i64 vp.Within),.v (.string (bs vp.By)),.v (.int .u8 vp.Mode)],.sl 2 (List.map eA3 types),.v (.int .i64 vat)] .nil (.ret (.b true)) .nil:=
 (xZd5 N).res (vp,types,vat,()) true h
theorem xZoz {H:Type} (ds:List (DataW H)) (xs:List AV) (h:DAvV Tryz.prog [24,25,3] ds xs):CRes Tryz.prog 3 xs .nil (.ret (.b true)) .nil:=by
 obtain ⟨vp,types,vat,rfl,h0,h1,h2⟩:=xZcS ds xs h
 obtain ⟨a,⟨K,hK⟩,rfl⟩:=xZff vp types vat h0 h1 h2
 exact xZr9 K vp types vat (hK K (Nat.le_refl _))
set_option maxRecDepth 100000 in
theorem xZmh (os:Os) (started:os.Started) (H:Type) (enc:TypeId×Value→H):
 ReturnsInHanded {} Tryz.checked os 3 .any (fun w args=>(Rows.scopeTellsSpec.pre enc Tryz.prog Tryz.f3 [] false w args∧laidMetH Tryz.prog laidL w)∧sizedMet enc Tryz.prog Tryz.f3 (OpenSpec.ofChange Rows.scopeTellsSpec) false w args)
  (Rows.scopeTellsSpec.post enc Tryz.prog Tryz.f3 false true false false):=by
 refine returnsInHanded_of_change_and (C:=Tryz.checked) (X:=fun w _=>laidMetH Tryz.prog laidL w) (fun _ _ _ hh h=>h.of_heap hh) (by kernel_rfl) started (by kernel_rfl) Tryz.func3
  (ChangeSpec.witness_at (enc:=enc) (C:=Tryz.checked) (os:=os) (X:=fun w _=>laidMetH Tryz.prog laidL w) false (World.laidAll Tryz.prog os laidL) #[.agg #[.slice none 0 0,.int .i64 0,.string ⟨#[]⟩,.int .u8 0],.slice none 0 0,.int .i64 0] 8 (World.laidAll_os _ _ _) (by kernel_rfl) (by kernel_rfl) (by kernel_rfl) (by kernel_rfl) (by kernel_rfl)
    (by rw [MakeChecks.laidMetH_plain _ _ _ (by kernel_rfl)];exact laidMet_laidAll _ (by kernel_rfl) (by kernel_rfl))) ?_
 intro W base args ds gs before hval0 hW _ _ hL _
 exact xZqy (ts:=[24,25,3]) (tb:=4) (by kernel_rfl) (by kernel_rfl) (by kernel_rfl) (by kernel_rfl)
  (fun ds=>by
    by_cases h:ds.length=3
    ·left
     match ds,h with
     | [a,b,c],_=>rfl
    ·right;exact h) rfl (by
    have:([24,25,3].all fun t=>goodT Tryz.prog 40 t)=true:=by kernel_rfl
    exact fun t ht=>List.all_eq_true.1 this t ht) (by
    have:([24,25,3].all fun t=>Tryz.prog.readableRec t&&decide (t < Tryz.prog.types.size))=true:=by kernel_rfl
    exact fun t ht=>by have:=List.all_eq_true.1 this t ht;simpa using this)
  (fun ds xs h=>xZoz ds xs h) (fun i v h=>by rw [show envCell Tryz.prog=none from by kernel_rfl] at h;cases h) hval0 hW
theorem ScopeTells_holds:Rows.ScopeTellsSaid:=
 OpenClaim.holds_of_wide 3 Tryz.f3 rfl rfl rfl rfl rfl rfl rfl ⟨rfl,rfl,rfl,rfl,rfl⟩ rfl rfl rfl rfl rfl (by kernel_rfl) Tryz.func3 (by kernel_rfl)
  (of_decide_eq_true (by kernel_rfl)) (by unfold Func.isWrapper;rw [if_neg (of_decide_eq_false (by kernel_rfl))];exact ⟨rfl,rfl⟩)
  (fun os started H enc _=>xZmh os started H enc)
theorem ScopeTells_card:Rows.ScopeTellsCardSaid:=
 Claim7.holds_tied_plain_at .later [] [.data,.pinned] true (true, "b25f34ab6545b784824107cc5803e83fb69e33063f0dbe9719aeb2ae563e0a4f") true ScopeTells_holds (fun _ h=>by cases h) (by kernel_rfl) (fun _ h=>by cases h) scopeTells_row_tie rfl ⟨rfl,rfl⟩ (by kernel_rfl) rfl
  (fun f fn hf hfn=>by
    obtain rfl:f=3:=Option.some.inj ((show Tryz.prog.funcNamed Rows.scopeTellsRow.func=some 3 by kernel_rfl).symm.trans hf) |>.symm
    obtain rfl:fn=Tryz.f3:=(Option.some.inj (Tryz.func3.symm.trans hfn)).symm
    exact ⟨by kernel_rfl,fun j t ht=>by
     rw [Tryz.params3] at ht
     have hm:t∈[24,25,3]:=by simpa using Array.mem_of_getElem? ht
     have hall:([24,25,3].all fun u=>!Tryz.prog.wantsStandIn u)=true:=by kernel_rfl
     exact (show Tryz.prog.wantsStandIn t=false by simpa using List.all_eq_true.1 hall t hm)⟩)
  (by kernel_rfl)
#print axioms ScopeTells_card
end Go.Proofs.YtbioikdfpfafaaaGreatDoor
