/- For all arguments the law JudgeHolds returns true, and its arguments read behind the call as they read before. Conditions: none beyond those of the given card. -/
import Derived.Test.YtbanfalnbhcknaaGreatDoorHP1
import Derived.Test.YtbanfalnbhcknaaGreatDoorHG11
import Derived.Test.YtbanfalnbhcknaaGreatDoorRows
import Derived.Test.YtbanfalnbhcknaaGreatDoorCards
import Derived.Test.YtbanfalnbhcknaaGreatDoorTie
import Derived.ChangeSame
import Derived.ChangeVars
import Derived.JoinedOf
import Derived.RowKit
import Derived.RowKitTokens
import Derived.LaidLaws
import Derived.LaidHandle
import Derived.Lay
import Derived.LaidMore
import Derived.SevenTiedAt
import Derived.MakeChecks
import Derived.Handed
set_option linter.all false
set_option linter.unusedSimpArgs false
set_option linter.unusedVariables false
namespace Go.Proofs.YtbanfalnbhcknaaGreatDoor
open Go Go.ChangeShapes Go.WideShapes Go.RowKit Go.Proofs.YtbanfalnbhcknaaGreatDoor.H
def laidL:List (String×DataW Unit):=Rows.judgeHoldsRow.laid
theorem xZqm (N:Nat) (l:List xZ1) (s:xZc) (name:List UInt8) (h:xZ3l N l s name=some true):CRes Tryz.prog 4 [.sl 8 (List.map eA4 l),.agg [.sl 2 (List.map eA3 s.Types),.sl 6 (List.map eA1 s.Bound),.v (.int .i64 s.E.Time),.v (.int .i64 s.E.Source),.v (.int .i64 s.E.Seq),.v (.string (bs s.E.Type_)),.sl 4 (List.map eA0 s.E.Vals)],.v (.string (bs name))] .nil (.ret (.b true)) .nil:=
 (xZci N).res (l,s,name,()) true h
theorem xZnW {H:Type} (ds:List (DataW H)) (xs:List AV) (h:DAvV Tryz.prog [22,29,9] ds xs):CRes Tryz.prog 4 xs .nil (.ret (.b true)) .nil:=by
 obtain ⟨l,s,name,rfl,h0,h1,h2⟩:=xZcn ds xs h
 obtain ⟨a,⟨K,hK⟩,rfl⟩:=xZeM l s name h0 h1 h2
 exact xZqm K l s name (hK K (Nat.le_refl _))
set_option maxRecDepth 100000 in
theorem xZmk (os:Os) (started:os.Started) (H:Type) (enc:TypeId×Value→H):
 ReturnsInHanded {} Tryz.checked os 4 .any (fun w args=>(Rows.judgeHoldsSpec.pre enc Tryz.prog Tryz.f4 [] false w args∧laidMetH Tryz.prog laidL w)∧sizedMet enc Tryz.prog Tryz.f4 (OpenSpec.ofChange Rows.judgeHoldsSpec) false w args)
  (Rows.judgeHoldsSpec.post enc Tryz.prog Tryz.f4 false true false false):=by
 refine returnsInHanded_of_change_and (C:=Tryz.checked) (X:=fun w _=>laidMetH Tryz.prog laidL w) (fun _ _ _ hh h=>h.of_heap hh) (by kernel_rfl) started (by kernel_rfl) Tryz.func4
  (ChangeSpec.witness_at (enc:=enc) (C:=Tryz.checked) (os:=os) (X:=fun w _=>laidMetH Tryz.prog laidL w) false (World.laidAll Tryz.prog os laidL) #[.slice none 0 0,.agg #[.slice none 0 0,.slice none 0 0,.int .i64 0,.int .i64 0,.int .i64 0,.string ⟨#[]⟩,.slice none 0 0],.string ⟨#[]⟩] 8 (World.laidAll_os _ _ _) (by kernel_rfl) (by kernel_rfl) (by kernel_rfl) (by kernel_rfl) (by kernel_rfl)
    (by rw [MakeChecks.laidMetH_plain _ _ _ (by kernel_rfl)];exact laidMet_laidAll _ (by kernel_rfl) (by kernel_rfl))) ?_
 intro W base args ds gs before hval0 hW _ _ hL _
 exact xZqn (ts:=[22,29,9]) (tb:=4) (by kernel_rfl) (by kernel_rfl) (by kernel_rfl) (by kernel_rfl)
  (fun ds=>by
    by_cases h:ds.length=3
    ·left
     match ds,h with
     | [a,b,c],_=>rfl
    ·right;exact h) rfl (by
    have:([22,29,9].all fun t=>goodT Tryz.prog 40 t)=true:=by kernel_rfl
    exact fun t ht=>List.all_eq_true.1 this t ht) (by
    have:([22,29,9].all fun t=>Tryz.prog.readableRec t&&decide (t < Tryz.prog.types.size))=true:=by kernel_rfl
    exact fun t ht=>by have:=List.all_eq_true.1 this t ht;simpa using this)
  (fun ds xs h=>xZnW ds xs h) (fun i v h=>by rw [show envCell Tryz.prog=none from by kernel_rfl] at h;cases h) hval0 hW
theorem JudgeHolds_holds:Rows.JudgeHoldsSaid:=
 OpenClaim.holds_of_wide 4 Tryz.f4 rfl rfl rfl rfl rfl rfl rfl ⟨rfl,rfl,rfl,rfl,rfl⟩ rfl rfl rfl rfl rfl (by kernel_rfl) Tryz.func4 (by kernel_rfl)
  (of_decide_eq_true (by kernel_rfl)) (by unfold Func.isWrapper;rw [if_neg (of_decide_eq_false (by kernel_rfl))];exact ⟨rfl,rfl⟩)
  (fun os started H enc _=>xZmk os started H enc)
theorem JudgeHolds_card:Rows.JudgeHoldsCardSaid:=
 Claim7.holds_tied_plain_at .later [] [.data,.pinned] true (true, "d6eb71b923262ee7cd617af3fc3f86eaec44b4288bb0d9a0ad8d60f82329799e") true JudgeHolds_holds (fun _ h=>by cases h) (by kernel_rfl) (fun _ h=>by cases h) judgeHolds_row_tie rfl ⟨rfl,rfl⟩ (by kernel_rfl) rfl
  (fun f fn hf hfn=>by
    obtain rfl:f=4:=Option.some.inj ((show Tryz.prog.funcNamed Rows.judgeHoldsRow.func=some 4 by kernel_rfl).symm.trans hf) |>.symm
    obtain rfl:fn=Tryz.f4:=(Option.some.inj (Tryz.func4.symm.trans hfn)).symm
    exact ⟨by kernel_rfl,fun j t ht=>by
     rw [Tryz.params4] at ht
     have hm:t∈[22,29,9]:=by simpa using Array.mem_of_getElem? ht
     have hall:([22,29,9].all fun u=>!Tryz.prog.wantsStandIn u)=true:=by kernel_rfl
     exact (show Tryz.prog.wantsStandIn t=false by simpa using List.all_eq_true.1 hall t hm)⟩)
  (by kernel_rfl)
#print axioms JudgeHolds_card
end Go.Proofs.YtbanfalnbhcknaaGreatDoor
