/- For all arguments the law GrammarEnds returns true, and its arguments read behind the call as they read before. Conditions: none beyond those of the given card. -/
import Derived.Test.YtahklhniofiofaaGreatDoorEP1
import Derived.Test.YtahklhniofiofaaGreatDoorEG4
import Derived.Test.YtahklhniofiofaaGreatDoorEP2
import Derived.Test.YtahklhniofiofaaGreatDoorRows
import Derived.Test.YtahklhniofiofaaGreatDoorCards
import Derived.Test.YtahklhniofiofaaGreatDoorTie
import Derived.ChangeSame
import Derived.ChangeVars
import Derived.JoinedOf
import Derived.RowKit
import Derived.RowKitTokens
import Derived.LaidLaws
import Derived.LaidHandle
import Derived.Lay
import Derived.LaidMore
import Derived.SevenTiedAt
import Derived.MakeChecks
import Derived.Handed
set_option linter.all false
set_option linter.unusedSimpArgs false
set_option linter.unusedVariables false
namespace Go.Proofs.YtahklhniofiofaaGreatDoor
open Go Go.ChangeShapes Go.WideShapes Go.RowKit Go.Proofs.YtahklhniofiofaaGreatDoor.E
def laidL:List (String×DataW Unit):=Rows.grammarEndsRow.laid
theorem t_et:Tryz.prog.globalNamed "errors.errorType" = some 0:=by kernel_rfl
theorem t_rt:(Tryz.prog.cutTypes.find? (·.1 == "internal/reflectlite.rtype")).map (·.2)=some 160:=by kernel_rfl
theorem xZms:((List.range 297).filter fun t=>Tryz.prog.rowNamed t [101,114,114,111,114])=[27]:=by kernel_rfl
theorem xZqm:Tryz.prog.types.size=297:=by kernel_rfl
theorem xZdG (W:World) (h:laidMetH Tryz.prog laidL W):W.cell? ⟨0,0,none⟩=some (.iface 160 (.agg #[.pointer (some ⟨3,27,none⟩)])):=by
 have h':laidMet Tryz.prog [] W∧handlesMet Tryz.prog laidL W:=h
 obtain ⟨name,u,ty,e1,e2,e3,e4,e5⟩:=h'.2 _ (List.mem_singleton.2 rfl)
 have en:name=[101,114,114,111,114]:=(Option.some.inj e1).symm
 subst en
 obtain rfl:=Option.some.inj (t_rt.symm.trans e2)
 have hm:ty∈(List.range 297).filter fun t=>Tryz.prog.rowNamed t [101,114,114,111,114]:=List.mem_filter.2 ⟨List.mem_range.2 (by rw [← xZqm];exact e3),e4⟩
 rw [xZms] at hm
 obtain rfl:=List.mem_singleton.1 hm
 have hh:typeHandle Tryz.prog 27=.pointer (some ⟨3,27,none⟩):=by kernel_rfl
 rw [hh] at e5
 simpa using World.var?_cell t_et e5 0
theorem xZhh (W:World) (h:laidMetH Tryz.prog laidL W) (i:Nat) (v:Value) (hi:envCell Tryz.prog=some (i,v)):W.cell? ⟨i,0,none⟩=some v∧i < W.heap.size:=by
 have hc:=xZdG W h
 rw [show envCell Tryz.prog=some (0,.iface 160 (.agg #[.pointer (some ⟨3,27,none⟩)])) from by kernel_rfl] at hi
 cases hi
 refine ⟨hc,?_⟩
 rcases Nat.lt_or_ge 0 W.heap.size with h | h
 ·exact h
 ·simp [World.cell?,Array.getElem?_eq_none h] at hc
noncomputable def laidW (os:Os):World:=
 let w0:=World.holding Tryz.prog os ⟨#[],#[],[]⟩
 { w0 with heap:=w0.heap.modify 0 fun
  | .cells _ t frozen=>.cells #[.iface 160 (.agg #[.pointer (some ⟨3,27,none⟩)])] t frozen
  | o=>o }
theorem xZkC (os:Os) (args:Array Value):laidMetH Tryz.prog laidL ((laidW os).forCall (fun _ _=>0) ⟨#[],args,[]⟩).memory:=
 laidMetH_of_parts (laidMet_nil _ _) (by kernel_rfl)
theorem xZm6 (N:Nat) (s:List UInt8) (n:Int) (h:xZ3A N s n=some true):CRes Tryz.prog 6 [.v (.string (bs s)),.v (.int .u8 n)] .nil (.ret (.b true)) .nil:=
 (xZay N).res (s,n,()) true h
theorem xZjX {H:Type} (ds:List (DataW H)) (xs:List AV) (h:DAvV Tryz.prog [9,5] ds xs):CRes Tryz.prog 6 xs .nil (.ret (.b true)) .nil:=by
 obtain ⟨s,n,rfl,h0,h1⟩:=xZb2 ds xs h
 obtain ⟨a,⟨K,hK⟩,rfl⟩:=xZcY s n h0 h1
 exact xZm6 K s n (hK K (Nat.le_refl _))
set_option maxRecDepth 100000 in
theorem xZiV (os:Os) (started:os.Started) (H:Type) (enc:TypeId×Value→H):
 ReturnsInHanded {} Tryz.checked os 6 .any (fun w args=>(Rows.grammarEndsSpec.pre enc Tryz.prog Tryz.f6 [] false w args∧laidMetH Tryz.prog laidL w)∧sizedMet enc Tryz.prog Tryz.f6 (OpenSpec.ofChange Rows.grammarEndsSpec) false w args)
  (Rows.grammarEndsSpec.post enc Tryz.prog Tryz.f6 false true false false):=by
 refine returnsInHanded_of_change_and (C:=Tryz.checked) (X:=fun w _=>laidMetH Tryz.prog laidL w) (fun _ _ _ hh h=>h.of_heap hh) (by kernel_rfl) started (by kernel_rfl) Tryz.func6
  (ChangeSpec.witness_at (enc:=enc) (C:=Tryz.checked) (os:=os) (X:=fun w _=>laidMetH Tryz.prog laidL w) false (laidW os) #[.string ⟨#[]⟩,.int .u8 0] 8 rfl (by kernel_rfl) (by kernel_rfl) (by kernel_rfl) (by kernel_rfl) (by kernel_rfl)
    (xZkC os _)) ?_
 intro W base args ds gs before hval0 hW _ _ hL _
 exact xZn0 (ts:=[9,5]) (tb:=4) (by kernel_rfl) (by kernel_rfl) (by kernel_rfl) (by kernel_rfl)
  (fun ds=>by
    by_cases h:ds.length=2
    ·left
     match ds,h with
     | [a,b],_=>rfl
    ·right;exact h) rfl (by
    have:([9,5].all fun t=>goodT Tryz.prog 40 t)=true:=by kernel_rfl
    exact fun t ht=>List.all_eq_true.1 this t ht) (by
    have:([9,5].all fun t=>Tryz.prog.readableRec t&&decide (t < Tryz.prog.types.size))=true:=by kernel_rfl
    exact fun t ht=>by have:=List.all_eq_true.1 this t ht;simpa using this)
  (fun ds xs h=>xZjX ds xs h) (xZhh W hL) hval0 hW
theorem GrammarEnds_holds:Rows.GrammarEndsSaid:=
 OpenClaim.holds_of_wide 6 Tryz.f6 rfl rfl rfl rfl rfl rfl rfl ⟨rfl,rfl,rfl,rfl,rfl⟩ rfl rfl rfl rfl rfl (by kernel_rfl) Tryz.func6 (by kernel_rfl)
  (of_decide_eq_true (by kernel_rfl)) (by unfold Func.isWrapper;rw [if_neg (of_decide_eq_false (by kernel_rfl))];exact ⟨rfl,rfl⟩)
  (fun os started H enc _=>xZiV os started H enc)
theorem GrammarEnds_card:Rows.GrammarEndsCardSaid:=
 Claim7.holds_tied_plain_at .later [] [.handle] true (true, "a030be6fc3c9ac4ba4f94ad62051750523f5f2b95e5e5f0eb29d4520ddb9485a") true GrammarEnds_holds (fun _ h=>by cases h) (by kernel_rfl) (fun _ h=>by cases h) grammarEnds_row_tie rfl ⟨rfl,rfl⟩ (by kernel_rfl) rfl
  (fun f fn hf hfn=>by
    obtain rfl:f=6:=Option.some.inj ((show Tryz.prog.funcNamed Rows.grammarEndsRow.func=some 6 by kernel_rfl).symm.trans hf) |>.symm
    obtain rfl:fn=Tryz.f6:=(Option.some.inj (Tryz.func6.symm.trans hfn)).symm
    exact ⟨by kernel_rfl,fun j t ht=>by
     rw [Tryz.params6] at ht
     have hm:t∈[9,5]:=by simpa using Array.mem_of_getElem? ht
     have hall:([9,5].all fun u=>!Tryz.prog.wantsStandIn u)=true:=by kernel_rfl
     exact (show Tryz.prog.wantsStandIn t=false by simpa using List.all_eq_true.1 hall t hm)⟩)
  (by kernel_rfl)
#print axioms GrammarEnds_card
end Go.Proofs.YtahklhniofiofaaGreatDoor
