/- Part 24. -/
import Derived.Test.YtkogeiacmmckkaaGreatDoorFlowLists23
import Derived.ChangeSame
import Derived.ChangeVars
import Derived.RowKit
set_option linter.all false
namespace Go.Proofs.YtkogeiacmmckkaaGreatDoor
open Go Go.Abs Go.Argus
theorem abM:(Tryz.f4.params.toList.all fun t=> Tryz.prog.readableRec t&&decide (t< Tryz.prog.types.size))=true:=by kernel_rfl
theorem acD: Tryz.f4.resultTypes= #[4]:=by kernel_rfl
theorem afI:wE Tryz.prog 8 Tryz.f4.params.toList=some [.sl vW]:=by kernel_rfl
theorem abN: Tryz.f4.params.size=1:=by kernel_rfl
theorem abO(ds:List D)(h:AD [.sl vW] ds):ax Tryz.prog 4 ds (.s (.bool true)):=by
 cases h with
 |cons x hx h=>
  cases h with
  |nil=>
   exact Eq.mpr (congrArg (fun d=>ax Tryz.prog 4 d (B true)) (congr (congrArg List.cons ((aj2 x):Sh.arg (.sl vW) x=_)) (rfl))) (Tryz.K.k4 (aj' hx))
set_option maxRecDepth 100000 in
theorem Y'(os:Os)(started:os.Started)(H:Type)(enc:TypeId×Value->H):
 ReturnsInHanded {} Tryz.checked os 4 .any (fun w args=>(Rows.flowListsSpec.pre enc Tryz.prog Tryz.f4 [] false w args/\laidMetH Tryz.prog wj w)/\sizedMet enc Tryz.prog Tryz.f4 (OpenSpec.ofChange Rows.flowListsSpec) false w args)
  (Rows.flowListsSpec.post enc Tryz.prog Tryz.f4 false true false false):=by
 refine returnsInHanded_of_change_and (C:= Tryz.checked) (X:=fun w _=>laidMetH Tryz.prog wj w) (fun _ _ _ hh h=>h.of_heap hh) aic started (by kernel_rfl) Tryz.func4
  (ChangeSpec.witness_at (enc:=enc) (C:= Tryz.checked) (os:=os) (X:=fun w _=>laidMetH Tryz.prog wj w) false (PO os) #[.slice none 0 0] 8 rfl (by kernel_rfl) (by kernel_rfl) (by kernel_rfl) (by kernel_rfl) (by kernel_rfl) (WD os _)) ?_
 intro W base args ds gs before J hW _ _ O _;obtain⟨M,U⟩:=abP O;refine WK (C:= Tryz.checked) rfl (fun ds h=>?_) laidOut abM acD afJ afI rfl abO W base args ds gs before M U J hW;rw[abN] at h
 match ds,h with
 |[d1],_=>rfl
theorem Za: Tryz.f4.params= #[31]:=by kernel_rfl
end Go.Proofs.YtkogeiacmmckkaaGreatDoor
