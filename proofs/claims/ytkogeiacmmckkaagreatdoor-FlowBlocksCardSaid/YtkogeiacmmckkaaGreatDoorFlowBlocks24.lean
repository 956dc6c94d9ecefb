/- Part 24. -/
import Derived.Test.YtkogeiacmmckkaaGreatDoorFlowBlocks19
import Derived.Test.YtkogeiacmmckkaaGreatDoorFlowBlocks23
import Derived.ChangeSame
import Derived.ChangeVars
import Derived.RowKit
set_option linter.all false
namespace Go.Proofs.YtkogeiacmmckkaaGreatDoor
open Go Go.Abs Go.Argus
theorem abM:(Tryz.f8.params.toList.all fun t=> Tryz.prog.readableRec t&&decide (t< Tryz.prog.types.size))=true:=by kernel_rfl
theorem acD: Tryz.f8.resultTypes= #[4]:=by kernel_rfl
theorem afI:wE Tryz.prog 8 Tryz.f8.params.toList=some [vW,pk]:=by kernel_rfl
theorem abN: Tryz.f8.params.size=2:=by kernel_rfl
theorem abO(ds:List D)(h:AD [vW,pk] ds):ax Tryz.prog 8 ds (.s (.bool true)):=by
 cases h with
 |cons x hx h=>
  cases h with
  |cons y _ h=>
   cases h with
   |nil=>
    exact Eq.mpr (congrArg (fun d=>ax Tryz.prog 8 d (B true)) (congr (congrArg List.cons ((aay x):Sh.arg (vW) x=_)) (congr (congrArg List.cons (rfl:Sh.arg pk y=I y)) (rfl)))) (Tryz.K.k8 (acE x hx))
set_option maxRecDepth 100000 in
theorem Y'(os:Os)(started:os.Started)(H:Type)(enc:TypeId×Value->H):
 ReturnsInHanded {} Tryz.checked os 8 .any (fun w args=>(Rows.flowBlocksSpec.pre enc Tryz.prog Tryz.f8 [] false w args/\laidMetH Tryz.prog wj w)/\sizedMet enc Tryz.prog Tryz.f8 (OpenSpec.ofChange Rows.flowBlocksSpec) false w args)
  (Rows.flowBlocksSpec.post enc Tryz.prog Tryz.f8 false true false false):=by
 refine returnsInHanded_of_change_and (C:= Tryz.checked) (X:=fun w _=>laidMetH Tryz.prog wj w) (fun _ _ _ hh h=>h.of_heap hh) aic started (by kernel_rfl) Tryz.func8
  (ChangeSpec.witness_at (enc:=enc) (C:= Tryz.checked) (os:=os) (X:=fun w _=>laidMetH Tryz.prog wj w) false (PO os) #[.agg #[.string ⟨#[]⟩,.bool false,.int .i64 0,.int .u8 0,.slice none 0 0,.slice none 0 0,.slice none 0 0,.slice none 0 0],.int .i64 0] 8 rfl (by kernel_rfl) (by kernel_rfl) (by kernel_rfl) (by kernel_rfl) (by kernel_rfl) (WD os _)) ?_
 intro W base args ds gs before J hW _ _ O _;obtain⟨M,U⟩:=abP O;refine WK (C:= Tryz.checked) rfl (fun ds h=>?_) laidOut abM acD afJ afI rfl abO W base args ds gs before M U J hW;rw[abN] at h
 match ds,h with
 |[d1,d2],_=>rfl
theorem Za: Tryz.f8.params= #[26,3]:=by kernel_rfl
end Go.Proofs.YtkogeiacmmckkaaGreatDoor
