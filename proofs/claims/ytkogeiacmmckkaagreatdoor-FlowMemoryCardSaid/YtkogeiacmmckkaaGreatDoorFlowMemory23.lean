/- Part 23. -/
import Derived.Test.YtkogeiacmmckkaaGreatDoorFlowMemory19
import Derived.Test.YtkogeiacmmckkaaGreatDoorFlowMemory22
import Derived.ChangeSame
import Derived.ChangeVars
import Derived.RowKit
set_option linter.all false
namespace Go.Proofs.YtkogeiacmmckkaaGreatDoor
open Go Go.Abs Go.Argus
theorem acY:(Tryz.f10.params.toList.all fun t=> Tryz.prog.readableRec t&&decide (t< Tryz.prog.types.size))=true:=by kernel_rfl
theorem adU: Tryz.f10.resultTypes= #[4]:=by kernel_rfl
theorem ag6:vX Tryz.prog 8 Tryz.f10.params.toList=some [z8,.sl ly]:=by kernel_rfl
theorem acZ: Tryz.f10.params.size=2:=by kernel_rfl
theorem ac0(ds:List D)(h:Aa [z8,.sl ly] ds):aG Tryz.prog 10 ds (.s (.bool true)):=by
 cases h with
 |cons x _ h=>
  cases h with
  |cons y _ h=>
   cases h with
   |nil=>
    exact Eq.mpr (congrArg (fun d=>aG Tryz.prog 10 d (B true)) (congr (congrArg List.cons ((abG x):Sh.arg (z8) x=_)) (congr (congrArg List.cons ((abH y):Sh.arg (.sl ly) y=_)) (rfl)))) Tryz.K.k10
set_option maxRecDepth 100000 in
theorem Z0(os:Os)(started:os.Started)(H:Type)(enc:TypeId×Value->H):
 ReturnsInHanded {} Tryz.checked os 10 .any (fun w args=>(Rows.flowMemorySpec.pre enc Tryz.prog Tryz.f10 [] false w args/\laidMetH Tryz.prog vB w)/\sizedMet enc Tryz.prog Tryz.f10 (OpenSpec.ofChange Rows.flowMemorySpec) false w args)
  (Rows.flowMemorySpec.post enc Tryz.prog Tryz.f10 false true false false):=by
 refine returnsInHanded_of_change_and (C:= Tryz.checked) (X:=fun w _=>laidMetH Tryz.prog vB w) (fun _ _ _ hh h=>h.of_heap hh) ajr started (by kernel_rfl) Tryz.func10
  (ChangeSpec.witness_at (enc:=enc) (C:= Tryz.checked) (os:=os) (X:=fun w _=>laidMetH Tryz.prog vB w) false (PK os) #[.agg #[.string ⟨#[]⟩,.bool false,.int .i64 0,.int .u8 0,.slice none 0 0,.slice none 0 0,.slice none 0 0,.slice none 0 0],.slice none 0 0] 8 rfl (by kernel_rfl) (by kernel_rfl) (by kernel_rfl) (by kernel_rfl) (by kernel_rfl) (Xu os _)) ?_
 intro W base args ds gs before J hW _ _ U _;obtain⟨O,hU⟩:=ac1 U;refine XC (C:= Tryz.checked) rfl (fun ds h=>?_) laidOut acY adU ag7 ag6 rfl ac0 W base args ds gs before O hU J hW;rw[acZ] at h
 match ds,h with
 |[d1,d2],_=>rfl
theorem Z1: Tryz.f10.params= #[26,35]:=by kernel_rfl
end Go.Proofs.YtkogeiacmmckkaaGreatDoor
