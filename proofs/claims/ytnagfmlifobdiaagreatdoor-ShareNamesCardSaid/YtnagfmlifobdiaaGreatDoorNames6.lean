/- Part 6. -/
import Derived.Test.YtnagfmlifobdiaaGreatDoorNames5
import Derived.ChangeSame
import Derived.ChangeVars
import Derived.RowKit
set_option linter.all false
namespace Go.Proofs.YtnagfmlifobdiaaGreatDoor
open Go Go.Abs Go.Argus
theorem acU:(Tryz.f7.params.toList.all fun t=> Tryz.prog.readableRec t&&decide (t< Tryz.prog.types.size))=true:=by kernel_rfl
theorem adS: Tryz.f7.resultTypes= #[4]:=by kernel_rfl
theorem agT:wu Tryz.prog 8 Tryz.f7.params.toList=some [.sl vD,.sl .str]:=by kernel_rfl
theorem acV: Tryz.f7.params.size=2:=by kernel_rfl
theorem acW(ds:List D)(h:Ar [.sl vD,.sl .str] ds):aA Tryz.prog 7 ds (.s (.bool true)):=by
 cases h with
 |cons x _ h=>
  cases h with
  |cons y _ h=>
   cases h with
   |nil=>
    exact Eq.mpr (congrArg (fun d=>aA Tryz.prog 7 d (B true)) (congr (congrArg List.cons ((Z0 x):Sh.arg (.sl vD) x=_)) (congr (congrArg List.cons ((abG y):Sh.arg (.sl .str) y=_)) (rfl)))) Tryz.K.k7
set_option maxRecDepth 100000 in
theorem Z1(os:Os)(started:os.Started)(H:Type)(enc:TypeId×Value->H):
 ReturnsInHanded {} Tryz.checked os 7 .any (fun w args=>(Rows.shareNamesSpec.pre enc Tryz.prog Tryz.f7 [] false w args/\laidMetH Tryz.prog vV w)/\sizedMet enc Tryz.prog Tryz.f7 (OpenSpec.ofChange Rows.shareNamesSpec) false w args)
  (Rows.shareNamesSpec.post enc Tryz.prog Tryz.f7 false true false false):=by
 refine returnsInHanded_of_change_and (C:= Tryz.checked) (X:=fun w _=>laidMetH Tryz.prog vV w) (fun _ _ _ hh h=>h.of_heap hh) akk started (by kernel_rfl) Tryz.func7
  (ChangeSpec.witness_at (enc:=enc) (C:= Tryz.checked) (os:=os) (X:=fun w _=>laidMetH Tryz.prog vV w) false (P' os) #[.slice none 0 0,.slice none 0 0] 8 rfl (by kernel_rfl) (by kernel_rfl) (by kernel_rfl) (by kernel_rfl) (by kernel_rfl) (WU os _)) ?_
 intro W base args ds gs before J hW _ _ U _;obtain⟨M,hU⟩:=acX U;refine W3 (C:= Tryz.checked) rfl (fun ds h=>?_) laidOut acU adS agU agT rfl acW W base args ds gs before M hU J hW;rw[acV] at h
 match ds,h with
 |[d1,d2],_=>rfl
theorem Z2: Tryz.f7.params= #[22,34]:=by kernel_rfl
end Go.Proofs.YtnagfmlifobdiaaGreatDoor
