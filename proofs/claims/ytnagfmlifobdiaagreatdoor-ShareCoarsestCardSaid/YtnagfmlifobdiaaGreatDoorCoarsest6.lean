/- Part 6. -/
import Derived.Test.YtnagfmlifobdiaaGreatDoorCoarsest5
import Derived.ChangeSame
import Derived.ChangeVars
import Derived.RowKit
set_option linter.all false
namespace Go.Proofs.YtnagfmlifobdiaaGreatDoor
open Go Go.Abs Go.Argus
theorem acD:(Tryz.f5.params.toList.all fun t=> Tryz.prog.readableRec t&&decide (t< Tryz.prog.types.size))=true:=by kernel_rfl
theorem adI: Tryz.f5.resultTypes= #[4]:=by kernel_rfl
theorem agK:wo Tryz.prog 8 Tryz.f5.params.toList=some [.sl vy,.sl (.sl jV)]:=by kernel_rfl
theorem acE: Tryz.f5.params.size=2:=by kernel_rfl
theorem acF(ds:List D)(h:Am [.sl vy,.sl (.sl jV)] ds):aB Tryz.prog 5 ds (.s (.bool true)):=by
 cases h with
 |cons x _ h=>
  cases h with
  |cons y _ h=>
   cases h with
   |nil=>
    exact Eq.mpr (congrArg (fun d=>aB Tryz.prog 5 d (B true)) (congr (congrArg List.cons ((ZR x):Sh.arg (.sl vy) x=_)) (congr (congrArg List.cons ((ZS y):Sh.arg (.sl (.sl jV)) y=_)) (rfl)))) Tryz.K.k5
set_option maxRecDepth 100000 in
theorem ZT(os:Os)(started:os.Started)(H:Type)(enc:TypeId×Value->H):
 ReturnsInHanded {} Tryz.checked os 5 .any (fun w args=>(Rows.shareCoarsestSpec.pre enc Tryz.prog Tryz.f5 [] false w args/\laidMetH Tryz.prog vQ w)/\sizedMet enc Tryz.prog Tryz.f5 (OpenSpec.ofChange Rows.shareCoarsestSpec) false w args)
  (Rows.shareCoarsestSpec.post enc Tryz.prog Tryz.f5 false true false false):=by
 refine returnsInHanded_of_change_and (C:= Tryz.checked) (X:=fun w _=>laidMetH Tryz.prog vQ w) (fun _ _ _ hh h=>h.of_heap hh) aj1 started (by kernel_rfl) Tryz.func5
  (ChangeSpec.witness_at (enc:=enc) (C:= Tryz.checked) (os:=os) (X:=fun w _=>laidMetH Tryz.prog vQ w) false (PG os) #[.slice none 0 0,.slice none 0 0] 8 rfl (by kernel_rfl) (by kernel_rfl) (by kernel_rfl) (by kernel_rfl) (by kernel_rfl) (WG os _)) ?_
 intro W base args ds gs before J hW _ _ U _;obtain⟨M,hU⟩:=acG U;refine WR (C:= Tryz.checked) rfl (fun ds h=>?_) laidOut acD adI agL agK rfl acF W base args ds gs before M hU J hW;rw[acE] at h
 match ds,h with
 |[d1,d2],_=>rfl
theorem ZU: Tryz.f5.params= #[22,23]:=by kernel_rfl
end Go.Proofs.YtnagfmlifobdiaaGreatDoor
