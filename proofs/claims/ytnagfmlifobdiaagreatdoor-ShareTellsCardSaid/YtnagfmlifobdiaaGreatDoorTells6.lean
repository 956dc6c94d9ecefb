/- Part 6. -/
import Derived.Test.YtnagfmlifobdiaaGreatDoorTells5
import Derived.ChangeSame
import Derived.ChangeVars
import Derived.RowKit
set_option linter.all false
namespace Go.Proofs.YtnagfmlifobdiaaGreatDoor
open Go Go.Abs Go.Argus
theorem acK:(Tryz.f11.params.toList.all fun t=> Tryz.prog.readableRec t&&decide (t< Tryz.prog.types.size))=true:=by kernel_rfl
theorem adL: Tryz.f11.resultTypes= #[4]:=by kernel_rfl
theorem agN:wv Tryz.prog 8 Tryz.f11.params.toList=some [.sl vC,iH,iH,.sl iH]:=by kernel_rfl
theorem acL: Tryz.f11.params.size=4:=by kernel_rfl
theorem acN(ds:List D)(h:Aj [.sl vC,iH,iH,.sl iH] ds):aD Tryz.prog 11 ds (.s (.bool true)):=by
 cases h with
 |cons x _ h=>
  cases h with
  |cons y _ h=>
   cases h with
   |cons z _ h=>
    cases h with
    |cons u _ h=>
     cases h with
     |nil=>
      exact Eq.mpr (congrArg (fun d=>aD Tryz.prog 11 d (B true)) (congr (congrArg List.cons ((ZO x):Sh.arg (.sl vC) x=_)) (congr (congrArg List.cons (rfl:Sh.arg iH y=I y)) (congr (congrArg List.cons (rfl:Sh.arg iH z=I z)) (congr (congrArg List.cons ((abt u):Sh.arg (.sl iH) u=_)) (rfl)))))) Tryz.K.k11
set_option maxRecDepth 100000 in
theorem ZP(os:Os)(started:os.Started)(H:Type)(enc:TypeId×Value->H):
 ReturnsInHanded {} Tryz.checked os 11 .any (fun w args=>(Rows.shareTellsSpec.pre enc Tryz.prog Tryz.f11 [] false w args/\laidMetH Tryz.prog vW w)/\sizedMet enc Tryz.prog Tryz.f11 (OpenSpec.ofChange Rows.shareTellsSpec) false w args)
  (Rows.shareTellsSpec.post enc Tryz.prog Tryz.f11 false true false false):=by
 refine returnsInHanded_of_change_and (C:= Tryz.checked) (X:=fun w _=>laidMetH Tryz.prog vW w) (fun _ _ _ hh h=>h.of_heap hh) aj9 started (by kernel_rfl) Tryz.func11
  (ChangeSpec.witness_at (enc:=enc) (C:= Tryz.checked) (os:=os) (X:=fun w _=>laidMetH Tryz.prog vW w) false (PF os) #[.slice none 0 0,.int .i64 0,.int .i64 0,.slice none 0 0] 8 rfl (by kernel_rfl) (by kernel_rfl) (by kernel_rfl) (by kernel_rfl) (by kernel_rfl) (WC os _)) ?_
 intro W base args ds gs before J hW _ _ U _;obtain⟨M,hU⟩:=acO U;refine WO (C:= Tryz.checked) rfl (fun ds h=>?_) laidOut acK adL agO agN rfl acN W base args ds gs before M hU J hW;rw[acL] at h
 match ds,h with
 |[d1,d2,d3,d4],_=>rfl
theorem ZQ: Tryz.f11.params= #[22,3,3,43]:=by kernel_rfl
end Go.Proofs.YtnagfmlifobdiaaGreatDoor
