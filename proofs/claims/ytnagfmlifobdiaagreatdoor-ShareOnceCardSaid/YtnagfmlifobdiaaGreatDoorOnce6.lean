/- Part 6. -/
import Derived.Test.YtnagfmlifobdiaaGreatDoorOnce5
import Derived.ChangeSame
import Derived.ChangeVars
import Derived.RowKit
set_option linter.all false
namespace Go.Proofs.YtnagfmlifobdiaaGreatDoor
open Go Go.Abs Go.Argus
theorem aeK:(Tryz.f6.params.toList.all fun t=> Tryz.prog.readableRec t&&decide (t< Tryz.prog.types.size))=true:=by kernel_rfl
theorem afG: Tryz.f6.resultTypes= #[4]:=by kernel_rfl
theorem aiI:xx Tryz.prog 8 Tryz.f6.params.toList=some [.sl wN,.sl .str]:=by kernel_rfl
theorem aeL: Tryz.f6.params.size=2:=by kernel_rfl
theorem aeM(ds:List D)(h:Bq [.sl wN,.sl .str] ds):aB Tryz.prog 6 ds (.s (.bool true)):=by
 cases h with
 |cons x _ h=>
  cases h with
  |cons y _ h=>
   cases h with
   |nil=>
    exact Eq.mpr (congrArg (fun d=>aB Tryz.prog 6 d (B true)) (congr (congrArg List.cons ((abB x):Sh.arg (.sl wN) x=_)) (congr (congrArg List.cons ((adt y):Sh.arg (.sl .str) y=_)) (rfl)))) Tryz.K.k6
set_option maxRecDepth 100000 in
theorem abC(os:Os)(started:os.Started)(H:Type)(enc:TypeId×Value->H):
 ReturnsInHanded {} Tryz.checked os 6 .any (fun w args=>(Rows.shareOnceSpec.pre enc Tryz.prog Tryz.f6 [] false w args/\laidMetH Tryz.prog xd w)/\sizedMet enc Tryz.prog Tryz.f6 (OpenSpec.ofChange Rows.shareOnceSpec) false w args)
  (Rows.shareOnceSpec.post enc Tryz.prog Tryz.f6 false true false false):=by
 refine returnsInHanded_of_change_and (C:= Tryz.checked) (X:=fun w _=>laidMetH Tryz.prog xd w) (fun _ _ _ hh h=>h.of_heap hh) amg started (by kernel_rfl) Tryz.func6
  (ChangeSpec.witness_at (enc:=enc) (C:= Tryz.checked) (os:=os) (X:=fun w _=>laidMetH Tryz.prog xd w) false (Rp os) #[.slice none 0 0,.slice none 0 0] 8 rfl (by kernel_rfl) (by kernel_rfl) (by kernel_rfl) (by kernel_rfl) (by kernel_rfl) (YB os _)) ?_
 intro W base args ds gs before J hW _ _ U _;obtain⟨M,hU⟩:=aeN U;refine YL (C:= Tryz.checked) rfl (fun ds h=>?_) laidOut aeK afG aiJ aiI rfl aeM W base args ds gs before M hU J hW;rw[aeL] at h
 match ds,h with
 |[d1,d2],_=>rfl
theorem abD: Tryz.f6.params= #[22,34]:=by kernel_rfl
end Go.Proofs.YtnagfmlifobdiaaGreatDoor
