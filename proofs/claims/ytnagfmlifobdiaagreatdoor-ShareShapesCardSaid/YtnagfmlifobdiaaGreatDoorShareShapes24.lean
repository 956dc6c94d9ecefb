/- Part 24. -/
import Derived.Test.YtnagfmlifobdiaaGreatDoorShareShapes18
import Derived.Test.YtnagfmlifobdiaaGreatDoorShareShapes23
import Derived.ChangeSame
import Derived.ChangeVars
import Derived.RowKit
set_option linter.all false
namespace Go.Proofs.YtnagfmlifobdiaaGreatDoor
open Go Go.Abs Go.Argus
theorem agH:(Tryz.f9.params.toList.all fun t=> Tryz.prog.readableRec t&&decide (t< Tryz.prog.types.size))=true:=by kernel_rfl
theorem ahN: Tryz.f9.resultTypes= #[4]:=by kernel_rfl
theorem alW:yR Tryz.prog 8 Tryz.f9.params.toList=some [xZ]:=by kernel_rfl
theorem agI: Tryz.f9.params.size=1:=by kernel_rfl
theorem agJ(ds:List D)(h:BW [xZ] ds):az Tryz.prog 9 ds (.s (.bool true)):=by
 cases h with
 |cons x hx h=>
  cases h with
  |nil=>
   exact Eq.mpr (congrArg (fun d=>az Tryz.prog 9 d (B true)) (congr (congrArg List.cons ((afe x):Sh.arg (xZ) x=_)) (rfl))) (Tryz.K.k9 (ahO x hx))
set_option maxRecDepth 100000 in
theorem adB(os:Os)(started:os.Started)(H:Type)(enc:TypeId×Value->H):
 ReturnsInHanded {} Tryz.checked os 9 .any (fun w args=>(Rows.shareShapesSpec.pre enc Tryz.prog Tryz.f9 [] false w args/\laidMetH Tryz.prog yu w)/\sizedMet enc Tryz.prog Tryz.f9 (OpenSpec.ofChange Rows.shareShapesSpec) false w args)
  (Rows.shareShapesSpec.post enc Tryz.prog Tryz.f9 false true false false):=by
 refine returnsInHanded_of_change_and (C:= Tryz.checked) (X:=fun w _=>laidMetH Tryz.prog yu w) (fun _ _ _ hh h=>h.of_heap hh) aon started (by kernel_rfl) Tryz.func9
  (ChangeSpec.witness_at (enc:=enc) (C:= Tryz.checked) (os:=os) (X:=fun w _=>laidMetH Tryz.prog yu w) false (S3 os) #[.agg #[.string ⟨#[]⟩,.bool false,.int .i64 0,.int .u8 0,.slice none 0 0,.slice none 0 0,.slice none 0 0,.slice none 0 0]] 8 rfl (by kernel_rfl) (by kernel_rfl) (by kernel_rfl) (by kernel_rfl) (by kernel_rfl) (aap os _)) ?_
 intro W base args ds gs before J hW _ _ O _;obtain⟨M,U⟩:=agK O;refine aav (C:= Tryz.checked) rfl (fun ds h=>?_) laidOut agH ahN alX alW rfl agJ W base args ds gs before M U J hW;rw[agI] at h
 match ds,h with
 |[d1],_=>rfl
theorem adC: Tryz.f9.params= #[48]:=by kernel_rfl
end Go.Proofs.YtnagfmlifobdiaaGreatDoor
