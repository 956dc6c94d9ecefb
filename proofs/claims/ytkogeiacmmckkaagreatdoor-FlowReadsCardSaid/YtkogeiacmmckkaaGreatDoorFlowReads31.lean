/- Part 31 of the proof; the last part says what is proved. -/
import Derived.Test.YtkogeiacmmckkaaGreatDoorFlowReads24
import Derived.Test.YtkogeiacmmckkaaGreatDoorFlowReads30
import Derived.ChangeSame
import Derived.ChangeVars
import Derived.RowKit
set_option linter.all false
namespace Go.Proofs.YtkogeiacmmckkaaGreatDoor
open Go Go.Abs Go.Argus
theorem lawRead:(Tryz.f6.params.toList.all fun t=> Tryz.prog.readableRec t&&decide (t< Tryz.prog.types.size))=true:=by kernel_rfl
theorem lawRes: Tryz.f6.resultTypes= #[4]:=by kernel_rfl
theorem lawSh:shTs Tryz.prog 8 Tryz.f6.params.toList=some [insSh,endSh]:=by kernel_rfl
theorem lawSize: Tryz.f6.params.size=2:=by kernel_rfl
theorem lawArgs (ds:List D) (h:ArgsOf [insSh,endSh] ds):PCall Tryz.prog 6 ds (.s (.bool true)):=by
  cases h with
  | cons x _ h=>
    cases h with
    | cons y _ h=>
      cases h with
      | nil=>
        exact Eq.mpr (congrArg (fun d=>PCall Tryz.prog 6 d (B true)) (congr (congrArg List.cons ((arg_ins x):Sh.arg (insSh) x=_)) (congr (congrArg List.cons ((arg_end y):Sh.arg (endSh) y=_)) (rfl)))) Tryz.K.k6
set_option maxRecDepth 100000 in
theorem lawLifted (os:Os) (started:os.Started) (H:Type) (enc:TypeId×Value→H):
    ReturnsInHanded {} Tryz.checked os 6 .any (fun w args=>(Rows.flowReadsSpec.pre enc Tryz.prog Tryz.f6 [] false w args∧laidMetH Tryz.prog laidL w)∧sizedMet enc Tryz.prog Tryz.f6 (OpenSpec.ofChange Rows.flowReadsSpec) false w args)
      (Rows.flowReadsSpec.post enc Tryz.prog Tryz.f6 false true false false):=by
  refine returnsInHanded_of_change_and (C:= Tryz.checked) (X:=fun w _=>laidMetH Tryz.prog laidL w) (fun _ _ _ hh h=>h.of_heap hh) ownK started (by kernel_rfl) Tryz.func6
    (ChangeSpec.witness_at (enc:=enc) (C:= Tryz.checked) (os:=os) (X:=fun w _=>laidMetH Tryz.prog laidL w) false (laidWorld os) #[.agg #[.int .u8 0,.int .i64 0,.int .i64 0,.int .i64 0,.int .i64 0,.slice none 0 0],.agg #[.int .u8 0,.int .i64 0,.int .i64 0,.int .i64 0,.int .i64 0,.string ⟨#[]⟩,.int .u8 0,.int .i64 0,.int .i64 0,.int .i64 0,.int .i64 0,.slice none 0 0,.slice none 0 0,.slice none 0 0,.int .i64 0]] 8 rfl (by kernel_rfl) (by kernel_rfl) (by kernel_rfl) (by kernel_rfl) (by kernel_rfl) (laidWorld_met os _)) ?_
  intro W base args ds gs before hval hW _ _ hL _
  obtain ⟨hF,hU⟩:=fb_laid hL
  refine law_contract (C:= Tryz.checked) rfl (fun ds h=>?_) laidOut lawRead lawRes boolT lawSh rfl lawArgs W base args ds gs before hF hU hval hW
  rw [lawSize] at h
  match ds,h with
  | [d1,d2],_=>rfl
theorem lawParams: Tryz.f6.params= #[45,48]:=by kernel_rfl
end Go.Proofs.YtkogeiacmmckkaaGreatDoor
