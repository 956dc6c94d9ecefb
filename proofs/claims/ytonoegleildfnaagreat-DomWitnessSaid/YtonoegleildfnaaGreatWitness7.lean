/- x -/
import Derived.Test.YtonoegleildfnaaGreatWitness6
import Derived.Test.YtonoegleildfnaaGreatRows
set_option linter.unusedVariables false
set_option linter.unusedSimpArgs false
namespace Go.Proofs.YtonoegleildfnaaGreat
open Go.Abs Go.Argus
theorem ai0:ownKnob Tryz.prog.godebug=none:=by kernel_rfl
theorem laidOut:laidOutB Tryz.prog=true:=by kernel_rfl
theorem afZ: Tryz.prog.underlying 4=some .bool:=by kernel_rfl
theorem aaR:(Tryz.f5.params.toList.all fun t=> Tryz.prog.readableRec t&&decide (t< Tryz.prog.types.size))=true:=by kernel_rfl
theorem ab3: Tryz.f5.resultTypes= #[4]:=by kernel_rfl
theorem ac1:xZ Tryz.prog 8 Tryz.f5.params.toList=some [zo,ko,ko,.sl ko]:=by kernel_rfl
theorem aaS: Tryz.f5.params.size=4:=by kernel_rfl
theorem aaT(ds:List D)(h:Bg [zo,ko,ko,.sl ko] ds):PCall Tryz.prog 5 ds (.s (.bool true)):=by
 cases h with
 |cons x hx h=>cases h with
  |cons b _ h=>cases h with
   |cons r _ h=>cases h with
    |cons l _ h=>cases h with
     |nil=>
      rw[aaU];exact Eq.mpr (congrArg (fun d=>PCall Tryz.prog 5 [.agg (aD (Kp x)),I b,I r,d] (B true)) (aaV l)) (Tryz.K.X7 (ac2 x hx))
set_option maxRecDepth 100000 in
theorem YE(J:Os)(started:J.Started)(H:Type)(enc:TypeId×Value->H):
 ReturnsInHanded {} Tryz.checked J 5 .any (Rows.domWitnessSpec.pre6 enc Tryz.prog Tryz.f5 Rows.domWitnessRow.domain false) (Rows.domWitnessSpec.post enc Tryz.prog Tryz.f5 false true false false):=by
 refine returnsInHanded_of_change (C:= Tryz.checked) ai0 started (by kernel_rfl) Tryz.func5
  (ChangeSpec.witness6 (enc:=enc) (C:= Tryz.checked) false ⟨#[], #[.agg #[.string ⟨#[]⟩,.bool false,.int .i64 0,.int .u8 0,.slice none 0 0,.slice none 0 0,.slice none 0 0,.slice none 0 0],.int .i64 0,.int .i64 0,.slice none 0 0],[]⟩ 8 (by kernel_rfl) (by kernel_rfl) (by kernel_rfl) (by kernel_rfl)) ?_
 intro W base args ds gs before U X _ _;refine XE (C:= Tryz.checked) rfl (fun ds h=>?_) laidOut aaR ab3 afZ ac1 aaT W base args ds gs before U X;rw[aaS] at h
 match ds,h with
 |[d1,d2,d3,d4],_=>rfl
theorem domWitness_holds:Rows.DomWitnessSaid:=
 OpenClaim.holds_of_wide 5 Tryz.f5 rfl rfl rfl rfl rfl rfl rfl ⟨rfl,rfl,rfl,rfl,rfl⟩ rfl rfl rfl rfl rfl (by kernel_rfl) Tryz.func5 (by kernel_rfl)
  (of_decide_eq_true (by kernel_rfl)) (by unfold Func.isWrapper;rw[if_neg (of_decide_eq_false (by kernel_rfl))];exact⟨rfl,rfl⟩)
  (fun C started H enc _=>YE C started H enc)
#print axioms domWitness_holds
end Go.Proofs.YtonoegleildfnaaGreat
