/- DomProofs: for every flow and every proof the law answers true, and its arguments read as before. No condition. -/
import Derived.Test.YtonoegleildfnaaGreatProofs6
import Derived.Test.YtonoegleildfnaaGreatRows
set_option linter.all false
namespace Go.Proofs.YtonoegleildfnaaGreat
open Go.Abs Go.Argus
theorem alq:ownKnob Tryz.prog.godebug=none:=by kernel_rfl
theorem laidOut:laidOutB Tryz.prog=true:=by kernel_rfl
theorem ah8: Tryz.prog.underlying 4=some .bool:=by kernel_rfl
theorem acT:(Tryz.f3.params.toList.all fun t=> Tryz.prog.readableRec t&&decide (t< Tryz.prog.types.size))=true:=by kernel_rfl
theorem aec: Tryz.f3.resultTypes= #[4]:=by kernel_rfl
theorem afg:zj Tryz.prog 8 Tryz.f3.params.toList=some [An,EA]:=by kernel_rfl
theorem acU: Tryz.f3.params.size=2:=by kernel_rfl
theorem acV(ds:List D)(h:B3 [An,EA] ds):PCall Tryz.prog 3 ds (.s (.bool true)):=by
 cases h with
 |cons x hx h=>cases h with
  |cons d _ h=>cases h with
   |nil=>
    rw[acW,acX];exact Tryz.K.aaS (afh x hx)
set_option maxRecDepth 100000 in
theorem aaj(J:Os)(started:J.Started)(H:Type)(enc:TypeId×Value->H):
 ReturnsInHanded {} Tryz.checked J 3 .any (Rows.domProofsSpec.pre6 enc Tryz.prog Tryz.f3 Rows.domProofsRow.domain false) (Rows.domProofsSpec.post enc Tryz.prog Tryz.f3 false true false false):=by
 refine returnsInHanded_of_change (C:= Tryz.checked) alq started (by kernel_rfl) Tryz.func3
  (ChangeSpec.witness6 (enc:=enc) (C:= Tryz.checked) false ⟨#[], #[.agg #[.string ⟨#[]⟩,.bool false,.int .i64 0,.int .u8 0,.slice none 0 0,.slice none 0 0,.slice none 0 0,.slice none 0 0],.agg #[.slice none 0 0,.slice none 0 0,.slice none 0 0]],[]⟩ 8 (by kernel_rfl) (by kernel_rfl) (by kernel_rfl) (by kernel_rfl)) ?_
 intro W base args ds gs before M X _ _;refine Zh (C:= Tryz.checked) rfl (fun ds h=>?_) laidOut acT aec ah8 afg acV W base args ds gs before M X;rw[acU] at h
 match ds,h with
 |[d1,d2],_=>rfl
theorem domProofs_holds:Rows.DomProofsSaid:=
 OpenClaim.holds_of_wide 3 Tryz.f3 rfl rfl rfl rfl rfl rfl rfl ⟨rfl,rfl,rfl,rfl,rfl⟩ rfl rfl rfl rfl rfl (by kernel_rfl) Tryz.func3 (by kernel_rfl)
  (of_decide_eq_true (by kernel_rfl)) (by unfold Func.isWrapper;rw[if_neg (of_decide_eq_false (by kernel_rfl))];exact⟨rfl,rfl⟩)
  (fun C started H enc _=>aaj C started H enc)
#print axioms domProofs_holds
end Go.Proofs.YtonoegleildfnaaGreat
