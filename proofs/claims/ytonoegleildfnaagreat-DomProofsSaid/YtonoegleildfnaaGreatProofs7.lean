/- x -/
import Derived.Test.YtonoegleildfnaaGreatProofs6
import Derived.Test.YtonoegleildfnaaGreatRows
set_option linter.all false
namespace Go.Proofs.YtonoegleildfnaaGreat
open Go.Abs Go.Argus
theorem aly:ownKnob Tryz.prog.godebug=none:=by kernel_rfl
theorem laidOut:laidOutB Tryz.prog=true:=by kernel_rfl
theorem aid: Tryz.prog.underlying 4=some .bool:=by kernel_rfl
theorem ac0:(Tryz.f3.params.toList.all fun t=> Tryz.prog.readableRec t&&decide (t< Tryz.prog.types.size))=true:=by kernel_rfl
theorem aei: Tryz.f3.resultTypes= #[4]:=by kernel_rfl
theorem afm:zm Tryz.prog 8 Tryz.f3.params.toList=some [Ar,EE]:=by kernel_rfl
theorem ac1: Tryz.f3.params.size=2:=by kernel_rfl
theorem ac2(ds:List D)(h:B7 [Ar,EE] ds):PCall Tryz.prog 3 ds (.s (.bool true)):=by
 cases h with
 |cons x hx h=>cases h with
  |cons d _ h=>cases h with
   |nil=>
    rw[ac3,ac4];exact Tryz.K.aaY (afn x hx)
set_option maxRecDepth 100000 in
theorem aap(J:Os)(started:J.Started)(H:Type)(enc:TypeId×Value->H):
 ReturnsInHanded {} Tryz.checked J 3 .any (Rows.domProofsSpec.pre6 enc Tryz.prog Tryz.f3 Rows.domProofsRow.domain false) (Rows.domProofsSpec.post enc Tryz.prog Tryz.f3 false true false false):=by
 refine returnsInHanded_of_change (C:= Tryz.checked) aly started (by kernel_rfl) Tryz.func3
  (ChangeSpec.witness6 (enc:=enc) (C:= Tryz.checked) false ⟨#[], #[.agg #[.string ⟨#[]⟩,.bool false,.int .i64 0,.int .u8 0,.slice none 0 0,.slice none 0 0,.slice none 0 0,.slice none 0 0],.agg #[.slice none 0 0,.slice none 0 0,.slice none 0 0]],[]⟩ 8 (by kernel_rfl) (by kernel_rfl) (by kernel_rfl) (by kernel_rfl)) ?_
 intro W base args ds gs before M X _ _;refine Zn (C:= Tryz.checked) rfl (fun ds h=>?_) laidOut ac0 aei aid afm ac2 W base args ds gs before M X;rw[ac1] at h
 match ds,h with
 |[d1,d2],_=>rfl
theorem domProofs_holds:Rows.DomProofsSaid:=
 OpenClaim.holds_of_wide 3 Tryz.f3 rfl rfl rfl rfl rfl rfl rfl ⟨rfl,rfl,rfl,rfl,rfl⟩ rfl rfl rfl rfl rfl (by kernel_rfl) Tryz.func3 (by kernel_rfl)
  (of_decide_eq_true (by kernel_rfl)) (by unfold Func.isWrapper;rw[if_neg (of_decide_eq_false (by kernel_rfl))];exact⟨rfl,rfl⟩)
  (fun C started H enc _=>aap C started H enc)
#print axioms domProofs_holds
end Go.Proofs.YtonoegleildfnaaGreat
