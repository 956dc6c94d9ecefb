/- DomShown: for every flow and every proof the law answers true, and its arguments read as before. No condition. -/
import Derived.Test.YtonoegleildfnaaGreatShown5
import Derived.Test.YtonoegleildfnaaGreatRows
namespace Go.Proofs.YtonoegleildfnaaGreat
open Go.Abs Go.Argus
theorem abI:ownKnob Tryz.prog.godebug=none:=by kernel_rfl
theorem laidOut:laidOutB Tryz.prog=true:=by kernel_rfl
theorem YR: Tryz.prog.underlying 4=some .bool:=by kernel_rfl
theorem UP:(Tryz.f8.params.toList.all fun t=> Tryz.prog.readableRec t&&decide (t< Tryz.prog.types.size))=true:=by kernel_rfl
theorem VP: Tryz.f8.resultTypes= #[4]:=by kernel_rfl
theorem WO:sQ Tryz.prog 8 Tryz.f8.params.toList=some [y5,y6]:=by kernel_rfl
theorem UQ: Tryz.f8.params.size=2:=by kernel_rfl
theorem UR(ds:List D)(h:wl [y5,y6] ds):PCall Tryz.prog 8 ds (.s (.bool true)):=by
 cases h with
 |cons x hx h=>cases h with
  |cons d _ h=>cases h with
   |nil=>
    rw[US,UT];exact Tryz.K.Us
set_option maxRecDepth 100000 in
theorem SQ(J:Os)(started:J.Started)(H:Type)(enc:TypeId×Value->H):
 ReturnsInHanded {} Tryz.checked J 8 .any (Rows.domShownSpec.pre6 enc Tryz.prog Tryz.f8 Rows.domShownRow.domain false) (Rows.domShownSpec.post enc Tryz.prog Tryz.f8 false true false false):=by
 refine returnsInHanded_of_change (C:= Tryz.checked) abI started (by kernel_rfl) Tryz.func8
  (ChangeSpec.witness6 (enc:=enc) (C:= Tryz.checked) false ⟨#[], #[.agg #[.string ⟨#[]⟩,.bool false,.int .i64 0,.int .u8 0,.slice none 0 0,.slice none 0 0,.slice none 0 0,.slice none 0 0],.agg #[.slice none 0 0,.slice none 0 0,.slice none 0 0]],[]⟩ 8 (by kernel_rfl) (by kernel_rfl) (by kernel_rfl) (by kernel_rfl)) ?_
 intro W base args ds gs before X M _ _;refine RZ (C:= Tryz.checked) rfl (fun ds h=>?_) laidOut UP VP YR WO UR W base args ds gs before X M;rw[UQ] at h
 match ds,h with
 |[d1,d2],_=>rfl
theorem domShown_holds:Rows.DomShownSaid:=
 OpenClaim.holds_of_wide 8 Tryz.f8 rfl rfl rfl rfl rfl rfl rfl ⟨rfl,rfl,rfl,rfl,rfl⟩ rfl rfl rfl rfl rfl (by kernel_rfl) Tryz.func8 (by kernel_rfl)
  (of_decide_eq_true (by kernel_rfl)) (by unfold Func.isWrapper;rw[if_neg (of_decide_eq_false (by kernel_rfl))];exact⟨rfl,rfl⟩)
  (fun C started H enc _=>SQ C started H enc)
#print axioms domShown_holds
end Go.Proofs.YtonoegleildfnaaGreat
