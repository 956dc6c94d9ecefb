/- DomLoops: for every flow the law answers true, and its argument reads as before. No condition. -/
import Derived.Test.YtonoegleildfnaaGreatLoops6
import Derived.Test.YtonoegleildfnaaGreatRows
namespace Go.Proofs.YtonoegleildfnaaGreat
open Go.Abs Go.Argus
theorem ann:ownKnob Tryz.prog.godebug=none:=by kernel_rfl
theorem laidOut:laidOutB Tryz.prog=true:=by kernel_rfl
theorem aji: Tryz.prog.underlying 4=some .bool:=by kernel_rfl
theorem aax:(Tryz.f10.params.toList.all fun t=> Tryz.prog.readableRec t&&decide (t< Tryz.prog.types.size))=true:=by kernel_rfl
theorem abL: Tryz.f10.resultTypes= #[4]:=by kernel_rfl
theorem acP:wR Tryz.prog 8 Tryz.f10.params.toList=some [yg]:=by kernel_rfl
theorem aay: Tryz.f10.params.size=1:=by kernel_rfl
theorem aaz(ds:List D)(h:Ae [yg] ds):PCall Tryz.prog 10 ds (.s (.bool true)):=by
 cases h with
 |cons x hx h=>cases h with
  |nil=>
   rw[abM];exact Tryz.K.abK (adR x hx)
set_option maxRecDepth 100000 in
theorem YF(J:Os)(started:J.Started)(H:Type)(enc:TypeId×Value->H):
 ReturnsInHanded {} Tryz.checked J 10 .any (Rows.domLoopsSpec.pre6 enc Tryz.prog Tryz.f10 Rows.domLoopsRow.domain false) (Rows.domLoopsSpec.post enc Tryz.prog Tryz.f10 false true false false):=by
 refine returnsInHanded_of_change (C:= Tryz.checked) ann started (by kernel_rfl) Tryz.func10
  (ChangeSpec.witness6 (enc:=enc) (C:= Tryz.checked) false ⟨#[], #[.agg #[.string ⟨#[]⟩,.bool false,.int .i64 0,.int .u8 0,.slice none 0 0,.slice none 0 0,.slice none 0 0,.slice none 0 0]],[]⟩ 8 (by kernel_rfl) (by kernel_rfl) (by kernel_rfl) (by kernel_rfl)) ?_
 intro W base args ds gs before M U _ _;refine Yq (C:= Tryz.checked) rfl (fun ds h=>?_) laidOut aax abL aji acP aaz W base args ds gs before M U;rw[aay] at h
 match ds,h with
 |[d1],_=>rfl
theorem domLoops_holds:Rows.DomLoopsSaid:=
 OpenClaim.holds_of_wide 10 Tryz.f10 rfl rfl rfl rfl rfl rfl rfl ⟨rfl,rfl,rfl,rfl,rfl⟩ rfl rfl rfl rfl rfl (by kernel_rfl) Tryz.func10 (by kernel_rfl)
  (of_decide_eq_true (by kernel_rfl)) (by unfold Func.isWrapper;rw[if_neg (of_decide_eq_false (by kernel_rfl))];exact⟨rfl,rfl⟩)
  (fun C started H enc _=>YF C started H enc)
#print axioms domLoops_holds
end Go.Proofs.YtonoegleildfnaaGreat
