/- DomLive: for every flow the law answers true, and its argument reads as before. No condition. -/
import Derived.Test.YtonoegleildfnaaGreatLive5
import Derived.Test.YtonoegleildfnaaGreatRows
namespace Go.Proofs.YtonoegleildfnaaGreat
open Go.Abs Go.Argus
theorem alo:ownKnob Tryz.prog.godebug=none:=by kernel_rfl
theorem laidOut:laidOutB Tryz.prog=true:=by kernel_rfl
theorem aho: Tryz.prog.underlying 4=some .bool:=by kernel_rfl
theorem ZJ:(Tryz.f4.params.toList.all fun t=> Tryz.prog.readableRec t&&decide (t< Tryz.prog.types.size))=true:=by kernel_rfl
theorem aaJ: Tryz.f4.resultTypes= #[4]:=by kernel_rfl
theorem abA:vf Tryz.prog 8 Tryz.f4.params.toList=some [wG]:=by kernel_rfl
theorem ZK: Tryz.f4.params.size=1:=by kernel_rfl
theorem ZL(ds:List D)(h:yU [wG] ds):PCall Tryz.prog 4 ds (.s (.bool true)):=by
 cases h with
 |cons x hx h=>cases h with
  |nil=>
   rw[ZM];exact Tryz.K.aan (abB x hx)
set_option maxRecDepth 100000 in
theorem Xt(J:Os)(started:J.Started)(H:Type)(enc:TypeId×Value->H):
 ReturnsInHanded {} Tryz.checked J 4 .any (Rows.domLiveSpec.pre6 enc Tryz.prog Tryz.f4 Rows.domLiveRow.domain false) (Rows.domLiveSpec.post enc Tryz.prog Tryz.f4 false true false false):=by
 refine returnsInHanded_of_change (C:= Tryz.checked) alo started (by kernel_rfl) Tryz.func4
  (ChangeSpec.witness6 (enc:=enc) (C:= Tryz.checked) false ⟨#[], #[.agg #[.string ⟨#[]⟩,.bool false,.int .i64 0,.int .u8 0,.slice none 0 0,.slice none 0 0,.slice none 0 0,.slice none 0 0]],[]⟩ 8 (by kernel_rfl) (by kernel_rfl) (by kernel_rfl) (by kernel_rfl)) ?_
 intro W base args ds gs before U X _ _;refine Wq (C:= Tryz.checked) rfl (fun ds h=>?_) laidOut ZJ aaJ aho abA ZL W base args ds gs before U X;rw[ZK] at h
 match ds,h with
 |[d1],_=>rfl
theorem domLive_holds:Rows.DomLiveSaid:=
 OpenClaim.holds_of_wide 4 Tryz.f4 rfl rfl rfl rfl rfl rfl rfl ⟨rfl,rfl,rfl,rfl,rfl⟩ rfl rfl rfl rfl rfl (by kernel_rfl) Tryz.func4 (by kernel_rfl)
  (of_decide_eq_true (by kernel_rfl)) (by unfold Func.isWrapper;rw[if_neg (of_decide_eq_false (by kernel_rfl))];exact⟨rfl,rfl⟩)
  (fun C started H enc _=>Xt C started H enc)
#print axioms domLive_holds
end Go.Proofs.YtonoegleildfnaaGreat
