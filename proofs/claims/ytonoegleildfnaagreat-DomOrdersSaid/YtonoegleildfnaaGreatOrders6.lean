/- DomOrders: the texts of the proof, joined -/
import Derived.Test.YtonoegleildfnaaGreatOrders5
import Derived.Test.YtonoegleildfnaaGreatRows
namespace Go.Proofs.YtonoegleildfnaaGreat
open Go.Abs Go.Argus
theorem Zr:ownKnob Tryz.prog.godebug=none:=by kernel_rfl
theorem laidOut:laidOutB Tryz.prog=true:=by kernel_rfl
theorem WB: Tryz.prog.underlying 4=some .bool:=by kernel_rfl
theorem R0:(Tryz.f7.params.toList.all fun t=> Tryz.prog.readableRec t&&decide (t< Tryz.prog.types.size))=true:=by kernel_rfl
theorem SZ: Tryz.f7.resultTypes= #[4]:=by kernel_rfl
theorem TV:sx Tryz.prog 8 Tryz.f7.params.toList=some [tx]:=by kernel_rfl
theorem R1: Tryz.f7.params.size=1:=by kernel_rfl
theorem R2(ds:List D)(h:ve [tx] ds):PCall Tryz.prog 7 ds (.s (.bool true)):=by
 cases h with
 |cons x hx h=>cases h with
  |nil=>
   rw[R3];exact Tryz.K.Qi (TW x hx)
set_option maxRecDepth 100000 in
theorem PL(J:Os)(started:J.Started)(H:Type)(enc:TypeId×Value->H):
 ReturnsInHanded {} Tryz.checked J 7 .any (Rows.domOrdersSpec.pre6 enc Tryz.prog Tryz.f7 Rows.domOrdersRow.domain false) (Rows.domOrdersSpec.post enc Tryz.prog Tryz.f7 false true false false):=by
 refine returnsInHanded_of_change (C:= Tryz.checked) Zr started (by kernel_rfl) Tryz.func7
  (ChangeSpec.witness6 (enc:=enc) (C:= Tryz.checked) false ⟨#[], #[.agg #[.string ⟨#[]⟩,.bool false,.int .i64 0,.int .u8 0,.slice none 0 0,.slice none 0 0,.slice none 0 0,.slice none 0 0]],[]⟩ 8 (by kernel_rfl) (by kernel_rfl) (by kernel_rfl) (by kernel_rfl)) ?_
 intro W base args ds gs before U M _ _;refine ON (C:= Tryz.checked) rfl (fun ds h=>?_) laidOut R0 SZ WB TV R2 W base args ds gs before U M;rw[R1] at h
 match ds,h with
 |[d1],_=>rfl
theorem domOrders_holds:Rows.DomOrdersSaid:=
 OpenClaim.holds_of_wide 7 Tryz.f7 rfl rfl rfl rfl rfl rfl rfl ⟨rfl,rfl,rfl,rfl,rfl⟩ rfl rfl rfl rfl rfl (by kernel_rfl) Tryz.func7 (by kernel_rfl)
  (of_decide_eq_true (by kernel_rfl)) (by unfold Func.isWrapper;rw[if_neg (of_decide_eq_false (by kernel_rfl))];exact⟨rfl,rfl⟩)
  (fun C started H enc _=>PL C started H enc)
#print axioms domOrders_holds
end Go.Proofs.YtonoegleildfnaaGreat
