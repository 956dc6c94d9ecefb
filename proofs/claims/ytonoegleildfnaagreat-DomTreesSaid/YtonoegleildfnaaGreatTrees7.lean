/- DomTrees: for every flow the law answers true, and its arguments read as before. No condition. -/
import Derived.Test.YtonoegleildfnaaGreatTrees6
import Derived.Test.YtonoegleildfnaaGreatRows
namespace Go.Proofs.YtonoegleildfnaaGreat
open Go.Abs Go.Argus
theorem al7:ownKnob Tryz.prog.godebug=none:=by kernel_rfl
theorem laidOut:laidOutB Tryz.prog=true:=by kernel_rfl
theorem ahS: Tryz.prog.underlying 4=some .bool:=by kernel_rfl
theorem Zo:(Tryz.f9.params.toList.all fun t=> Tryz.prog.readableRec t&&decide (t< Tryz.prog.types.size))=true:=by kernel_rfl
theorem aav: Tryz.f9.resultTypes= #[4]:=by kernel_rfl
theorem abw:vY Tryz.prog 8 Tryz.f9.params.toList=some [xA,kV,kV]:=by kernel_rfl
theorem Zp: Tryz.f9.params.size=3:=by kernel_rfl
theorem Zq(ds:List D)(h:zc [xA,kV,kV] ds):PCall Tryz.prog 9 ds (.s (.bool true)):=by
 cases h with
 |cons x hx h=>cases h with
  |cons b _ h=>cases h with
   |cons r _ h=>cases h with
    |nil=>
     rw[aaw]
     exact Tryz.K.aat (acu x hx)
set_option maxRecDepth 100000 in
theorem XI(os:Os)(started:os.Started)(H:Type)(enc:TypeId×Value->H):
 ReturnsInHanded {} Tryz.checked os 9 .any (Rows.domTreesSpec.pre6 enc Tryz.prog Tryz.f9 Rows.domTreesRow.domain false) (Rows.domTreesSpec.post enc Tryz.prog Tryz.f9 false true false false):=by
 refine returnsInHanded_of_change (C:= Tryz.checked) al7 started (by kernel_rfl) Tryz.func9
  (ChangeSpec.witness6 (enc:=enc) (C:= Tryz.checked) false ⟨#[], #[.agg #[.string ⟨#[]⟩,.bool false,.int .i64 0,.int .u8 0,.slice none 0 0,.slice none 0 0,.slice none 0 0,.slice none 0 0],.int .i64 0,.int .i64 0],[]⟩ 8 (by kernel_rfl) (by kernel_rfl) (by kernel_rfl) (by kernel_rfl)) ?_
 intro W base args ds gs before Cs hW _ _
 refine Xs (C:= Tryz.checked) rfl (fun ds h=>?_) laidOut Zo aav ahS abw Zq W base args ds gs before Cs hW
 rw[Zp] at h
 match ds,h with
 |[d1,d2,d3],_=>rfl
theorem domTrees_holds:Rows.DomTreesSaid:=
 OpenClaim.holds_of_wide 9 Tryz.f9 rfl rfl rfl rfl rfl rfl rfl ⟨rfl,rfl,rfl,rfl,rfl⟩ rfl rfl rfl rfl rfl (by kernel_rfl) Tryz.func9 (by kernel_rfl)
  (of_decide_eq_true (by kernel_rfl)) (by unfold Func.isWrapper;rw[if_neg (of_decide_eq_false (by kernel_rfl))];exact⟨rfl,rfl⟩)
  (fun os started H enc _=>XI os started H enc)
#print axioms domTrees_holds
end Go.Proofs.YtonoegleildfnaaGreat
