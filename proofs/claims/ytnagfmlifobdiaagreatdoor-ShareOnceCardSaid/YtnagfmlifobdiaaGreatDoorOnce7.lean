/- Part 7. -/
import Derived.Test.YtnagfmlifobdiaaGreatDoorOnce6
import Derived.JoinedOf
set_option linter.all false
namespace Go.Proofs.YtnagfmlifobdiaaGreatDoor
open Go Go.Abs Go.Argus
set_option maxHeartbeats 8000000
theorem aiK{a b:Bool}(h:a=true)(h':b=true):(a&&b)=true:=by rw[h,h'];rfl
set_option maxRecDepth 100000 in
theorem abE:joinedFacts Tryz.pinned.checked.prog 6 Tryz.f6 Rows.shareOnceSpec Rows.shareOnceRow=true:=by
 unfold joinedFacts
 repeat' with_reducible refine aiK ?_ ?_
 all_goals as_aux_lemma=>kernel_rfl
theorem abF:Rows.ShareOnceSaid:=
 OpenClaim.holds_of_wide 6 Tryz.f6 rfl rfl rfl rfl rfl rfl rfl ⟨rfl,rfl,rfl,rfl,rfl⟩ rfl rfl rfl rfl rfl (by kernel_rfl) Tryz.func6 abE
  (of_decide_eq_true (by kernel_rfl)) (by unfold Func.isWrapper;rw[if_neg (of_decide_eq_false (by kernel_rfl))];exact⟨rfl,rfl⟩)
  (fun os started H enc _=>abC os started H enc)
end Go.Proofs.YtnagfmlifobdiaaGreatDoor
