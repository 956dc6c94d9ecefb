/- Part 7. -/
import Derived.Test.YtnagfmlifobdiaaGreatDoorNames6
import Derived.JoinedOf
set_option linter.all false
namespace Go.Proofs.YtnagfmlifobdiaaGreatDoor
open Go Go.Abs Go.Argus
set_option maxHeartbeats 8000000
theorem agV{a b:Bool}(h:a=true)(h':b=true):(a&&b)=true:=by rw[h,h'];rfl
set_option maxRecDepth 100000 in
theorem Z3:joinedFacts Tryz.pinned.checked.prog 7 Tryz.f7 Rows.shareNamesSpec Rows.shareNamesRow=true:=by
 unfold joinedFacts
 repeat' with_reducible refine agV ?_ ?_
 all_goals as_aux_lemma=>kernel_rfl
theorem Z4:Rows.ShareNamesSaid:=
 OpenClaim.holds_of_wide 7 Tryz.f7 rfl rfl rfl rfl rfl rfl rfl ⟨rfl,rfl,rfl,rfl,rfl⟩ rfl rfl rfl rfl rfl (by kernel_rfl) Tryz.func7 Z3
  (of_decide_eq_true (by kernel_rfl)) (by unfold Func.isWrapper;rw[if_neg (of_decide_eq_false (by kernel_rfl))];exact⟨rfl,rfl⟩)
  (fun os started H enc _=>Z1 os started H enc)
end Go.Proofs.YtnagfmlifobdiaaGreatDoor
