/- Part 25. -/
import Derived.Test.YtnagfmlifobdiaaGreatDoorShareShapes24
import Derived.JoinedOf
set_option linter.all false
namespace Go.Proofs.YtnagfmlifobdiaaGreatDoor
open Go Go.Abs Go.Argus
set_option maxHeartbeats 8000000
theorem alY{a b:Bool}(h:a=true)(h':b=true):(a&&b)=true:=by rw[h,h'];rfl
set_option maxRecDepth 100000 in
theorem adD:joinedFacts Tryz.pinned.checked.prog 9 Tryz.f9 Rows.shareShapesSpec Rows.shareShapesRow=true:=by
 unfold joinedFacts
 repeat' with_reducible refine alY ?_ ?_
 all_goals as_aux_lemma=>kernel_rfl
theorem adE:Rows.ShareShapesSaid:=
 OpenClaim.holds_of_wide 9 Tryz.f9 rfl rfl rfl rfl rfl rfl rfl ⟨rfl,rfl,rfl,rfl,rfl⟩ rfl rfl rfl rfl rfl (by kernel_rfl) Tryz.func9 adD
  (of_decide_eq_true (by kernel_rfl)) (by unfold Func.isWrapper;rw[if_neg (of_decide_eq_false (by kernel_rfl))];exact⟨rfl,rfl⟩)
  (fun os started H enc _=>adB os started H enc)
end Go.Proofs.YtnagfmlifobdiaaGreatDoor
