/- Part 7. -/
import Derived.Test.YtnagfmlifobdiaaGreatDoorCoarsest6
import Derived.JoinedOf
set_option linter.all false
namespace Go.Proofs.YtnagfmlifobdiaaGreatDoor
open Go Go.Abs Go.Argus
set_option maxHeartbeats 8000000
theorem agM{a b:Bool}(h:a=true)(h':b=true):(a&&b)=true:=by rw[h,h'];rfl
set_option maxRecDepth 100000 in
theorem ZV:joinedFacts Tryz.pinned.checked.prog 5 Tryz.f5 Rows.shareCoarsestSpec Rows.shareCoarsestRow=true:=by
 unfold joinedFacts
 repeat' with_reducible refine agM ?_ ?_
 all_goals as_aux_lemma=>kernel_rfl
theorem ZW:Rows.ShareCoarsestSaid:=
 OpenClaim.holds_of_wide 5 Tryz.f5 rfl rfl rfl rfl rfl rfl rfl ⟨rfl,rfl,rfl,rfl,rfl⟩ rfl rfl rfl rfl rfl (by kernel_rfl) Tryz.func5 ZV
  (of_decide_eq_true (by kernel_rfl)) (by unfold Func.isWrapper;rw[if_neg (of_decide_eq_false (by kernel_rfl))];exact⟨rfl,rfl⟩)
  (fun os started H enc _=>ZT os started H enc)
end Go.Proofs.YtnagfmlifobdiaaGreatDoor
