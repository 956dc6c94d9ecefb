/- Part 7. -/
import Derived.Test.YtnagfmlifobdiaaGreatDoorTells6
import Derived.JoinedOf
set_option linter.all false
namespace Go.Proofs.YtnagfmlifobdiaaGreatDoor
open Go Go.Abs Go.Argus
set_option maxHeartbeats 8000000
theorem agP{a b:Bool}(h:a=true)(h':b=true):(a&&b)=true:=by rw[h,h'];rfl
set_option maxRecDepth 100000 in
theorem ZR:joinedFacts Tryz.pinned.checked.prog 11 Tryz.f11 Rows.shareTellsSpec Rows.shareTellsRow=true:=by
 unfold joinedFacts
 repeat' with_reducible refine agP ?_ ?_
 all_goals as_aux_lemma=>kernel_rfl
theorem ZS:Rows.ShareTellsSaid:=
 OpenClaim.holds_of_wide 11 Tryz.f11 rfl rfl rfl rfl rfl rfl rfl ⟨rfl,rfl,rfl,rfl,rfl⟩ rfl rfl rfl rfl rfl (by kernel_rfl) Tryz.func11 ZR
  (of_decide_eq_true (by kernel_rfl)) (by unfold Func.isWrapper;rw[if_neg (of_decide_eq_false (by kernel_rfl))];exact⟨rfl,rfl⟩)
  (fun os started H enc _=>ZP os started H enc)
end Go.Proofs.YtnagfmlifobdiaaGreatDoor
