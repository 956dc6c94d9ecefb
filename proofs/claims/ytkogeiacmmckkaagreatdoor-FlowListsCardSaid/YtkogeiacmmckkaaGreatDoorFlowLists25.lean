/- Part 25. -/
import Derived.Test.YtkogeiacmmckkaaGreatDoorFlowLists24
import Derived.JoinedOf
set_option linter.all false
namespace Go.Proofs.YtkogeiacmmckkaaGreatDoor
open Go Go.Abs Go.Argus
set_option maxHeartbeats 8000000
theorem afK{a b:Bool}(h:a=true)(h':b=true):(a&&b)=true:=by rw[h,h'];rfl
set_option maxRecDepth 100000 in
theorem Zb:joinedFacts Tryz.pinned.checked.prog 4 Tryz.f4 Rows.flowListsSpec Rows.flowListsRow=true:=by
 unfold joinedFacts
 repeat' with_reducible refine afK ?_ ?_
 all_goals as_aux_lemma=>kernel_rfl
theorem Zc:Rows.FlowListsSaid:=
 OpenClaim.holds_of_wide 4 Tryz.f4 rfl rfl rfl rfl rfl rfl rfl ⟨rfl,rfl,rfl,rfl,rfl⟩ rfl rfl rfl rfl rfl (by kernel_rfl) Tryz.func4 Zb
  (of_decide_eq_true (by kernel_rfl)) (by unfold Func.isWrapper;rw[if_neg (of_decide_eq_false (by kernel_rfl))];exact⟨rfl,rfl⟩)
  (fun os started H enc _=>Y' os started H enc)
end Go.Proofs.YtkogeiacmmckkaaGreatDoor
