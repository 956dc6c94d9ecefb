/- Part 24. -/
import Derived.Test.YtkogeiacmmckkaaGreatDoorFlowMemory23
import Derived.JoinedOf
set_option linter.all false
namespace Go.Proofs.YtkogeiacmmckkaaGreatDoor
open Go Go.Abs Go.Argus
set_option maxHeartbeats 8000000
theorem ag8{a b:Bool}(h:a=true)(h':b=true):(a&&b)=true:=by rw[h,h'];rfl
set_option maxRecDepth 100000 in
theorem Z2:joinedFacts Tryz.pinned.checked.prog 10 Tryz.f10 Rows.flowMemorySpec Rows.flowMemoryRow=true:=by
 unfold joinedFacts
 repeat' with_reducible refine ag8 ?_ ?_
 all_goals as_aux_lemma=>kernel_rfl
theorem Z3:Rows.FlowMemorySaid:=
 OpenClaim.holds_of_wide 10 Tryz.f10 rfl rfl rfl rfl rfl rfl rfl ⟨rfl,rfl,rfl,rfl,rfl⟩ rfl rfl rfl rfl rfl (by kernel_rfl) Tryz.func10 Z2
  (of_decide_eq_true (by kernel_rfl)) (by unfold Func.isWrapper;rw[if_neg (of_decide_eq_false (by kernel_rfl))];exact⟨rfl,rfl⟩)
  (fun os started H enc _=>Z0 os started H enc)
end Go.Proofs.YtkogeiacmmckkaaGreatDoor
