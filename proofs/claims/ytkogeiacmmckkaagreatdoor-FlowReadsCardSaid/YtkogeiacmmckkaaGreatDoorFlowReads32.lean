/- Part 32 of the proof; the last part says what is proved. -/
import Derived.Test.YtkogeiacmmckkaaGreatDoorFlowReads31
import Derived.JoinedOf
set_option linter.all false
namespace Go.Proofs.YtkogeiacmmckkaaGreatDoor
open Go Go.Abs Go.Argus
set_option maxHeartbeats 8000000
theorem and_t {a b:Bool} (h:a=true) (h':b=true):(a&&b)=true:=by rw [h,h'];rfl
set_option maxRecDepth 100000 in
theorem lawClosed:joinedFacts Tryz.pinned.checked.prog 6 Tryz.f6 Rows.flowReadsSpec Rows.flowReadsRow=true:=by
  unfold joinedFacts
  repeat' with_reducible refine and_t ?_ ?_
  all_goals as_aux_lemma=>kernel_rfl
theorem law_holds:Rows.FlowReadsSaid:=
  OpenClaim.holds_of_wide 6 Tryz.f6 rfl rfl rfl rfl rfl rfl rfl ⟨rfl,rfl,rfl,rfl,rfl⟩ rfl rfl rfl rfl rfl (by kernel_rfl) Tryz.func6 lawClosed
    (of_decide_eq_true (by kernel_rfl)) (by unfold Func.isWrapper;rw [if_neg (of_decide_eq_false (by kernel_rfl))];exact ⟨rfl,rfl⟩)
    (fun os started H enc _=>lawLifted os started H enc)
end Go.Proofs.YtkogeiacmmckkaaGreatDoor
