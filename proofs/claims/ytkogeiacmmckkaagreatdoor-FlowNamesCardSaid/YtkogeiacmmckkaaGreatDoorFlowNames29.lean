/- Part 29. -/
import Derived.Test.YtkogeiacmmckkaaGreatDoorFlowNames28
import Derived.JoinedOf
set_option linter.all false
set_option maxHeartbeats 0
set_option maxRecDepth 10000
namespace Go.Proofs.YtkogeiacmmckkaaGreatDoor
open List
open Go Go.Abs Go.Abs
def anp{a b:Bool}(h:a=true)(h':b=true):(a&&b)=true:=by rw[h,h'];rfl
set_option maxRecDepth 100000 in
def afE:joinedFacts Tryz.pinned.checked.prog 11 Tryz.f11 Rows.flowNamesSpec Rows.flowNamesRow=true:=by
 unfold joinedFacts
 repeat' with_reducible refine anp ?_ ?_
 all_goals as_aux_lemma=>kernel_rfl
def afF:Rows.FlowNamesSaid:=
 OpenClaim.holds_of_wide 11 Tryz.f11 rfl rfl rfl rfl rfl rfl rfl ⟨rfl,rfl,rfl,rfl,rfl⟩ rfl rfl rfl rfl rfl (by kernel_rfl) Tryz.func11 afE
  (of_decide_eq_true (by kernel_rfl)) (by rw[Func.isWrapper,ai (of_decide_eq_false (by kernel_rfl))];exact⟨rfl,rfl⟩)
  (λos started H enc _=>afC os started H enc)
end Go.Proofs.YtkogeiacmmckkaaGreatDoor
