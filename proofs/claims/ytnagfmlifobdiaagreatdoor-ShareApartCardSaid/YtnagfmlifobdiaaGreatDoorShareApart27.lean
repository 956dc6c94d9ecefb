/- Part 27. -/
import Derived.Test.YtnagfmlifobdiaaGreatDoorShareApart26
import Derived.JoinedOf
set_option linter.all false
set_option maxHeartbeats 0
set_option maxRecDepth 10000
namespace Go.Proofs.YtnagfmlifobdiaaGreatDoor
open List
open Go Go.Abs Go.Abs
def atz{a b:Bool}(h:a=true)(h':b=true):(a&&b)=true:=by rw[h,h'];rfl
set_option maxRecDepth 100000 in
def akp:joinedFacts Tryz.pinned.checked.prog 10 Tryz.f10 Rows.shareApartSpec Rows.shareApartRow=true:=by
 unfold joinedFacts
 repeat' with_reducible refine atz ?_ ?_
 all_goals as_aux_lemma=>kernel_rfl
def akq:Rows.ShareApartSaid:=
 OpenClaim.holds_of_wide 10 Tryz.f10 rfl rfl rfl rfl rfl rfl rfl ⟨rfl,rfl,rfl,rfl,rfl⟩ rfl rfl rfl rfl rfl (by kernel_rfl) Tryz.func10 akp
  (of_decide_eq_true (by kernel_rfl)) (by rw[Func.isWrapper,ai (of_decide_eq_false (by kernel_rfl))];exact⟨rfl,rfl⟩)
  (λos started H enc _=>akn os started H enc)
end Go.Proofs.YtnagfmlifobdiaaGreatDoor
