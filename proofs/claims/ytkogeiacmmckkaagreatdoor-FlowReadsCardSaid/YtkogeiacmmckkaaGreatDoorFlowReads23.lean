/- Part 23 of the proof; the last part says what is proved. -/
import Derived.Test.YtkogeiacmmckkaaGreatDoorFlowReads17
import Derived.Test.YtkogeiacmmckkaaGreatDoorFlowReads18
import Derived.Test.YtkogeiacmmckkaaGreatDoorFlowReads19
import Derived.Test.YtkogeiacmmckkaaGreatDoorFlowReads20
import Derived.Test.YtkogeiacmmckkaaGreatDoorFlowReads21
import Derived.Test.YtkogeiacmmckkaaGreatDoorFlowReads22
set_option linter.all false
section
open Go Go.Abs Go.Argus
namespace Go.Proofs.Tryz.K
theorem kn0_ok:∀ e∈([]:List (Nat×List D×D)),PCall Tryz.prog e.1 e.2.1 e.2.2:=fun e he=>by cases he
theorem kn1_ok:∀ e∈kn1,PCall Tryz.prog e.1 e.2.1 e.2.2:=fun e he=>by
  rcases List.mem_singleton.1 he with rfl
  exact pcE kn0_ok ck_sum (by kernel_rfl)
theorem pcD {n k:Int} {r:D} (h:pureR Tryz.prog (runD Tryz.prog (ctxE kn1) (evE kn1) 100 21 (rargs n k) .leaf 0)=some (.inl r)) (ht:(rargs n k).all (trB depth)=true):PCall Tryz.prog 21 (rargs n k) r:=pcall_evD (ctx_ok kn1_ok) (evC_ok (ctx_ok kn1_ok) 3000) 100 h ht
theorem kn2_ok:∀ e∈kn2,PCall Tryz.prog e.1 e.2.1 e.2.2:=fun e he=>by
  simp only [kn2,List.mem_cons,List.not_mem_nil,or_false] at he
  rcases he with rfl | rfl | rfl | rfl | rfl
  · exact pcE kn0_ok ck_sum (by kernel_rfl)
  · exact pcE kn0_ok ck_wrong (by kernel_rfl)
  · exact pcD run1 (by kernel_rfl)
  · exact pcD run2 (by kernel_rfl)
  · exact pcD run3 (by kernel_rfl)
theorem k15:PCall Tryz.prog 15 [] (B true):=pcE kn2_ok flows_ev (by kernel_rfl)
end Go.Proofs.Tryz.K
end
