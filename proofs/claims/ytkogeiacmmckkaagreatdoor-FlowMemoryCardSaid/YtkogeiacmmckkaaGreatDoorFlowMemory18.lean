/- Part 18. -/
import Derived.Test.YtkogeiacmmckkaaGreatDoorFlowMemory12
import Derived.Test.YtkogeiacmmckkaaGreatDoorFlowMemory13
import Derived.Test.YtkogeiacmmckkaaGreatDoorFlowMemory14
import Derived.Test.YtkogeiacmmckkaaGreatDoorFlowMemory15
import Derived.Test.YtkogeiacmmckkaaGreatDoorFlowMemory16
import Derived.Test.YtkogeiacmmckkaaGreatDoorFlowMemory17
set_option linter.all false
section
open Go Go.Abs Go.Argus
namespace Go.Proofs.Tryz.K
theorem Ky:∀ e∈([]:List (Nat×List D×D)),aG prog e.1 e.2.1 e.2.2:=fun e he=>by cases he
theorem SG:∀ e∈uu,aG prog e.1 e.2.1 e.2.2:=fun e he=>by
 rcases List.mem_singleton.1 he with rfl;exact H2 Ky SH kr
theorem NZ{n k:Int}{r:D}(h:vy prog (vN prog (tR uu) (DU uu) 100 21 (tH n k) .leaf 0)=some (.inl r))(ht:(tH n k).all (nj depth)=true):aG prog 21 (tH n k) r:=Zq (Kz SG) (Sd (Kz SG) 3000) 100 h ht
theorem adV:∀ e∈NY,aG prog e.1 e.2.1 e.2.2:=fun e he=>by
 simp only[NY,List.mem_cons,List.not_mem_nil,or_false] at he;rcases he with rfl|rfl|rfl|rfl|rfl
 .exact H2 Ky SH kr
 .exact H2 Ky abM kr
 .exact NZ ajt kr
 .exact NZ aju kr
 .exact NZ ajs kr
theorem uj:aG prog 15 [] (B true):=H2 adV abL kr
end Go.Proofs.Tryz.K
end
