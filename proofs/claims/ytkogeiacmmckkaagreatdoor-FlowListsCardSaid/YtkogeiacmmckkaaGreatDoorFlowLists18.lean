/- Part 18. -/
import Derived.Test.YtkogeiacmmckkaaGreatDoorFlowLists12
import Derived.Test.YtkogeiacmmckkaaGreatDoorFlowLists13
import Derived.Test.YtkogeiacmmckkaaGreatDoorFlowLists14
import Derived.Test.YtkogeiacmmckkaaGreatDoorFlowLists15
import Derived.Test.YtkogeiacmmckkaaGreatDoorFlowLists16
import Derived.Test.YtkogeiacmmckkaaGreatDoorFlowLists17
set_option linter.all false
section
open Go Go.Abs Go.Argus
namespace Go.Proofs.Tryz.K
theorem KW:∀ e∈([]:List (Nat×List D×D)),ax prog e.1 e.2.1 e.2.2:=fun e he=>by cases he
theorem SX:∀ e∈vy,ax prog e.1 e.2.1 e.2.2:=fun e he=>by
 rcases List.mem_singleton.1 he with rfl;exact Im KW SY kr
theorem N9{n k:Int}{r:D}(h:wg prog (wA prog (uK vy) (EH vy) 100 21 (uA n k) .leaf 0)=some (.inl r))(ht:(uA n k).all (nQ depth)=true):ax prog 21 (uA n k) r:=Yt (KX SX) (Sy (KX SX) 3000) 100 h ht
theorem acF:∀ e∈N8,ax prog e.1 e.2.1 e.2.2:=fun e he=>by
 simp only[N8,List.mem_cons,List.not_mem_nil,or_false] at he;rcases he with rfl|rfl|rfl|rfl|rfl
 .exact Im KW SY kr
 .exact Im KW aaD kr
 .exact N9 aie kr
 .exact N9 aif kr
 .exact N9 aid kr
theorem BG:ax prog 15 [] (B true):=Im acF aaC kr
end Go.Proofs.Tryz.K
end
