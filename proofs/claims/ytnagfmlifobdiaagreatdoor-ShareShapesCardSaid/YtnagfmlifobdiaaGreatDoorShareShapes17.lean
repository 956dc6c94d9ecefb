/- Part 17. -/
import Derived.Test.YtnagfmlifobdiaaGreatDoorShareShapes13
import Derived.Test.YtnagfmlifobdiaaGreatDoorShareShapes14
import Derived.Test.YtnagfmlifobdiaaGreatDoorShareShapes15
import Derived.Test.YtnagfmlifobdiaaGreatDoorShareShapes16
set_option linter.all false
section
open Go Go.Abs Go.Argus
namespace Go.Proofs.Tryz.K
theorem Wc:∀ e∈([]:List (Nat×List D×D)),az prog e.1 e.2.1 e.2.2:=fun e he=>by cases he
theorem Yz:az prog 42 [] l5:=KH Wc agN kr
theorem ahP:∀ e∈Q6,az prog e.1 e.2.1 e.2.2:=fun e he=>by
 simp only[Q6,List.mem_cons,List.not_mem_nil,or_false] at he;rcases he with rfl|rfl
 .exact Yz
 .exact KH Wc ahQ kr
theorem ahR:∀ e∈Q5,az prog e.1 e.2.1 e.2.2:=fun e he=>by
 simp only[Q5,List.mem_cons,List.not_mem_nil,or_false] at he;rcases he with rfl|rfl
 .exact Yz
 .exact KH ahP agO kr
theorem Gg:az prog 15 [] (B true):=KH ahR adF kr
end Go.Proofs.Tryz.K
end
