/- Part 11. -/
import Derived.Test.YtkogeiacmmckkaaGreatDoorFlowLists10
set_option linter.all false
section
open Go Go.Abs Go.Argus
namespace Go.Proofs.Tryz.K
noncomputable def SW:D:=.agg [.s (.string ⟨#[115,117,109]⟩),.s (.bool false),.s (.int .i64 1),.s (.int .u8 1),.sl [.s (.int .u8 1),.s (.int .u8 1),.s (.int .u8 1)] 3,.z,.z,.sl [.sl [.s (.int .u8 1),.s (.int .i64 1),.s (.int .i64 0),.s (.int .i64 0),.s (.int .i64 0),.z] 1,.s (.int .u8 1),.s (.int .i64 0),.s (.int .i64 0),.s (.int .i64 1),.s (.int .i64 0),.s (.string ⟨#[]⟩),.s (.int .u8 0),.s (.int .i64 0),.s (.int .i64 0),.s (.int .i64 0),.s (.int .i64 0),.z,.z,.z,.s (.int .i64 (-1)),.z,.s (.int .u8 2),.s (.int .i64 0),.s (.int .i64 0),.s (.int .i64 2),.s (.int .i64 3),.s (.string ⟨#[]⟩),.s (.int .u8 0),.s (.int .i64 0),.s (.int .i64 0),.s (.int .i64 0),.s (.int .i64 0),.z,.z,.z,.s (.int .i64 (-1)),.sl [.s (.int .u8 1),.s (.int .i64 2),.s (.int .i64 0),.s (.int .i64 0),.s (.int .i64 (-1)),.z] 1,.s (.int .u8 5),.s (.int .i64 0),.s (.int .i64 0),.s (.int .i64 4),.s (.int .i64 0),.s (.string ⟨#[]⟩),.s (.int .u8 30),.s (.int .i64 1),.s (.int .i64 1),.s (.int .i64 0),.s (.int .i64 0),.z,.z,.z,.s (.int .i64 (-1)),.z,.s (.int .u8 3),.s (.int .i64 2),.s (.int .i64 0),.s (.int .i64 0),.s (.int .i64 0),.s (.string ⟨#[]⟩),.s (.int .u8 0),.s (.int .i64 0),.s (.int .i64 0),.s (.int .i64 0),.s (.int .i64 0),.z,.z,.z,.s (.int .i64 (-1)),.z,.s (.int .u8 5),.s (.int .i64 0),.s (.int .i64 0),.s (.int .i64 1),.s (.int .i64 0),.s (.string ⟨#[]⟩),.s (.int .u8 30),.s (.int .i64 0),.s (.int .i64 0),.s (.int .i64 2),.s (.int .i64 0),.z,.z,.z,.s (.int .i64 (-1))] 5]
noncomputable def acH:D->List D
 | .agg cs=>cs
 |_=>[]
noncomputable def uA(n k:Int):List D:=[.sl (acH Hw) 1,S ⟨#[115,117,109]⟩,.sl [I n] 1,I k]
noncomputable def UZ:D:=.bp [.agg [.s (.int .u8 1),.s (.string ⟨#[]⟩),.s (.int .u8 1),I 10,.z,I 20],I 0]
noncomputable def U0:D:=.bp [.agg [.s (.int .u8 3),.s (.string ⟨#[]⟩),.s (.int .u8 0),I 0,.z,I 19],I 0]
noncomputable def UY:D:=.bp [.agg [.s (.int .u8 2),.s (.string ⟨#[102,97,105,108,117,114,101]⟩),.s (.int .u8 0),I 0,.z,I 9],I 0]
noncomputable abbrev vy:List (Nat×List D×D):=[(16,[Hw],I 0)]
noncomputable abbrev N8:List (Nat×List D×D):=[(16,[Hw],I 0),(16,[SW],I 81),(21,uA 4 100,UZ),(21,uA 4 19,U0),(21,uA 1000000000 100000,UY)]
end Go.Proofs.Tryz.K
end
