/- Part 11. -/
import Derived.Test.YtkogeiacmmckkaaGreatDoorFlowMemory10
set_option linter.all false
section
open Go Go.Abs Go.Argus
namespace Go.Proofs.Tryz.K
noncomputable def SF:D:=.agg [.s (.string ⟨#[115,117,109]⟩),.s (.bool false),.s (.int .i64 1),.s (.int .u8 1),.sl [.s (.int .u8 1),.s (.int .u8 1),.s (.int .u8 1)] 3,.z,.z,.sl [.sl [.s (.int .u8 1),.s (.int .i64 1),.s (.int .i64 0),.s (.int .i64 0),.s (.int .i64 0),.z] 1,.s (.int .u8 1),.s (.int .i64 0),.s (.int .i64 0),.s (.int .i64 1),.s (.int .i64 0),.s (.string ⟨#[]⟩),.s (.int .u8 0),.s (.int .i64 0),.s (.int .i64 0),.s (.int .i64 0),.s (.int .i64 0),.z,.z,.z,.s (.int .i64 (-1)),.z,.s (.int .u8 2),.s (.int .i64 0),.s (.int .i64 0),.s (.int .i64 2),.s (.int .i64 3),.s (.string ⟨#[]⟩),.s (.int .u8 0),.s (.int .i64 0),.s (.int .i64 0),.s (.int .i64 0),.s (.int .i64 0),.z,.z,.z,.s (.int .i64 (-1)),.sl [.s (.int .u8 1),.s (.int .i64 2),.s (.int .i64 0),.s (.int .i64 0),.s (.int .i64 (-1)),.z] 1,.s (.int .u8 5),.s (.int .i64 0),.s (.int .i64 0),.s (.int .i64 4),.s (.int .i64 0),.s (.string ⟨#[]⟩),.s (.int .u8 30),.s (.int .i64 1),.s (.int .i64 1),.s (.int .i64 0),.s (.int .i64 0),.z,.z,.z,.s (.int .i64 (-1)),.z,.s (.int .u8 3),.s (.int .i64 2),.s (.int .i64 0),.s (.int .i64 0),.s (.int .i64 0),.s (.string ⟨#[]⟩),.s (.int .u8 0),.s (.int .i64 0),.s (.int .i64 0),.s (.int .i64 0),.s (.int .i64 0),.z,.z,.z,.s (.int .i64 (-1)),.z,.s (.int .u8 5),.s (.int .i64 0),.s (.int .i64 0),.s (.int .i64 1),.s (.int .i64 0),.s (.string ⟨#[]⟩),.s (.int .u8 30),.s (.int .i64 0),.s (.int .i64 0),.s (.int .i64 2),.s (.int .i64 0),.z,.z,.z,.s (.int .i64 (-1))] 5]
noncomputable def adX:D->List D
 | .agg cs=>cs
 |_=>[]
noncomputable def tH(n k:Int):List D:=[.sl (adX Hc) 1,S ⟨#[115,117,109]⟩,.sl [I n] 1,I k]
noncomputable def Vv:D:=.aT [.agg [.s (.int .u8 1),.s (.string ⟨#[]⟩),.s (.int .u8 1),I 10,.z,I 20],I 0]
noncomputable def Vw:D:=.aT [.agg [.s (.int .u8 3),.s (.string ⟨#[]⟩),.s (.int .u8 0),I 0,.z,I 19],I 0]
noncomputable def Vu:D:=.aT [.agg [.s (.int .u8 2),.s (.string ⟨#[102,97,105,108,117,114,101]⟩),.s (.int .u8 0),I 0,.z,I 9],I 0]
noncomputable abbrev uu:List (Nat×List D×D):=[(16,[Hc],I 0)]
noncomputable abbrev NY:List (Nat×List D×D):=[(16,[Hc],I 0),(16,[SF],I 81),(21,tH 4 100,Vv),(21,tH 4 19,Vw),(21,tH 1000000000 100000,Vu)]
end Go.Proofs.Tryz.K
end
