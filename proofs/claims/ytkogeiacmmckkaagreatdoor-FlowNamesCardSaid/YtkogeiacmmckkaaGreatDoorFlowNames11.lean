/- Part 11. -/
import Derived.Test.YtkogeiacmmckkaaGreatDoorFlowNames10
set_option linter.all false
set_option maxHeartbeats 0
set_option maxRecDepth 10000
noncomputable section
section
open Go List
namespace Go.Abs
open Go.Proofs.Tryz
def Yh:D:=.agg [.s (.string ⟨#[115,117,109]⟩),.s (.bool false),.s (.int .i64 1),.s (.int .u8 1),.sl [.s (.int .u8 1),.s (.int .u8 1),.s (.int .u8 1)] 3,.z,.z,.sl [.sl [.s (.int .u8 1),.s (.int .i64 1),.s (.int .i64 0),.s (.int .i64 0),.s (.int .i64 0),.z] 1,.s (.int .u8 1),.s (.int .i64 0),.s (.int .i64 0),.s (.int .i64 1),.s (.int .i64 0),.s (.string ⟨#[]⟩),.s (.int .u8 0),.s (.int .i64 0),.s (.int .i64 0),.s (.int .i64 0),.s (.int .i64 0),.z,.z,.z,.s (.int .i64 (-1)),.z,.s (.int .u8 2),.s (.int .i64 0),.s (.int .i64 0),.s (.int .i64 2),.s (.int .i64 3),.s (.string ⟨#[]⟩),.s (.int .u8 0),.s (.int .i64 0),.s (.int .i64 0),.s (.int .i64 0),.s (.int .i64 0),.z,.z,.z,.s (.int .i64 (-1)),.sl [.s (.int .u8 1),.s (.int .i64 2),.s (.int .i64 0),.s (.int .i64 0),.s (.int .i64 (-1)),.z] 1,.s (.int .u8 5),.s (.int .i64 0),.s (.int .i64 0),.s (.int .i64 4),.s (.int .i64 0),.s (.string ⟨#[]⟩),.s (.int .u8 30),.s (.int .i64 1),.s (.int .i64 1),.s (.int .i64 0),.s (.int .i64 0),.z,.z,.z,.s (.int .i64 (-1)),.z,.s (.int .u8 3),.s (.int .i64 2),.s (.int .i64 0),.s (.int .i64 0),.s (.int .i64 0),.s (.string ⟨#[]⟩),.s (.int .u8 0),.s (.int .i64 0),.s (.int .i64 0),.s (.int .i64 0),.s (.int .i64 0),.z,.z,.z,.s (.int .i64 (-1)),.z,.s (.int .u8 5),.s (.int .i64 0),.s (.int .i64 0),.s (.int .i64 1),.s (.int .i64 0),.s (.string ⟨#[]⟩),.s (.int .u8 30),.s (.int .i64 0),.s (.int .i64 0),.s (.int .i64 2),.s (.int .i64 0),.z,.z,.z,.s (.int .i64 (-1))] 5]
def ajB:D->List D
 | .agg cs=>cs
 |_=>[]
def yz(n k:Int):List D:=[.sl (ajB LW) 1,S ⟨#[115,117,109]⟩,.sl [I n] 1,I k]
def aaJ:D:=.bu [.agg [.s (.int .u8 1),.s (.string ⟨#[]⟩),.s (.int .u8 1),I 10,.z,I 20],I 0]
def aaK:D:=.bu [.agg [.s (.int .u8 3),.s (.string ⟨#[]⟩),.s (.int .u8 0),I 0,.z,I 19],I 0]
def aaI:D:=.bu [.agg [.s (.int .u8 2),.s (.string ⟨#[102,97,105,108,117,114,101]⟩),.s (.int .u8 0),I 0,.z,I 9],I 0]
abbrev zp:List (Nat×List D×D):=[(16,[LW],I 0)]
abbrev Tm:List (Nat×List D×D):=[(16,[LW],I 0),(16,[Yh],I 81),(21,yz 4 100,aaJ),(21,yz 4 19,aaK),(21,yz 1000000000 100000,aaI)]
end Go.Abs
end
end
