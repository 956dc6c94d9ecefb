/- Part 16 of the proof; the last part says what is proved. -/
import Derived.Test.YtkogeiacmmckkaaGreatDoorFlowReads15
set_option linter.all false
section
open Go Go.Abs Go.Argus
namespace Go.Proofs.Tryz.K
noncomputable def wrongD:D:=.agg [.s (.string ⟨#[115,117,109]⟩),.s (.bool false),.s (.int .i64 1),.s (.int .u8 1),.sl [.s (.int .u8 1),.s (.int .u8 1),.s (.int .u8 1)] 3,.z,.z,.sl [.sl [.s (.int .u8 1),.s (.int .i64 1),.s (.int .i64 0),.s (.int .i64 0),.s (.int .i64 0),.z] 1,.s (.int .u8 1),.s (.int .i64 0),.s (.int .i64 0),.s (.int .i64 1),.s (.int .i64 0),.s (.string ⟨#[]⟩),.s (.int .u8 0),.s (.int .i64 0),.s (.int .i64 0),.s (.int .i64 0),.s (.int .i64 0),.z,.z,.z,.s (.int .i64 (-1)),.z,.s (.int .u8 2),.s (.int .i64 0),.s (.int .i64 0),.s (.int .i64 2),.s (.int .i64 3),.s (.string ⟨#[]⟩),.s (.int .u8 0),.s (.int .i64 0),.s (.int .i64 0),.s (.int .i64 0),.s (.int .i64 0),.z,.z,.z,.s (.int .i64 (-1)),.sl [.s (.int .u8 1),.s (.int .i64 2),.s (.int .i64 0),.s (.int .i64 0),.s (.int .i64 (-1)),.z] 1,.s (.int .u8 5),.s (.int .i64 0),.s (.int .i64 0),.s (.int .i64 4),.s (.int .i64 0),.s (.string ⟨#[]⟩),.s (.int .u8 30),.s (.int .i64 1),.s (.int .i64 1),.s (.int .i64 0),.s (.int .i64 0),.z,.z,.z,.s (.int .i64 (-1)),.z,.s (.int .u8 3),.s (.int .i64 2),.s (.int .i64 0),.s (.int .i64 0),.s (.int .i64 0),.s (.string ⟨#[]⟩),.s (.int .u8 0),.s (.int .i64 0),.s (.int .i64 0),.s (.int .i64 0),.s (.int .i64 0),.z,.z,.z,.s (.int .i64 (-1)),.z,.s (.int .u8 5),.s (.int .i64 0),.s (.int .i64 0),.s (.int .i64 1),.s (.int .i64 0),.s (.string ⟨#[]⟩),.s (.int .u8 30),.s (.int .i64 0),.s (.int .i64 0),.s (.int .i64 2),.s (.int .i64 0),.z,.z,.z,.s (.int .i64 (-1))] 5]
noncomputable def cellsD:D→List D
  | .agg cs=>cs
  | _=>[]
noncomputable def rargs (n k:Int):List D:=[.sl (cellsD sumD) 1,S ⟨#[115,117,109]⟩,.sl [I n] 1,I k]
noncomputable def res1:D:=.tup [.agg [.s (.int .u8 1),.s (.string ⟨#[]⟩),.s (.int .u8 1),I 10,.z,I 20],I 0]
noncomputable def res2:D:=.tup [.agg [.s (.int .u8 3),.s (.string ⟨#[]⟩),.s (.int .u8 0),I 0,.z,I 19],I 0]
noncomputable def res3:D:=.tup [.agg [.s (.int .u8 2),.s (.string ⟨#[102,97,105,108,117,114,101]⟩),.s (.int .u8 0),I 0,.z,I 9],I 0]
noncomputable abbrev kn1:List (Nat×List D×D):=[(16,[sumD],I 0)]
noncomputable abbrev kn2:List (Nat×List D×D):=[(16,[sumD],I 0),(16,[wrongD],I 81),(21,rargs 4 100,res1),(21,rargs 4 19,res2),(21,rargs 1000000000 100000,res3)]
end Go.Proofs.Tryz.K
end
