/- Part 7. -/
import Derived.Test.YtkogeiacmmckkaaGreatDoorFlowNames6
import Derived.Test.YtkogeiacmmckkaaGreatDoorProg
set_option linter.all false
set_option maxHeartbeats 0
set_option maxRecDepth 10000
namespace Go.Abs
open List
open Go.Proofs.Tryz
open Go
noncomputable def ids:List Nat:=[15,16,19,21,24,25,27,29,31,33,35,39,48,51,60,61,62,72,74,75,76,77,78,79,80,81,88,89,90,93,99,100,108,109,110,111,112,113,135,136,137,138,139,140,141,142,143,144,145,146,147,154,155,156,157,158,159,160,169,170,171,180,182,183,184,185,186,187,189,204,205,206,207,208,209,210,211,212,213,214,215,216,217,218,219,220,221,222,233,234,235,236,237,238,239,240,241,247,248,250,251,260,261,270,271,272,273,274,275,276,277,278,279,280,281,282,283,284,285,286,287,288,289,290,291,292,293,294,295,297,298,300,301,302,303,304,306,307,317,318,319,320,321,322,323,324,325,326,327,328,329,330,331,332,334,335,336,337,348,349,350,351,352,353,358]
def XY:ids.all (Su prog)=true:=kr
noncomputable def LW:D:=.agg [.s (.string ⟨#[115,117,109]⟩),.s (.bool false),.s (.int .i64 1),.s (.int .u8 1),.sl [.s (.int .u8 1),.s (.int .u8 1),.s (.int .u8 1)] 3,.z,.z,.sl [.sl [.s (.int .u8 1),.s (.int .i64 1),.s (.int .i64 0),.s (.int .i64 0),.s (.int .i64 0),.z] 1,.s (.int .u8 1),.s (.int .i64 0),.s (.int .i64 0),.s (.int .i64 1),.s (.int .i64 0),.s (.string ⟨#[]⟩),.s (.int .u8 0),.s (.int .i64 0),.s (.int .i64 0),.s (.int .i64 0),.s (.int .i64 0),.z,.z,.z,.s (.int .i64 (-1)),.z,.s (.int .u8 2),.s (.int .i64 0),.s (.int .i64 0),.s (.int .i64 2),.s (.int .i64 3),.s (.string ⟨#[]⟩),.s (.int .u8 0),.s (.int .i64 0),.s (.int .i64 0),.s (.int .i64 0),.s (.int .i64 0),.z,.z,.z,.s (.int .i64 (-1)),.sl [.s (.int .u8 1),.s (.int .i64 2),.s (.int .i64 0),.s (.int .i64 0),.s (.int .i64 (-1)),.z] 1,.s (.int .u8 5),.s (.int .i64 0),.s (.int .i64 0),.s (.int .i64 4),.s (.int .i64 0),.s (.string ⟨#[]⟩),.s (.int .u8 30),.s (.int .i64 1),.s (.int .i64 1),.s (.int .i64 0),.s (.int .i64 0),.z,.z,.z,.s (.int .i64 (-1)),.z,.s (.int .u8 3),.s (.int .i64 1),.s (.int .i64 0),.s (.int .i64 0),.s (.int .i64 0),.s (.string ⟨#[]⟩),.s (.int .u8 0),.s (.int .i64 0),.s (.int .i64 0),.s (.int .i64 0),.s (.int .i64 0),.z,.z,.z,.s (.int .i64 (-1)),.z,.s (.int .u8 5),.s (.int .i64 0),.s (.int .i64 0),.s (.int .i64 1),.s (.int .i64 0),.s (.string ⟨#[]⟩),.s (.int .u8 30),.s (.int .i64 0),.s (.int .i64 0),.s (.int .i64 2),.s (.int .i64 0),.z,.z,.z,.s (.int .i64 (-1))] 5]
end Go.Abs
