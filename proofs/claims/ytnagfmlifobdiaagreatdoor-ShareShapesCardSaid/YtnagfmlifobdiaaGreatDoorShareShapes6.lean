/- Part 6. -/
import Derived.Test.YtnagfmlifobdiaaGreatDoorShareShapes5
import Derived.KernelRfl
import Derived.Test.YtnagfmlifobdiaaGreatDoorProg
set_option linter.all false
namespace Go.Proofs.Tryz.K
open Go Go.Abs
noncomputable def ids:List Nat:=[15,16,18,20,22,24,27,30,35,39,42,43,44,45,48,49,50,55,56,57,58,63,64,65,67,70,71,72,73,74,76,81,82,83,86,87,88,89,90,91,92,93,94,97,98,99,100,111,112,114,115,116,119,120,122,123,124,125,126,127,128,129,130,131,132,133,134,135,144,146,147,148,162,163,164,165,166,167,168,169,170,171,172,173,174,175,176,177,178,179,180,181,182,183,184,185,186,201,202,203,223,226,227,228,229,230,231,232,233,234,235,244,245,251,252,253,256,260,261,262,263,264,265,266,267,268,269,272,273,274,275,276,277,278]
theorem VV:ids.all (P7 prog)=true:=kr
end Go.Proofs.Tryz.K
