/- Part 25. -/
import Derived.Test.YtkogeiacmmckkaaGreatDoorFlowNames1
import Derived.Shelf.SlSortCmp.NoneTotal
import Derived.Shelf.SlSortCmp.Whole1
import Derived.Test.YtkogeiacmmckkaaGreatDoorProg
set_option linter.all false
set_option maxHeartbeats 0
set_option maxRecDepth 10000
namespace Go.Proofs
open List
open Tryz
open Go.Shelf
def Tryz.NV:Go.Shelf.Ren:=⟨λ|6=>120|15=>189|14=>188|28=>260|29=>261|20=>252|21=>253|22=>254|23=>255|24=>256|25=>257|26=>258|27=>259|46=>305|47=>306|48=>307|49=>308|50=>309|57=>338|n=>n,λ|22=>35|24=>3|25=>171|3=>3|39=>62|0=>0|53=>300|55=>199|4=>4|46=>293|45=>292|50=>297|5=>5|9=>9|66=>325|70=>329|76=>351|77=>315|n=>n,λ|n=>n⟩
def Tryz.QI:Go.Proofs.SlLaysF.n6 prog Tryz.NV:={
 mixed:=kr
 f6:=⟨f120.name,oC, func120.trans (congrArg some kr)⟩
 f14:=⟨f188.name,oC, func188.trans (congrArg some kr)⟩
 f15:= func189.trans (congrArg some kr)
 f20:=⟨f252.name,oC, func252.trans (congrArg some kr)⟩
 f21:=⟨f253.name,oC, func253.trans (congrArg some kr)⟩
 f22:=⟨f254.name,oC, func254.trans (congrArg some kr)⟩
 f23:=⟨f255.name,oC, func255.trans (congrArg some kr)⟩
 f24:=⟨f256.name,oC, func256.trans (congrArg some kr)⟩
 f25:=⟨f257.name,oC, func257.trans (congrArg some kr)⟩
 f26:=⟨f258.name,oC, func258.trans (congrArg some kr)⟩
 f27:=⟨f259.name,oC, func259.trans (congrArg some kr)⟩
 f28:= func260.trans (congrArg some kr)
 f29:= func261.trans (congrArg some kr)
 f46:=⟨f305.name,oC, func305.trans (congrArg some kr)⟩
 f47:= func306.trans (congrArg some kr)
 f48:= func307.trans (congrArg some kr)
 f49:=⟨f308.name,oC, func308.trans (congrArg some kr)⟩
 f50:=⟨f309.name,oC, func309.trans (congrArg some kr)⟩
 f57:=⟨f338.name,oC, func338.trans (congrArg some kr)⟩
 t0:= underlying0
 a0:= isAgg0
 z0:= sizeOf0
 v0:= zeroValue0
 t3:= underlying3
 a3:= isAgg3
 z3:= sizeOf3
 v3:= zeroValue3
 t4:= underlying4
 a4:= isAgg4
 z4:= sizeOf4
 v4:= zeroValue4
 t5:= underlying5
 a5:= isAgg5
 z5:= sizeOf5
 v5:= zeroValue5
 t9:= underlying9
 a9:= isAgg9
 z9:= sizeOf9
 v9:= zeroValue9
 t22:= underlying35
 a22:= isAgg35
 z22:= sizeOf35
 v22:= zeroValue35
 a24:= isAgg3
 z24:= sizeOf3
 t25:= underlying171
 a25:= isAgg171
 z25:= sizeOf171
 v25:= zeroValue171
 t39:= underlying62
 a39:= isAgg62
 z39:= sizeOf62
 v39:= zeroValue62
 t45:= underlying292
 a45:= isAgg292
 z45:= sizeOf292
 v45:= zeroValue292
 t46:= underlying293
 a46:= isAgg293
 z46:= sizeOf293
 v46:= zeroValue293
 t50:= underlying297
 a50:= isAgg297
 z50:= sizeOf297
 v50:= zeroValue297
 t53:= underlying300
 a53:= isAgg300
 z53:= sizeOf300
 v53:= zeroValue300
 t55:= underlying199
 a55:= isAgg199
 z55:= sizeOf199
 v55:= zeroValue199
 t66:= underlying325
 a66:= isAgg325
 z66:= sizeOf325
 v66:= zeroValue325
 t70:= underlying329
 a70:= isAgg329
 z70:= sizeOf329
 v70:= zeroValue329
 t76:= underlying351
 a76:= isAgg351
 z76:= sizeOf351
 v76:= zeroValue351
 t77:= underlying315
 a77:= isAgg315
 z77:= sizeOf315
 v77:= zeroValue315 }
end Go.Proofs
