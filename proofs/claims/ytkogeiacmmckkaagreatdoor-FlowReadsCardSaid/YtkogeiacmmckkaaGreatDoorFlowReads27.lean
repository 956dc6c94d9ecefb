/- Part 27 of the proof; the last part says what is proved. -/
import Derived.Test.YtkogeiacmmckkaaGreatDoorFlowReads8
import Derived.Test.YtkogeiacmmckkaaGreatDoorFlowReads25
import Derived.Test.YtkogeiacmmckkaaGreatDoorFlowReads26
set_option linter.all false
namespace Go.Proofs.Tryz.K
open Go.Abs
def fldsOf (P:Program) (t:TypeId):Array Field:=match P.underlying t with | some (.struct fs)=>fs | _=> #[]
theorem u2: Tryz.prog.underlying 2=some (.int .i64):=by kernel_rfl
theorem u3: Tryz.prog.underlying 3=some (.int .i64):=by kernel_rfl
theorem u5: Tryz.prog.underlying 5=some (.int .u8):=by kernel_rfl
theorem u6: Tryz.prog.underlying 6=some (.int .u8):=by kernel_rfl
theorem u7: Tryz.prog.underlying 7=some (.struct (fldsOf Tryz.prog 7)):=by kernel_rfl
theorem pl7:((fldsOf Tryz.prog 7).toList.map fun f=>(f.offset, Tryz.prog.cellsOf f.type))=[(0,1),(1,1),(2,1),(3,1)]:=by kernel_rfl
theorem ub7:((fldsOf Tryz.prog 7).toList.all fun f=>(Tryz.prog.info? f.type).isSome)=true:=by kernel_rfl
theorem u8: Tryz.prog.underlying 8=some (.struct (fldsOf Tryz.prog 8)):=by kernel_rfl
theorem pl8:((fldsOf Tryz.prog 8).toList.map fun f=>(f.offset, Tryz.prog.cellsOf f.type))=[(0,1),(1,1),(2,1),(3,1)]:=by kernel_rfl
theorem ub8:((fldsOf Tryz.prog 8).toList.all fun f=>(Tryz.prog.info? f.type).isSome)=true:=by kernel_rfl
theorem u12: Tryz.prog.underlying 12=some (.int .u64):=by kernel_rfl
theorem u13: Tryz.prog.underlying 13=some (.struct (fldsOf Tryz.prog 13)):=by kernel_rfl
theorem pl13:((fldsOf Tryz.prog 13).toList.map fun f=>(f.offset, Tryz.prog.cellsOf f.type))=[(0,1),(1,1)]:=by kernel_rfl
theorem ub13:((fldsOf Tryz.prog 13).toList.all fun f=>(Tryz.prog.info? f.type).isSome)=true:=by kernel_rfl
theorem u14: Tryz.prog.underlying 14=some (.struct (fldsOf Tryz.prog 14)):=by kernel_rfl
theorem pl14:((fldsOf Tryz.prog 14).toList.map fun f=>(f.offset, Tryz.prog.cellsOf f.type))=[(0,1),(1,1)]:=by kernel_rfl
theorem ub14:((fldsOf Tryz.prog 14).toList.all fun f=>(Tryz.prog.info? f.type).isSome)=true:=by kernel_rfl
theorem u18: Tryz.prog.underlying 18=some (.struct (fldsOf Tryz.prog 18)):=by kernel_rfl
theorem pl18:((fldsOf Tryz.prog 18).toList.map fun f=>(f.offset, Tryz.prog.cellsOf f.type))=[(0,1)]:=by kernel_rfl
theorem ub18:((fldsOf Tryz.prog 18).toList.all fun f=>(Tryz.prog.info? f.type).isSome)=true:=by kernel_rfl
theorem u19: Tryz.prog.underlying 19=some (.struct (fldsOf Tryz.prog 19)):=by kernel_rfl
theorem pl19:((fldsOf Tryz.prog 19).toList.map fun f=>(f.offset, Tryz.prog.cellsOf f.type))=[(0,1)]:=by kernel_rfl
theorem ub19:((fldsOf Tryz.prog 19).toList.all fun f=>(Tryz.prog.info? f.type).isSome)=true:=by kernel_rfl
theorem u21: Tryz.prog.underlying 21=some (.int .i32):=by kernel_rfl
theorem u22: Tryz.prog.underlying 22=some (.slice 5):=by kernel_rfl
theorem u23: Tryz.prog.underlying 23=some (.slice 9):=by kernel_rfl
theorem u24: Tryz.prog.underlying 24=some (.slice 69):=by kernel_rfl
theorem u25: Tryz.prog.underlying 25=some (.struct (fldsOf Tryz.prog 25)):=by kernel_rfl
theorem pl25:((fldsOf Tryz.prog 25).toList.map fun f=>(f.offset, Tryz.prog.cellsOf f.type))=[(0,1),(1,1),(2,1),(3,1),(4,1),(5,1),(6,1),(7,1)]:=by kernel_rfl
theorem ub25:((fldsOf Tryz.prog 25).toList.all fun f=>(Tryz.prog.info? f.type).isSome)=true:=by kernel_rfl
theorem u26: Tryz.prog.underlying 26=some (.struct (fldsOf Tryz.prog 26)):=by kernel_rfl
theorem pl26:((fldsOf Tryz.prog 26).toList.map fun f=>(f.offset, Tryz.prog.cellsOf f.type))=[(0,1),(1,1),(2,1),(3,1),(4,1),(5,1),(6,1),(7,1)]:=by kernel_rfl
theorem ub26:((fldsOf Tryz.prog 26).toList.all fun f=>(Tryz.prog.info? f.type).isSome)=true:=by kernel_rfl
theorem u29: Tryz.prog.underlying 29=some (.int .i64):=by kernel_rfl
theorem u31: Tryz.prog.underlying 31=some (.slice 26):=by kernel_rfl
theorem u35: Tryz.prog.underlying 35=some (.slice 3):=by kernel_rfl
theorem u36: Tryz.prog.underlying 36=some (.struct (fldsOf Tryz.prog 36)):=by kernel_rfl
theorem pl36:((fldsOf Tryz.prog 36).toList.map fun f=>(f.offset, Tryz.prog.cellsOf f.type))=[(0,1),(1,1)]:=by kernel_rfl
theorem ub36:((fldsOf Tryz.prog 36).toList.all fun f=>(Tryz.prog.info? f.type).isSome)=true:=by kernel_rfl
theorem u37: Tryz.prog.underlying 37=some (.struct (fldsOf Tryz.prog 37)):=by kernel_rfl
theorem pl37:((fldsOf Tryz.prog 37).toList.map fun f=>(f.offset, Tryz.prog.cellsOf f.type))=[(0,1),(1,1)]:=by kernel_rfl
theorem ub37:((fldsOf Tryz.prog 37).toList.all fun f=>(Tryz.prog.info? f.type).isSome)=true:=by kernel_rfl
theorem u38: Tryz.prog.underlying 38=some (.struct (fldsOf Tryz.prog 38)):=by kernel_rfl
theorem pl38:((fldsOf Tryz.prog 38).toList.map fun f=>(f.offset, Tryz.prog.cellsOf f.type))=[(0,1),(1,1),(2,2),(4,1),(5,1)]:=by kernel_rfl
theorem ub38:((fldsOf Tryz.prog 38).toList.all fun f=>(Tryz.prog.info? f.type).isSome)=true:=by kernel_rfl
theorem u39: Tryz.prog.underlying 39=some (.struct (fldsOf Tryz.prog 39)):=by kernel_rfl
theorem pl39:((fldsOf Tryz.prog 39).toList.map fun f=>(f.offset, Tryz.prog.cellsOf f.type))=[(0,1),(1,1),(2,2),(4,1),(5,1)]:=by kernel_rfl
theorem ub39:((fldsOf Tryz.prog 39).toList.all fun f=>(Tryz.prog.info? f.type).isSome)=true:=by kernel_rfl
theorem u44: Tryz.prog.underlying 44=some (.struct (fldsOf Tryz.prog 44)):=by kernel_rfl
theorem pl44:((fldsOf Tryz.prog 44).toList.map fun f=>(f.offset, Tryz.prog.cellsOf f.type))=[(0,1),(1,1),(2,1),(3,1),(4,1),(5,1)]:=by kernel_rfl
theorem ub44:((fldsOf Tryz.prog 44).toList.all fun f=>(Tryz.prog.info? f.type).isSome)=true:=by kernel_rfl
theorem u45: Tryz.prog.underlying 45=some (.struct (fldsOf Tryz.prog 45)):=by kernel_rfl
theorem pl45:((fldsOf Tryz.prog 45).toList.map fun f=>(f.offset, Tryz.prog.cellsOf f.type))=[(0,1),(1,1),(2,1),(3,1),(4,1),(5,1)]:=by kernel_rfl
theorem ub45:((fldsOf Tryz.prog 45).toList.all fun f=>(Tryz.prog.info? f.type).isSome)=true:=by kernel_rfl
theorem u46: Tryz.prog.underlying 46=some (.slice 82):=by kernel_rfl
theorem u47: Tryz.prog.underlying 47=some (.struct (fldsOf Tryz.prog 47)):=by kernel_rfl
theorem pl47:((fldsOf Tryz.prog 47).toList.map fun f=>(f.offset, Tryz.prog.cellsOf f.type))=[(0,1),(1,1),(2,1),(3,1),(4,1),(5,1),(6,6),(12,1),(13,1),(14,1)]:=by kernel_rfl
theorem ub47:((fldsOf Tryz.prog 47).toList.all fun f=>(Tryz.prog.info? f.type).isSome)=true:=by kernel_rfl
theorem u48: Tryz.prog.underlying 48=some (.struct (fldsOf Tryz.prog 48)):=by kernel_rfl
theorem pl48:((fldsOf Tryz.prog 48).toList.map fun f=>(f.offset, Tryz.prog.cellsOf f.type))=[(0,1),(1,1),(2,1),(3,1),(4,1),(5,1),(6,6),(12,1),(13,1),(14,1)]:=by kernel_rfl
theorem ub48:((fldsOf Tryz.prog 48).toList.all fun f=>(Tryz.prog.info? f.type).isSome)=true:=by kernel_rfl
theorem u62: Tryz.prog.underlying 62=some (.int .u64):=by kernel_rfl
theorem u63: Tryz.prog.underlying 63=some (.slice 4):=by kernel_rfl
theorem u67: Tryz.prog.underlying 67=some (.slice 45):=by kernel_rfl
theorem u68: Tryz.prog.underlying 68=some (.struct (fldsOf Tryz.prog 68)):=by kernel_rfl
theorem pl68:((fldsOf Tryz.prog 68).toList.map fun f=>(f.offset, Tryz.prog.cellsOf f.type))=[(0,1),(1,15)]:=by kernel_rfl
theorem ub68:((fldsOf Tryz.prog 68).toList.all fun f=>(Tryz.prog.info? f.type).isSome)=true:=by kernel_rfl
theorem u69: Tryz.prog.underlying 69=some (.struct (fldsOf Tryz.prog 69)):=by kernel_rfl
theorem pl69:((fldsOf Tryz.prog 69).toList.map fun f=>(f.offset, Tryz.prog.cellsOf f.type))=[(0,1),(1,15)]:=by kernel_rfl
theorem ub69:((fldsOf Tryz.prog 69).toList.all fun f=>(Tryz.prog.info? f.type).isSome)=true:=by kernel_rfl
theorem u81: Tryz.prog.underlying 81=some (.struct (fldsOf Tryz.prog 81)):=by kernel_rfl
theorem pl81:((fldsOf Tryz.prog 81).toList.map fun f=>(f.offset, Tryz.prog.cellsOf f.type))=[(0,1),(1,1)]:=by kernel_rfl
theorem ub81:((fldsOf Tryz.prog 81).toList.all fun f=>(Tryz.prog.info? f.type).isSome)=true:=by kernel_rfl
theorem u82: Tryz.prog.underlying 82=some (.struct (fldsOf Tryz.prog 82)):=by kernel_rfl
theorem pl82:((fldsOf Tryz.prog 82).toList.map fun f=>(f.offset, Tryz.prog.cellsOf f.type))=[(0,1),(1,1)]:=by kernel_rfl
theorem ub82:((fldsOf Tryz.prog 82).toList.all fun f=>(Tryz.prog.info? f.type).isSome)=true:=by kernel_rfl
theorem mk91:mkeyP Tryz.prog 91=5:=by kernel_rfl
theorem mt91:mapT Tryz.prog 91=true:=by kernel_rfl
theorem ml91:melP Tryz.prog 91=235:=by kernel_rfl
theorem u92: Tryz.prog.underlying 92=some (.struct (fldsOf Tryz.prog 92)):=by kernel_rfl
theorem pl92:((fldsOf Tryz.prog 92).toList.map fun f=>(f.offset, Tryz.prog.cellsOf f.type))=[(0,8),(8,1),(9,1)]:=by kernel_rfl
theorem ub92:((fldsOf Tryz.prog 92).toList.all fun f=>(Tryz.prog.info? f.type).isSome)=true:=by kernel_rfl
theorem u93: Tryz.prog.underlying 93=some (.struct (fldsOf Tryz.prog 93)):=by kernel_rfl
theorem pl93:((fldsOf Tryz.prog 93).toList.map fun f=>(f.offset, Tryz.prog.cellsOf f.type))=[(0,8),(8,1),(9,1)]:=by kernel_rfl
theorem ub93:((fldsOf Tryz.prog 93).toList.all fun f=>(Tryz.prog.info? f.type).isSome)=true:=by kernel_rfl
theorem u94: Tryz.prog.underlying 94=some (.slice 99):=by kernel_rfl
theorem u96: Tryz.prog.underlying 96=some (.slice 35):=by kernel_rfl
theorem u98: Tryz.prog.underlying 98=some (.struct (fldsOf Tryz.prog 98)):=by kernel_rfl
theorem pl98:((fldsOf Tryz.prog 98).toList.map fun f=>(f.offset, Tryz.prog.cellsOf f.type))=[(0,1),(1,1)]:=by kernel_rfl
theorem ub98:((fldsOf Tryz.prog 98).toList.all fun f=>(Tryz.prog.info? f.type).isSome)=true:=by kernel_rfl
theorem u99: Tryz.prog.underlying 99=some (.struct (fldsOf Tryz.prog 99)):=by kernel_rfl
theorem pl99:((fldsOf Tryz.prog 99).toList.map fun f=>(f.offset, Tryz.prog.cellsOf f.type))=[(0,1),(1,1)]:=by kernel_rfl
theorem ub99:((fldsOf Tryz.prog 99).toList.all fun f=>(Tryz.prog.info? f.type).isSome)=true:=by kernel_rfl
theorem u113: Tryz.prog.underlying 113=some (.slice 340):=by kernel_rfl
theorem u114: Tryz.prog.underlying 114=some (.struct (fldsOf Tryz.prog 114)):=by kernel_rfl
theorem pl114:((fldsOf Tryz.prog 114).toList.map fun f=>(f.offset, Tryz.prog.cellsOf f.type))=[(0,1),(1,1),(2,1),(3,1),(4,1)]:=by kernel_rfl
theorem ub114:((fldsOf Tryz.prog 114).toList.all fun f=>(Tryz.prog.info? f.type).isSome)=true:=by kernel_rfl
theorem u115: Tryz.prog.underlying 115=some (.struct (fldsOf Tryz.prog 115)):=by kernel_rfl
theorem pl115:((fldsOf Tryz.prog 115).toList.map fun f=>(f.offset, Tryz.prog.cellsOf f.type))=[(0,1),(1,1),(2,1),(3,1),(4,1)]:=by kernel_rfl
theorem ub115:((fldsOf Tryz.prog 115).toList.all fun f=>(Tryz.prog.info? f.type).isSome)=true:=by kernel_rfl
theorem u116: Tryz.prog.underlying 116=some (.struct (fldsOf Tryz.prog 116)):=by kernel_rfl
theorem pl116:((fldsOf Tryz.prog 116).toList.map fun f=>(f.offset, Tryz.prog.cellsOf f.type))=[(0,1)]:=by kernel_rfl
theorem ub116:((fldsOf Tryz.prog 116).toList.all fun f=>(Tryz.prog.info? f.type).isSome)=true:=by kernel_rfl
theorem u117: Tryz.prog.underlying 117=some (.struct (fldsOf Tryz.prog 117)):=by kernel_rfl
theorem pl117:((fldsOf Tryz.prog 117).toList.map fun f=>(f.offset, Tryz.prog.cellsOf f.type))=[(0,1)]:=by kernel_rfl
theorem ub117:((fldsOf Tryz.prog 117).toList.all fun f=>(Tryz.prog.info? f.type).isSome)=true:=by kernel_rfl
theorem u119: Tryz.prog.underlying 119=some (.struct (fldsOf Tryz.prog 119)):=by kernel_rfl
theorem pl119:((fldsOf Tryz.prog 119).toList.map fun f=>(f.offset, Tryz.prog.cellsOf f.type))=[(0,1),(1,1),(2,1)]:=by kernel_rfl
theorem ub119:((fldsOf Tryz.prog 119).toList.all fun f=>(Tryz.prog.info? f.type).isSome)=true:=by kernel_rfl
theorem u120: Tryz.prog.underlying 120=some (.struct (fldsOf Tryz.prog 120)):=by kernel_rfl
theorem pl120:((fldsOf Tryz.prog 120).toList.map fun f=>(f.offset, Tryz.prog.cellsOf f.type))=[(0,1),(1,1),(2,1)]:=by kernel_rfl
theorem ub120:((fldsOf Tryz.prog 120).toList.all fun f=>(Tryz.prog.info? f.type).isSome)=true:=by kernel_rfl
theorem u126: Tryz.prog.underlying 126=some (.slice 284):=by kernel_rfl
theorem u127: Tryz.prog.underlying 127=some (.slice 132):=by kernel_rfl
theorem u128: Tryz.prog.underlying 128=some (.struct (fldsOf Tryz.prog 128)):=by kernel_rfl
theorem pl128:((fldsOf Tryz.prog 128).toList.map fun f=>(f.offset, Tryz.prog.cellsOf f.type))=[(0,1),(1,1),(2,1),(3,1),(4,1),(5,1),(6,1),(7,1),(8,1)]:=by kernel_rfl
theorem ub128:((fldsOf Tryz.prog 128).toList.all fun f=>(Tryz.prog.info? f.type).isSome)=true:=by kernel_rfl
theorem u129: Tryz.prog.underlying 129=some (.struct (fldsOf Tryz.prog 129)):=by kernel_rfl
theorem pl129:((fldsOf Tryz.prog 129).toList.map fun f=>(f.offset, Tryz.prog.cellsOf f.type))=[(0,1),(1,1),(2,1),(3,1),(4,1),(5,1),(6,1),(7,1),(8,1)]:=by kernel_rfl
theorem ub129:((fldsOf Tryz.prog 129).toList.all fun f=>(Tryz.prog.info? f.type).isSome)=true:=by kernel_rfl
theorem u157: Tryz.prog.underlying 157=some (.struct (fldsOf Tryz.prog 157)):=by kernel_rfl
theorem pl157:((fldsOf Tryz.prog 157).toList.map fun f=>(f.offset, Tryz.prog.cellsOf f.type))=[(0,1),(1,1)]:=by kernel_rfl
theorem ub157:((fldsOf Tryz.prog 157).toList.all fun f=>(Tryz.prog.info? f.type).isSome)=true:=by kernel_rfl
theorem u158: Tryz.prog.underlying 158=some (.struct (fldsOf Tryz.prog 158)):=by kernel_rfl
theorem pl158:((fldsOf Tryz.prog 158).toList.map fun f=>(f.offset, Tryz.prog.cellsOf f.type))=[(0,1),(1,1)]:=by kernel_rfl
theorem ub158:((fldsOf Tryz.prog 158).toList.all fun f=>(Tryz.prog.info? f.type).isSome)=true:=by kernel_rfl
theorem u159: Tryz.prog.underlying 159=some (.struct (fldsOf Tryz.prog 159)):=by kernel_rfl
theorem pl159:((fldsOf Tryz.prog 159).toList.map fun f=>(f.offset, Tryz.prog.cellsOf f.type))=[(0,2)]:=by kernel_rfl
theorem ub159:((fldsOf Tryz.prog 159).toList.all fun f=>(Tryz.prog.info? f.type).isSome)=true:=by kernel_rfl
theorem u160: Tryz.prog.underlying 160=some (.struct (fldsOf Tryz.prog 160)):=by kernel_rfl
theorem pl160:((fldsOf Tryz.prog 160).toList.map fun f=>(f.offset, Tryz.prog.cellsOf f.type))=[(0,2)]:=by kernel_rfl
theorem ub160:((fldsOf Tryz.prog 160).toList.all fun f=>(Tryz.prog.info? f.type).isSome)=true:=by kernel_rfl
theorem u173: Tryz.prog.underlying 173=some (.struct (fldsOf Tryz.prog 173)):=by kernel_rfl
theorem pl173:((fldsOf Tryz.prog 173).toList.map fun f=>(f.offset, Tryz.prog.cellsOf f.type))=[]:=by kernel_rfl
theorem ub173:((fldsOf Tryz.prog 173).toList.all fun f=>(Tryz.prog.info? f.type).isSome)=true:=by kernel_rfl
theorem u174: Tryz.prog.underlying 174=some (.struct (fldsOf Tryz.prog 174)):=by kernel_rfl
theorem pl174:((fldsOf Tryz.prog 174).toList.map fun f=>(f.offset, Tryz.prog.cellsOf f.type))=[]:=by kernel_rfl
theorem ub174:((fldsOf Tryz.prog 174).toList.all fun f=>(Tryz.prog.info? f.type).isSome)=true:=by kernel_rfl
theorem u177: Tryz.prog.underlying 177=some (.slice 23):=by kernel_rfl
theorem u178: Tryz.prog.underlying 178=some (.struct (fldsOf Tryz.prog 178)):=by kernel_rfl
theorem pl178:((fldsOf Tryz.prog 178).toList.map fun f=>(f.offset, Tryz.prog.cellsOf f.type))=[(0,1)]:=by kernel_rfl
theorem ub178:((fldsOf Tryz.prog 178).toList.all fun f=>(Tryz.prog.info? f.type).isSome)=true:=by kernel_rfl
theorem u179: Tryz.prog.underlying 179=some (.struct (fldsOf Tryz.prog 179)):=by kernel_rfl
theorem pl179:((fldsOf Tryz.prog 179).toList.map fun f=>(f.offset, Tryz.prog.cellsOf f.type))=[(0,1)]:=by kernel_rfl
theorem ub179:((fldsOf Tryz.prog 179).toList.all fun f=>(Tryz.prog.info? f.type).isSome)=true:=by kernel_rfl
theorem mk193:mkeyP Tryz.prog 193=3:=by kernel_rfl
theorem mt193:mapT Tryz.prog 193=true:=by kernel_rfl
theorem ml193:melP Tryz.prog 193=4:=by kernel_rfl
theorem u196: Tryz.prog.underlying 196=some (.slice 201):=by kernel_rfl
theorem u199: Tryz.prog.underlying 199=some (.int .u64):=by kernel_rfl
theorem u205: Tryz.prog.underlying 205=some (.struct (fldsOf Tryz.prog 205)):=by kernel_rfl
theorem pl205:((fldsOf Tryz.prog 205).toList.map fun f=>(f.offset, Tryz.prog.cellsOf f.type))=[(0,8),(8,1)]:=by kernel_rfl
theorem ub205:((fldsOf Tryz.prog 205).toList.all fun f=>(Tryz.prog.info? f.type).isSome)=true:=by kernel_rfl
theorem u206: Tryz.prog.underlying 206=some (.struct (fldsOf Tryz.prog 206)):=by kernel_rfl
theorem pl206:((fldsOf Tryz.prog 206).toList.map fun f=>(f.offset, Tryz.prog.cellsOf f.type))=[(0,8),(8,1)]:=by kernel_rfl
theorem ub206:((fldsOf Tryz.prog 206).toList.all fun f=>(Tryz.prog.info? f.type).isSome)=true:=by kernel_rfl
theorem mk213:mkeyP Tryz.prog 213=3:=by kernel_rfl
theorem mt213:mapT Tryz.prog 213=true:=by kernel_rfl
theorem ml213:melP Tryz.prog 213=122:=by kernel_rfl
theorem u214: Tryz.prog.underlying 214=some (.struct (fldsOf Tryz.prog 214)):=by kernel_rfl
theorem pl214:((fldsOf Tryz.prog 214).toList.map fun f=>(f.offset, Tryz.prog.cellsOf f.type))=[(0,10),(10,1),(11,1),(12,1),(13,1),(14,1),(15,1),(16,1),(17,1)]:=by kernel_rfl
theorem ub214:((fldsOf Tryz.prog 214).toList.all fun f=>(Tryz.prog.info? f.type).isSome)=true:=by kernel_rfl
theorem u215: Tryz.prog.underlying 215=some (.struct (fldsOf Tryz.prog 215)):=by kernel_rfl
theorem pl215:((fldsOf Tryz.prog 215).toList.map fun f=>(f.offset, Tryz.prog.cellsOf f.type))=[(0,10),(10,1),(11,1),(12,1),(13,1),(14,1),(15,1),(16,1),(17,1)]:=by kernel_rfl
theorem ub215:((fldsOf Tryz.prog 215).toList.all fun f=>(Tryz.prog.info? f.type).isSome)=true:=by kernel_rfl
theorem u216: Tryz.prog.underlying 216=some (.struct (fldsOf Tryz.prog 216)):=by kernel_rfl
theorem pl216:((fldsOf Tryz.prog 216).toList.map fun f=>(f.offset, Tryz.prog.cellsOf f.type))=[(0,1),(1,1),(2,1),(3,1),(4,1)]:=by kernel_rfl
theorem ub216:((fldsOf Tryz.prog 216).toList.all fun f=>(Tryz.prog.info? f.type).isSome)=true:=by kernel_rfl
theorem u217: Tryz.prog.underlying 217=some (.struct (fldsOf Tryz.prog 217)):=by kernel_rfl
theorem pl217:((fldsOf Tryz.prog 217).toList.map fun f=>(f.offset, Tryz.prog.cellsOf f.type))=[(0,1),(1,1),(2,1),(3,1),(4,1)]:=by kernel_rfl
theorem ub217:((fldsOf Tryz.prog 217).toList.all fun f=>(Tryz.prog.info? f.type).isSome)=true:=by kernel_rfl
theorem u234: Tryz.prog.underlying 234=some (.struct (fldsOf Tryz.prog 234)):=by kernel_rfl
theorem pl234:((fldsOf Tryz.prog 234).toList.map fun f=>(f.offset, Tryz.prog.cellsOf f.type))=[(0,1),(1,1),(2,1),(3,1),(4,1),(5,1)]:=by kernel_rfl
theorem ub234:((fldsOf Tryz.prog 234).toList.all fun f=>(Tryz.prog.info? f.type).isSome)=true:=by kernel_rfl
theorem u235: Tryz.prog.underlying 235=some (.struct (fldsOf Tryz.prog 235)):=by kernel_rfl
theorem pl235:((fldsOf Tryz.prog 235).toList.map fun f=>(f.offset, Tryz.prog.cellsOf f.type))=[(0,1),(1,1),(2,1),(3,1),(4,1),(5,1)]:=by kernel_rfl
theorem ub235:((fldsOf Tryz.prog 235).toList.all fun f=>(Tryz.prog.info? f.type).isSome)=true:=by kernel_rfl
theorem mk273:mkeyP Tryz.prog 273=5:=by kernel_rfl
theorem mt273:mapT Tryz.prog 273=true:=by kernel_rfl
theorem ml273:melP Tryz.prog 273=275:=by kernel_rfl
theorem u283: Tryz.prog.underlying 283=some (.struct (fldsOf Tryz.prog 283)):=by kernel_rfl
theorem pl283:((fldsOf Tryz.prog 283).toList.map fun f=>(f.offset, Tryz.prog.cellsOf f.type))=[(0,1),(1,1),(2,1),(3,1),(4,1)]:=by kernel_rfl
theorem ub283:((fldsOf Tryz.prog 283).toList.all fun f=>(Tryz.prog.info? f.type).isSome)=true:=by kernel_rfl
theorem u284: Tryz.prog.underlying 284=some (.struct (fldsOf Tryz.prog 284)):=by kernel_rfl
theorem pl284:((fldsOf Tryz.prog 284).toList.map fun f=>(f.offset, Tryz.prog.cellsOf f.type))=[(0,1),(1,1),(2,1),(3,1),(4,1)]:=by kernel_rfl
theorem ub284:((fldsOf Tryz.prog 284).toList.all fun f=>(Tryz.prog.info? f.type).isSome)=true:=by kernel_rfl
theorem u292: Tryz.prog.underlying 292=some (.int .i64):=by kernel_rfl
theorem u300: Tryz.prog.underlying 300=some (.int .u32):=by kernel_rfl
theorem u312: Tryz.prog.underlying 312=some (.struct (fldsOf Tryz.prog 312)):=by kernel_rfl
theorem pl312:((fldsOf Tryz.prog 312).toList.map fun f=>(f.offset, Tryz.prog.cellsOf f.type))=[(0,1),(1,1)]:=by kernel_rfl
theorem ub312:((fldsOf Tryz.prog 312).toList.all fun f=>(Tryz.prog.info? f.type).isSome)=true:=by kernel_rfl
theorem u313: Tryz.prog.underlying 313=some (.struct (fldsOf Tryz.prog 313)):=by kernel_rfl
theorem pl313:((fldsOf Tryz.prog 313).toList.map fun f=>(f.offset, Tryz.prog.cellsOf f.type))=[(0,1),(1,1)]:=by kernel_rfl
theorem ub313:((fldsOf Tryz.prog 313).toList.all fun f=>(Tryz.prog.info? f.type).isSome)=true:=by kernel_rfl
theorem u325: Tryz.prog.underlying 325=some (.int .u64):=by kernel_rfl
theorem u336: Tryz.prog.underlying 336=some (.struct (fldsOf Tryz.prog 336)):=by kernel_rfl
theorem pl336:((fldsOf Tryz.prog 336).toList.map fun f=>(f.offset, Tryz.prog.cellsOf f.type))=[(0,1),(1,1),(2,1)]:=by kernel_rfl
theorem ub336:((fldsOf Tryz.prog 336).toList.all fun f=>(Tryz.prog.info? f.type).isSome)=true:=by kernel_rfl
theorem u337: Tryz.prog.underlying 337=some (.struct (fldsOf Tryz.prog 337)):=by kernel_rfl
theorem pl337:((fldsOf Tryz.prog 337).toList.map fun f=>(f.offset, Tryz.prog.cellsOf f.type))=[(0,1),(1,1),(2,1)]:=by kernel_rfl
theorem ub337:((fldsOf Tryz.prog 337).toList.all fun f=>(Tryz.prog.info? f.type).isSome)=true:=by kernel_rfl
theorem u353: Tryz.prog.underlying 353=some (.int .i64):=by kernel_rfl
theorem u362: Tryz.prog.underlying 362=some (.struct (fldsOf Tryz.prog 362)):=by kernel_rfl
theorem pl362:((fldsOf Tryz.prog 362).toList.map fun f=>(f.offset, Tryz.prog.cellsOf f.type))=[(0,1),(1,1)]:=by kernel_rfl
theorem ub362:((fldsOf Tryz.prog 362).toList.all fun f=>(Tryz.prog.info? f.type).isSome)=true:=by kernel_rfl
theorem u363: Tryz.prog.underlying 363=some (.struct (fldsOf Tryz.prog 363)):=by kernel_rfl
theorem pl363:((fldsOf Tryz.prog 363).toList.map fun f=>(f.offset, Tryz.prog.cellsOf f.type))=[(0,1),(1,1)]:=by kernel_rfl
theorem ub363:((fldsOf Tryz.prog 363).toList.all fun f=>(Tryz.prog.info? f.type).isSome)=true:=by kernel_rfl
theorem u370: Tryz.prog.underlying 370=some (.struct (fldsOf Tryz.prog 370)):=by kernel_rfl
theorem pl370:((fldsOf Tryz.prog 370).toList.map fun f=>(f.offset, Tryz.prog.cellsOf f.type))=[(0,1),(1,1),(2,1)]:=by kernel_rfl
theorem ub370:((fldsOf Tryz.prog 370).toList.all fun f=>(Tryz.prog.info? f.type).isSome)=true:=by kernel_rfl
theorem u371: Tryz.prog.underlying 371=some (.struct (fldsOf Tryz.prog 371)):=by kernel_rfl
theorem pl371:((fldsOf Tryz.prog 371).toList.map fun f=>(f.offset, Tryz.prog.cellsOf f.type))=[(0,1),(1,1),(2,1)]:=by kernel_rfl
theorem ub371:((fldsOf Tryz.prog 371).toList.all fun f=>(Tryz.prog.info? f.type).isSome)=true:=by kernel_rfl
theorem u378: Tryz.prog.underlying 378=some (.struct (fldsOf Tryz.prog 378)):=by kernel_rfl
theorem pl378:((fldsOf Tryz.prog 378).toList.map fun f=>(f.offset, Tryz.prog.cellsOf f.type))=[(0,1)]:=by kernel_rfl
theorem ub378:((fldsOf Tryz.prog 378).toList.all fun f=>(Tryz.prog.info? f.type).isSome)=true:=by kernel_rfl
theorem u379: Tryz.prog.underlying 379=some (.struct (fldsOf Tryz.prog 379)):=by kernel_rfl
theorem pl379:((fldsOf Tryz.prog 379).toList.map fun f=>(f.offset, Tryz.prog.cellsOf f.type))=[(0,1)]:=by kernel_rfl
theorem ub379:((fldsOf Tryz.prog 379).toList.all fun f=>(Tryz.prog.info? f.type).isSome)=true:=by kernel_rfl
theorem u380: Tryz.prog.underlying 380=some (.struct (fldsOf Tryz.prog 380)):=by kernel_rfl
theorem pl380:((fldsOf Tryz.prog 380).toList.map fun f=>(f.offset, Tryz.prog.cellsOf f.type))=[(0,1),(1,1),(2,1),(3,1)]:=by kernel_rfl
theorem ub380:((fldsOf Tryz.prog 380).toList.all fun f=>(Tryz.prog.info? f.type).isSome)=true:=by kernel_rfl
theorem u381: Tryz.prog.underlying 381=some (.struct (fldsOf Tryz.prog 381)):=by kernel_rfl
theorem pl381:((fldsOf Tryz.prog 381).toList.map fun f=>(f.offset, Tryz.prog.cellsOf f.type))=[(0,1),(1,1),(2,1),(3,1)]:=by kernel_rfl
theorem ub381:((fldsOf Tryz.prog 381).toList.all fun f=>(Tryz.prog.info? f.type).isSome)=true:=by kernel_rfl
theorem u383: Tryz.prog.underlying 383=some (.struct (fldsOf Tryz.prog 383)):=by kernel_rfl
theorem pl383:((fldsOf Tryz.prog 383).toList.map fun f=>(f.offset, Tryz.prog.cellsOf f.type))=[(0,0)]:=by kernel_rfl
theorem ub383:((fldsOf Tryz.prog 383).toList.all fun f=>(Tryz.prog.info? f.type).isSome)=true:=by kernel_rfl
theorem u384: Tryz.prog.underlying 384=some (.struct (fldsOf Tryz.prog 384)):=by kernel_rfl
theorem pl384:((fldsOf Tryz.prog 384).toList.map fun f=>(f.offset, Tryz.prog.cellsOf f.type))=[(0,0)]:=by kernel_rfl
theorem ub384:((fldsOf Tryz.prog 384).toList.all fun f=>(Tryz.prog.info? f.type).isSome)=true:=by kernel_rfl
theorem u386: Tryz.prog.underlying 386=some (.int .u8):=by kernel_rfl
theorem u387: Tryz.prog.underlying 387=some (.int .u8):=by kernel_rfl
theorem u389: Tryz.prog.underlying 389=some (.int .i32):=by kernel_rfl
theorem u390: Tryz.prog.underlying 390=some (.int .i32):=by kernel_rfl
theorem u391: Tryz.prog.underlying 391=some (.struct (fldsOf Tryz.prog 391)):=by kernel_rfl
theorem pl391:((fldsOf Tryz.prog 391).toList.map fun f=>(f.offset, Tryz.prog.cellsOf f.type))=[(0,1),(1,1),(2,1),(3,1),(4,1),(5,1),(6,1),(7,1),(8,1),(9,1),(10,1)]:=by kernel_rfl
theorem ub391:((fldsOf Tryz.prog 391).toList.all fun f=>(Tryz.prog.info? f.type).isSome)=true:=by kernel_rfl
theorem u392: Tryz.prog.underlying 392=some (.struct (fldsOf Tryz.prog 392)):=by kernel_rfl
theorem pl392:((fldsOf Tryz.prog 392).toList.map fun f=>(f.offset, Tryz.prog.cellsOf f.type))=[(0,1),(1,1),(2,1),(3,1),(4,1),(5,1),(6,1),(7,1),(8,1),(9,1),(10,1)]:=by kernel_rfl
theorem ub392:((fldsOf Tryz.prog 392).toList.all fun f=>(Tryz.prog.info? f.type).isSome)=true:=by kernel_rfl
def codeAt:List Nat→Code→Code
  | [],c=>c
  | 0::p,.seq a _=>codeAt p a
  | _::p,.seq _ b=>codeAt p b
  | 0::p,.cond _ a _=>codeAt p a
  | _::p,.cond _ _ b=>codeAt p b
  | _::p,.block _ b=>codeAt p b
  | _::p,.loop b=>codeAt p b
  | _::p,.scope b=>codeAt p b
  | 0::p,.rangeFunc _ _ a _=>codeAt p a
  | _::p,.rangeFunc _ _ _ b=>codeAt p b
  | _,c=>c
def regOps:Code→Array Oper
  | .region _ ops _=>ops
  | _=> #[]
noncomputable def r6_0:Array Oper:=regOps (codeAt [0] body6)
noncomputable def r6_1:Array Oper:=regOps (codeAt [1,0,0] body6)
noncomputable def r6_2:Array Oper:=regOps (codeAt [1,0,1,0,0] body6)
noncomputable def r6_3:Array Oper:=regOps (codeAt [1,1,0] body6)
theorem di_r6_3:drawInfo r6_3=some [(3,4),(10,11),(17,18),(24,25)]:=by kernel_rfl
theorem sk6:body6=(.seq (.region 0 r6_0 false) (.seq (.seq (.region 1 r6_1 false) (.cond (.tmp 21) (.seq (.region 2 r6_2 false) .ret) .skip)) (.seq (.region 3 r6_3 true) .ret))):=by kernel_rfl
noncomputable def r24_0:Array Oper:=regOps (codeAt [0] body24)
noncomputable def r24_1:Array Oper:=regOps (codeAt [1,0,0] body24)
noncomputable def r24_2:Array Oper:=regOps (codeAt [1,0,1,0,0] body24)
noncomputable def r24_3:Array Oper:=regOps (codeAt [1,1,0,0] body24)
noncomputable def r24_4:Array Oper:=regOps (codeAt [1,1,0,1,0,0,0] body24)
noncomputable def r24_5:Array Oper:=regOps (codeAt [1,1,0,1,0,0,1,1,0,0,0] body24)
noncomputable def r24_6:Array Oper:=regOps (codeAt [1,1,0,1,0,0,1,1,0,0,1,0] body24)
theorem di_r24_6:drawInfo r24_6=some []:=by kernel_rfl
noncomputable def r24_7:Array Oper:=regOps (codeAt [1,1,0,1,0,0,1,1,0,0,1,1,0,0] body24)
noncomputable def r24_8:Array Oper:=regOps (codeAt [1,1,0,1,0,0,1,1,1] body24)
noncomputable def r24_9:Array Oper:=regOps (codeAt [1,1,1,0] body24)
theorem sk24:body24=(.seq (.region 0 r24_0 false) (.seq (.seq (.region 1 r24_1 false) (.cond (.tmp 10) (.seq (.region 2 r24_2 false) .ret) .skip)) (.seq (.seq (.region 3 r24_3 false) (.block 0 (.loop (.seq (.region 4 r24_4 false) (.seq (.cond (.tmp 14) .skip (.exit 0)) (.seq (.block 1 (.seq (.region 5 r24_5 false) (.seq (.region 6 r24_6 true) (.cond (.tmp 24) (.seq (.region 7 r24_7 false) .ret) .skip)))) (.region 8 r24_8 false))))))) (.seq (.region 9 r24_9 false) .ret)))):=by kernel_rfl
noncomputable def r25_0:Array Oper:=regOps (codeAt [0] body25)
noncomputable def r25_1:Array Oper:=regOps (codeAt [1,0,0] body25)
noncomputable def r25_2:Array Oper:=regOps (codeAt [1,0,1,0,0,0] body25)
noncomputable def r25_3:Array Oper:=regOps (codeAt [1,0,1,0,0,1,1,0] body25)
noncomputable def r25_4:Array Oper:=regOps (codeAt [1,0,1,0,0,1,1,1,1,0] body25)
noncomputable def r25_5:Array Oper:=regOps (codeAt [1,0,1,0,0,1,1,1,1,1,1,0] body25)
noncomputable def r25_6:Array Oper:=regOps (codeAt [1,0,1,0,0,1,1,1,1,1,1,1,1,0] body25)
noncomputable def r25_7:Array Oper:=regOps (codeAt [1,0,1,0,0,1,1,1,1,1,1,1,1,1,1,0] body25)
noncomputable def r25_8:Array Oper:=regOps (codeAt [1,0,1,0,0,1,1,1,1,1,1,1,1,1,1,1,1,0] body25)
noncomputable def r25_9:Array Oper:=regOps (codeAt [1,0,1,0,0,1,1,1,1,1,1,1,1,1,1,1,1,1,1,0] body25)
noncomputable def r25_10:Array Oper:=regOps (codeAt [1,0,1,0,0,1,1,1,1,1,1,1,1,1,1,1,1,1,1,1,1] body25)
noncomputable def r25_11:Array Oper:=regOps (codeAt [1,0,1,0,1,0,0] body25)
noncomputable def r25_12:Array Oper:=regOps (codeAt [1,0,1,0,1,1,0,0] body25)
noncomputable def r25_13:Array Oper:=regOps (codeAt [1,0,1,0,1,1,0,1,1,0] body25)
noncomputable def r25_14:Array Oper:=regOps (codeAt [1,0,1,0,1,1,0,1,1,1,1,0] body25)
noncomputable def r25_15:Array Oper:=regOps (codeAt [1,0,1,0,1,1,0,1,1,1,1,1,1,0] body25)
noncomputable def r25_16:Array Oper:=regOps (codeAt [1,0,1,0,1,1,0,1,1,1,1,1,1,1,1,0] body25)
noncomputable def r25_17:Array Oper:=regOps (codeAt [1,0,1,0,1,1,0,1,1,1,1,1,1,1,1,1,1,0] body25)
noncomputable def r25_18:Array Oper:=regOps (codeAt [1,0,1,0,1,1,0,1,1,1,1,1,1,1,1,1,1,1,1,0] body25)
noncomputable def r25_19:Array Oper:=regOps (codeAt [1,0,1,0,1,1,0,1,1,1,1,1,1,1,1,1,1,1,1,1,1,0] body25)
noncomputable def r25_20:Array Oper:=regOps (codeAt [1,0,1,0,1,1,0,1,1,1,1,1,1,1,1,1,1,1,1,1,1,1,1,0] body25)
noncomputable def r25_21:Array Oper:=regOps (codeAt [1,0,1,0,1,1,0,1,1,1,1,1,1,1,1,1,1,1,1,1,1,1,1,1,1,0] body25)
noncomputable def r25_22:Array Oper:=regOps (codeAt [1,0,1,0,1,1,0,1,1,1,1,1,1,1,1,1,1,1,1,1,1,1,1,1,1,1,1,0] body25)
noncomputable def r25_23:Array Oper:=regOps (codeAt [1,0,1,0,1,1,0,1,1,1,1,1,1,1,1,1,1,1,1,1,1,1,1,1,1,1,1,1,1,0] body25)
noncomputable def r25_24:Array Oper:=regOps (codeAt [1,0,1,0,1,1,0,1,1,1,1,1,1,1,1,1,1,1,1,1,1,1,1,1,1,1,1,1,1,1,1] body25)
noncomputable def r25_25:Array Oper:=regOps (codeAt [1,0,1,0,1,1,1,0,0] body25)
noncomputable def r25_26:Array Oper:=regOps (codeAt [1,0,1,0,1,1,1,1,0] body25)
noncomputable def r25_27:Array Oper:=regOps (codeAt [1,0,1,0,1,1,1,1,1,0,0] body25)
noncomputable def r25_28:Array Oper:=regOps (codeAt [1,0,1,0,1,1,1,1,1,1,0] body25)
noncomputable def r25_29:Array Oper:=regOps (codeAt [1,0,1,0,1,1,1,1,1,1,1,0,0] body25)
noncomputable def r25_30:Array Oper:=regOps (codeAt [1,1,0] body25)
theorem sk25:body25=(.seq (.region 0 r25_0 false) (.seq (.seq (.region 1 r25_1 false) (.block 0 (.seq (.seq (.region 2 r25_2 false) (.cond (.tmp 5) .skip (.seq (.region 3 r25_3 false) (.cond (.tmp 5) .skip (.seq (.region 4 r25_4 false) (.cond (.tmp 5) .skip (.seq (.region 5 r25_5 false) (.cond (.tmp 5) .skip (.seq (.region 6 r25_6 false) (.cond (.tmp 5) .skip (.seq (.region 7 r25_7 false) (.cond (.tmp 5) .skip (.seq (.region 8 r25_8 false) (.cond (.tmp 5) .skip (.seq (.region 9 r25_9 false) (.cond (.tmp 5) .skip (.region 10 r25_10 false))))))))))))))))) (.cond (.tmp 5) (.seq (.region 11 r25_11 false) .ret) (.seq (.seq (.region 12 r25_12 false) (.cond (.tmp 18) .skip (.seq (.region 13 r25_13 false) (.cond (.tmp 18) .skip (.seq (.region 14 r25_14 false) (.cond (.tmp 18) .skip (.seq (.region 15 r25_15 false) (.cond (.tmp 18) .skip (.seq (.region 16 r25_16 false) (.cond (.tmp 18) .skip (.seq (.region 17 r25_17 false) (.cond (.tmp 18) .skip (.seq (.region 18 r25_18 false) (.cond (.tmp 18) .skip (.seq (.region 19 r25_19 false) (.cond (.tmp 18) .skip (.seq (.region 20 r25_20 false) (.cond (.tmp 18) .skip (.seq (.region 21 r25_21 false) (.cond (.tmp 18) .skip (.seq (.region 22 r25_22 false) (.cond (.tmp 18) .skip (.seq (.region 23 r25_23 false) (.cond (.tmp 18) .skip (.region 24 r25_24 false))))))))))))))))))))))))) (.cond (.tmp 18) (.seq (.region 25 r25_25 false) .ret) (.seq (.region 26 r25_26 false) (.cond (.tmp 37) (.seq (.region 27 r25_27 false) .ret) (.seq (.region 28 r25_28 false) (.cond (.tmp 42) (.seq (.region 29 r25_29 false) .ret) .skip)))))))))) (.seq (.region 30 r25_30 false) .ret))):=by kernel_rfl
noncomputable def r26_0:Array Oper:=regOps (codeAt [0] body26)
noncomputable def r26_1:Array Oper:=regOps (codeAt [1,0,0] body26)
noncomputable def r26_2:Array Oper:=regOps (codeAt [1,0,1,0,0,0] body26)
noncomputable def r26_3:Array Oper:=regOps (codeAt [1,0,1,0,0,1,1,0] body26)
noncomputable def r26_4:Array Oper:=regOps (codeAt [1,0,1,0,0,1,1,1,1,0] body26)
noncomputable def r26_5:Array Oper:=regOps (codeAt [1,0,1,0,0,1,1,1,1,1,1,0] body26)
noncomputable def r26_6:Array Oper:=regOps (codeAt [1,0,1,0,0,1,1,1,1,1,1,1,1,0] body26)
noncomputable def r26_7:Array Oper:=regOps (codeAt [1,0,1,0,0,1,1,1,1,1,1,1,1,1,1,0] body26)
noncomputable def r26_8:Array Oper:=regOps (codeAt [1,0,1,0,0,1,1,1,1,1,1,1,1,1,1,1,1,0] body26)
noncomputable def r26_9:Array Oper:=regOps (codeAt [1,0,1,0,0,1,1,1,1,1,1,1,1,1,1,1,1,1,1,0] body26)
noncomputable def r26_10:Array Oper:=regOps (codeAt [1,0,1,0,0,1,1,1,1,1,1,1,1,1,1,1,1,1,1,1,1] body26)
noncomputable def r26_11:Array Oper:=regOps (codeAt [1,0,1,0,1,0,0] body26)
noncomputable def r26_12:Array Oper:=regOps (codeAt [1,0,1,0,1,1,0,0] body26)
noncomputable def r26_13:Array Oper:=regOps (codeAt [1,0,1,0,1,1,0,1,1,0] body26)
noncomputable def r26_14:Array Oper:=regOps (codeAt [1,0,1,0,1,1,0,1,1,1,1,0] body26)
noncomputable def r26_15:Array Oper:=regOps (codeAt [1,0,1,0,1,1,0,1,1,1,1,1,1,0] body26)
noncomputable def r26_16:Array Oper:=regOps (codeAt [1,0,1,0,1,1,0,1,1,1,1,1,1,1,1,0] body26)
noncomputable def r26_17:Array Oper:=regOps (codeAt [1,0,1,0,1,1,0,1,1,1,1,1,1,1,1,1,1,0] body26)
noncomputable def r26_18:Array Oper:=regOps (codeAt [1,0,1,0,1,1,0,1,1,1,1,1,1,1,1,1,1,1,1,0] body26)
noncomputable def r26_19:Array Oper:=regOps (codeAt [1,0,1,0,1,1,0,1,1,1,1,1,1,1,1,1,1,1,1,1,1,0] body26)
noncomputable def r26_20:Array Oper:=regOps (codeAt [1,0,1,0,1,1,0,1,1,1,1,1,1,1,1,1,1,1,1,1,1,1,1,0] body26)
noncomputable def r26_21:Array Oper:=regOps (codeAt [1,0,1,0,1,1,0,1,1,1,1,1,1,1,1,1,1,1,1,1,1,1,1,1,1,0] body26)
noncomputable def r26_22:Array Oper:=regOps (codeAt [1,0,1,0,1,1,0,1,1,1,1,1,1,1,1,1,1,1,1,1,1,1,1,1,1,1,1,0] body26)
noncomputable def r26_23:Array Oper:=regOps (codeAt [1,0,1,0,1,1,0,1,1,1,1,1,1,1,1,1,1,1,1,1,1,1,1,1,1,1,1,1,1,0] body26)
noncomputable def r26_24:Array Oper:=regOps (codeAt [1,0,1,0,1,1,0,1,1,1,1,1,1,1,1,1,1,1,1,1,1,1,1,1,1,1,1,1,1,1,1] body26)
noncomputable def r26_25:Array Oper:=regOps (codeAt [1,0,1,0,1,1,1,0,0] body26)
noncomputable def r26_26:Array Oper:=regOps (codeAt [1,0,1,0,1,1,1,1,0] body26)
noncomputable def r26_27:Array Oper:=regOps (codeAt [1,0,1,0,1,1,1,1,1,0,0] body26)
noncomputable def r26_28:Array Oper:=regOps (codeAt [1,0,1,0,1,1,1,1,1,1,0] body26)
noncomputable def r26_29:Array Oper:=regOps (codeAt [1,0,1,0,1,1,1,1,1,1,1,0,0] body26)
noncomputable def r26_30:Array Oper:=regOps (codeAt [1,1,0] body26)
theorem sk26:body26=(.seq (.region 0 r26_0 false) (.seq (.seq (.region 1 r26_1 false) (.block 0 (.seq (.seq (.region 2 r26_2 false) (.cond (.tmp 5) .skip (.seq (.region 3 r26_3 false) (.cond (.tmp 5) .skip (.seq (.region 4 r26_4 false) (.cond (.tmp 5) .skip (.seq (.region 5 r26_5 false) (.cond (.tmp 5) .skip (.seq (.region 6 r26_6 false) (.cond (.tmp 5) .skip (.seq (.region 7 r26_7 false) (.cond (.tmp 5) .skip (.seq (.region 8 r26_8 false) (.cond (.tmp 5) .skip (.seq (.region 9 r26_9 false) (.cond (.tmp 5) .skip (.region 10 r26_10 false))))))))))))))))) (.cond (.tmp 5) (.seq (.region 11 r26_11 false) .ret) (.seq (.seq (.region 12 r26_12 false) (.cond (.tmp 18) .skip (.seq (.region 13 r26_13 false) (.cond (.tmp 18) .skip (.seq (.region 14 r26_14 false) (.cond (.tmp 18) .skip (.seq (.region 15 r26_15 false) (.cond (.tmp 18) .skip (.seq (.region 16 r26_16 false) (.cond (.tmp 18) .skip (.seq (.region 17 r26_17 false) (.cond (.tmp 18) .skip (.seq (.region 18 r26_18 false) (.cond (.tmp 18) .skip (.seq (.region 19 r26_19 false) (.cond (.tmp 18) .skip (.seq (.region 20 r26_20 false) (.cond (.tmp 18) .skip (.seq (.region 21 r26_21 false) (.cond (.tmp 18) .skip (.seq (.region 22 r26_22 false) (.cond (.tmp 18) .skip (.seq (.region 23 r26_23 false) (.cond (.tmp 18) .skip (.region 24 r26_24 false))))))))))))))))))))))))) (.cond (.tmp 18) (.seq (.region 25 r26_25 false) .ret) (.seq (.region 26 r26_26 false) (.cond (.tmp 37) (.seq (.region 27 r26_27 false) .ret) (.seq (.region 28 r26_28 false) (.cond (.tmp 43) (.seq (.region 29 r26_29 false) .ret) .skip)))))))))) (.seq (.region 30 r26_30 false) .ret))):=by kernel_rfl
noncomputable def r27_0:Array Oper:=regOps (codeAt [0] body27)
noncomputable def r27_1:Array Oper:=regOps (codeAt [1,0,0] body27)
noncomputable def r27_2:Array Oper:=regOps (codeAt [1,0,1,0,0,0] body27)
noncomputable def r27_3:Array Oper:=regOps (codeAt [1,0,1,0,0,1,1,0] body27)
noncomputable def r27_4:Array Oper:=regOps (codeAt [1,0,1,0,0,1,1,1,1,0] body27)
noncomputable def r27_5:Array Oper:=regOps (codeAt [1,0,1,0,0,1,1,1,1,1,1,0] body27)
noncomputable def r27_6:Array Oper:=regOps (codeAt [1,0,1,0,0,1,1,1,1,1,1,1,1,0] body27)
noncomputable def r27_7:Array Oper:=regOps (codeAt [1,0,1,0,0,1,1,1,1,1,1,1,1,1,1,0] body27)
noncomputable def r27_8:Array Oper:=regOps (codeAt [1,0,1,0,0,1,1,1,1,1,1,1,1,1,1,1,1,0] body27)
noncomputable def r27_9:Array Oper:=regOps (codeAt [1,0,1,0,0,1,1,1,1,1,1,1,1,1,1,1,1,1,1,0] body27)
noncomputable def r27_10:Array Oper:=regOps (codeAt [1,0,1,0,0,1,1,1,1,1,1,1,1,1,1,1,1,1,1,1,1,0] body27)
noncomputable def r27_11:Array Oper:=regOps (codeAt [1,0,1,0,0,1,1,1,1,1,1,1,1,1,1,1,1,1,1,1,1,1,1,0] body27)
noncomputable def r27_12:Array Oper:=regOps (codeAt [1,0,1,0,0,1,1,1,1,1,1,1,1,1,1,1,1,1,1,1,1,1,1,1,1,0] body27)
noncomputable def r27_13:Array Oper:=regOps (codeAt [1,0,1,0,0,1,1,1,1,1,1,1,1,1,1,1,1,1,1,1,1,1,1,1,1,1,1,0] body27)
noncomputable def r27_14:Array Oper:=regOps (codeAt [1,0,1,0,0,1,1,1,1,1,1,1,1,1,1,1,1,1,1,1,1,1,1,1,1,1,1,1,1,0] body27)
noncomputable def r27_15:Array Oper:=regOps (codeAt [1,0,1,0,0,1,1,1,1,1,1,1,1,1,1,1,1,1,1,1,1,1,1,1,1,1,1,1,1,1,1,0] body27)
noncomputable def r27_16:Array Oper:=regOps (codeAt [1,0,1,0,0,1,1,1,1,1,1,1,1,1,1,1,1,1,1,1,1,1,1,1,1,1,1,1,1,1,1,1,1] body27)
noncomputable def r27_17:Array Oper:=regOps (codeAt [1,0,1,0,1,0,0] body27)
noncomputable def r27_18:Array Oper:=regOps (codeAt [1,0,1,0,1,1,0,0] body27)
noncomputable def r27_19:Array Oper:=regOps (codeAt [1,0,1,0,1,1,0,1,1,0] body27)
noncomputable def r27_20:Array Oper:=regOps (codeAt [1,0,1,0,1,1,0,1,1,1,1,0] body27)
noncomputable def r27_21:Array Oper:=regOps (codeAt [1,0,1,0,1,1,0,1,1,1,1,1,1,0] body27)
noncomputable def r27_22:Array Oper:=regOps (codeAt [1,0,1,0,1,1,0,1,1,1,1,1,1,1,1,0] body27)
noncomputable def r27_23:Array Oper:=regOps (codeAt [1,0,1,0,1,1,0,1,1,1,1,1,1,1,1,1,1,0] body27)
noncomputable def r27_24:Array Oper:=regOps (codeAt [1,0,1,0,1,1,0,1,1,1,1,1,1,1,1,1,1,1,1] body27)
noncomputable def r27_25:Array Oper:=regOps (codeAt [1,0,1,0,1,1,1,0,0] body27)
noncomputable def r27_26:Array Oper:=regOps (codeAt [1,1,0] body27)
theorem sk27:body27=(.seq (.region 0 r27_0 false) (.seq (.seq (.region 1 r27_1 false) (.block 0 (.seq (.seq (.region 2 r27_2 false) (.cond (.tmp 5) .skip (.seq (.region 3 r27_3 false) (.cond (.tmp 5) .skip (.seq (.region 4 r27_4 false) (.cond (.tmp 5) .skip (.seq (.region 5 r27_5 false) (.cond (.tmp 5) .skip (.seq (.region 6 r27_6 false) (.cond (.tmp 5) .skip (.seq (.region 7 r27_7 false) (.cond (.tmp 5) .skip (.seq (.region 8 r27_8 false) (.cond (.tmp 5) .skip (.seq (.region 9 r27_9 false) (.cond (.tmp 5) .skip (.seq (.region 10 r27_10 false) (.cond (.tmp 5) .skip (.seq (.region 11 r27_11 false) (.cond (.tmp 5) .skip (.seq (.region 12 r27_12 false) (.cond (.tmp 5) .skip (.seq (.region 13 r27_13 false) (.cond (.tmp 5) .skip (.seq (.region 14 r27_14 false) (.cond (.tmp 5) .skip (.seq (.region 15 r27_15 false) (.cond (.tmp 5) .skip (.region 16 r27_16 false))))))))))))))))))))))))))))) (.cond (.tmp 5) (.seq (.region 17 r27_17 false) .ret) (.seq (.seq (.region 18 r27_18 false) (.cond (.tmp 23) .skip (.seq (.region 19 r27_19 false) (.cond (.tmp 23) .skip (.seq (.region 20 r27_20 false) (.cond (.tmp 23) .skip (.seq (.region 21 r27_21 false) (.cond (.tmp 23) .skip (.seq (.region 22 r27_22 false) (.cond (.tmp 23) .skip (.seq (.region 23 r27_23 false) (.cond (.tmp 23) .skip (.region 24 r27_24 false))))))))))))) (.cond (.tmp 23) (.seq (.region 25 r27_25 false) .ret) .skip)))))) (.seq (.region 26 r27_26 false) .ret))):=by kernel_rfl
noncomputable def r28_0:Array Oper:=regOps (codeAt [0] body28)
noncomputable def r28_1:Array Oper:=regOps (codeAt [1,0,0] body28)
noncomputable def r28_2:Array Oper:=regOps (codeAt [1,0,1,0,0,0] body28)
noncomputable def r28_3:Array Oper:=regOps (codeAt [1,0,1,0,0,1,1,0] body28)
noncomputable def r28_4:Array Oper:=regOps (codeAt [1,0,1,0,0,1,1,1,1,0] body28)
noncomputable def r28_5:Array Oper:=regOps (codeAt [1,0,1,0,0,1,1,1,1,1,1,0] body28)
noncomputable def r28_6:Array Oper:=regOps (codeAt [1,0,1,0,0,1,1,1,1,1,1,1,1,0] body28)
noncomputable def r28_7:Array Oper:=regOps (codeAt [1,0,1,0,0,1,1,1,1,1,1,1,1,1,1,0] body28)
noncomputable def r28_8:Array Oper:=regOps (codeAt [1,0,1,0,0,1,1,1,1,1,1,1,1,1,1,1,1,0] body28)
noncomputable def r28_9:Array Oper:=regOps (codeAt [1,0,1,0,0,1,1,1,1,1,1,1,1,1,1,1,1,1,1,0] body28)
noncomputable def r28_10:Array Oper:=regOps (codeAt [1,0,1,0,0,1,1,1,1,1,1,1,1,1,1,1,1,1,1,1,1,0] body28)
noncomputable def r28_11:Array Oper:=regOps (codeAt [1,0,1,0,0,1,1,1,1,1,1,1,1,1,1,1,1,1,1,1,1,1,1,0] body28)
noncomputable def r28_12:Array Oper:=regOps (codeAt [1,0,1,0,0,1,1,1,1,1,1,1,1,1,1,1,1,1,1,1,1,1,1,1,1,0] body28)
noncomputable def r28_13:Array Oper:=regOps (codeAt [1,0,1,0,0,1,1,1,1,1,1,1,1,1,1,1,1,1,1,1,1,1,1,1,1,1,1,0] body28)
noncomputable def r28_14:Array Oper:=regOps (codeAt [1,0,1,0,0,1,1,1,1,1,1,1,1,1,1,1,1,1,1,1,1,1,1,1,1,1,1,1,1,0] body28)
noncomputable def r28_15:Array Oper:=regOps (codeAt [1,0,1,0,0,1,1,1,1,1,1,1,1,1,1,1,1,1,1,1,1,1,1,1,1,1,1,1,1,1,1,0] body28)
noncomputable def r28_16:Array Oper:=regOps (codeAt [1,0,1,0,0,1,1,1,1,1,1,1,1,1,1,1,1,1,1,1,1,1,1,1,1,1,1,1,1,1,1,1,1,0] body28)
noncomputable def r28_17:Array Oper:=regOps (codeAt [1,0,1,0,0,1,1,1,1,1,1,1,1,1,1,1,1,1,1,1,1,1,1,1,1,1,1,1,1,1,1,1,1,1,1,0] body28)
noncomputable def r28_18:Array Oper:=regOps (codeAt [1,0,1,0,0,1,1,1,1,1,1,1,1,1,1,1,1,1,1,1,1,1,1,1,1,1,1,1,1,1,1,1,1,1,1,1,1,0] body28)
noncomputable def r28_19:Array Oper:=regOps (codeAt [1,0,1,0,0,1,1,1,1,1,1,1,1,1,1,1,1,1,1,1,1,1,1,1,1,1,1,1,1,1,1,1,1,1,1,1,1,1,1,0] body28)
noncomputable def r28_20:Array Oper:=regOps (codeAt [1,0,1,0,0,1,1,1,1,1,1,1,1,1,1,1,1,1,1,1,1,1,1,1,1,1,1,1,1,1,1,1,1,1,1,1,1,1,1,1,1,0] body28)
noncomputable def r28_21:Array Oper:=regOps (codeAt [1,0,1,0,0,1,1,1,1,1,1,1,1,1,1,1,1,1,1,1,1,1,1,1,1,1,1,1,1,1,1,1,1,1,1,1,1,1,1,1,1,1,1,0] body28)
noncomputable def r28_22:Array Oper:=regOps (codeAt [1,0,1,0,0,1,1,1,1,1,1,1,1,1,1,1,1,1,1,1,1,1,1,1,1,1,1,1,1,1,1,1,1,1,1,1,1,1,1,1,1,1,1,1,1,0] body28)
noncomputable def r28_23:Array Oper:=regOps (codeAt [1,0,1,0,0,1,1,1,1,1,1,1,1,1,1,1,1,1,1,1,1,1,1,1,1,1,1,1,1,1,1,1,1,1,1,1,1,1,1,1,1,1,1,1,1,1,1] body28)
noncomputable def r28_24:Array Oper:=regOps (codeAt [1,0,1,0,1,0,0] body28)
noncomputable def r28_25:Array Oper:=regOps (codeAt [1,1,0] body28)
theorem sk28:body28=(.seq (.region 0 r28_0 false) (.seq (.seq (.region 1 r28_1 false) (.block 0 (.seq (.seq (.region 2 r28_2 false) (.cond (.tmp 5) .skip (.seq (.region 3 r28_3 false) (.cond (.tmp 5) .skip (.seq (.region 4 r28_4 false) (.cond (.tmp 5) .skip (.seq (.region 5 r28_5 false) (.cond (.tmp 5) .skip (.seq (.region 6 r28_6 false) (.cond (.tmp 5) .skip (.seq (.region 7 r28_7 false) (.cond (.tmp 5) .skip (.seq (.region 8 r28_8 false) (.cond (.tmp 5) .skip (.seq (.region 9 r28_9 false) (.cond (.tmp 5) .skip (.seq (.region 10 r28_10 false) (.cond (.tmp 5) .skip (.seq (.region 11 r28_11 false) (.cond (.tmp 5) .skip (.seq (.region 12 r28_12 false) (.cond (.tmp 5) .skip (.seq (.region 13 r28_13 false) (.cond (.tmp 5) .skip (.seq (.region 14 r28_14 false) (.cond (.tmp 5) .skip (.seq (.region 15 r28_15 false) (.cond (.tmp 5) .skip (.seq (.region 16 r28_16 false) (.cond (.tmp 5) .skip (.seq (.region 17 r28_17 false) (.cond (.tmp 5) .skip (.seq (.region 18 r28_18 false) (.cond (.tmp 5) .skip (.seq (.region 19 r28_19 false) (.cond (.tmp 5) .skip (.seq (.region 20 r28_20 false) (.cond (.tmp 5) .skip (.seq (.region 21 r28_21 false) (.cond (.tmp 5) .skip (.seq (.region 22 r28_22 false) (.cond (.tmp 5) .skip (.region 23 r28_23 false))))))))))))))))))))))))))))))))))))))))))) (.cond (.tmp 5) (.seq (.region 24 r28_24 false) .ret) .skip)))) (.seq (.region 25 r28_25 false) .ret))):=by kernel_rfl
noncomputable def r29_0:Array Oper:=regOps (codeAt [0] body29)
noncomputable def r29_1:Array Oper:=regOps (codeAt [1,0,0] body29)
noncomputable def r29_2:Array Oper:=regOps (codeAt [1,0,1,0,0,0] body29)
noncomputable def r29_3:Array Oper:=regOps (codeAt [1,0,1,0,0,1,1,0] body29)
noncomputable def r29_4:Array Oper:=regOps (codeAt [1,0,1,0,0,1,1,1,1] body29)
noncomputable def r29_5:Array Oper:=regOps (codeAt [1,0,1,0,1,0,0] body29)
noncomputable def r29_6:Array Oper:=regOps (codeAt [1,0,1,0,1,1,0] body29)
noncomputable def r29_7:Array Oper:=regOps (codeAt [1,0,1,0,1,1,1,0,0] body29)
noncomputable def r29_8:Array Oper:=regOps (codeAt [1,0,1,0,1,1,1,0,1,0,0] body29)
noncomputable def r29_9:Array Oper:=regOps (codeAt [1,0,1,0,1,1,1,1,0] body29)
noncomputable def r29_10:Array Oper:=regOps (codeAt [1,0,1,0,1,1,1,1,1,0,0] body29)
noncomputable def r29_11:Array Oper:=regOps (codeAt [1,0,1,0,1,1,1,1,1,1,0,0] body29)
noncomputable def r29_12:Array Oper:=regOps (codeAt [1,0,1,0,1,1,1,1,1,1,0,1,1] body29)
noncomputable def r29_13:Array Oper:=regOps (codeAt [1,0,1,0,1,1,1,1,1,1,1,0,0] body29)
noncomputable def r29_14:Array Oper:=regOps (codeAt [1,1,0] body29)
theorem sk29:body29=(.seq (.region 0 r29_0 false) (.seq (.seq (.region 1 r29_1 false) (.block 0 (.seq (.seq (.region 2 r29_2 false) (.cond (.tmp 5) .skip (.seq (.region 3 r29_3 false) (.cond (.tmp 5) .skip (.region 4 r29_4 false))))) (.cond (.tmp 5) (.seq (.region 5 r29_5 false) .ret) (.seq (.region 6 r29_6 false) (.cond (.tmp 12) (.seq (.region 7 r29_7 false) (.cond (.tmp 16) (.seq (.region 8 r29_8 false) .ret) .skip)) (.seq (.region 9 r29_9 false) (.cond (.tmp 20) (.seq (.region 10 r29_10 false) .ret) (.seq (.seq (.region 11 r29_11 false) (.cond (.tmp 25) .skip (.region 12 r29_12 false))) (.cond (.tmp 25) (.seq (.region 13 r29_13 false) .ret) .skip)))))))))) (.seq (.region 14 r29_14 false) .ret))):=by kernel_rfl
noncomputable def r30_0:Array Oper:=regOps (codeAt [0] body30)
noncomputable def r30_1:Array Oper:=regOps (codeAt [1,0,0] body30)
noncomputable def r30_2:Array Oper:=regOps (codeAt [1,0,1,0,0,0] body30)
noncomputable def r30_3:Array Oper:=regOps (codeAt [1,0,1,0,0,1,1,0] body30)
noncomputable def r30_4:Array Oper:=regOps (codeAt [1,0,1,0,0,1,1,1,1] body30)
noncomputable def r30_5:Array Oper:=regOps (codeAt [1,0,1,0,1,0,0] body30)
noncomputable def r30_6:Array Oper:=regOps (codeAt [1,0,1,0,1,1,0] body30)
noncomputable def r30_7:Array Oper:=regOps (codeAt [1,0,1,0,1,1,1,0,0,0] body30)
noncomputable def r30_8:Array Oper:=regOps (codeAt [1,0,1,0,1,1,1,0,0,1,0,0] body30)
noncomputable def r30_9:Array Oper:=regOps (codeAt [1,0,1,0,1,1,1,0,1,0] body30)
noncomputable def r30_10:Array Oper:=regOps (codeAt [1,0,1,0,1,1,1,1,0] body30)
noncomputable def r30_11:Array Oper:=regOps (codeAt [1,0,1,0,1,1,1,1,1,0,0] body30)
noncomputable def r30_12:Array Oper:=regOps (codeAt [1,0,1,0,1,1,1,1,1,1,0,0] body30)
noncomputable def r30_13:Array Oper:=regOps (codeAt [1,0,1,0,1,1,1,1,1,1,0,1,1] body30)
noncomputable def r30_14:Array Oper:=regOps (codeAt [1,0,1,0,1,1,1,1,1,1,1,0,0] body30)
noncomputable def r30_15:Array Oper:=regOps (codeAt [1,1,0] body30)
theorem sk30:body30=(.seq (.region 0 r30_0 false) (.seq (.seq (.region 1 r30_1 false) (.block 0 (.seq (.seq (.region 2 r30_2 false) (.cond (.tmp 5) .skip (.seq (.region 3 r30_3 false) (.cond (.tmp 5) .skip (.region 4 r30_4 false))))) (.cond (.tmp 5) (.seq (.region 5 r30_5 false) .ret) (.seq (.region 6 r30_6 false) (.cond (.tmp 12) (.seq (.seq (.region 7 r30_7 false) (.cond (.tmp 16) (.seq (.region 8 r30_8 false) .ret) .skip)) (.seq (.region 9 r30_9 false) .ret)) (.seq (.region 10 r30_10 false) (.cond (.tmp 20) (.seq (.region 11 r30_11 false) .ret) (.seq (.seq (.region 12 r30_12 false) (.cond (.tmp 25) .skip (.region 13 r30_13 false))) (.cond (.tmp 25) (.seq (.region 14 r30_14 false) .ret) .skip)))))))))) (.seq (.region 15 r30_15 false) .ret))):=by kernel_rfl
noncomputable def r31_0:Array Oper:=regOps (codeAt [0] body31)
noncomputable def r31_1:Array Oper:=regOps (codeAt [1,0,0] body31)
noncomputable def r31_2:Array Oper:=regOps (codeAt [1,0,1,0,0] body31)
noncomputable def r31_3:Array Oper:=regOps (codeAt [1,0,1,0,1,0,0] body31)
noncomputable def r31_4:Array Oper:=regOps (codeAt [1,0,1,0,1,1,0,0] body31)
noncomputable def r31_5:Array Oper:=regOps (codeAt [1,0,1,0,1,1,0,1,1] body31)
noncomputable def r31_6:Array Oper:=regOps (codeAt [1,0,1,0,1,1,1,0,0] body31)
noncomputable def r31_7:Array Oper:=regOps (codeAt [1,0,1,0,1,1,1,1,0] body31)
noncomputable def r31_8:Array Oper:=regOps (codeAt [1,0,1,0,1,1,1,1,1,0,0] body31)
noncomputable def r31_9:Array Oper:=regOps (codeAt [1,1,0] body31)
theorem sk31:body31=(.seq (.region 0 r31_0 false) (.seq (.seq (.region 1 r31_1 false) (.block 0 (.seq (.region 2 r31_2 false) (.cond (.tmp 5) (.seq (.region 3 r31_3 false) .ret) (.seq (.seq (.region 4 r31_4 false) (.cond (.tmp 10) .skip (.region 5 r31_5 false))) (.cond (.tmp 10) (.seq (.region 6 r31_6 false) .ret) (.seq (.region 7 r31_7 false) (.cond (.tmp 15) (.seq (.region 8 r31_8 false) .ret) .skip)))))))) (.seq (.region 9 r31_9 false) .ret))):=by kernel_rfl
noncomputable def r32_0:Array Oper:=regOps (codeAt [0] body32)
noncomputable def r32_1:Array Oper:=regOps (codeAt [1,0,0] body32)
noncomputable def r32_2:Array Oper:=regOps (codeAt [1,0,1,0,0] body32)
noncomputable def r32_3:Array Oper:=regOps (codeAt [1,0,1,0,1,0,0] body32)
noncomputable def r32_4:Array Oper:=regOps (codeAt [1,0,1,0,1,1,0,0] body32)
noncomputable def r32_5:Array Oper:=regOps (codeAt [1,0,1,0,1,1,0,1,1] body32)
noncomputable def r32_6:Array Oper:=regOps (codeAt [1,0,1,0,1,1,1,0,0] body32)
noncomputable def r32_7:Array Oper:=regOps (codeAt [1,0,1,0,1,1,1,1,0] body32)
noncomputable def r32_8:Array Oper:=regOps (codeAt [1,0,1,0,1,1,1,1,1,0,0] body32)
noncomputable def r32_9:Array Oper:=regOps (codeAt [1,1,0] body32)
theorem sk32:body32=(.seq (.region 0 r32_0 false) (.seq (.seq (.region 1 r32_1 false) (.block 0 (.seq (.region 2 r32_2 false) (.cond (.tmp 5) (.seq (.region 3 r32_3 false) .ret) (.seq (.seq (.region 4 r32_4 false) (.cond (.tmp 10) .skip (.region 5 r32_5 false))) (.cond (.tmp 10) (.seq (.region 6 r32_6 false) .ret) (.seq (.region 7 r32_7 false) (.cond (.tmp 15) (.seq (.region 8 r32_8 false) .ret) .skip)))))))) (.seq (.region 9 r32_9 false) .ret))):=by kernel_rfl
noncomputable def r88_0:Array Oper:=regOps (codeAt [0] body88)
noncomputable def r88_1:Array Oper:=regOps (codeAt [1,0,0] body88)
noncomputable def r88_2:Array Oper:=regOps (codeAt [1,0,1,0,0] body88)
noncomputable def r88_3:Array Oper:=regOps (codeAt [1,1,0] body88)
theorem sk88:body88=(.seq (.region 0 r88_0 false) (.seq (.seq (.region 1 r88_1 false) (.cond (.tmp 4) (.seq (.region 2 r88_2 false) .ret) .skip)) (.seq (.region 3 r88_3 false) .ret))):=by kernel_rfl
end Go.Proofs.Tryz.K
